import Derived.Test.YtaplfdajjdbomaaGreatDoorDf
import Derived.Test.YtaplfdajjdbomaaGreatDoorDo
import Derived.Test.YtaplfdajjdbomaaGreatDoorDd
import Derived.WideShapes
import Derived.WideKeyArgs
open Int renaming ofNat→qaa,negSucc→qaj,ofNat_eq_natCast→qam
open Nat renaming eq_of_beq_eq_true→qab,succ→qac,le_of_ble_eq_true→qae,beq→qaf,add→qag,zero_le→qah,mul→qas,add_sub_cancel→qat,ble→qau,mul_one→qax,le_refl→qay,zero_add→qaz,pos_of_ne_zero→qaA,le_trans→qaB,mod_eq_of_lt→qaC
open Bool renaming and_eq_true→qad
open List renaming mem_cons_self→qai,getElem?_eq_getElem→qak,length_append→qal,getD_eq_getElem?_getD→qan,mem_cons_of_mem→qao,length_cons→qap,append_nil→qaq,take_of_length_le→qar,append_assoc→qav,take_add_one→qaw,length_take→qaD
set_option maxRecDepth 1000000
set_option maxHeartbeats 0
set_option linter.unusedSectionVars false
set_option linter.unusedSimpArgs false
set_option linter.unusedVariables false
namespace Go.Ax
open Go Go.Proofs
noncomputable section
namespace Fn
def jV (X:List Value):cO:=⟨[.agg [.flat (iN (qQ X).1),.flat (iN (qQ X).2.1),.flat (iN (qQ X).2.2.1),.flat (iN (qQ X).2.2.2.1),.flat (iN (qQ X).2.2.2.2)],.agg [.flat (iN (qT X).1),.flat (iN (qT X).2)]],[]⟩
end Fn
theorem dX (n:Nat):eqI (qaa n) (qaa n)=true:=by show qaf n n=true;simp
theorem iY {X:List Value}{to:Nat}(hX:allB X=true)(hb:X.length≤4096)(h:to≤X.length):Fn.okR X X.length to=true:=by
 unfold Fn.okR
 rw [hX,kC (aW X).symm,gQ (show X.length≤4611686018427387904 by omega),gQ h]
 rfl
theorem Dc {X:List Value}{lo hi p:Nat}(h:Fn.rF X lo hi p=0):rdN X lo hi (p,0)=(Fn.rN X lo hi p,(Fn.rP X lo hi p,0)):=by
 have:rdN X lo hi (p,0)=(Fn.rN X lo hi p,(Fn.rP X lo hi p,Fn.rF X lo hi p)):=rfl
 rw [this,h]
theorem xE {X:List Value}{lo hi p:Nat}(h:Fn.rF X lo hi p≠0):rdN X lo hi (p,0)=(0,(p,Fn.rF X lo hi p)):=by
 have e1:rdN X lo hi (p,0)=if Fn.nE X p≠0 then (0,(p,Fn.nE X p)) else if Fn.nV X p<lo∨hi<Fn.nV X p then (0,(p,3)) else (Fn.nV X p,(p+Fn.nK X p,0)):=by
  unfold rdN
  rw [if_neg (show ¬(p,0).2≠0 from fun h=>h rfl)]
  rfl
 have e2:(rdN X lo hi (p,0)).2.2=Fn.rF X lo hi p:=rfl
 rw [e1] at e2 ⊢
 by_cases h1:Fn.nE X p≠0
 ·rw [if_pos h1] at e2 ⊢;rw [←e2]
 ·rw [if_neg h1] at e2 ⊢
  by_cases h2:Fn.nV X p<lo∨hi<Fn.nV X p
  ·rw [if_pos h2] at e2 ⊢;rw [←e2]
  ·rw [if_neg h2] at e2;exact absurd e2.symm h
theorem mP {X:List Value}{lo hi p:Nat}(hX:allB X=true)(h:Fn.rF X lo hi p=0):Fn.rP X lo hi p≤X.length:=(CQ hX (Dc h)).2.2.2.2.1
theorem je {X:List Value}{lo hi p:Nat}(h:Fn.rF X lo hi p≠0):(Fn.rG X lo hi p).succ=Fn.rF X lo hi p:=by unfold Fn.rG;omega
theorem uT {X:List Value}{lo hi p:Nat}{l:List (Nat × Nat)}(h:Fn.rF X lo hi p=0):vT X ((lo,hi)::l) (p,0)=(Fn.rN X lo hi p::(vT X l (Fn.rP X lo hi p,0)).1,(vT X l (Fn.rP X lo hi p,0)).2):=by
 show ((rdN X lo hi (p,0)).1::(vT X l (rdN X lo hi (p,0)).2).1,(vT X l (rdN X lo hi (p,0)).2).2)=_
 rw [Dc h]
theorem uZ {X:List Value}{lo hi p:Nat}{l:List (Nat × Nat)}(h:Fn.rF X lo hi p≠0):(vT X ((lo,hi)::l) (p,0)).2=(p,Fn.rF X lo hi p):=by
 show (vT X l (rdN X lo hi (p,0)).2).2=_
 rw [xE h]
 exact LD (show (p,Fn.rF X lo hi p).2≠0 from h)
theorem ou {X:List Value}{p e:Nat}(h:(Fn.qF X).2=(p,e)):Fn.qT X=if e≠0 then (e,p) else if p<X.length then (4,p) else (0,0):=by
 unfold Fn.qT Ws
 rw [h]
theorem apJ {X:List Value}(h:(Fn.qT X).1≠0):Fn.qQ X=(0,0,0,0,0):=by
 unfold Fn.qQ
 rw [if_neg h]
theorem Qe {X:List Value}(h:(Fn.qT X).1=0):Fn.qQ X=((Fn.qK X).1,qOf (Fn.qK X).1 (Fn.qF X).1):=by
 unfold Fn.qQ
 rw [if_pos h]
theorem cu {X:List Value}{e p:Nat}(h:Fn.qT X=(e,p))(he:e≠0):Fn.jV X=⟨[.agg [.flat (iN 0),.flat (iN 0),.flat (iN 0),.flat (iN 0),.flat (iN 0)],.agg [.flat (iN e),.flat (iN p)]],[]⟩:=by
 unfold Fn.jV
 rw [apJ (by rw [h];exact he),h]
theorem mG {X:List Value}{k a v c g:Nat}(h:Fn.qT X=(0,0))(hq:Fn.qQ X=(k,a,v,c,g)):Fn.jV X=⟨[.agg [.flat (iN k),.flat (iN a),.flat (iN v),.flat (iN c),.flat (iN g)],.agg [.flat (iN 0),.flat (iN 0)]],[]⟩:=by
 unfold Fn.jV
 rw [hq,h]
theorem Ou {X:List Value}{m:Nat}(hn:m+1=X.length):aK [] (aA (m.succ.mul 1) X)=X:=by
 show aA (m.succ.mul 1) X=X
 rw [show m.succ.mul 1=aQ X by rw [aW];show (m+1)*1=_;omega]
 exact P7 X
theorem DU {X:List Value}{m:Nat}(hX:allB X=true)(hn:m+1=X.length)(hb:X.length≤4096):qag 0 m.succ=X.length∧(m.succ.mul 1).ble (aQ X)=true∧X.length.ble 281474976710656=true∧(((qas 2 X.length).add 768).mul 1).ble 281474976710656=true∧Fn.okX X=true∧Fn.qK X=rdN X 1 10 (0,0):=
 ⟨by show 0+(m+1)=_;omega,gQ (by rw [aW];show (m+1)*1≤_;omega),gQ (by omega),gQ (by show (2*X.length+768)*1≤_;omega),hX,rfl⟩
theorem ajh {X:List Value}{m:Nat}(hX:allB X=true)(hn:m+1=X.length)(hb:X.length≤4096)(hk:Fn.rF X 1 10 0=0→Fn.rN X 1 10 0=1) :
  (runK (KPk 1) C7 40).1 14 [.slice (some ⟨32,0,none⟩) (qac m) aC] (aH [.one (.sl X 5 (qac m))]) (bP Tryz.prog)=some (Fn.jV X):=by
 obtain ⟨e1,e2,e3,e4,ex,hK0⟩:=DU hX hn hb
 rw [aqG];unfold Nj Uu gW gV iV zB iW dD zA zC iP gU;rw [Ou hn,e1,e2,e3,e4,iY hX hb (qah _),ex]
 by_cases h0:Fn.rF X 1 10 0=0
 ·have hp0:=mP hX h0
  have hK:Fn.qK X=(1,(Fn.rP X 1 10 0,0)):=by rw [hK0,Dc h0,hk h0]
  have hF:Fn.qF X=vT X (qBs 1) (Fn.rP X 1 10 0,0):=by unfold Fn.qF;rw [hK]
  have hF:Fn.qF X=vT X [(0,63)] (Fn.rP X 1 10 0,0):=hF
  rw [kC h0,hk h0,iY hX hb hp0]
  by_cases h1:Fn.rF X 0 63 (Fn.rP X 1 10 0)=0
  ·have hp1:=mP hX h1
   rw [uT h1] at hF
   rw [kC h1]
   have hF2:(Fn.qF X).2=(Fn.rP X 0 63 (Fn.rP X 1 10 0),0):=by rw [hF];rfl
   have hT:=ou hF2
   rw [if_neg (by omega)] at hT
   by_cases ht:Fn.rP X 0 63 (Fn.rP X 1 10 0)<X.length
   ·rw [if_pos ht] at hT
    rw [show ltN (Fn.rP X 0 63 (Fn.rP X 1 10 0)) X.length=true from gQ ht,dX (Fn.rP X 0 63 (Fn.rP X 1 10 0)),cu hT (by omega)];rfl
   ·rw [if_neg ht] at hT
    have hQ:Fn.qQ X=(1,Fn.rN X 0 63 (Fn.rP X 1 10 0),0,0,0):=by rw [Qe (by rw [hT]),hF,hK];rfl
    rw [show ltN (Fn.rP X 0 63 (Fn.rP X 1 10 0)) X.length=false from Fh (by omega),mG hT hQ];rfl
  ·have hF2:(Fn.qF X).2=(Fn.rP X 1 10 0,Fn.rF X 0 63 (Fn.rP X 1 10 0)):=by rw [hF];exact uZ h1
   have hT:=ou hF2
   rw [if_pos h1] at hT
   rw [uq h1,je h1,dX (Fn.rF X 0 63 (Fn.rP X 1 10 0)),dX (Fn.rP X 1 10 0),cu hT h1];rfl
 ·have hK:Fn.qK X=(0,(0,Fn.rF X 1 10 0)):=by rw [hK0,xE h0]
  have hF2:(Fn.qF X).2=(0,Fn.rF X 1 10 0):=by unfold Fn.qF;rw [hK];rfl
  have hT:=ou hF2
  rw [if_pos h0] at hT
  rw [uq h0,je h0,dX (Fn.rF X 1 10 0),cu hT h0];rfl
theorem asZ {X:List Value}{m:Nat}(hX:allB X=true)(hn:m+1=X.length)(hb:X.length≤4096)(hk:Fn.rF X 1 10 0=0→Fn.rN X 1 10 0=1) :
  (runK (KPk 1) C7 40).1 15 [.slice (some ⟨32,0,none⟩) (qac m) aC] (aH [.one (.sl X 5 (qac m))]) (bP Tryz.prog)=some (Fn.jV X):=(amC X m).trans ((anJ X m).symm.trans (ajh hX hn hb hk))
theorem ahk {X:List Value}{m:Nat}(hX:allB X=true)(hn:m+1=X.length)(hb:X.length≤4096)(hk:Fn.rF X 1 10 0=0→Fn.rN X 1 10 0=2) :
  (runK (KPk 2) C7 40).1 14 [.slice (some ⟨32,0,none⟩) (qac m) aC] (aH [.one (.sl X 5 (qac m))]) (bP Tryz.prog)=some (Fn.jV X):=by
 obtain ⟨e1,e2,e3,e4,ex,hK0⟩:=DU hX hn hb
 rw [ar7];unfold LP TV gW gV iV zB iW dD zA zC iP gU;rw [Ou hn,e1,e2,e3,e4,iY hX hb (qah _),ex]
 by_cases h0:Fn.rF X 1 10 0=0
 ·have hp0:=mP hX h0
  have hK:Fn.qK X=(2,(Fn.rP X 1 10 0,0)):=by rw [hK0,Dc h0,hk h0]
  have hF:Fn.qF X=vT X (qBs 2) (Fn.rP X 1 10 0,0):=by unfold Fn.qF;rw [hK]
  have hF:Fn.qF X=vT X [(0,63)] (Fn.rP X 1 10 0,0):=hF
  rw [kC h0,hk h0,iY hX hb hp0]
  by_cases h1:Fn.rF X 0 63 (Fn.rP X 1 10 0)=0
  ·have hp1:=mP hX h1
   rw [uT h1] at hF
   rw [kC h1]
   have hF2:(Fn.qF X).2=(Fn.rP X 0 63 (Fn.rP X 1 10 0),0):=by rw [hF];rfl
   have hT:=ou hF2
   rw [if_neg (by omega)] at hT
   by_cases ht:Fn.rP X 0 63 (Fn.rP X 1 10 0)<X.length
   ·rw [if_pos ht] at hT
    rw [show ltN (Fn.rP X 0 63 (Fn.rP X 1 10 0)) X.length=true from gQ ht,dX (Fn.rP X 0 63 (Fn.rP X 1 10 0)),cu hT (by omega)];rfl
   ·rw [if_neg ht] at hT
    have hQ:Fn.qQ X=(2,Fn.rN X 0 63 (Fn.rP X 1 10 0),0,0,0):=by rw [Qe (by rw [hT]),hF,hK];rfl
    rw [show ltN (Fn.rP X 0 63 (Fn.rP X 1 10 0)) X.length=false from Fh (by omega),mG hT hQ];rfl
  ·have hF2:(Fn.qF X).2=(Fn.rP X 1 10 0,Fn.rF X 0 63 (Fn.rP X 1 10 0)):=by rw [hF];exact uZ h1
   have hT:=ou hF2
   rw [if_pos h1] at hT
   rw [uq h1,je h1,dX (Fn.rF X 0 63 (Fn.rP X 1 10 0)),dX (Fn.rP X 1 10 0),cu hT h1];rfl
 ·have hK:Fn.qK X=(0,(0,Fn.rF X 1 10 0)):=by rw [hK0,xE h0]
  have hF2:(Fn.qF X).2=(0,Fn.rF X 1 10 0):=by unfold Fn.qF;rw [hK];rfl
  have hT:=ou hF2
  rw [if_pos h0] at hT
  rw [uq h0,je h0,dX (Fn.rF X 1 10 0),cu hT h0];rfl
theorem aqt {X:List Value}{m:Nat}(hX:allB X=true)(hn:m+1=X.length)(hb:X.length≤4096)(hk:Fn.rF X 1 10 0=0→Fn.rN X 1 10 0=2) :
  (runK (KPk 2) C7 40).1 15 [.slice (some ⟨32,0,none⟩) (qac m) aC] (aH [.one (.sl X 5 (qac m))]) (bP Tryz.prog)=some (Fn.jV X):=(amd X m).trans ((ami X m).symm.trans (ahk hX hn hb hk))
theorem ajl {X:List Value}{m:Nat}(hX:allB X=true)(hn:m+1=X.length)(hb:X.length≤4096)(hk:Fn.rF X 1 10 0=0→Fn.rN X 1 10 0=3) :
  (runK (KPk 3) C7 40).1 14 [.slice (some ⟨32,0,none⟩) (qac m) aC] (aH [.one (.sl X 5 (qac m))]) (bP Tryz.prog)=some (Fn.jV X):=by
 obtain ⟨e1,e2,e3,e4,ex,hK0⟩:=DU hX hn hb
 rw [apZ];unfold Pv TB gW gV iV zB iW dD zA zC iP gU;rw [Ou hn,e1,e2,e3,e4,iY hX hb (qah _),ex]
 by_cases h0:Fn.rF X 1 10 0=0
 ·have hp0:=mP hX h0
  have hK:Fn.qK X=(3,(Fn.rP X 1 10 0,0)):=by rw [hK0,Dc h0,hk h0]
  have hF:Fn.qF X=vT X (qBs 3) (Fn.rP X 1 10 0,0):=by unfold Fn.qF;rw [hK]
  have hF:Fn.qF X=vT X [(0,63)] (Fn.rP X 1 10 0,0):=hF
  rw [kC h0,hk h0,iY hX hb hp0]
  by_cases h1:Fn.rF X 0 63 (Fn.rP X 1 10 0)=0
  ·have hp1:=mP hX h1
   rw [uT h1] at hF
   rw [kC h1]
   have hF2:(Fn.qF X).2=(Fn.rP X 0 63 (Fn.rP X 1 10 0),0):=by rw [hF];rfl
   have hT:=ou hF2
   rw [if_neg (by omega)] at hT
   by_cases ht:Fn.rP X 0 63 (Fn.rP X 1 10 0)<X.length
   ·rw [if_pos ht] at hT
    rw [show ltN (Fn.rP X 0 63 (Fn.rP X 1 10 0)) X.length=true from gQ ht,dX (Fn.rP X 0 63 (Fn.rP X 1 10 0)),cu hT (by omega)];rfl
   ·rw [if_neg ht] at hT
    have hQ:Fn.qQ X=(3,Fn.rN X 0 63 (Fn.rP X 1 10 0),0,0,0):=by rw [Qe (by rw [hT]),hF,hK];rfl
    rw [show ltN (Fn.rP X 0 63 (Fn.rP X 1 10 0)) X.length=false from Fh (by omega),mG hT hQ];rfl
  ·have hF2:(Fn.qF X).2=(Fn.rP X 1 10 0,Fn.rF X 0 63 (Fn.rP X 1 10 0)):=by rw [hF];exact uZ h1
   have hT:=ou hF2
   rw [if_pos h1] at hT
   rw [uq h1,je h1,dX (Fn.rF X 0 63 (Fn.rP X 1 10 0)),dX (Fn.rP X 1 10 0),cu hT h1];rfl
 ·have hK:Fn.qK X=(0,(0,Fn.rF X 1 10 0)):=by rw [hK0,xE h0]
  have hF2:(Fn.qF X).2=(0,Fn.rF X 1 10 0):=by unfold Fn.qF;rw [hK];rfl
  have hT:=ou hF2
  rw [if_pos h0] at hT
  rw [uq h0,je h0,dX (Fn.rF X 1 10 0),cu hT h0];rfl
theorem arZ {X:List Value}{m:Nat}(hX:allB X=true)(hn:m+1=X.length)(hb:X.length≤4096)(hk:Fn.rF X 1 10 0=0→Fn.rN X 1 10 0=3) :
  (runK (KPk 3) C7 40).1 15 [.slice (some ⟨32,0,none⟩) (qac m) aC] (aH [.one (.sl X 5 (qac m))]) (bP Tryz.prog)=some (Fn.jV X):=(anG X m).trans ((am3 X m).symm.trans (ajl hX hn hb hk))
theorem ak9 {X:List Value}{m:Nat}(hX:allB X=true)(hn:m+1=X.length)(hb:X.length≤4096)(hk:Fn.rF X 1 10 0=0→Fn.rN X 1 10 0=4) :
  (runK (KPk 4) C7 40).1 14 [.slice (some ⟨32,0,none⟩) (qac m) aC] (aH [.one (.sl X 5 (qac m))]) (bP Tryz.prog)=some (Fn.jV X):=by
 obtain ⟨e1,e2,e3,e4,ex,hK0⟩:=DU hX hn hb
 rw [asc];unfold Np Vx gW gV iV nI iW lU dD Bf nJ iP gU;rw [Ou hn,e1,e2,e3,e4,iY hX hb (qah _),ex]
 by_cases h0:Fn.rF X 1 10 0=0
 ·have hp0:=mP hX h0
  have hK:Fn.qK X=(4,(Fn.rP X 1 10 0,0)):=by rw [hK0,Dc h0,hk h0]
  have hF:Fn.qF X=vT X (qBs 4) (Fn.rP X 1 10 0,0):=by unfold Fn.qF;rw [hK]
  have hF:Fn.qF X=vT X [(0,31)] (Fn.rP X 1 10 0,0):=hF
  rw [kC h0,hk h0,iY hX hb hp0]
  by_cases h1:Fn.rF X 0 31 (Fn.rP X 1 10 0)=0
  ·have hp1:=mP hX h1
   rw [uT h1] at hF
   rw [kC h1]
   have hF2:(Fn.qF X).2=(Fn.rP X 0 31 (Fn.rP X 1 10 0),0):=by rw [hF];rfl
   have hT:=ou hF2
   rw [if_neg (by omega)] at hT
   by_cases ht:Fn.rP X 0 31 (Fn.rP X 1 10 0)<X.length
   ·rw [if_pos ht] at hT
    rw [show ltN (Fn.rP X 0 31 (Fn.rP X 1 10 0)) X.length=true from gQ ht,dX (Fn.rP X 0 31 (Fn.rP X 1 10 0)),cu hT (by omega)];rfl
   ·rw [if_neg ht] at hT
    have hQ:Fn.qQ X=(4,0,Fn.rN X 0 31 (Fn.rP X 1 10 0),0,0):=by rw [Qe (by rw [hT]),hF,hK];rfl
    rw [show ltN (Fn.rP X 0 31 (Fn.rP X 1 10 0)) X.length=false from Fh (by omega),mG hT hQ];rfl
  ·have hF2:(Fn.qF X).2=(Fn.rP X 1 10 0,Fn.rF X 0 31 (Fn.rP X 1 10 0)):=by rw [hF];exact uZ h1
   have hT:=ou hF2
   rw [if_pos h1] at hT
   rw [uq h1,je h1,dX (Fn.rF X 0 31 (Fn.rP X 1 10 0)),dX (Fn.rP X 1 10 0),cu hT h1];rfl
 ·have hK:Fn.qK X=(0,(0,Fn.rF X 1 10 0)):=by rw [hK0,xE h0]
  have hF2:(Fn.qF X).2=(0,Fn.rF X 1 10 0):=by unfold Fn.qF;rw [hK];rfl
  have hT:=ou hF2
  rw [if_pos h0] at hT
  rw [uq h0,je h0,dX (Fn.rF X 1 10 0),cu hT h0];rfl
theorem aqE {X:List Value}{m:Nat}(hX:allB X=true)(hn:m+1=X.length)(hb:X.length≤4096)(hk:Fn.rF X 1 10 0=0→Fn.rN X 1 10 0=4) :
  (runK (KPk 4) C7 40).1 15 [.slice (some ⟨32,0,none⟩) (qac m) aC] (aH [.one (.sl X 5 (qac m))]) (bP Tryz.prog)=some (Fn.jV X):=(amk X m).trans ((aml X m).symm.trans (ak9 hX hn hb hk))
theorem ajY {X:List Value}{m:Nat}(hX:allB X=true)(hn:m+1=X.length)(hb:X.length≤4096)(hk:Fn.rF X 1 10 0=0→Fn.rN X 1 10 0=5) :
  (runK (KPk 5) C7 40).1 14 [.slice (some ⟨32,0,none⟩) (qac m) aC] (aH [.one (.sl X 5 (qac m))]) (bP Tryz.prog)=some (Fn.jV X):=by
 obtain ⟨e1,e2,e3,e4,ex,hK0⟩:=DU hX hn hb
 rw [as5];unfold MJ Tz gW gV iV AP nI iW nJ lU dD iP gU;rw [Ou hn,e1,e2,e3,e4,iY hX hb (qah _),ex]
 by_cases h0:Fn.rF X 1 10 0=0
 ·have hp0:=mP hX h0
  have hK:Fn.qK X=(5,(Fn.rP X 1 10 0,0)):=by rw [hK0,Dc h0,hk h0]
  have hF:Fn.qF X=vT X (qBs 5) (Fn.rP X 1 10 0,0):=by unfold Fn.qF;rw [hK]
  have hF:Fn.qF X=vT X [(0,31),(1,4294967296)] (Fn.rP X 1 10 0,0):=hF
  rw [kC h0,hk h0,iY hX hb hp0]
  by_cases h1:Fn.rF X 0 31 (Fn.rP X 1 10 0)=0
  ·have hp1:=mP hX h1
   rw [uT h1] at hF
   rw [kC h1,iY hX hb hp1]
   by_cases h2:Fn.rF X 1 4294967296 (Fn.rP X 0 31 (Fn.rP X 1 10 0))=0
   ·have hp2:=mP hX h2
    rw [uT h2] at hF
    rw [kC h2]
    have hF2:(Fn.qF X).2=(Fn.rP X 1 4294967296 (Fn.rP X 0 31 (Fn.rP X 1 10 0)),0):=by rw [hF];rfl
    have hT:=ou hF2
    rw [if_neg (by omega)] at hT
    by_cases ht:Fn.rP X 1 4294967296 (Fn.rP X 0 31 (Fn.rP X 1 10 0))<X.length
    ·rw [if_pos ht] at hT
     rw [show ltN (Fn.rP X 1 4294967296 (Fn.rP X 0 31 (Fn.rP X 1 10 0))) X.length=true from gQ ht,dX (Fn.rP X 1 4294967296 (Fn.rP X 0 31 (Fn.rP X 1 10 0))),cu hT (by omega)];rfl
    ·rw [if_neg ht] at hT
     have hQ:Fn.qQ X=(5,0,Fn.rN X 0 31 (Fn.rP X 1 10 0),0,Fn.rN X 1 4294967296 (Fn.rP X 0 31 (Fn.rP X 1 10 0))):=by rw [Qe (by rw [hT]),hF,hK];rfl
     rw [show ltN (Fn.rP X 1 4294967296 (Fn.rP X 0 31 (Fn.rP X 1 10 0))) X.length=false from Fh (by omega),mG hT hQ];rfl
   ·have hF2:(Fn.qF X).2=(Fn.rP X 0 31 (Fn.rP X 1 10 0),Fn.rF X 1 4294967296 (Fn.rP X 0 31 (Fn.rP X 1 10 0))):=by rw [hF];exact uZ h2
    have hT:=ou hF2
    rw [if_pos h2] at hT
    rw [uq h2,je h2,dX (Fn.rF X 1 4294967296 (Fn.rP X 0 31 (Fn.rP X 1 10 0))),dX (Fn.rP X 0 31 (Fn.rP X 1 10 0)),cu hT h2];rfl
  ·have hF2:(Fn.qF X).2=(Fn.rP X 1 10 0,Fn.rF X 0 31 (Fn.rP X 1 10 0)):=by rw [hF];exact uZ h1
   have hT:=ou hF2
   rw [if_pos h1] at hT
   rw [uq h1,je h1,dX (Fn.rF X 0 31 (Fn.rP X 1 10 0)),dX (Fn.rP X 1 10 0),cu hT h1];rfl
 ·have hK:Fn.qK X=(0,(0,Fn.rF X 1 10 0)):=by rw [hK0,xE h0]
  have hF2:(Fn.qF X).2=(0,Fn.rF X 1 10 0):=by unfold Fn.qF;rw [hK];rfl
  have hT:=ou hF2
  rw [if_pos h0] at hT
  rw [uq h0,je h0,dX (Fn.rF X 1 10 0),cu hT h0];rfl
theorem asL {X:List Value}{m:Nat}(hX:allB X=true)(hn:m+1=X.length)(hb:X.length≤4096)(hk:Fn.rF X 1 10 0=0→Fn.rN X 1 10 0=5) :
  (runK (KPk 5) C7 40).1 15 [.slice (some ⟨32,0,none⟩) (qac m) aC] (aH [.one (.sl X 5 (qac m))]) (bP Tryz.prog)=some (Fn.jV X):=(alC X m).trans ((ant X m).symm.trans (ajY hX hn hb hk))
theorem ahw {X:List Value}{m:Nat}(hX:allB X=true)(hn:m+1=X.length)(hb:X.length≤4096)(hk:Fn.rF X 1 10 0=0→Fn.rN X 1 10 0=6) :
  (runK (KPk 6) C7 40).1 14 [.slice (some ⟨32,0,none⟩) (qac m) aC] (aH [.one (.sl X 5 (qac m))]) (bP Tryz.prog)=some (Fn.jV X):=by
 obtain ⟨e1,e2,e3,e4,ex,hK0⟩:=DU hX hn hb
 rw [aqf];unfold MB Uf gW gV iV AP nI iW nJ lU dD iP gU;rw [Ou hn,e1,e2,e3,e4,iY hX hb (qah _),ex]
 by_cases h0:Fn.rF X 1 10 0=0
 ·have hp0:=mP hX h0
  have hK:Fn.qK X=(6,(Fn.rP X 1 10 0,0)):=by rw [hK0,Dc h0,hk h0]
  have hF:Fn.qF X=vT X (qBs 6) (Fn.rP X 1 10 0,0):=by unfold Fn.qF;rw [hK]
  have hF:Fn.qF X=vT X [(0,31),(1,2),(1,4294967296)] (Fn.rP X 1 10 0,0):=hF
  rw [kC h0,hk h0,iY hX hb hp0]
  by_cases h1:Fn.rF X 0 31 (Fn.rP X 1 10 0)=0
  ·have hp1:=mP hX h1
   rw [uT h1] at hF
   rw [kC h1,iY hX hb hp1]
   by_cases h2:Fn.rF X 1 2 (Fn.rP X 0 31 (Fn.rP X 1 10 0))=0
   ·have hp2:=mP hX h2
    rw [uT h2] at hF
    rw [kC h2,iY hX hb hp2]
    by_cases h3:Fn.rF X 1 4294967296 (Fn.rP X 1 2 (Fn.rP X 0 31 (Fn.rP X 1 10 0)))=0
    ·have hp3:=mP hX h3
     rw [uT h3] at hF
     rw [kC h3]
     have hF2:(Fn.qF X).2=(Fn.rP X 1 4294967296 (Fn.rP X 1 2 (Fn.rP X 0 31 (Fn.rP X 1 10 0))),0):=by rw [hF];rfl
     have hT:=ou hF2
     rw [if_neg (by omega)] at hT
     by_cases ht:Fn.rP X 1 4294967296 (Fn.rP X 1 2 (Fn.rP X 0 31 (Fn.rP X 1 10 0)))<X.length
     ·rw [if_pos ht] at hT
      rw [show ltN (Fn.rP X 1 4294967296 (Fn.rP X 1 2 (Fn.rP X 0 31 (Fn.rP X 1 10 0)))) X.length=true from gQ ht,dX (Fn.rP X 1 4294967296 (Fn.rP X 1 2 (Fn.rP X 0 31 (Fn.rP X 1 10 0)))),cu hT (by omega)];rfl
     ·rw [if_neg ht] at hT
      have hQ:Fn.qQ X=(6,0,Fn.rN X 0 31 (Fn.rP X 1 10 0),Fn.rN X 1 2 (Fn.rP X 0 31 (Fn.rP X 1 10 0)),Fn.rN X 1 4294967296 (Fn.rP X 1 2 (Fn.rP X 0 31 (Fn.rP X 1 10 0)))):=by rw [Qe (by rw [hT]),hF,hK];rfl
      rw [show ltN (Fn.rP X 1 4294967296 (Fn.rP X 1 2 (Fn.rP X 0 31 (Fn.rP X 1 10 0)))) X.length=false from Fh (by omega),mG hT hQ];rfl
    ·have hF2:(Fn.qF X).2=(Fn.rP X 1 2 (Fn.rP X 0 31 (Fn.rP X 1 10 0)),Fn.rF X 1 4294967296 (Fn.rP X 1 2 (Fn.rP X 0 31 (Fn.rP X 1 10 0)))):=by rw [hF];exact uZ h3
     have hT:=ou hF2
     rw [if_pos h3] at hT
     rw [uq h3,je h3,dX (Fn.rF X 1 4294967296 (Fn.rP X 1 2 (Fn.rP X 0 31 (Fn.rP X 1 10 0)))),dX (Fn.rP X 1 2 (Fn.rP X 0 31 (Fn.rP X 1 10 0))),cu hT h3];rfl
   ·have hF2:(Fn.qF X).2=(Fn.rP X 0 31 (Fn.rP X 1 10 0),Fn.rF X 1 2 (Fn.rP X 0 31 (Fn.rP X 1 10 0))):=by rw [hF];exact uZ h2
    have hT:=ou hF2
    rw [if_pos h2] at hT
    rw [uq h2,je h2,dX (Fn.rF X 1 2 (Fn.rP X 0 31 (Fn.rP X 1 10 0))),dX (Fn.rP X 0 31 (Fn.rP X 1 10 0)),cu hT h2];rfl
  ·have hF2:(Fn.qF X).2=(Fn.rP X 1 10 0,Fn.rF X 0 31 (Fn.rP X 1 10 0)):=by rw [hF];exact uZ h1
   have hT:=ou hF2
   rw [if_pos h1] at hT
   rw [uq h1,je h1,dX (Fn.rF X 0 31 (Fn.rP X 1 10 0)),dX (Fn.rP X 1 10 0),cu hT h1];rfl
 ·have hK:Fn.qK X=(0,(0,Fn.rF X 1 10 0)):=by rw [hK0,xE h0]
  have hF2:(Fn.qF X).2=(0,Fn.rF X 1 10 0):=by unfold Fn.qF;rw [hK];rfl
  have hT:=ou hF2
  rw [if_pos h0] at hT
  rw [uq h0,je h0,dX (Fn.rF X 1 10 0),cu hT h0];rfl
theorem ar2 {X:List Value}{m:Nat}(hX:allB X=true)(hn:m+1=X.length)(hb:X.length≤4096)(hk:Fn.rF X 1 10 0=0→Fn.rN X 1 10 0=6) :
  (runK (KPk 6) C7 40).1 15 [.slice (some ⟨32,0,none⟩) (qac m) aC] (aH [.one (.sl X 5 (qac m))]) (bP Tryz.prog)=some (Fn.jV X):=(amA X m).trans ((alT X m).symm.trans (ahw hX hn hb hk))
theorem aiO {X:List Value}{m:Nat}(hX:allB X=true)(hn:m+1=X.length)(hb:X.length≤4096)(hk:Fn.rF X 1 10 0=0→Fn.rN X 1 10 0=7) :
  (runK (KPk 7) C7 40).1 14 [.slice (some ⟨32,0,none⟩) (qac m) aC] (aH [.one (.sl X 5 (qac m))]) (bP Tryz.prog)=some (Fn.jV X):=by
 obtain ⟨e1,e2,e3,e4,ex,hK0⟩:=DU hX hn hb
 rw [aqZ];unfold OO Tm gW gV iV nI iW lU dD Bf nJ iP gU;rw [Ou hn,e1,e2,e3,e4,iY hX hb (qah _),ex]
 by_cases h0:Fn.rF X 1 10 0=0
 ·have hp0:=mP hX h0
  have hK:Fn.qK X=(7,(Fn.rP X 1 10 0,0)):=by rw [hK0,Dc h0,hk h0]
  have hF:Fn.qF X=vT X (qBs 7) (Fn.rP X 1 10 0,0):=by unfold Fn.qF;rw [hK]
  have hF:Fn.qF X=vT X [(0,31)] (Fn.rP X 1 10 0,0):=hF
  rw [kC h0,hk h0,iY hX hb hp0]
  by_cases h1:Fn.rF X 0 31 (Fn.rP X 1 10 0)=0
  ·have hp1:=mP hX h1
   rw [uT h1] at hF
   rw [kC h1]
   have hF2:(Fn.qF X).2=(Fn.rP X 0 31 (Fn.rP X 1 10 0),0):=by rw [hF];rfl
   have hT:=ou hF2
   rw [if_neg (by omega)] at hT
   by_cases ht:Fn.rP X 0 31 (Fn.rP X 1 10 0)<X.length
   ·rw [if_pos ht] at hT
    rw [show ltN (Fn.rP X 0 31 (Fn.rP X 1 10 0)) X.length=true from gQ ht,dX (Fn.rP X 0 31 (Fn.rP X 1 10 0)),cu hT (by omega)];rfl
   ·rw [if_neg ht] at hT
    have hQ:Fn.qQ X=(7,0,Fn.rN X 0 31 (Fn.rP X 1 10 0),0,0):=by rw [Qe (by rw [hT]),hF,hK];rfl
    rw [show ltN (Fn.rP X 0 31 (Fn.rP X 1 10 0)) X.length=false from Fh (by omega),mG hT hQ];rfl
  ·have hF2:(Fn.qF X).2=(Fn.rP X 1 10 0,Fn.rF X 0 31 (Fn.rP X 1 10 0)):=by rw [hF];exact uZ h1
   have hT:=ou hF2
   rw [if_pos h1] at hT
   rw [uq h1,je h1,dX (Fn.rF X 0 31 (Fn.rP X 1 10 0)),dX (Fn.rP X 1 10 0),cu hT h1];rfl
 ·have hK:Fn.qK X=(0,(0,Fn.rF X 1 10 0)):=by rw [hK0,xE h0]
  have hF2:(Fn.qF X).2=(0,Fn.rF X 1 10 0):=by unfold Fn.qF;rw [hK];rfl
  have hT:=ou hF2
  rw [if_pos h0] at hT
  rw [uq h0,je h0,dX (Fn.rF X 1 10 0),cu hT h0];rfl
theorem asb {X:List Value}{m:Nat}(hX:allB X=true)(hn:m+1=X.length)(hb:X.length≤4096)(hk:Fn.rF X 1 10 0=0→Fn.rN X 1 10 0=7) :
  (runK (KPk 7) C7 40).1 15 [.slice (some ⟨32,0,none⟩) (qac m) aC] (aH [.one (.sl X 5 (qac m))]) (bP Tryz.prog)=some (Fn.jV X):=(am5 X m).trans ((al4 X m).symm.trans (aiO hX hn hb hk))
theorem ahZ {X:List Value}{m:Nat}(hX:allB X=true)(hn:m+1=X.length)(hb:X.length≤4096)(hk:Fn.rF X 1 10 0=0→Fn.rN X 1 10 0=8) :
  (runK (KPk 8) C7 40).1 14 [.slice (some ⟨32,0,none⟩) (qac m) aC] (aH [.one (.sl X 5 (qac m))]) (bP Tryz.prog)=some (Fn.jV X):=by
 obtain ⟨e1,e2,e3,e4,ex,hK0⟩:=DU hX hn hb
 rw [aqP];unfold NC TJ gW gV dD iV iW iP gU;rw [Ou hn,e1,e2,e3,e4,iY hX hb (qah _),ex]
 by_cases h0:Fn.rF X 1 10 0=0
 ·have hp0:=mP hX h0
  have hK:Fn.qK X=(8,(Fn.rP X 1 10 0,0)):=by rw [hK0,Dc h0,hk h0]
  have hF:Fn.qF X=vT X (qBs 8) (Fn.rP X 1 10 0,0):=by unfold Fn.qF;rw [hK]
  have hF:Fn.qF X=vT X [] (Fn.rP X 1 10 0,0):=hF
  rw [kC h0,hk h0]
  have hF2:(Fn.qF X).2=(Fn.rP X 1 10 0,0):=by rw [hF];rfl
  have hT:=ou hF2
  rw [if_neg (by omega)] at hT
  by_cases ht:Fn.rP X 1 10 0<X.length
  ·rw [if_pos ht] at hT
   rw [show ltN (Fn.rP X 1 10 0) X.length=true from gQ ht,dX (Fn.rP X 1 10 0),cu hT (by omega)];rfl
  ·rw [if_neg ht] at hT
   have hQ:Fn.qQ X=(8,0,0,0,0):=by rw [Qe (by rw [hT]),hF,hK];rfl
   rw [show ltN (Fn.rP X 1 10 0) X.length=false from Fh (by omega),mG hT hQ];rfl
 ·have hK:Fn.qK X=(0,(0,Fn.rF X 1 10 0)):=by rw [hK0,xE h0]
  have hF2:(Fn.qF X).2=(0,Fn.rF X 1 10 0):=by unfold Fn.qF;rw [hK];rfl
  have hT:=ou hF2
  rw [if_pos h0] at hT
  rw [uq h0,je h0,dX (Fn.rF X 1 10 0),cu hT h0];rfl
theorem ars {X:List Value}{m:Nat}(hX:allB X=true)(hn:m+1=X.length)(hb:X.length≤4096)(hk:Fn.rF X 1 10 0=0→Fn.rN X 1 10 0=8) :
  (runK (KPk 8) C7 40).1 15 [.slice (some ⟨32,0,none⟩) (qac m) aC] (aH [.one (.sl X 5 (qac m))]) (bP Tryz.prog)=some (Fn.jV X):=(alX X m).trans ((anp X m).symm.trans (ahZ hX hn hb hk))
theorem aj3 {X:List Value}{m:Nat}(hX:allB X=true)(hn:m+1=X.length)(hb:X.length≤4096)(hk:Fn.rF X 1 10 0=0→Fn.rN X 1 10 0=9) :
  (runK (KPk 9) C7 40).1 14 [.slice (some ⟨32,0,none⟩) (qac m) aC] (aH [.one (.sl X 5 (qac m))]) (bP Tryz.prog)=some (Fn.jV X):=by
 obtain ⟨e1,e2,e3,e4,ex,hK0⟩:=DU hX hn hb
 rw [ap8];unfold O0 SQ gW gV dD iV iW iP gU;rw [Ou hn,e1,e2,e3,e4,iY hX hb (qah _),ex]
 by_cases h0:Fn.rF X 1 10 0=0
 ·have hp0:=mP hX h0
  have hK:Fn.qK X=(9,(Fn.rP X 1 10 0,0)):=by rw [hK0,Dc h0,hk h0]
  have hF:Fn.qF X=vT X (qBs 9) (Fn.rP X 1 10 0,0):=by unfold Fn.qF;rw [hK]
  have hF:Fn.qF X=vT X [] (Fn.rP X 1 10 0,0):=hF
  rw [kC h0,hk h0]
  have hF2:(Fn.qF X).2=(Fn.rP X 1 10 0,0):=by rw [hF];rfl
  have hT:=ou hF2
  rw [if_neg (by omega)] at hT
  by_cases ht:Fn.rP X 1 10 0<X.length
  ·rw [if_pos ht] at hT
   rw [show ltN (Fn.rP X 1 10 0) X.length=true from gQ ht,dX (Fn.rP X 1 10 0),cu hT (by omega)];rfl
  ·rw [if_neg ht] at hT
   have hQ:Fn.qQ X=(9,0,0,0,0):=by rw [Qe (by rw [hT]),hF,hK];rfl
   rw [show ltN (Fn.rP X 1 10 0) X.length=false from Fh (by omega),mG hT hQ];rfl
 ·have hK:Fn.qK X=(0,(0,Fn.rF X 1 10 0)):=by rw [hK0,xE h0]
  have hF2:(Fn.qF X).2=(0,Fn.rF X 1 10 0):=by unfold Fn.qF;rw [hK];rfl
  have hT:=ou hF2
  rw [if_pos h0] at hT
  rw [uq h0,je h0,dX (Fn.rF X 1 10 0),cu hT h0];rfl
theorem ase {X:List Value}{m:Nat}(hX:allB X=true)(hn:m+1=X.length)(hb:X.length≤4096)(hk:Fn.rF X 1 10 0=0→Fn.rN X 1 10 0=9) :
  (runK (KPk 9) C7 40).1 15 [.slice (some ⟨32,0,none⟩) (qac m) aC] (aH [.one (.sl X 5 (qac m))]) (bP Tryz.prog)=some (Fn.jV X):=(amu X m).trans ((am0 X m).symm.trans (aj3 hX hn hb hk))
theorem acS {X:List Value}{m:Nat}(hX:allB X=true)(hn:m+1=X.length)(hb:X.length≤4096)(hk:Fn.rF X 1 10 0=0→Fn.rN X 1 10 0=10) :
  (runK (KPk 10) C7 40).1 14 [.slice (some ⟨32,0,none⟩) (qac m) aC] (aH [.one (.sl X 5 (qac m))]) (bP Tryz.prog)=some (Fn.jV X):=by
 obtain ⟨e1,e2,e3,e4,ex,hK0⟩:=DU hX hn hb
 rw [akc];unfold Oj Td gW gV dD iV iW iP gU;rw [Ou hn,e1,e2,e3,e4,iY hX hb (qah _),ex]
 by_cases h0:Fn.rF X 1 10 0=0
 ·have hp0:=mP hX h0
  have hK:Fn.qK X=(10,(Fn.rP X 1 10 0,0)):=by rw [hK0,Dc h0,hk h0]
  have hF:Fn.qF X=vT X (qBs 10) (Fn.rP X 1 10 0,0):=by unfold Fn.qF;rw [hK]
  have hF:Fn.qF X=vT X [] (Fn.rP X 1 10 0,0):=hF
  rw [kC h0,hk h0]
  have hF2:(Fn.qF X).2=(Fn.rP X 1 10 0,0):=by rw [hF];rfl
  have hT:=ou hF2
  rw [if_neg (by omega)] at hT
  by_cases ht:Fn.rP X 1 10 0<X.length
  ·rw [if_pos ht] at hT
   rw [show ltN (Fn.rP X 1 10 0) X.length=true from gQ ht,dX (Fn.rP X 1 10 0),cu hT (by omega)];rfl
  ·rw [if_neg ht] at hT
   have hQ:Fn.qQ X=(10,0,0,0,0):=by rw [Qe (by rw [hT]),hF,hK];rfl
   rw [show ltN (Fn.rP X 1 10 0) X.length=false from Fh (by omega),mG hT hQ];rfl
 ·have hK:Fn.qK X=(0,(0,Fn.rF X 1 10 0)):=by rw [hK0,xE h0]
  have hF2:(Fn.qF X).2=(0,Fn.rF X 1 10 0):=by unfold Fn.qF;rw [hK];rfl
  have hT:=ou hF2
  rw [if_pos h0] at hT
  rw [uq h0,je h0,dX (Fn.rF X 1 10 0),cu hT h0];rfl
theorem aoo {X:List Value}{m:Nat}(hX:allB X=true)(hn:m+1=X.length)(hb:X.length≤4096)(hk:Fn.rF X 1 10 0=0→Fn.rN X 1 10 0=10) :
  (runK (KPk 10) C7 40).1 15 [.slice (some ⟨32,0,none⟩) (qac m) aC] (aH [.one (.sl X 5 (qac m))]) (bP Tryz.prog)=some (Fn.jV X):=(akz X m).trans ((aiL X m).symm.trans (acS hX hn hb hk))
theorem oC {X:List Value}{N:Nat}(h:allB X=true):(List.rec true (fun v x ih=>sel (aX N v) ih false) X:Bool)=true:=pI h
def wL (ns:List Nat):List Value:=ns.map uN
theorem ZY {N:Nat}:∀ (ns:List Nat),(List.rec true (fun v x ih=>sel (aX N v) ih false) (wL ns):Bool)=true
 |[]=>rfl
 |n::ns=>ZY (N:=N) ns
theorem vK (ns:List Nat):aQ (wL ns)=ns.length:=by rw [aW];unfold wL;simp
theorem WY (ns:List Nat)(v:Nat):aK (aA (qas ns.length 1) (wL ns)) [.int .u64 (qaa v)]=wL (ns++[v]):=by
 rw [show qas ns.length 1=aQ (wL ns) by rw [vK];exact qax _,P7,iG]
 unfold wL
 simp
 rfl
namespace Fn
def gS (X:List Value)(c to:Nat):List Nat × (Nat × Nat):=vT X (List.replicate c (0,18446744073709551615)) (to,0)
def gEr (X:List Value)(c to:Nat):Nat:=(gS X c to).2.2
def gEg (X:List Value)(c to:Nat):Nat:=gEr X c to-1
def gPl (X:List Value)(c to:Nat):Nat:=(gS X c to).2.1
def gWs (X:List Value)(c to:Nat):List Value:=wL (gS X c to).1
end Fn
theorem Xh {X:List Value}{r to:Nat}(h:Fn.rF X 0 18446744073709551615 to=0):Fn.gS X (r+1) to=(Fn.rN X 0 18446744073709551615 to::(Fn.gS X r (Fn.rP X 0 18446744073709551615 to)).1,(Fn.gS X r (Fn.rP X 0 18446744073709551615 to)).2):=uT h
theorem XU {X:List Value}{r to:Nat}(h:Fn.rF X 0 18446744073709551615 to≠0):(Fn.gS X (r+1) to).2=(to,Fn.rF X 0 18446744073709551615 to):=uZ h
theorem auP (X:List Value):∀ (r to:Nat),(Fn.gS X r to).1.length=r:=by
 have:∀ (l:List (Nat × Nat)) (p:Nat × Nat),(vT X l p).1.length=l.length:=by
  intro l
  induction l with
  |nil=>intro p;rfl
  |cons b l ih=>intro p;show (_::(vT X l _).1).length=_;rw [qap,ih];rfl
 intro r to
 unfold Fn.gS
 rw [this]
 simp
def fE2 (e:Nat):Int:=qaa (qac e)
def exG (sp spe:bM)(y:bg):Option (Ex × bg):=
 jO KM.plain C7 (runK KM C7 20).1 (runK KM C7 20).2 (C7.vars 16) 16 false (fU C7 16 5) (gJ Tryz.prog (C7.vars 16) sG1 spe) (CX sp.need y) (lQ sp.next y)
def exJ (sp spe:bM)(y:bg):Option (Ex × bg):=
 jO KM.plain C7 (runK KM C7 20).1 (runK KM C7 20).2 (C7.vars 17) 17 false (fU C7 17 6) (gJ Tryz.prog (C7.vars 17) tG1 spe) (CX sp.need y) (lQ sp.next y)
def oGF (X:List Value)(n to:Nat)(e:Int):bg:=⟨[pt 64,pt 65,pt 68],aK (ah9 X n to (pt 70) []) [(70,.row [.int .i64 e,iN to] tFa 0)]⟩
def oGK (X:List Value)(n to:Nat)(e0:Int)(L:List Value)(k:Nat):bg:=⟨[pt 64,pt 65,pt 68,pt 69],aK (ah9 X n to (.pointer none) []) (alG e0 L k)⟩
def oG0 (X:List Value)(n to:Nat)(e0:Int):bg:=⟨[pt 64,pt 65,pt 68,pt 69],aK (ah9 X n to (.pointer none) []) (aos e0)⟩
def oJF (X:List Value)(n to:Nat)(e:Nat)(a:Int):bg:=⟨[pt 64,pt 65,pt 68],akN X n to e a⟩
def oJK (X:List Value)(n to:Nat)(a e0:Int)(L:List Value)(k:Nat):bg:=⟨[pt 64,pt 65,pt 68,pt 69],aK (akN X n to 0 a) (alG e0 L k)⟩
def oJ0 (X:List Value)(n to:Nat)(a e0:Int):bg:=⟨[pt 64,pt 65,pt 68,pt 69],aK (akN X n to 0 a) (aos e0)⟩
section
variable {X:List Value} {n to:Nat} {e0 a:Int} {c i:Nat} {ns:List Nat} (hX:allB X=true) (hn:n=X.length) (hb:X.length≤4096) (hto:to≤n) (hc:c≤100000)
include hX hn hb hto hc
theorem auA {spe:bM}(hs:spe=eGF∨spe=eG1)(h:Fn.rF X 0 18446744073709551615 to=0) :
  exG sG0 spe (hG0 X n to e0 (qac c) 0)=some (.normal,hG1 X n (Fn.rP X 0 18446744073709551615 to) e0 (wL [Fn.rN X 0 18446744073709551615 to]) 1 (qac c) 1):=by
 have hp:=mP hX h
 subst hn
 have a2:=iY hX hb hto
 have a3:=iY hX hb hp
 have ex:Fn.okX X=true:=hX
 unfold exG
 rcases hs with rfl|rfl
 ·rw [avk];unfold EI qw EH yL fZ Di xI tu iI iL yu xW x9 pW mV;rw [a2,kC h,a3,ex,oC hX]
  by_cases ht:Fn.rP X 0 18446744073709551615 to<X.length
  ·rw [show eqI (qaa (X.length.sub (Fn.rP X 0 18446744073709551615 to))) 0=false from uq (by show X.length-_≠0;omega)];rfl
  ·rw [show eqI (qaa (X.length.sub (Fn.rP X 0 18446744073709551615 to))) 0=true from kC (by show X.length-_=0;omega),show ltN (Fn.rP X 0 18446744073709551615 to) X.length=false from Fh (by omega)];rfl
 ·rw [aAe];unfold EH yL fZ Di xI tu iI iL yu xW x9 pW mV;rw [a2,kC h,a3,ex,oC (N:=sG1.N) hX]
  by_cases ht:Fn.rP X 0 18446744073709551615 to<X.length
  ·rw [show eqI (qaa (X.length.sub (Fn.rP X 0 18446744073709551615 to))) 0=false from uq (by show X.length-_≠0;omega)];rfl
  ·rw [show eqI (qaa (X.length.sub (Fn.rP X 0 18446744073709551615 to))) 0=true from kC (by show X.length-_=0;omega),show ltN (Fn.rP X 0 18446744073709551615 to) X.length=false from Fh (by omega)];rfl
theorem av1 (h:Fn.rF X 0 18446744073709551615 to≠0):exG sG0 eGF (hG0 X n to e0 (qac c) 0)=some (.exit 0,oGF X n to (qaa (Fn.rF X 0 18446744073709551615 to))):=by
 subst hn
 have ex:Fn.okX X=true:=hX
 unfold exG
 rw [avk];unfold EI qw EH yL fZ Di xI tu iI iL yu xW x9 pW mV;rw [iY hX hb hto,uq h,ex,oC (N:=eGF.N) hX,je h]
 rfl
theorem av4:exG sG0 eG0 (hG0 X n to e0 0 0)=some (.exit 0,oG0 X n to e0):=by
 unfold exG
 rw [ayR (c:=0)];unfold UJ PK iI iL;rw [oC hX]
 rfl
theorem awX {spe:bM}(hs:spe=eGF∨spe=eG1)(h:Fn.rF X 0 18446744073709551615 to=0)(hi:ns.length<c) :
  exG sG1 spe (hG1 X n to e0 (wL ns) ns.length c ns.length)=some (.normal,hG1 X n (Fn.rP X 0 18446744073709551615 to) e0 (wL (ns++[Fn.rN X 0 18446744073709551615 to])) (ns.length+1) c (ns.length+1)):=by
 have hp:=mP hX h
 subst hn
 have a1:=aam hi
 have a2:=iY hX hb hto
 have a3:=iY hX hb hp
 have a4:ns.length.beq ns.length=true:=kC rfl
 have a5:((qag 0 (ns.length.mul 1)).add 1).ble (aQ (wL ns))=false:=Fh (by rw [vK];show _<0+ns.length*1+1;omega)
 have a6:(ns.length.add 1).ble 18446744073709551616=true:=gQ (by show ns.length+1≤_;omega)
 have a7:(ns.length.add 1).ble 281474976710656=true:=gQ (by show ns.length+1≤_;omega)
 have a8:(((qas 2 (ns.length.add 1)).add 768).mul 8).ble 281474976710656=true:=gQ (by show (2*(ns.length+1)+768)*8≤_;omega)
 have a9:(ns.length.mul 1).ble (aQ (wL ns))=true:=gQ (by rw [vK];show ns.length*1≤_;omega)
 have a10:(qag 0 (ns.length.mul 1)).beq (aQ (wL ns))=true:=kC (by rw [vK];show 0+ns.length*1=_;omega)
 have a12:(ns.length.add 1).ble 9223372036854775807=true:=gQ (by show ns.length+1≤_;omega)
 have ex:Fn.okX X=true:=hX
 unfold exG
 rcases hs with rfl|rfl
 ·rw [avP];unfold EI qw Ad vg lY lT Au vC mD xI tu iI iL fZ jc yu xW x9 pW lX l9 l7 mV;rw [a1,a2,kC h,a4,a5,a6,a7,a8,a9,a10,a3,a12,ex,oC (N:=sG1.N) hX,WY,ZY (N:=sG1.N) (ns++[Fn.rN X 0 18446744073709551615 to])]
  by_cases ht:Fn.rP X 0 18446744073709551615 to<X.length
  ·rw [show eqI (qaa (X.length.sub (Fn.rP X 0 18446744073709551615 to))) 0=false from uq (by show X.length-_≠0;omega)];rfl
  ·rw [show eqI (qaa (X.length.sub (Fn.rP X 0 18446744073709551615 to))) 0=true from kC (by show X.length-_=0;omega),show ltN (Fn.rP X 0 18446744073709551615 to) X.length=false from Fh (by omega)];rfl
 ·rw [atP];unfold Ip PK Ad vg lY lT Au jc vC mD xI tu iI iL fZ yu xW x9 pW lX l9 l7 mV;rw [a1,a2,kC h,a4,a5,a6,a7,a8,a9,a10,a3,a12,ex,oC (N:=sG1.N) hX,WY,ZY (N:=sG1.N) (ns++[Fn.rN X 0 18446744073709551615 to])]
  by_cases ht:Fn.rP X 0 18446744073709551615 to<X.length
  ·rw [show eqI (qaa (X.length.sub (Fn.rP X 0 18446744073709551615 to))) 0=false from uq (by show X.length-_≠0;omega)];rfl
  ·rw [show eqI (qaa (X.length.sub (Fn.rP X 0 18446744073709551615 to))) 0=true from kC (by show X.length-_=0;omega),show ltN (Fn.rP X 0 18446744073709551615 to) X.length=false from Fh (by omega)];rfl
theorem av2 (h:Fn.rF X 0 18446744073709551615 to≠0)(hi:ns.length<c):exG sG1 eGF (hG1 X n to e0 (wL ns) ns.length c ns.length)=some (.exit 0,oGF X n to (qaa (Fn.rF X 0 18446744073709551615 to))):=by
 subst hn
 have a1:=aam hi
 have a4:ns.length.beq ns.length=true:=kC rfl
 have a5:((qag 0 (ns.length.mul 1)).add 1).ble (aQ (wL ns))=false:=Fh (by rw [vK];show _<0+ns.length*1+1;omega)
 have a6:(ns.length.add 1).ble 18446744073709551616=true:=gQ (by show ns.length+1≤_;omega)
 have a7:(ns.length.add 1).ble 281474976710656=true:=gQ (by show ns.length+1≤_;omega)
 have a8:(((qas 2 (ns.length.add 1)).add 768).mul 8).ble 281474976710656=true:=gQ (by show (2*(ns.length+1)+768)*8≤_;omega)
 have a9:(ns.length.mul 1).ble (aQ (wL ns))=true:=gQ (by rw [vK];show ns.length*1≤_;omega)
 have a10:(qag 0 (ns.length.mul 1)).beq (aQ (wL ns))=true:=kC (by rw [vK];show 0+ns.length*1=_;omega)
 have ex:Fn.okX X=true:=hX
 unfold exG
 rw [avP];unfold EI qw Ad vg lY lT Au vC mD xI tu iI iL fZ jc yu xW x9 pW lX l9 l7 mV;rw [a1,iY hX hb hto,uq h,a4,a5,a6,a7,a8,a9,a10,ex,oC (N:=eGF.N) hX,je h]
 rfl
theorem aud (hi:ns.length=c):exG sG1 eG1 (hG1 X n to e0 (wL ns) ns.length c ns.length)=some (.exit 0,oGK X n to e0 (wL ns) c):=by
 have a1:ltI (qaa ns.length) (qaa c)=false:=VK (by omega)
 unfold exG
 rw [atP];unfold Ip PK Ad vg lY lT Au jc vC mD xI tu iI iL fZ yu xW x9 pW lX l9 l7 mV;rw [a1,oC (N:=eG1.N) hX,ZY (N:=eG1.N),←hi]
 rfl
theorem aup {spe:bM}(hs:spe=eRF∨spe=eG1)(h:Fn.rF X 0 18446744073709551615 to=0) :
  exJ tG0 spe (jG0 X n to 0 a e0 (qac c) 0)=some (.normal,jG1 X n (Fn.rP X 0 18446744073709551615 to) 0 a e0 (wL [Fn.rN X 0 18446744073709551615 to]) 1 (qac c) 1):=by
 subst hn
 have a2:=iY hX hb hto
 unfold exJ
 rcases hs with rfl|rfl
 ·rw [avr];unfold MC V4 wM qw Vp yL fZ Di xq tu pW iI iL mV;rw [a2,kC h,oC (N:=tG1.N) hX];rfl
 ·rw [ax1];unfold MC V4 wM qw Vp yL fZ Di xq tu pW iI iL mV;rw [a2,kC h,oC (N:=tG1.N) hX];rfl
theorem axb (h:Fn.rF X 0 18446744073709551615 to≠0):exJ tG0 eRF (jG0 X n to 0 a e0 (qac c) 0)=some (.normal,jG1 X n (Fn.rT X 0 18446744073709551615 to) (qac (Fn.rG X 0 18446744073709551615 to)) (qaa to) e0 (wL [0]) 1 (qac c) 1):=by
 subst hn
 unfold exJ
 rw [avr];unfold MC V4 wM qw Vp yL fZ Di xq tu pW iI iL mV;rw [iY hX hb hto,uq h,oC (N:=tG1.N) hX]
 rfl
theorem awm:exJ tG0 eG0 (jG0 X n to 0 a e0 0 0)=some (.exit 0,oJ0 X n to a e0):=by
 unfold exJ
 rw [ay4 (c:=0)];unfold UJ Bj iI iL;rw [oC hX]
 rfl
theorem auN {spe:bM}(hs:spe=eRF∨spe=eG1)(h:Fn.rF X 0 18446744073709551615 to=0)(hi:ns.length<c) :
  exJ tG1 spe (jG1 X n to 0 a e0 (wL ns) ns.length c ns.length)=some (.normal,jG1 X n (Fn.rP X 0 18446744073709551615 to) 0 a e0 (wL (ns++[Fn.rN X 0 18446744073709551615 to])) (ns.length+1) c (ns.length+1)):=by
 subst hn
 have a1:=aam hi
 have a2:=iY hX hb hto
 have a4:ns.length.beq ns.length=true:=kC rfl
 have a5:((qag 0 (ns.length.mul 1)).add 1).ble (aQ (wL ns))=false:=Fh (by rw [vK];show _<0+ns.length*1+1;omega)
 have a6:(ns.length.add 1).ble 18446744073709551616=true:=gQ (by show ns.length+1≤_;omega)
 have a7:(ns.length.add 1).ble 281474976710656=true:=gQ (by show ns.length+1≤_;omega)
 have a8:(((qas 2 (ns.length.add 1)).add 768).mul 8).ble 281474976710656=true:=gQ (by show (2*(ns.length+1)+768)*8≤_;omega)
 have a9:(ns.length.mul 1).ble (aQ (wL ns))=true:=gQ (by rw [vK];show ns.length*1≤_;omega)
 have a10:(qag 0 (ns.length.mul 1)).beq (aQ (wL ns))=true:=kC (by rw [vK];show 0+ns.length*1=_;omega)
 have a12:(ns.length.add 1).ble 9223372036854775807=true:=gQ (by show ns.length+1≤_;omega)
 unfold exJ
 rcases hs with rfl|rfl
 ·rw [awd];unfold Bj Hl IB wM qw Ic vg lY lT IQ vC mD xq tu pW iI iL fZ jc lX l9 l7 mV;rw [a1,a2,kC h,a4,a5,a6,a7,a8,a9,a10,a12,oC (N:=tG1.N) hX,WY,ZY (N:=tG1.N) (ns++[Fn.rN X 0 18446744073709551615 to])];rfl
 ·rw [atA];unfold Ip Bj Hl IB wM qw Ic vg lY lT IQ vC mD xq tu pW iI iL fZ jc lX l9 l7 mV;rw [a1,a2,kC h,a4,a5,a6,a7,a8,a9,a10,a12,oC (N:=tG1.N) hX,WY,ZY (N:=tG1.N) (ns++[Fn.rN X 0 18446744073709551615 to])];rfl
theorem auS (h:Fn.rF X 0 18446744073709551615 to≠0)(hi:ns.length<c) :
  exJ tG1 eRF (jG1 X n to 0 a e0 (wL ns) ns.length c ns.length)=some (.normal,jG1 X n (Fn.rT X 0 18446744073709551615 to) (qac (Fn.rG X 0 18446744073709551615 to)) (qaa to) e0 (wL (ns++[0])) (ns.length+1) c (ns.length+1)):=by
 subst hn
 have a1:=aam hi
 have a4:ns.length.beq ns.length=true:=kC rfl
 have a5:((qag 0 (ns.length.mul 1)).add 1).ble (aQ (wL ns))=false:=Fh (by rw [vK];show _<0+ns.length*1+1;omega)
 have a6:(ns.length.add 1).ble 18446744073709551616=true:=gQ (by show ns.length+1≤_;omega)
 have a7:(ns.length.add 1).ble 281474976710656=true:=gQ (by show ns.length+1≤_;omega)
 have a8:(((qas 2 (ns.length.add 1)).add 768).mul 8).ble 281474976710656=true:=gQ (by show (2*(ns.length+1)+768)*8≤_;omega)
 have a9:(ns.length.mul 1).ble (aQ (wL ns))=true:=gQ (by rw [vK];show ns.length*1≤_;omega)
 have a10:(qag 0 (ns.length.mul 1)).beq (aQ (wL ns))=true:=kC (by rw [vK];show 0+ns.length*1=_;omega)
 have a12:(ns.length.add 1).ble 9223372036854775807=true:=gQ (by show ns.length+1≤_;omega)
 unfold exJ
 rw [awd];unfold Bj Hl IB wM qw Ic vg lY lT IQ vC mD xq tu pW iI iL fZ jc lX l9 l7 mV;rw [a1,iY hX hb hto,uq h,a4,a5,a6,a7,a8,a9,a10,a12,oC (N:=tG1.N) hX,WY ns 0,ZY (N:=tG1.N) (ns++[0])]
 rfl
theorem ava (hi:ns.length=c):exJ tG1 eG1 (jG1 X n to 0 a e0 (wL ns) ns.length c ns.length)=some (.exit 0,oJK X n to a e0 (wL ns) c):=by
 have a1:ltI (qaa ns.length) (qaa c)=false:=VK (by omega)
 unfold exJ
 rw [atA];unfold Ip Bj Hl IB wM qw Ic vg lY lT IQ vC mD xq tu pW iI iL fZ jc lX l9 l7 mV;rw [a1,oC (N:=eG1.N) hX,ZY (N:=eG1.N),←hi]
 rfl
omit hn hb hto hc in
theorem aBo {e:Nat}{L:List Value}{k i:Nat}:exJ tG1 eRF (jG1 X n to (qac e) a e0 L k c i)=some (.exit 0,oJF X n to (qac e) a):=by
 unfold exJ
 rw [aze];unfold G6 iI iL;rw [oC hX]
 cases ltI (qaa i) (qaa c) <;> rfl
omit hn hb hto hc in
theorem aBX {e i:Nat}:exJ tG0 eRF (jG0 X n to (qac e) a e0 c i)=some (.exit 0,oJF X n to (qac e) a):=by
 unfold exJ
 rw [ayP];unfold G6 iI iL;rw [oC hX]
 cases ltI (qaa i) (qaa c) <;> rfl
end
end
end Go.Ax
namespace Go.Ax
open Go Go.Proofs
noncomputable section
variable [Lo]
def RG (X:List Value)(n:Nat)(e0:Int)(c:Nat)(P:List Nat→Nat→Nat→Prop)(k:Nat)(sp:bM)(y:bg):Prop:=
 ∃ to,to≤n∧((sp=sG0∧y=hG0 X n to e0 c 0∧0<c∧k=c+1∧P [] 0 to)∨(∃ ns,ns.length≤c∧sp=sG1∧y=hG1 X n to e0 (wL ns) ns.length c ns.length∧k=c-ns.length+1∧P ns ns.length to))
theorem ar4 {X:List Value}{n to:Nat}{e0:Int}{c:Nat}(hX:allB X=true)(hn:n=X.length)(hb:X.length≤4096)(hto:to≤n)(hc:c≤100000)(he:Fn.gEr X c to≠0) :
  ∃ R k,R k sG0 (hG0 X n to e0 c 0)∧rC Tryz.prog C7 KM 20 16 (fU C7 16 5) 70 R (.exit 0) eGF (oGF X n (Fn.gPl X c to) (fE2 (Fn.gEg X c to))):=by
 have hc0:0<c:=by
  cases c with
  |zero=>exact absurd rfl he
  |succ c=>omega
 refine ⟨RG X n e0 c fun ns i t=>(Fn.gS X (c-i) t).2=(Fn.gS X c to).2,c+1,⟨to,hto,.inl ⟨rfl,rfl,hc0,rfl,rfl⟩⟩,⟨?_⟩⟩
 have hEE:qaa (Fn.gEr X c to)=fE2 (Fn.gEg X c to):=by
  unfold fE2 Fn.gEg
  rw [show qac (Fn.gEr X c to-1)=Fn.gEr X c to by omega]
 rintro k sp y ⟨t,ht,h⟩
 rcases h with ⟨rfl,rfl,hc0,rfl,hP⟩|⟨ns,hl,rfl,rfl,rfl,hP⟩
 ·obtain ⟨c',rfl⟩:∃ c',c=c'+1:=⟨c-1,by omega⟩
  refine ⟨c'+1,rfl,sG1,?_⟩
  have hP:(Fn.gS X (c'+1) t).2=(Fn.gS X (c'+1) to).2:=hP
  by_cases hf:Fn.rF X 0 18446744073709551615 t=0
  ·refine ⟨_,rfl,auA hX hn hb ht (by omega) (.inl rfl) hf,.inl ⟨rfl,_,by rw [hn];exact mP hX hf,.inr ⟨[Fn.rN X 0 18446744073709551615 t],by simp,rfl,rfl,by simp,?_⟩⟩⟩
   rw [Xh hf] at hP
   show (Fn.gS X (c'+1-1) _).2=_
   rw [qat]
   exact hP
  ·have:=XU (r:=c') hf
   rw [this] at hP
   refine ⟨_,rfl,av1 hX hn hb ht (by omega) hf,.inr ⟨fun h=>(by cases h),?_⟩⟩
   have e1:Fn.gPl X (c'+1) to=t:=by unfold Fn.gPl;rw [←hP]
   have e2:Fn.gEr X (c'+1) to=Fn.rF X 0 18446744073709551615 t:=by unfold Fn.gEr;rw [←hP]
   rw [e1,←hEE,e2]
 ·refine ⟨c-ns.length,rfl,sG1,?_⟩
  by_cases hi:ns.length<c
  ·obtain ⟨r,hr⟩:∃ r,c-ns.length=r+1:=⟨c-ns.length-1,by omega⟩
   rw [hr] at hP
   by_cases hf:Fn.rF X 0 18446744073709551615 t=0
   ·refine ⟨_,rfl,awX hX hn hb ht hc (.inl rfl) hf hi,.inl ⟨rfl,_,by rw [hn];exact mP hX hf,.inr ⟨ns++[Fn.rN X 0 18446744073709551615 t],by simp;omega,rfl,by simp,by simp;omega,?_⟩⟩⟩
    rw [Xh hf] at hP
    show (Fn.gS X (c-(ns++[_]).length) _).2=_
    rw [show c-(ns++[Fn.rN X 0 18446744073709551615 t]).length=r by simp;omega]
    exact hP
   ·have:=XU (r:=r) hf
    rw [this] at hP
    refine ⟨_,rfl,av2 hX hn hb ht hc hf hi,.inr ⟨fun h=>(by cases h),?_⟩⟩
    have e1:Fn.gPl X c to=t:=by unfold Fn.gPl;rw [←hP]
    have e2:Fn.gEr X c to=Fn.rF X 0 18446744073709551615 t:=by unfold Fn.gEr;rw [←hP]
    rw [e1,←hEE,e2]
  ·exfalso
   rw [show c-ns.length=0 by omega] at hP
   exact he (show (Fn.gS X c to).2.2=0 by rw [←hP];rfl)
theorem ate {X:List Value}{n to:Nat}{e0:Int}{c:Nat}(hX:allB X=true)(hn:n=X.length)(hb:X.length≤4096)(hto:to≤n)(hc:c≤100000)(hc0:0<c)(he:Fn.gEr X c to=0) :
  ∃ R k,R k sG0 (hG0 X n to e0 c 0)∧rC Tryz.prog C7 KM 20 16 (fU C7 16 5) 70 R (.exit 0) eG1 (oGK X n (Fn.gPl X c to) e0 (Fn.gWs X c to) c):=by
 refine ⟨RG X n e0 c fun ns i t=>(Fn.gS X (c-i) t).2=(Fn.gS X c to).2∧ns++(Fn.gS X (c-i) t).1=(Fn.gS X c to).1,c+1,⟨to,hto,.inl ⟨rfl,rfl,hc0,rfl,⟨rfl,rfl⟩⟩⟩,⟨?_⟩⟩
 rintro k sp y ⟨t,ht,h⟩
 rcases h with ⟨rfl,rfl,hc0,rfl,hP,hQ⟩|⟨ns,hl,rfl,rfl,rfl,hP,hQ⟩
 ·obtain ⟨c',rfl⟩:∃ c',c=c'+1:=⟨c-1,by omega⟩
  refine ⟨c'+1,rfl,sG1,?_⟩
  have hP:(Fn.gS X (c'+1) t).2=(Fn.gS X (c'+1) to).2:=hP
  have hQ:(Fn.gS X (c'+1) t).1=(Fn.gS X (c'+1) to).1:=hQ
  by_cases hf:Fn.rF X 0 18446744073709551615 t=0
  ·refine ⟨_,rfl,auA hX hn hb ht (by omega) (.inr rfl) hf,.inl ⟨rfl,_,by rw [hn];exact mP hX hf,.inr ⟨[Fn.rN X 0 18446744073709551615 t],by simp,rfl,rfl,by simp,?_⟩⟩⟩
   rw [Xh hf] at hP hQ
   show (Fn.gS X (c'+1-1) _).2=_∧_++(Fn.gS X (c'+1-1) _).1=_
   rw [qat]
   exact ⟨hP,hQ⟩
  ·have:=XU (r:=c') hf
   rw [this] at hP
   exact absurd (show Fn.rF X 0 18446744073709551615 t=0 from (congrArg (fun q=>q.2) hP).trans he) hf
 ·refine ⟨c-ns.length,rfl,sG1,?_⟩
  by_cases hi:ns.length<c
  ·obtain ⟨r,hr⟩:∃ r,c-ns.length=r+1:=⟨c-ns.length-1,by omega⟩
   rw [hr] at hP hQ
   by_cases hf:Fn.rF X 0 18446744073709551615 t=0
   ·refine ⟨_,rfl,awX hX hn hb ht hc (.inr rfl) hf hi,.inl ⟨rfl,_,by rw [hn];exact mP hX hf,.inr ⟨ns++[Fn.rN X 0 18446744073709551615 t],by simp;omega,rfl,by simp,by simp;omega,?_⟩⟩⟩
    rw [Xh hf] at hP hQ
    show (Fn.gS X (c-(ns++[_]).length) _).2=_∧(ns++[_])++(Fn.gS X (c-(ns++[_]).length) _).1=_
    rw [show c-(ns++[Fn.rN X 0 18446744073709551615 t]).length=r by simp;omega]
    exact ⟨hP,by rw [qav];exact hQ⟩
   ·have:=XU (r:=r) hf
    rw [this] at hP
    exact absurd (show Fn.rF X 0 18446744073709551615 t=0 from (congrArg (fun q=>q.2) hP).trans he) hf
  ·have hi:ns.length=c:=by omega
   rw [show c-ns.length=0 by omega] at hP hQ
   refine ⟨_,rfl,aud hX hn hb ht hc hi,.inr ⟨fun h=>(by cases h),?_⟩⟩
   have e1:Fn.gPl X c to=t:=by unfold Fn.gPl;rw [←hP];rfl
   have e2:Fn.gWs X c to=wL ns:=by
    unfold Fn.gWs
    rw [←hQ]
    show wL (ns++[])=_
    rw [qaq]
   rw [e1,e2]
def RJ (X:List Value)(n:Nat)(e0 a:Int)(c:Nat)(P:List Nat→Nat→Nat→Prop)(F:Nat→Nat→Int→Prop)(k:Nat)(sp:bM)(y:bg):Prop:=
 (∃ to,to≤n∧((sp=tG0∧y=jG0 X n to 0 a e0 c 0∧0<c∧k=c+2∧P [] 0 to)∨(∃ ns,ns.length≤c∧sp=tG1∧y=jG1 X n to 0 a e0 (wL ns) ns.length c ns.length∧k=c-ns.length+2∧P ns ns.length to)))∨
 (∃ to e a' L l i,sp=tG1∧y=jG1 X n to (qac e) a' e0 L l c i∧0<k∧F to e a')
theorem arN {X:List Value}{n to:Nat}{e0 a:Int}{c:Nat}(hX:allB X=true)(hn:n=X.length)(hb:X.length≤4096)(hto:to≤n)(hc:c≤100000)(he:Fn.gEr X c to≠0) :
  ∃ R k,R k tG0 (jG0 X n to 0 a e0 c 0)∧rC Tryz.prog C7 KM 20 17 (fU C7 17 6) 70 R (.exit 0) eRF (oJF X n (Fn.rT X 0 18446744073709551615 (Fn.gPl X c to)) (qac (Fn.gEg X c to)) (qaa (Fn.gPl X c to))):=by
 have hc0:0<c:=by
  cases c with
  |zero=>exact absurd rfl he
  |succ c=>omega
 refine ⟨RJ X n e0 a c (fun ns i t=>(Fn.gS X (c-i) t).2=(Fn.gS X c to).2) (fun t e b=>t=Fn.rT X 0 18446744073709551615 (Fn.gPl X c to)∧e=Fn.gEg X c to∧b=qaa (Fn.gPl X c to)),c+2,.inl ⟨to,hto,.inl ⟨rfl,rfl,hc0,rfl,rfl⟩⟩,⟨?_⟩⟩
 rintro k sp y (⟨t,ht,h⟩|⟨t,e,b,L,l,i,rfl,rfl,hk,rfl,rfl,rfl⟩)
 ·rcases h with ⟨rfl,rfl,hc0,rfl,hP⟩|⟨ns,hl,rfl,rfl,rfl,hP⟩
  ·obtain ⟨c',rfl⟩:∃ c',c=c'+1:=⟨c-1,by omega⟩
   refine ⟨c'+2,rfl,tG1,?_⟩
   have hP:(Fn.gS X (c'+1) t).2=(Fn.gS X (c'+1) to).2:=hP
   by_cases hf:Fn.rF X 0 18446744073709551615 t=0
   ·refine ⟨_,rfl,aup hX hn hb ht (by omega) (.inl rfl) hf,.inl ⟨rfl,.inl ⟨_,by rw [hn];exact mP hX hf,.inr ⟨[Fn.rN X 0 18446744073709551615 t],by simp,rfl,rfl,by simp,?_⟩⟩⟩⟩
    rw [Xh hf] at hP
    show (Fn.gS X (c'+1-1) _).2=_
    rw [qat]
    exact hP
   ·have:=XU (r:=c') hf
    rw [this] at hP
    have e1:Fn.gPl X (c'+1) to=t:=by unfold Fn.gPl;rw [←hP]
    have e2:Fn.gEg X (c'+1) to=Fn.rG X 0 18446744073709551615 t:=by unfold Fn.gEg Fn.gEr Fn.rG;rw [←hP]
    refine ⟨_,rfl,axb hX hn hb ht (by omega) hf,.inl ⟨rfl,.inr ⟨_,_,_,_,_,_,rfl,rfl,by omega,by rw [e1],by rw [e2],by rw [e1]⟩⟩⟩
  ·refine ⟨c-ns.length+1,rfl,tG1,?_⟩
   by_cases hi:ns.length<c
   ·obtain ⟨r,hr⟩:∃ r,c-ns.length=r+1:=⟨c-ns.length-1,by omega⟩
    rw [hr] at hP
    by_cases hf:Fn.rF X 0 18446744073709551615 t=0
    ·refine ⟨_,rfl,auN hX hn hb ht hc (.inl rfl) hf hi,.inl ⟨rfl,.inl ⟨_,by rw [hn];exact mP hX hf,.inr ⟨ns++[Fn.rN X 0 18446744073709551615 t],by simp;omega,rfl,by simp,by simp;omega,?_⟩⟩⟩⟩
     rw [Xh hf] at hP
     show (Fn.gS X (c-(ns++[_]).length) _).2=_
     rw [show c-(ns++[Fn.rN X 0 18446744073709551615 t]).length=r by simp;omega]
     exact hP
    ·have:=XU (r:=r) hf
     rw [this] at hP
     have e1:Fn.gPl X c to=t:=by unfold Fn.gPl;rw [←hP]
     have e2:Fn.gEg X c to=Fn.rG X 0 18446744073709551615 t:=by unfold Fn.gEg Fn.gEr Fn.rG;rw [←hP]
     refine ⟨_,rfl,auS hX hn hb ht hc hf hi,.inl ⟨rfl,.inr ⟨_,_,_,_,_,_,rfl,rfl,by omega,by rw [e1],by rw [e2],by rw [e1]⟩⟩⟩
   ·exfalso
    rw [show c-ns.length=0 by omega] at hP
    exact he (show (Fn.gS X c to).2.2=0 by rw [←hP];rfl)
 ·exact ⟨k-1,by omega,tG1,_,rfl,aBo hX,.inr ⟨fun h=>(by cases h),rfl⟩⟩
theorem asC {X:List Value}{n to:Nat}{e0 a:Int}{c:Nat}(hX:allB X=true)(hn:n=X.length)(hb:X.length≤4096)(hto:to≤n)(hc:c≤100000)(hc0:0<c)(he:Fn.gEr X c to=0) :
  ∃ R k,R k tG0 (jG0 X n to 0 a e0 c 0)∧rC Tryz.prog C7 KM 20 17 (fU C7 17 6) 70 R (.exit 0) eG1 (oJK X n (Fn.gPl X c to) a e0 (Fn.gWs X c to) c):=by
 refine ⟨RJ X n e0 a c (fun ns i t=>(Fn.gS X (c-i) t).2=(Fn.gS X c to).2∧ns++(Fn.gS X (c-i) t).1=(Fn.gS X c to).1) (fun _ _ _=>False),c+2,.inl ⟨to,hto,.inl ⟨rfl,rfl,hc0,rfl,⟨rfl,rfl⟩⟩⟩,⟨?_⟩⟩
 rintro k sp y (⟨t,ht,h⟩|⟨t,e,b,L,l,i,rfl,rfl,hk,hF⟩)
 ·rcases h with ⟨rfl,rfl,hc0,rfl,hP,hQ⟩|⟨ns,hl,rfl,rfl,rfl,hP,hQ⟩
  ·obtain ⟨c',rfl⟩:∃ c',c=c'+1:=⟨c-1,by omega⟩
   refine ⟨c'+2,rfl,tG1,?_⟩
   have hP:(Fn.gS X (c'+1) t).2=(Fn.gS X (c'+1) to).2:=hP
   have hQ:(Fn.gS X (c'+1) t).1=(Fn.gS X (c'+1) to).1:=hQ
   by_cases hf:Fn.rF X 0 18446744073709551615 t=0
   ·refine ⟨_,rfl,aup hX hn hb ht (by omega) (.inr rfl) hf,.inl ⟨rfl,.inl ⟨_,by rw [hn];exact mP hX hf,.inr ⟨[Fn.rN X 0 18446744073709551615 t],by simp,rfl,rfl,by simp,?_⟩⟩⟩⟩
    rw [Xh hf] at hP hQ
    show (Fn.gS X (c'+1-1) _).2=_∧_++(Fn.gS X (c'+1-1) _).1=_
    rw [qat]
    exact ⟨hP,hQ⟩
   ·have:=XU (r:=c') hf
    rw [this] at hP
    exact absurd (show Fn.rF X 0 18446744073709551615 t=0 from (congrArg (fun q=>q.2) hP).trans he) hf
  ·refine ⟨c-ns.length+1,rfl,tG1,?_⟩
   by_cases hi:ns.length<c
   ·obtain ⟨r,hr⟩:∃ r,c-ns.length=r+1:=⟨c-ns.length-1,by omega⟩
    rw [hr] at hP hQ
    by_cases hf:Fn.rF X 0 18446744073709551615 t=0
    ·refine ⟨_,rfl,auN hX hn hb ht hc (.inr rfl) hf hi,.inl ⟨rfl,.inl ⟨_,by rw [hn];exact mP hX hf,.inr ⟨ns++[Fn.rN X 0 18446744073709551615 t],by simp;omega,rfl,by simp,by simp;omega,?_⟩⟩⟩⟩
     rw [Xh hf] at hP hQ
     show (Fn.gS X (c-(ns++[_]).length) _).2=_∧(ns++[_])++(Fn.gS X (c-(ns++[_]).length) _).1=_
     rw [show c-(ns++[Fn.rN X 0 18446744073709551615 t]).length=r by simp;omega]
     exact ⟨hP,by rw [qav];exact hQ⟩
    ·have:=XU (r:=r) hf
     rw [this] at hP
     exact absurd (show Fn.rF X 0 18446744073709551615 t=0 from (congrArg (fun q=>q.2) hP).trans he) hf
   ·have hi:ns.length=c:=by omega
    rw [show c-ns.length=0 by omega] at hP hQ
    refine ⟨_,rfl,ava hX hn hb ht hc hi,.inr ⟨fun h=>(by cases h),?_⟩⟩
    have e1:Fn.gPl X c to=t:=by unfold Fn.gPl;rw [←hP];rfl
    have e2:Fn.gWs X c to=wL ns:=by
     unfold Fn.gWs
     rw [←hQ]
     show wL (ns++[])=_
     rw [qaq]
    rw [e1,e2]
 ·exact hF.elim
abbrev LT:=Tree (Ex × bM × bg)
def ayj {R:Type}(l m:List Value)(k:Tree R):Tree R:=KR (Iu (Y4 4) l m) k
theorem Zf {R:Type}{l m:List Value}{k:Tree R}{r:R}(h:(ayj l m k).run=some r):l=m∧k.run=some r:=by
 obtain ⟨h1,h2⟩:=gu h
 exact ⟨yB (fun a b=>EX 4) h1,h2⟩
def ash (l:List Value)(k:Nat→LT):LT:=
 dh l fun a l=>afT 64 a (dh l fun b l=>afT 65 b (dh l fun c l=>afT 68 c (dh l fun d l=>afT 69 d (dh l fun x l=>Ey .i64 x fun c=>dh l fun y l=>Ey .i64 y fun i=>zq l (KR (qaf i 0) (k c))))))
theorem SA {l:List Value}{k:Nat→LT}{r:Ex × bM × bg}(h:(ash l k).run=some r):∃ c,l=[pt 64,pt 65,pt 68,pt 69,iN c,iN 0]∧(k c).run=some r:=by
 obtain ⟨v1,l1,hl,z0⟩:=aB h
 obtain ⟨rfl,z1⟩:=lD z0
 obtain ⟨v2,l2,rfl,z2⟩:=aB (l:=l1) z1
 obtain ⟨rfl,z3⟩:=lD z2
 obtain ⟨v3,l3,rfl,z4⟩:=aB (l:=l2) z3
 obtain ⟨rfl,z5⟩:=lD z4
 obtain ⟨v4,l4,rfl,z6⟩:=aB (l:=l3) z5
 obtain ⟨rfl,z7⟩:=lD z6
 obtain ⟨v5,l5,rfl,z8⟩:=aB (l:=l4) z7
 obtain ⟨c,rfl,z9⟩:=dK z8
 obtain ⟨v6,l6,rfl,z10⟩:=aB (l:=l5) z9
 obtain ⟨i,rfl,z11⟩:=dK z10
 obtain ⟨rfl,z12⟩:=bW z11
 obtain ⟨hi,z13⟩:=gu z12
 have hi:i=0:=qab hi
 subst hi
 exact ⟨c,hl,z13⟩
def ai2 (tR:TypeId)(l:List (Nat × Row))(k:List Value→List Value→Int→LT):LT:=
 dh l fun q1 l=>CV 64 tAn 0 q1 fun z1=>ayj z1 [.int .i64 0,.slice none 0 0] (dh l fun q2 l=>CV 65 tFa 0 q2 fun z2=>ayj z2 [.int .i64 0,.int .i64 0] (dh l fun q3 l=>CV 67 tB 67 q3 fun X=>
  dh l fun q4 l=>CV 68 tR 0 q4 fun rd=>dh l fun q5 l=>CV 69 tAn 0 q5 fun z5=>zq l (dh z5 fun a l=>asJ .i64 a fun e0=>dh l fun b l=>awS b (zq l (k X rd e0)))))
theorem OE {tR:TypeId}{l:List (Nat × Row)}{k:List Value→List Value→Int→LT}{r:Ex × bM × bg}(w0:(ai2 tR l k).run=some r) :
  ∃ X rd e0,l=[(64,.row [.int .i64 0,.slice none 0 0] tAn 0),(65,.row [.int .i64 0,.int .i64 0] tFa 0),(67,.row X tB 67),(68,.row rd tR 0),(69,.row [.int .i64 e0,.slice none 0 0] tAn 0)]∧(k X rd e0).run=some r:=by
 obtain ⟨q1,l1,hl,w1⟩:=aB w0
 obtain ⟨z1,rfl,w2⟩:=dF (p:=q1) w1
 obtain ⟨rfl,w3⟩:=Zf w2
 obtain ⟨q2,l2,rfl,w4⟩:=aB (l:=l1) w3
 obtain ⟨z2,rfl,w5⟩:=dF (p:=q2) w4
 obtain ⟨rfl,w6⟩:=Zf w5
 obtain ⟨q3,l3,rfl,w7⟩:=aB (l:=l2) w6
 obtain ⟨X,rfl,w8⟩:=dF (p:=q3) w7
 obtain ⟨q4,l4,rfl,w9⟩:=aB (l:=l3) w8
 obtain ⟨rd,rfl,w10⟩:=dF (p:=q4) w9
 obtain ⟨q5,l5,rfl,w11⟩:=aB (l:=l4) w10
 obtain ⟨z5,rfl,w12⟩:=dF (p:=q5) w11
 obtain ⟨rfl,w13⟩:=bW w12
 obtain ⟨a,m1,rfl,w14⟩:=aB (l:=z5) w13
 obtain ⟨e0,rfl,w15⟩:=BA w14
 obtain ⟨b,m2,rfl,w16⟩:=aB (l:=m1) w15
 obtain ⟨rfl,w17⟩:=Oq w16
 obtain ⟨rfl,w18⟩:=bW w17
 exact ⟨X,rd,e0,hl,w18⟩
def azm (X:List Value)(n to c:Nat):Bool:=Fn.okR X n to&&(qau n 4096&&qau c 100000)
theorem XP {X:List Value}{n to c:Nat}(h:azm X n to c=true):allB X=true∧n=X.length∧X.length≤4096∧to≤n∧c≤100000:=by
 unfold azm at h
 simp only [qad] at h
 obtain ⟨h1,h2,h3⟩:=h
 obtain ⟨g1,g2,g3,g4⟩:=qV h1
 have h2:=qae h2
 exact ⟨g1,g2,by omega,g4,qae h3⟩
namespace Fn
def okG (X:List Value)(n to c:Nat):Bool:=Ax.azm X n to c
end Fn
def aAL (o:bg):LT:=ash o.vals fun c=>ai2 tRd o.rows fun X rd e0=>dh rd fun a1 l=>pSl 67 aC a1 fun n=>dh l fun a2 l=>Ey .i64 a2 fun to=>dh l fun a3 l=>pTrue a3 (dh l fun a4 l=>amJ a4 (zq l (
 bU (Fn.okG X n to c) (.test (qaf c 0) (.leaf (.exit 0,eG0,oG0 X n to e0)) (.test (qaf (Fn.gEr X c to) 0) (.leaf (.exit 0,eG1,oGK X n (Fn.gPl X c to) e0 (Fn.gWs X c to) c)) (.leaf (.exit 0,eGF,oGF X n (Fn.gPl X c to) (fE2 (Fn.gEg X c to)))))))))
def aBj (o:bg):LT:=ash o.vals fun c=>ai2 tRr o.rows fun X rd e0=>dh rd fun a1 l=>pSl 67 aC a1 fun n=>dh l fun a2 l=>Ey .i64 a2 fun to=>dh l fun a3 l=>Ey .i64 a3 fun e=>dh l fun a4 l=>asJ .i64 a4 fun a=>zq l (
 Nat.casesOn (motive:=fun _=>LT) e (bU (Fn.okG X n to c) (.test (qaf c 0) (.leaf (.exit 0,eG0,oJ0 X n to a e0)) (.test (qaf (Fn.gEr X c to) 0) (.leaf (.exit 0,eG1,oJK X n (Fn.gPl X c to) a e0 (Fn.gWs X c to) c)) (.leaf (.exit 0,eRF,oJF X n (Fn.rT X 0 18446744073709551615 (Fn.gPl X c to)) (qac (Fn.gEg X c to)) (qaa (Fn.gPl X c to)))))))
  fun e=>bU (Fn.okX X) (.leaf (.exit 0,eRF,oJF X n to (qac e) a)))
theorem IV {f:FuncId}{body:Code}{sp spe:bM}{y O:bg}{N:Nat}{sn:bM}(hN:sn.N=N)(h:jO KM.plain C7 (runK KM C7 20).1 (runK KM C7 20).2 (C7.vars f) f false body (gJ Tryz.prog (C7.vars f) sn spe) (CX sp.need y) (lQ sp.next y)=some (.exit 0,O)) :
  ∃ R k,R k sp y∧rC Tryz.prog C7 KM 20 f body N R (.exit 0) spe O:=
 ⟨fun k sp' y'=>k=1∧sp'=sp∧y'=y,1,⟨rfl,rfl,rfl⟩,⟨by rintro k sp' y' ⟨rfl,rfl,rfl⟩;exact ⟨0,rfl,sn,_,hN,h,.inr ⟨fun h=>(by cases h),rfl⟩⟩⟩⟩
theorem alK:∀ o e spe O,(aAL o).run=some (e,spe,O)→spe.N=sG0.N∧∃ R k,R k sG0 o∧rC Tryz.prog C7 KM 20 16 (fU C7 16 5) sG0.N R e spe O:=by
 rintro ⟨vals,rows⟩ e spe O w0
 obtain ⟨c,hv,w1⟩:=SA w0
 obtain ⟨X,rd,e0,hr,w2⟩:=OE w1
 obtain ⟨a1,l1,rfl,w3⟩:=aB (l:=rd) w2
 obtain ⟨n,rfl,w4⟩:=jQ w3
 obtain ⟨a2,l2,rfl,w5⟩:=aB (l:=l1) w4
 obtain ⟨to,rfl,w6⟩:=dK w5
 obtain ⟨a3,l3,rfl,w7⟩:=aB (l:=l2) w6
 obtain ⟨rfl,w8⟩:=uy w7
 obtain ⟨a4,l4,rfl,w9⟩:=aB (l:=l3) w8
 obtain ⟨rfl,w10⟩:=RP w9
 obtain ⟨rfl,w11⟩:=bW w10
 obtain ⟨hk,w12⟩:=aJ w11
 obtain ⟨hX,hn,hb,hto,hc⟩:=XP hk
 have hv:vals=_:=hv
 have hr:rows=_:=hr
 subst hv hr
 have w13:sel (qaf c 0) (some (.exit 0,eG0,oG0 X n to e0)) (sel (qaf (Fn.gEr X c to) 0) (some (.exit 0,eG1,oGK X n (Fn.gPl X c to) e0 (Fn.gWs X c to) c)) (some (.exit 0,eGF,oGF X n (Fn.gPl X c to) (fE2 (Fn.gEg X c to)))))=some (e,spe,O):=w12
 rw [aG,aG] at w13
 split at w13
 ·rename_i h0
  have h0:c=0:=qab h0
  subst h0
  cases w13
  exact ⟨rfl,IV (sn:=sG1) rfl (av4 hX hn hb hto hc)⟩
 ·rename_i h0
  have h0:0<c:=qaA fun h=>h0 (kC h)
  split at w13
  ·rename_i h1
   cases w13
   exact ⟨rfl,ate hX hn hb hto hc h0 (qab h1)⟩
  ·rename_i h1
   cases w13
   exact ⟨rfl,ar4 hX hn hb hto hc fun h=>h1 (kC h)⟩
theorem als:∀ o e spe O,(aBj o).run=some (e,spe,O)→spe.N=tG0.N∧∃ R k,R k tG0 o∧rC Tryz.prog C7 KM 20 17 (fU C7 17 6) tG0.N R e spe O:=by
 rintro ⟨vals,rows⟩ ex spe O w0
 obtain ⟨c,hv,w1⟩:=SA w0
 obtain ⟨X,rd,e0,hr,w2⟩:=OE w1
 obtain ⟨a1,l1,rfl,w3⟩:=aB (l:=rd) w2
 obtain ⟨n,rfl,w4⟩:=jQ w3
 obtain ⟨a2,l2,rfl,w5⟩:=aB (l:=l1) w4
 obtain ⟨to,rfl,w6⟩:=dK w5
 obtain ⟨a3,l3,rfl,w7⟩:=aB (l:=l2) w6
 obtain ⟨e,rfl,w8⟩:=dK w7
 obtain ⟨a4,l4,rfl,w9⟩:=aB (l:=l3) w8
 obtain ⟨a,rfl,w10⟩:=BA w9
 obtain ⟨rfl,w11⟩:=bW w10
 have hv:vals=_:=hv
 have hr:rows=_:=hr
 subst hv hr
 cases e with
 |succ e=>
  obtain ⟨hX,w12⟩:=aJ w11
  cases w12
  exact ⟨rfl,IV (sn:=tG1) rfl (aBX hX)⟩
 |zero=>
  obtain ⟨hk,w12⟩:=aJ w11
  obtain ⟨hX,hn,hb,hto,hc⟩:=XP hk
  have w13:sel (qaf c 0) (some (.exit 0,eG0,oJ0 X n to a e0)) (sel (qaf (Fn.gEr X c to) 0) (some (.exit 0,eG1,oJK X n (Fn.gPl X c to) a e0 (Fn.gWs X c to) c)) (some (.exit 0,eRF,oJF X n (Fn.rT X 0 18446744073709551615 (Fn.gPl X c to)) (qac (Fn.gEg X c to)) (qaa (Fn.gPl X c to)))))=some (ex,spe,O):=w12
  rw [aG,aG] at w13
  split at w13
  ·rename_i h0
   have h0:c=0:=qab h0
   subst h0
   cases w13
   exact ⟨rfl,IV (sn:=tG1) rfl (awm hX hn hb hto hc)⟩
  ·rename_i h0
   have h0:0<c:=qaA fun h=>h0 (kC h)
   split at w13
   ·rename_i h1
    cases w13
    exact ⟨rfl,asC hX hn hb hto hc h0 (qab h1)⟩
   ·rename_i h1
    cases w13
    exact ⟨rfl,arN hX hn hb hto hc fun h=>h1 (kC h)⟩
def ahM:List (Nat × Nat × PW):=[(16,5,wP Tryz.prog (CB.vars 16) sG0 aAL),(17,6,wP Tryz.prog (CB.vars 17) tG0 aBj)]
def C8:Cfg:={ CB with ext:=fQ [],insert:=fQ ato,MQ:=TR ahM }
theorem oneG:qaf (aQ (vG C7 16 5)) 1=true:=by kernel_rfl
theorem aBZ:qaf (aQ (vG C7 17 6)) 1=true:=by kernel_rfl
theorem anM:∀ fn c body,C8.body fn=some c→PartOf c (.loop body)→uX Tryz.prog C8 fn body:=by
 refine Tf (L:=ahM) rfl fun q hq=>?_
 rcases List.mem_cons.1 hq with rfl|hq
 ·exact nP (K:=KM) (C0:=C7) (m:=20) (by decide) bF aT Qo rfl rfl oneG rfl alK
 ·rcases List.mem_cons.1 hq with rfl|hq
  ·exact nP (K:=KM) (C0:=C7) (m:=20) (by decide) bF aT Qo rfl rfl aBZ rfl als
  ·cases hq
theorem auT:eX C8 Tryz.prog:=abm (ext:=fQ []) (ins:=fQ ato) (lf:=TR ahM) rfl (fun f t h=>eu.to agT rfl f t h) (fun f e h=>by cases h) anM
end
end Go.Ax
namespace Go.Ax
open Go Go.Proofs
noncomputable section
def aez (m:Nat):=(qag 0 m.succ).ble 281474976710656&&(((qas 2 (qag 0 m.succ)).add 768).mul 1).ble 281474976710656&&true&&true
def YX:Value:=.int .i64 (qaa 4)
def aer (X:List Value)(m:Nat):Value:=.int .i64 (qaa (Fn.rN (aK [] (aA (m.succ.mul 1) X)) 0 99 0))
def adi (X:List Value)(m:Nat):Option cO:=some { val:=[.agg [.flat (aer X m),.flat (.slice none 0 0)],.agg [.flat (.int .i64 0),.flat (.int .i64 0)]],rows:=[] }
def acX (X:List Value)(m:Nat):Value:=.int .i64 (qaa (Fn.gPl (aK [] (aA (m.succ.mul 1) X)) (Fn.rN (aK [] (aA (m.succ.mul 1) X)) 0 100000 (Fn.rP (aK [] (aA (m.succ.mul 1) X)) 0 99 0)) (Fn.rP (aK [] (aA (m.succ.mul 1) X)) 0 100000 (Fn.rP (aK [] (aA (m.succ.mul 1) X)) 0 99 0))))
def acF (X:List Value)(m:Nat):Option cO:=sel (Fn.okG (aK [] (aA (m.succ.mul 1) X)) (qag 0 m.succ) (Fn.rP (aK [] (aA (m.succ.mul 1) X)) 0 100000 (Fn.rP (aK [] (aA (m.succ.mul 1) X)) 0 99 0)) (Fn.rN (aK [] (aA (m.succ.mul 1) X)) 0 100000 (Fn.rP (aK [] (aA (m.succ.mul 1) X)) 0 99 0))) (sel ((Fn.rN (aK [] (aA (m.succ.mul 1) X)) 0 100000 (Fn.rP (aK [] (aA (m.succ.mul 1) X)) 0 99 0)).beq 0) (sel (Fn.okX (aK [] (aA (m.succ.mul 1) X))) (sel (ltN (Fn.rP (aK [] (aA (m.succ.mul 1) X)) 0 100000 (Fn.rP (aK [] (aA (m.succ.mul 1) X)) 0 99 0)) (qag 0 m.succ)) (sel (sel (false||true&&sel (true&&eqI (qaa (Fn.rP (aK [] (aA (m.succ.mul 1) X)) 0 100000 (Fn.rP (aK [] (aA (m.succ.mul 1) X)) 0 99 0))) (qaa (Fn.rP (aK [] (aA (m.succ.mul 1) X)) 0 100000 (Fn.rP (aK [] (aA (m.succ.mul 1) X)) 0 99 0)))) true false) true false&&true) (some { val:=[.agg [.flat (.int .i64 0),.flat (.slice none 0 0)],.agg [.flat YX,.flat (.int .i64 (qaa (Fn.rP (aK [] (aA (m.succ.mul 1) X)) 0 100000 (Fn.rP (aK [] (aA (m.succ.mul 1) X)) 0 99 0))))]],rows:=[] }) none) (adi X m)) none) (sel ((Fn.gEr (aK [] (aA (m.succ.mul 1) X)) (Fn.rN (aK [] (aA (m.succ.mul 1) X)) 0 100000 (Fn.rP (aK [] (aA (m.succ.mul 1) X)) 0 99 0)) (Fn.rP (aK [] (aA (m.succ.mul 1) X)) 0 100000 (Fn.rP (aK [] (aA (m.succ.mul 1) X)) 0 99 0))).beq 0) (sel (Fn.okX (aK [] (aA (m.succ.mul 1) X))) (sel (ltN (Fn.gPl (aK [] (aA (m.succ.mul 1) X)) (Fn.rN (aK [] (aA (m.succ.mul 1) X)) 0 100000 (Fn.rP (aK [] (aA (m.succ.mul 1) X)) 0 99 0)) (Fn.rP (aK [] (aA (m.succ.mul 1) X)) 0 100000 (Fn.rP (aK [] (aA (m.succ.mul 1) X)) 0 99 0))) (qag 0 m.succ)) (sel (sel (false||true&&sel (true&&eqI (qaa (Fn.gPl (aK [] (aA (m.succ.mul 1) X)) (Fn.rN (aK [] (aA (m.succ.mul 1) X)) 0 100000 (Fn.rP (aK [] (aA (m.succ.mul 1) X)) 0 99 0)) (Fn.rP (aK [] (aA (m.succ.mul 1) X)) 0 100000 (Fn.rP (aK [] (aA (m.succ.mul 1) X)) 0 99 0)))) (qaa (Fn.gPl (aK [] (aA (m.succ.mul 1) X)) (Fn.rN (aK [] (aA (m.succ.mul 1) X)) 0 100000 (Fn.rP (aK [] (aA (m.succ.mul 1) X)) 0 99 0)) (Fn.rP (aK [] (aA (m.succ.mul 1) X)) 0 100000 (Fn.rP (aK [] (aA (m.succ.mul 1) X)) 0 99 0))))) true false) true false&&true) (some { val:=[.agg [.flat (.int .i64 0),.flat (.slice none 0 0)],.agg [.flat YX,.flat (acX X m)]],rows:=[] }) none) (some { val:=[.agg [.flat (aer X m),.sl 0 (Fn.rN (aK [] (aA (m.succ.mul 1) X)) 0 100000 (Fn.rP (aK [] (aA (m.succ.mul 1) X)) 0 99 0))],.agg [.flat (.int .i64 0),.flat (.int .i64 0)]],rows:=[(Fn.gWs (aK [] (aA (m.succ.mul 1) X)) (Fn.rN (aK [] (aA (m.succ.mul 1) X)) 0 100000 (Fn.rP (aK [] (aA (m.succ.mul 1) X)) 0 99 0)) (Fn.rP (aK [] (aA (m.succ.mul 1) X)) 0 100000 (Fn.rP (aK [] (aA (m.succ.mul 1) X)) 0 99 0)),45)] })) none) (sel (Fn.okX (aK [] (aA (m.succ.mul 1) X))) (sel (sel (false||true&&sel (true&&eqI (qaa (Fn.gEg (aK [] (aA (m.succ.mul 1) X)) (Fn.rN (aK [] (aA (m.succ.mul 1) X)) 0 100000 (Fn.rP (aK [] (aA (m.succ.mul 1) X)) 0 99 0)) (Fn.rP (aK [] (aA (m.succ.mul 1) X)) 0 100000 (Fn.rP (aK [] (aA (m.succ.mul 1) X)) 0 99 0))).succ) (qaa (Fn.gEg (aK [] (aA (m.succ.mul 1) X)) (Fn.rN (aK [] (aA (m.succ.mul 1) X)) 0 100000 (Fn.rP (aK [] (aA (m.succ.mul 1) X)) 0 99 0)) (Fn.rP (aK [] (aA (m.succ.mul 1) X)) 0 100000 (Fn.rP (aK [] (aA (m.succ.mul 1) X)) 0 99 0))).succ)) (sel (true&&eqI (qaa (Fn.gPl (aK [] (aA (m.succ.mul 1) X)) (Fn.rN (aK [] (aA (m.succ.mul 1) X)) 0 100000 (Fn.rP (aK [] (aA (m.succ.mul 1) X)) 0 99 0)) (Fn.rP (aK [] (aA (m.succ.mul 1) X)) 0 100000 (Fn.rP (aK [] (aA (m.succ.mul 1) X)) 0 99 0)))) (qaa (Fn.gPl (aK [] (aA (m.succ.mul 1) X)) (Fn.rN (aK [] (aA (m.succ.mul 1) X)) 0 100000 (Fn.rP (aK [] (aA (m.succ.mul 1) X)) 0 99 0)) (Fn.rP (aK [] (aA (m.succ.mul 1) X)) 0 100000 (Fn.rP (aK [] (aA (m.succ.mul 1) X)) 0 99 0))))) true false) false) true false&&true) (some { val:=[.agg [.flat (.int .i64 0),.flat (.slice none 0 0)],.agg [.flat (.int .i64 (qaa (Fn.gEg (aK [] (aA (m.succ.mul 1) X)) (Fn.rN (aK [] (aA (m.succ.mul 1) X)) 0 100000 (Fn.rP (aK [] (aA (m.succ.mul 1) X)) 0 99 0)) (Fn.rP (aK [] (aA (m.succ.mul 1) X)) 0 100000 (Fn.rP (aK [] (aA (m.succ.mul 1) X)) 0 99 0))).succ)),.flat (acX X m)]],rows:=[] }) none) none))) none
def aeu (X:List Value)(m:Nat):Value:=.int .i64 (qaa (Fn.rP (aK [] (aA (m.succ.mul 1) X)) 0 99 0))
def aeC (X:List Value)(m:Nat):Option cO:=sel (Fn.okX (aK [] (aA (m.succ.mul 1) X))) (sel (sel (false||true&&sel (true&&eqI (qaa (Fn.rG (aK [] (aA (m.succ.mul 1) X)) 0 100000 (Fn.rP (aK [] (aA (m.succ.mul 1) X)) 0 99 0)).succ) (qaa (Fn.rG (aK [] (aA (m.succ.mul 1) X)) 0 100000 (Fn.rP (aK [] (aA (m.succ.mul 1) X)) 0 99 0)).succ)) (sel (true&&eqI (qaa (Fn.rP (aK [] (aA (m.succ.mul 1) X)) 0 99 0)) (qaa (Fn.rP (aK [] (aA (m.succ.mul 1) X)) 0 99 0))) true false) false) true false&&true) (some { val:=[.agg [.flat (.int .i64 0),.flat (.slice none 0 0)],.agg [.flat (.int .i64 (qaa (Fn.rG (aK [] (aA (m.succ.mul 1) X)) 0 100000 (Fn.rP (aK [] (aA (m.succ.mul 1) X)) 0 99 0)).succ)),.flat (aeu X m)]],rows:=[] }) none) none
def acs (X:List Value)(m:Nat):Option cO:=sel (Fn.okX (aK [] (aA (m.succ.mul 1) X))) (sel (ltN (Fn.rP (aK [] (aA (m.succ.mul 1) X)) 0 99 0) (qag 0 m.succ)) (sel (sel (false||true&&sel (true&&eqI (qaa (Fn.rP (aK [] (aA (m.succ.mul 1) X)) 0 99 0)) (qaa (Fn.rP (aK [] (aA (m.succ.mul 1) X)) 0 99 0))) true false) true false&&true) (some { val:=[.agg [.flat (.int .i64 0),.flat (.slice none 0 0)],.agg [.flat YX,.flat (aeu X m)]],rows:=[] }) none) (adi X m)) none
def acY (X:List Value)(m:Nat):Option cO:=sel (Fn.okX (aK [] (aA (m.succ.mul 1) X))) (sel (sel (false||true&&sel (true&&eqI (qaa (Fn.rG (aK [] (aA (m.succ.mul 1) X)) 0 99 0).succ) (qaa (Fn.rG (aK [] (aA (m.succ.mul 1) X)) 0 99 0).succ)) true false) true false&&true) (some { val:=[.agg [.flat (.int .i64 0),.flat (.slice none 0 0)],.agg [.flat (.int .i64 (qaa (Fn.rG (aK [] (aA (m.succ.mul 1) X)) 0 99 0).succ)),.flat (.int .i64 (qaa 0))]],rows:=[] }) none) none
theorem aBW (X:List Value)(m:Nat):(runK KM C8 40).1 16 [.slice (some ⟨32,0,none⟩) (qac m) aC] (aH [.one (.sl X 5 (qac m))]) (bP Tryz.prog)=sel ((m.succ.mul 1).ble (aQ X)) (sel (aez m) (sel (Fn.okR (aK [] (aA (m.succ.mul 1) X)) (qag 0 m.succ) 0) (sel ((Fn.rF (aK [] (aA (m.succ.mul 1) X)) 0 99 0).beq 0) (sel (eqI (qaa (Fn.rN (aK [] (aA (m.succ.mul 1) X)) 0 99 0)) 0) (sel (Fn.okR (aK [] (aA (m.succ.mul 1) X)) (qag 0 m.succ) (Fn.rP (aK [] (aA (m.succ.mul 1) X)) 0 99 0)) (sel ((Fn.rF (aK [] (aA (m.succ.mul 1) X)) 0 100000 (Fn.rP (aK [] (aA (m.succ.mul 1) X)) 0 99 0)).beq 0) (sel (List.rec true (fun v x ih=>sel (aX sG0.N v) ih false) (aK [] (aA (m.succ.mul 1) X))) (acF X m) none) (aeC X m)) none) (acs X m)) (sel (Fn.okX (aK [] (aA (m.succ.mul 1) X))) (acY X m) none)) none) none) none:=by kernel_rfl
theorem aA5 (X:List Value)(m:Nat):(runK KM C8 40).1 17 [.slice (some ⟨32,0,none⟩) (qac m) aC] (aH [.one (.sl X 5 (qac m))]) (bP Tryz.prog)=sel ((m.succ.mul 1).ble (aQ X)) (sel (aez m) (sel (Fn.okR (aK [] (aA (m.succ.mul 1) X)) (qag 0 m.succ) 0) (sel ((Fn.rF (aK [] (aA (m.succ.mul 1) X)) 0 99 0).beq 0) (sel (eqI (qaa (Fn.rN (aK [] (aA (m.succ.mul 1) X)) 0 99 0)) 0) (sel (Fn.okR (aK [] (aA (m.succ.mul 1) X)) (qag 0 m.succ) (Fn.rP (aK [] (aA (m.succ.mul 1) X)) 0 99 0)) (sel ((Fn.rF (aK [] (aA (m.succ.mul 1) X)) 0 100000 (Fn.rP (aK [] (aA (m.succ.mul 1) X)) 0 99 0)).beq 0) (sel (List.rec true (fun v x ih=>sel (aX tG0.N v) ih false) (aK [] (aA (m.succ.mul 1) X))) (acF X m) none) (sel (List.rec true (fun v x ih=>sel (aX tG0.N v) ih false) (aK [] (aA (m.succ.mul 1) X))) (sel (Fn.okX (aK [] (aA (m.succ.mul 1) X))) (aeC X m) none) none)) none) (acs X m)) (acY X m)) none) none) none:=by kernel_rfl
theorem aqN (X:List Value)(m:Nat):type_of% (by have h_:=aA5 X m;unfold acY acs aeC aeu acF acX adi aer YX aez at h_;exact h_):=aA5 X m
namespace Fn
def gZ (X:List Value):Bool:=qaf (gNs X).length 0
def gLn (X:List Value):Nat:=(gNs X).length
def gWw (X:List Value):List Value:=wL (gNs X)
def gTe (X:List Value):Nat:=(gT X).1-1
def gTa (X:List Value):Nat:=(gT X).2
def gTo (X:List Value):Bool:=qaf (gT X).1 0
def qTe (X:List Value):Nat:=(qT X).1-1
def qTa (X:List Value):Nat:=(qT X).2
def qTo (X:List Value):Bool:=qaf (qT X).1 0
def q0 (X:List Value):Nat:=(qQ X).1
def q1 (X:List Value):Nat:=(qQ X).2.1
def q2 (X:List Value):Nat:=(qQ X).2.2.1
def q3 (X:List Value):Nat:=(qQ X).2.2.2.1
def q4 (X:List Value):Nat:=(qQ X).2.2.2.2
end Fn
def aw5 (e:Nat):cO:=⟨[.agg [.flat (iN e),.flat (.slice none 0 0)],.agg [.flat (iN 0),.flat (iN 0)]],[]⟩
def atd (e k:Nat)(L:List Value):cO:=⟨[.agg [.flat (iN e),.sl 0 k],.agg [.flat (iN 0),.flat (iN 0)]],[(L,tW)]⟩
def axr (e a:Nat):cO:=⟨[.agg [.flat (iN 0),.flat (.slice none 0 0)],.agg [.flat (iN e),.flat (iN a)]],[]⟩
def MR (X:List Value):Tree cO:=.test (Fn.gTo X) (.test (Fn.gZ X) (.leaf (aw5 (Fn.Qb X))) (.leaf (atd (Fn.Qb X) (Fn.gLn X) (Fn.gWw X)))) (.leaf (axr (qac (Fn.gTe X)) (Fn.gTa X)))
def qMk (k a v c h:Nat):cO:=⟨[.agg [.flat (iN k),.flat (iN a),.flat (iN v),.flat (iN c),.flat (iN h)],.agg [.flat (iN 0),.flat (iN 0)]],[]⟩
def aAw (e a:Nat):cO:=⟨[.agg [.flat (iN 0),.flat (iN 0),.flat (iN 0),.flat (iN 0),.flat (iN 0)],.agg [.flat (iN e),.flat (iN a)]],[]⟩
def SH (X:List Value):Tree cO:=.test (Fn.qTo X) (.leaf (qMk (Fn.q0 X) (Fn.q1 X) (Fn.q2 X) (Fn.q3 X) (Fn.q4 X))) (.leaf (aAw (qac (Fn.qTe X)) (Fn.qTa X)))
theorem xH {X:List Value}{e p:Nat}(h:Fn.gT X=(e,p))(he:e≠0):(MR X).run=some (axr e p):=by
 show sel (Fn.gTo X) _ (some (axr (qac (Fn.gTe X)) (Fn.gTa X)))=_
 unfold Fn.gTo Fn.gTe Fn.gTa
 rw [h,show qaf (e,p).1 0=false from uq he,show qac ((e,p).1-1)=e by show e-1+1=e;omega]
 rfl
theorem ZB {X:List Value}{e:Nat}(h:Fn.gT X=(0,0))(h1:Fn.Qb X=e)(h2:Fn.gNs X=[]):(MR X).run=some (aw5 e):=by
 show sel (Fn.gTo X) (sel (Fn.gZ X) (some (aw5 (Fn.Qb X))) _) _=_
 unfold Fn.gTo Fn.gZ
 rw [h,h1,h2]
 rfl
theorem ana {X:List Value}{e k:Nat}{ns:List Nat}(h:Fn.gT X=(0,0))(h1:Fn.Qb X=e)(h2:Fn.gNs X=ns)(h3:ns.length=k)(h4:k≠0):(MR X).run=some (atd e k (wL ns)):=by
 show sel (Fn.gTo X) (sel (Fn.gZ X) (some (aw5 (Fn.Qb X))) (some (atd (Fn.Qb X) (Fn.gLn X) (Fn.gWw X)))) _=_
 unfold Fn.gTo Fn.gZ Fn.gLn Fn.gWw
 rw [h,h1,h2,h3,show qaf k 0=false from uq h4]
 rfl
theorem Ii {X:List Value}:(SH X).run=some (Fn.jV X):=by
 show sel (Fn.qTo X) (some (qMk (Fn.q0 X) (Fn.q1 X) (Fn.q2 X) (Fn.q3 X) (Fn.q4 X))) (some (aAw (qac (Fn.qTe X)) (Fn.qTa X)))=_
 unfold Fn.qTo Fn.qTe Fn.qTa Fn.q0 Fn.q1 Fn.q2 Fn.q3 Fn.q4
 by_cases h:(Fn.qT X).1=0
 ·have h2:Fn.qT X=(0,0):=by
   have e:Fn.qT X=Ws X (Fn.qF X).2:=rfl
   unfold Ws at e
   split at e
   ·rename_i h1;rw [e] at h;exact absurd h h1
   ·split at e
    ·rw [e] at h;cases h
    ·exact e
  rw [kC h]
  unfold Fn.jV
  rw [h2]
  rfl
 ·rw [uq h,show qac ((Fn.qT X).1-1)=(Fn.qT X).1 by omega]
  unfold Fn.jV
  rw [apJ h]
  rfl
theorem akW {X:List Value}{p e:Nat}(h:(Fn.gF X).2=(p,e)):Fn.gT X=if e≠0 then (e,p) else if p<X.length then (4,p) else (0,0):=by
 unfold Fn.gT Ws
 rw [h]
theorem abk {X:List Value}(h:Fn.gT X=(0,0)):Fn.Qb X=(Fn.gK X).1∧Fn.gNs X=(Fn.gF X).1:=by
 unfold Fn.Qb Fn.gNs
 rw [h]
 exact ⟨rfl,rfl⟩
theorem apy {X:List Value}{m:Nat}(hX:allB X=true)(hn:m+1=X.length)(hb:X.length≤4096) :
  (runK KM C8 40).1 16 [.slice (some ⟨32,0,none⟩) (qac m) aC] (aH [.one (.sl X tB (qac m))]) (bP Tryz.prog)=(MR X).run∧
  (runK KM C8 40).1 17 [.slice (some ⟨32,0,none⟩) (qac m) aC] (aH [.one (.sl X tB (qac m))]) (bP Tryz.prog)=(MR X).run:=by
 have e1:qag 0 m.succ=X.length:=by show 0+(m+1)=_;omega
 have e2:(m.succ.mul 1).ble (aQ X)=true:=gQ (by rw [aW];show (m+1)*1≤_;omega)
 have e3:X.length.ble 281474976710656=true:=gQ (by omega)
 have e4:(((qas 2 X.length).add 768).mul 1).ble 281474976710656=true:=gQ (by show (2*X.length+768)*1≤_;omega)
 have ex:Fn.okX X=true:=hX
 have o0:=iY hX hb (qah _)
 have hK0:Fn.gK X=rdN X 0 99 (0,0):=rfl
 rw [aBW];unfold acY acs aeC aeu acF acX adi aer YX aez;rw [aqN,Ou hn,e1,e2,e3,e4,o0,ex,oC (N:=sG0.N) hX,oC (N:=tG0.N) hX]
 by_cases h0:Fn.rF X 0 99 0=0
 ·have hp0:=mP hX h0
  have hK:Fn.gK X=(Fn.rN X 0 99 0,(Fn.rP X 0 99 0,0)):=by rw [hK0,Dc h0]
  rw [kC h0,iY hX hb hp0]
  by_cases hv:Fn.rN X 0 99 0=0
  ·have hN0:Fn.gN X=rdN X 0 100000 (Fn.rP X 0 99 0,0):=by
    unfold Fn.gN
    rw [hK,if_neg (by show ¬((0:Nat)≠0∨Fn.rN X 0 99 0≠0);omega)]
   rw [hv,show eqI (qaa 0) 0=true from rfl]
   by_cases h1:Fn.rF X 0 100000 (Fn.rP X 0 99 0)=0
   ·have hp1:=mP hX h1
    have hc:Fn.rN X 0 100000 (Fn.rP X 0 99 0)≤100000:=(CQ hX (Dc h1)).2.1
    have hN:Fn.gN X=(Fn.rN X 0 100000 (Fn.rP X 0 99 0),(Fn.rP X 0 100000 (Fn.rP X 0 99 0),0)):=by rw [hN0,Dc h1]
    have hF:Fn.gF X=Fn.gS X (Fn.rN X 0 100000 (Fn.rP X 0 99 0)) (Fn.rP X 0 100000 (Fn.rP X 0 99 0)):=by unfold Fn.gF;rw [hN];rfl
    rw [kC h1]
    generalize Fn.rN X 0 100000 (Fn.rP X 0 99 0)=c at hc hF
    generalize Fn.rP X 0 100000 (Fn.rP X 0 99 0)=p2 at hp1 hF
    have ok:Fn.okG X X.length p2 c=true:=by
     show (Fn.okR X X.length p2&&(qau X.length 4096&&qau c 100000))=true
     rw [iY hX hb hp1,gQ hb,gQ hc]
     rfl
    rw [ok]
    have hlen:(Fn.gF X).1.length=c:=by rw [hF];exact auP X c p2
    by_cases hc0:c=0
    ·subst hc0
     have hF2:(Fn.gF X).2=(p2,0):=by rw [hF];rfl
     have hT:=akW hF2
     rw [if_neg (by omega)] at hT
     by_cases ht:p2<X.length
     ·rw [if_pos ht] at hT
      rw [show ltN p2 X.length=true from gQ ht,dX p2,xH hT (by omega)]
      exact ⟨rfl,rfl⟩
     ·rw [if_neg ht] at hT
      obtain ⟨g1,g2⟩:=abk hT
      rw [show ltN p2 X.length=false from Fh (by omega),ZB (e:=0) hT (by rw [g1,hK];exact hv) (by rw [g2];exact List.length_eq_zero_iff.1 hlen)]
      exact ⟨rfl,rfl⟩
    ·rw [uq hc0]
     have hF2:(Fn.gF X).2=(Fn.gPl X c p2,Fn.gEr X c p2):=by rw [hF];rfl
     have hT:=akW hF2
     by_cases he:Fn.gEr X c p2=0
     ·rw [kC he]
      rw [if_neg (by omega)] at hT
      by_cases ht:Fn.gPl X c p2<X.length
      ·rw [if_pos ht] at hT
       rw [show ltN (Fn.gPl X c p2) X.length=true from gQ ht,dX (Fn.gPl X c p2),xH hT (by omega)]
       exact ⟨rfl,rfl⟩
      ·rw [if_neg ht] at hT
       obtain ⟨g1,g2⟩:=abk hT
       rw [show ltN (Fn.gPl X c p2) X.length=false from Fh (by omega),ana (e:=0) (k:=c) hT (by rw [g1,hK];exact hv) g2 hlen hc0,hF]
       exact ⟨rfl,rfl⟩
     ·rw [uq he]
      rw [if_pos he] at hT
      rw [show (Fn.gEg X c p2).succ=Fn.gEr X c p2 by unfold Fn.gEg;omega,dX (Fn.gEr X c p2),dX (Fn.gPl X c p2),xH hT he]
      exact ⟨rfl,rfl⟩
   ·have hN:Fn.gN X=(0,(Fn.rP X 0 99 0,Fn.rF X 0 100000 (Fn.rP X 0 99 0))):=by rw [hN0,xE h1]
    have hF2:(Fn.gF X).2=(Fn.rP X 0 99 0,Fn.rF X 0 100000 (Fn.rP X 0 99 0)):=by unfold Fn.gF;rw [hN];rfl
    have hT:=akW hF2
    rw [if_pos h1] at hT
    rw [uq h1,je h1,dX (Fn.rF X 0 100000 (Fn.rP X 0 99 0)),dX (Fn.rP X 0 99 0),xH hT h1]
    exact ⟨rfl,rfl⟩
  ·have hN:Fn.gN X=(0,(Fn.rP X 0 99 0,0)):=by
    unfold Fn.gN
    rw [hK,if_pos (.inr hv)]
   have hF:Fn.gF X=([],(Fn.rP X 0 99 0,0)):=by unfold Fn.gF;rw [hN];rfl
   have hT:=akW (show (Fn.gF X).2=_ by rw [hF])
   rw [if_neg (by omega)] at hT
   rw [show eqI (qaa (Fn.rN X 0 99 0)) 0=false from uq hv]
   by_cases ht:Fn.rP X 0 99 0<X.length
   ·rw [if_pos ht] at hT
    rw [show ltN (Fn.rP X 0 99 0) X.length=true from gQ ht,dX (Fn.rP X 0 99 0),xH hT (by omega)]
    exact ⟨rfl,rfl⟩
   ·rw [if_neg ht] at hT
    obtain ⟨g1,g2⟩:=abk hT
    rw [show ltN (Fn.rP X 0 99 0) X.length=false from Fh (by omega),ZB (e:=Fn.rN X 0 99 0) hT (by rw [g1,hK]) (by rw [g2,hF])]
    exact ⟨rfl,rfl⟩
 ·have hK:Fn.gK X=(0,(0,Fn.rF X 0 99 0)):=by rw [hK0,xE h0]
  have hN:Fn.gN X=(0,(0,Fn.rF X 0 99 0)):=by
   unfold Fn.gN
   rw [hK,if_pos (.inl h0)]
  have hF2:(Fn.gF X).2=(0,Fn.rF X 0 99 0):=by unfold Fn.gF;rw [hN];rfl
  have hT:=akW hF2
  rw [if_pos h0] at hT
  rw [uq h0,je h0,dX (Fn.rF X 0 99 0),xH hT h0]
  exact ⟨rfl,rfl⟩
abbrev tWp:TypeId:=144
abbrev tWr:TypeId:=149
def pW0:bM:={ N:=64,need:=[],low:=[],keep:=[],new:=[⟨.var 0 0,false,true⟩,⟨.var 1 0,true,false⟩] }
def pW1 (c:Nat):bM:={ N:=64,need:=[],low:=[],keep:=[],new:=[⟨.var 0 0,false,true⟩,⟨.row 0 c,true,false⟩,⟨.var 1 0,true,false⟩] }
def pD1 (c:Nat):bM:={ N:=64,need:=[],low:=[],keep:=[],new:=[⟨.var 0 0,false,true⟩,⟨.row 0 c,true,false⟩] }
def eW0 (c:Nat):bM:={ N:=66,need:=[],low:=[],keep:=[(64,false,true),(65,true,false)],new:=[⟨.old 64 c,true,false⟩] }
def eW1 (c:Nat):bM:={ N:=67,need:=[],low:=[],keep:=[(64,false,true),(66,true,false)],new:=[⟨.old 64 c,true,false⟩] }
def eD1:bM:={ N:=66,need:=[],low:=[],keep:=[(64,false,true),(65,true,false)],new:=[⟨.var 0 0,true,false⟩] }
def mW0:wO:={ pre:=pW0,ends:=[eW0 0] }
def mW1:wO:={ pre:=pW1 0,ends:=[eW1 0] }
def mD1:wO:={ pre:=pD1 0,ends:=[eD1] }
def mV0:wO:={ pre:=pW0,ends:=[eW0 1] }
def mV1:wO:={ pre:=pW1 1,ends:=[eW1 1] }
def mX1:wO:={ pre:=pD1 1,ends:=[eD1] }
def slW (i k:Nat):Value:=.slice (some ⟨i,0,none⟩) k aC
def auO (lim:Nat):List (Nat × Row):=[(64,.row [.slice none 0 0,iN lim,.bool true,.int .i64 0] tWp 0)]
def ani (i:Nat)(L:List Value)(k lim:Nat):List (Nat × Row):=[(64,.row [slW i k,iN lim,.bool true,.int .i64 0] tWp 0),(i,.row L tB i)]
def awe (lim:Nat):List (Nat × Row):=[(64,.row [iN lim,.slice none 0 0,.int .i64 0] tWr 0)]
def anD (i:Nat)(L:List Value)(k lim:Nat):List (Nat × Row):=[(64,.row [iN lim,slW i k,.int .i64 0] tWr 0),(i,.row L tB i)]
def adR (j:Nat):=true&&(j.succ.ble 281474976710656&&(((qas 2 j.succ).add 768).mul 1).ble 281474976710656&&true&&true)
def adT (B:List Value)(j:Nat):Nat × Row:=(66,.row (aA (j.succ.mul 1) B) 5 66)
theorem ayu (B:List Value)(j lim:Nat):(runK KM C7 30).1 70 [iH,slW 65 (qac j)] (lQ mW0.pre.next ⟨[iH,slW 65 (qac j)],aK (auO lim) [(65,.row B tB 65)]⟩) (fun r=>(dU Tryz.prog mW0.ends 0 r).vS some)=sel ((lim.sub 0).ble 9223372036854775807) (sel (ltI (qaa (lim.sub 0)) (qaa j.succ)) none (sel ((j.succ.mul 1).ble (aQ B)) (sel (adR j) (some (0,{ vals:=[.int .i64 0],rows:=[(64,.row [.slice (some ⟨66,0,none⟩) j.succ 18446744073709551616,.int .i64 (qaa lim),.bool true,.int .i64 0] 144 0),(65,.row B 5 65),(adT B j)] })) none) none)) none:=by kernel_rfl
def adh (L:List Value)(j k:Nat):=(k.add j.succ).ble 18446744073709551616&&((qag 0 (k.mul 1)).add (j.succ.mul 1)).ble (aQ L)
def aco (B L:List Value)(j k:Nat):Option (Nat × bg):=sel (true&&rV (aA (j.succ.mul 1) B)) (sel (((qag 0 (k.mul 1)).add (aQ (aA (j.succ.mul 1) B))).ble (aQ L)) none none) none
def aei (j k:Nat):=(k.add j.succ).ble 281474976710656&&(((qas 2 (k.add j.succ)).add 768).mul 1).ble 281474976710656&&true&&true
def adZ (B L:List Value)(j k:Nat):=(qag 0 (k.mul 1)).beq (aQ L)&&true&&rV (aA (j.succ.mul 1) B)
def aeB (B L:List Value)(j k:Nat):Nat × Row:=(67,.row (aK (aA (k.mul 1) L) (aA (j.succ.mul 1) B)) 5 67)
theorem ay1 (L B:List Value)(k j lim:Nat):(runK KM C7 30).1 70 [iH,slW 66 (qac j)] (lQ mW1.pre.next ⟨[iH,slW 66 (qac j)],aK (ani 65 L k lim) [(66,.row B tB 66)]⟩) (fun r=>(dU Tryz.prog mW1.ends 0 r).vS some)=sel (k.ble lim) (sel ((lim.sub k).ble 9223372036854775807) (sel (ltI (qaa (lim.sub k)) (qaa j.succ)) none (sel ((j.succ.mul 1).ble (aQ B)) (sel (adh L j k) (aco B L j k) (sel (aei j k) (sel ((k.mul 1).ble (aQ L)) (sel (adZ B L j k) (some (0,{ vals:=[.int .i64 0],rows:=[(64,.row [.slice (some ⟨67,0,none⟩) (k.add j.succ) 18446744073709551616,.int .i64 (qaa lim),.bool true,.int .i64 0] 144 0),(66,.row B 5 66),(aeB B L j k)] })) none) none) none)) none)) none) (sel ((k.sub lim).ble 9223372036854775808) none none):=by kernel_rfl
def aec (k:Nat):=(qag 0 k.succ).ble 281474976710656&&(((qas 2 (qag 0 k.succ)).add 768).mul 1).ble 281474976710656&&true&&true
def ac2 (L:List Value)(k:Nat):Nat × Row:=(66,.row (aK [] (aA (k.succ.mul 1) L)) 5 66)
theorem ay8 (L:List Value)(k lim:Nat):(runK KM C7 30).1 28 [iH] (lQ mD1.pre.next ⟨[iH],ani 65 L (qac k) lim⟩) (fun r=>(dU Tryz.prog mD1.ends 0 r).vS some)=sel ((k.succ.mul 1).ble (aQ L)) (sel (aec k) (some (0,{ vals:=[.slice (some ⟨66,0,none⟩) (qag 0 k.succ) 18446744073709551616,.int .i64 0],rows:=[(64,.row [.slice (some ⟨65,0,none⟩) k.succ 18446744073709551616,.int .i64 (qaa lim),.bool true,.int .i64 0] 144 0),(65,.row L 5 65),(ac2 L k)] })) none) none:=by kernel_rfl
theorem azs (B:List Value)(j lim:Nat):(runK KM C7 30).1 71 [iH,slW 65 (qac j)] (lQ mV0.pre.next ⟨[iH,slW 65 (qac j)],aK (awe lim) [(65,.row B tB 65)]⟩) (fun r=>(dU Tryz.prog mV0.ends 0 r).vS some)=sel ((qag 0 j.succ).ble 9223372036854775807) (sel (ltI (qaa lim) (qaa (qag 0 j.succ))) none (sel ((j.succ.mul 1).ble (aQ B)) (sel (adR j) (some (0,{ vals:=[.int .i64 (qaa 0)],rows:=[(64,.row [.int .i64 (qaa lim),.slice (some ⟨66,0,none⟩) j.succ 18446744073709551616,.int .i64 0] 149 0),(65,.row B 5 65),(adT B j)] })) none) none)) none:=by kernel_rfl
theorem azw (L B:List Value)(k j lim:Nat):(runK KM C7 30).1 71 [iH,slW 66 (qac j)] (lQ mV1.pre.next ⟨[iH,slW 66 (qac j)],aK (anD 65 L k lim) [(66,.row B tB 66)]⟩) (fun r=>(dU Tryz.prog mV1.ends 0 r).vS some)=sel ((k.add j.succ).ble 9223372036854775807) (sel (ltI (qaa lim) (qaa (k.add j.succ))) none (sel ((j.succ.mul 1).ble (aQ B)) (sel (adh L j k) (aco B L j k) (sel (aei j k) (sel ((k.mul 1).ble (aQ L)) (sel (adZ B L j k) (some (0,{ vals:=[.int .i64 (qaa 0)],rows:=[(64,.row [.int .i64 (qaa lim),.slice (some ⟨67,0,none⟩) (k.add j.succ) 18446744073709551616,.int .i64 0] 149 0),(66,.row B 5 66),(aeB B L j k)] })) none) none) none)) none)) none:=by kernel_rfl
theorem azU (L:List Value)(k lim:Nat):(runK KM C7 30).1 36 [iH] (lQ mX1.pre.next ⟨[iH],anD 65 L (qac k) lim⟩) (fun r=>(dU Tryz.prog mX1.ends 0 r).vS some)=sel ((k.succ.mul 1).ble (aQ L)) (sel (aec k) (some (0,{ vals:=[.slice (some ⟨66,0,none⟩) (qag 0 k.succ) 18446744073709551616,.int .i64 0],rows:=[(64,.row [.int .i64 (qaa lim),.slice (some ⟨65,0,none⟩) k.succ 18446744073709551616,.int .i64 0] 149 0),(65,.row L 5 65),(ac2 L k)] })) none) none:=by kernel_rfl
namespace Fn
def ael (L B:List Value):List Value:=L++B
def okA (L:List Value)(k:Nat)(B:List Value)(j lim:Nat):Bool:=allB L&&(qaf k (aQ L)&&(allB B&&(qaf j (aQ B)&&(qau (k+j) 4096&&(qau (k+j) lim&&qau lim 1099511627776)))))
def okD (L:List Value)(k:Nat):Bool:=allB L&&(qaf k (aQ L)&&qau k 4096)
end Fn
theorem KW {L B:List Value}{k j lim:Nat}(h:Fn.okA L k B j lim=true):allB L=true∧k=aQ L∧allB B=true∧j=aQ B∧k+j≤4096∧k+j≤lim∧lim≤1099511627776:=by
 unfold Fn.okA at h
 simp only [qad] at h
 obtain ⟨h1,h2,h3,h4,h5,h6,h7⟩:=h
 exact ⟨h1,qab h2,h3,qab h4,qae h5,qae h6,qae h7⟩
theorem ad3 {L:List Value}{k:Nat}(h:Fn.okD L k=true):allB L=true∧k=aQ L∧k≤4096:=by
 unfold Fn.okD at h
 simp only [qad] at h
 obtain ⟨h1,h2,h3⟩:=h
 exact ⟨h1,qab h2,qae h3⟩
theorem uJ {L:List Value}{k:Nat}(h:k=aQ L):aA (k.mul 1) L=L:=by
 rw [show k.mul 1=aQ L by rw [←h];exact qax k]
 exact P7 L
def alz (n:Nat)(k:Nat→MT):MT:=Nat.casesOn (motive:=fun _=>MT) n .fail k
theorem GI {n:Nat}{k:Nat→MT}{r:Nat × bg}(h:(alz n k).run=some r):∃ m,n=qac m∧(k m).run=some r:=by
 cases n with
 |zero=>cases h
 |succ m=>exact ⟨m,rfl,h⟩
def atY (b:Nat)(o:bg)(k:Nat→MT):MT:=dh o.vals fun u l=>afT 64 u (dh l fun a l=>pSl b aC a fun n=>zq l (alz n k))
theorem Gl {b:Nat}{o:bg}{k:Nat→MT}{r:Nat × bg}(w0:(atY b o k).run=some r):∃ j,o.vals=[iH,slW b (qac j)]∧(k j).run=some r:=by
 obtain ⟨u,l1,hv,w1⟩:=aB w0
 obtain ⟨rfl,w2⟩:=lD w1
 obtain ⟨a,l2,rfl,w3⟩:=aB (l:=l1) w2
 obtain ⟨n,rfl,w4⟩:=jQ w3
 obtain ⟨rfl,w5⟩:=bW w4
 obtain ⟨j,rfl,w6⟩:=GI w5
 exact ⟨j,hv,w6⟩
def aA0 (l:List (Nat × Row))(k:Nat→List Value→MT):MT:=dh l fun q1 l=>CV 64 tWp 0 q1 fun w=>dh l fun q2 l=>CV 65 tB 65 q2 fun B=>zq l (dh w fun a1 m=>awS a1 (dh m fun a2 m=>Ey .i64 a2 fun lim=>dh m fun a3 m=>pTrue a3 (dh m fun a4 m=>Ey .i64 a4 fun e=>zq m (KR (qaf e 0) (k lim B)))))
theorem ake {l:List (Nat × Row)}{k:Nat→List Value→MT}{r:Nat × bg}(w0:(aA0 l k).run=some r):∃ lim B,l=aK (auO lim) [(65,.row B tB 65)]∧(k lim B).run=some r:=by
 obtain ⟨q1,l1,hl,w1⟩:=aB w0
 obtain ⟨w,rfl,w2⟩:=dF (p:=q1) w1
 obtain ⟨q2,l2,rfl,w3⟩:=aB (l:=l1) w2
 obtain ⟨B,rfl,w4⟩:=dF (p:=q2) w3
 obtain ⟨rfl,w5⟩:=bW w4
 obtain ⟨a1,m1,rfl,w6⟩:=aB (l:=w) w5
 obtain ⟨rfl,w7⟩:=Oq w6
 obtain ⟨a2,m2,rfl,w8⟩:=aB (l:=m1) w7
 obtain ⟨lim,rfl,w9⟩:=dK w8
 obtain ⟨a3,m3,rfl,w10⟩:=aB (l:=m2) w9
 obtain ⟨rfl,w11⟩:=uy w10
 obtain ⟨a4,m4,rfl,w12⟩:=aB (l:=m3) w11
 obtain ⟨e,rfl,w13⟩:=dK w12
 obtain ⟨rfl,w14⟩:=bW w13
 obtain ⟨he,w15⟩:=gu w14
 have he:e=0:=qab he
 subst he
 exact ⟨lim,B,hl,w15⟩
def aAG (l:List (Nat × Row))(k:Nat→List Value→MT):MT:=dh l fun q1 l=>CV 64 tWr 0 q1 fun w=>dh l fun q2 l=>CV 65 tB 65 q2 fun B=>zq l (dh w fun a2 m=>Ey .i64 a2 fun lim=>dh m fun a1 m=>awS a1 (dh m fun a4 m=>Ey .i64 a4 fun e=>zq m (KR (qaf e 0) (k lim B))))
theorem ajB {l:List (Nat × Row)}{k:Nat→List Value→MT}{r:Nat × bg}(w0:(aAG l k).run=some r):∃ lim B,l=aK (awe lim) [(65,.row B tB 65)]∧(k lim B).run=some r:=by
 obtain ⟨q1,l1,hl,w1⟩:=aB w0
 obtain ⟨w,rfl,w2⟩:=dF (p:=q1) w1
 obtain ⟨q2,l2,rfl,w3⟩:=aB (l:=l1) w2
 obtain ⟨B,rfl,w4⟩:=dF (p:=q2) w3
 obtain ⟨rfl,w5⟩:=bW w4
 obtain ⟨a2,m2,rfl,w8⟩:=aB (l:=w) w5
 obtain ⟨lim,rfl,w9⟩:=dK w8
 obtain ⟨a1,m1,rfl,w6⟩:=aB (l:=m2) w9
 obtain ⟨rfl,w7⟩:=Oq w6
 obtain ⟨a4,m4,rfl,w12⟩:=aB (l:=m1) w7
 obtain ⟨e,rfl,w13⟩:=dK w12
 obtain ⟨rfl,w14⟩:=bW w13
 obtain ⟨he,w15⟩:=gu w14
 have he:e=0:=qab he
 subst he
 exact ⟨lim,B,hl,w15⟩
def az1 (l:List (Nat × Row))(k:List Value→Nat→Nat→List (Nat × Row)→MT):MT:=dh l fun q1 l=>CV 64 tWp 0 q1 fun w=>dh l fun q2 l=>CV 65 tB 65 q2 fun L=>dh w fun a1 m=>pSl 65 aC a1 fun n=>dh m fun a2 m=>Ey .i64 a2 fun lim=>dh m fun a3 m=>pTrue a3 (dh m fun a4 m=>Ey .i64 a4 fun e=>zq m (KR (qaf e 0) (k L n lim l)))
theorem X7 {l:List (Nat × Row)}{k:List Value→Nat→Nat→List (Nat × Row)→MT}{r:Nat × bg}(w0:(az1 l k).run=some r):∃ L n lim t,l=aK (ani 65 L n lim) t∧(k L n lim t).run=some r:=by
 obtain ⟨q1,l1,hl,w1⟩:=aB w0
 obtain ⟨w,rfl,w2⟩:=dF (p:=q1) w1
 obtain ⟨q2,l2,rfl,w3⟩:=aB (l:=l1) w2
 obtain ⟨L,rfl,w4⟩:=dF (p:=q2) w3
 obtain ⟨a1,m1,rfl,w6⟩:=aB (l:=w) w4
 obtain ⟨n,rfl,w7⟩:=jQ w6
 obtain ⟨a2,m2,rfl,w8⟩:=aB (l:=m1) w7
 obtain ⟨lim,rfl,w9⟩:=dK w8
 obtain ⟨a3,m3,rfl,w10⟩:=aB (l:=m2) w9
 obtain ⟨rfl,w11⟩:=uy w10
 obtain ⟨a4,m4,rfl,w12⟩:=aB (l:=m3) w11
 obtain ⟨e,rfl,w13⟩:=dK w12
 obtain ⟨rfl,w14⟩:=bW w13
 obtain ⟨he,w15⟩:=gu w14
 have he:e=0:=qab he
 subst he
 exact ⟨L,n,lim,l2,hl,w15⟩
def ayn (l:List (Nat × Row))(k:List Value→Nat→Nat→List (Nat × Row)→MT):MT:=dh l fun q1 l=>CV 64 tWr 0 q1 fun w=>dh l fun q2 l=>CV 65 tB 65 q2 fun L=>dh w fun a2 m=>Ey .i64 a2 fun lim=>dh m fun a1 m=>pSl 65 aC a1 fun n=>dh m fun a4 m=>Ey .i64 a4 fun e=>zq m (KR (qaf e 0) (k L n lim l))
theorem ZJ {l:List (Nat × Row)}{k:List Value→Nat→Nat→List (Nat × Row)→MT}{r:Nat × bg}(w0:(ayn l k).run=some r):∃ L n lim t,l=aK (anD 65 L n lim) t∧(k L n lim t).run=some r:=by
 obtain ⟨q1,l1,hl,w1⟩:=aB w0
 obtain ⟨w,rfl,w2⟩:=dF (p:=q1) w1
 obtain ⟨q2,l2,rfl,w3⟩:=aB (l:=l1) w2
 obtain ⟨L,rfl,w4⟩:=dF (p:=q2) w3
 obtain ⟨a2,m2,rfl,w8⟩:=aB (l:=w) w4
 obtain ⟨lim,rfl,w9⟩:=dK w8
 obtain ⟨a1,m1,rfl,w6⟩:=aB (l:=m2) w9
 obtain ⟨n,rfl,w7⟩:=jQ w6
 obtain ⟨a4,m4,rfl,w12⟩:=aB (l:=m1) w7
 obtain ⟨e,rfl,w13⟩:=dK w12
 obtain ⟨rfl,w14⟩:=bW w13
 obtain ⟨he,w15⟩:=gu w14
 have he:e=0:=qab he
 subst he
 exact ⟨L,n,lim,l2,hl,w15⟩
def asQ (i:Nat)(l:List (Nat × Row))(k:List Value→MT):MT:=dh l fun q l=>CV i tB i q fun B=>zq l (k B)
theorem RX {i:Nat}{l:List (Nat × Row)}{k:List Value→MT}{r:Nat × bg}(w0:(asQ i l k).run=some r):∃ B,l=[(i,.row B tB i)]∧(k B).run=some r:=by
 obtain ⟨q,l1,hl,w1⟩:=aB w0
 obtain ⟨B,rfl,w2⟩:=dF (p:=q) w1
 obtain ⟨rfl,w3⟩:=bW w2
 exact ⟨B,hl,w3⟩
def i0:Value:=.int .i64 0
def gA0 (o:bg):MT:=atY 65 o fun j=>aA0 o.rows fun lim B=>bU (Fn.okA [] 0 B (qac j) lim) (.leaf (0,⟨[i0],[(64,.row [slW 66 (qac j),iN lim,.bool true,i0] tWp 0),(65,.row B tB 65),(66,.row B tB 66)]⟩))
def gA1 (o:bg):MT:=atY 66 o fun j=>az1 o.rows fun L k lim t=>asQ 66 t fun B=>bU (Fn.okA L k B (qac j) lim) (.leaf (0,⟨[i0],[(64,.row [slW 67 (qag k (qac j)),iN lim,.bool true,i0] tWp 0),(66,.row B tB 66),(67,.row (Fn.ael L B) tB 67)]⟩))
def gD1 (o:bg):MT:=p1 o (az1 o.rows fun L k lim t=>zq t (alz k fun k=>bU (Fn.okD L (qac k)) (.leaf (0,⟨[slW 66 (qac k),i0],aK (ani 65 L (qac k) lim) [(66,.row L tB 66)]⟩))))
def gV0 (o:bg):MT:=atY 65 o fun j=>aAG o.rows fun lim B=>bU (Fn.okA [] 0 B (qac j) lim) (.leaf (0,⟨[i0],[(64,.row [iN lim,slW 66 (qac j),i0] tWr 0),(65,.row B tB 65),(66,.row B tB 66)]⟩))
def gV1 (o:bg):MT:=atY 66 o fun j=>ayn o.rows fun L k lim t=>asQ 66 t fun B=>bU (Fn.okA L k B (qac j) lim) (.leaf (0,⟨[i0],[(64,.row [iN lim,slW 67 (qag k (qac j)),i0] tWr 0),(66,.row B tB 66),(67,.row (Fn.ael L B) tB 67)]⟩))
def gX1 (o:bg):MT:=p1 o (ayn o.rows fun L k lim t=>zq t (alz k fun k=>bU (Fn.okD L (qac k)) (.leaf (0,⟨[slW 66 (qac k),i0],aK (anD 65 L (qac k) lim) [(66,.row L tB 66)]⟩))))
theorem atf {f:FuncId}{args:List Value}{s:St}{l:List bM}{q:Nat × bg}(h:(runK KM C7 30).1 f args s (fun r=>(dU Tryz.prog l 0 r).vS some)=some q) :
  aj ((runN C7 30).1 f args s) (fun r=>(dU Tryz.prog l 0 r).run)=some q:=D7 (K:=KM) (by decide) bF aT h
theorem axC {p1:Row}{i j:Nat}{B:List Value}{e f:Nat}(hB:allB B=true):vP [(i,p1),(j,.row B e f)] [true,false]:=⟨fun e=>(by cases e),fun _ cs e f h=>(by cases h;exact pI hB),trivial⟩
theorem aoO {p1:Row}{i j l:Nat}{A B:List Value}{e f e' f':Nat}(hA:allB A=true)(hB:allB B=true):vP [(i,p1),(j,.row A e f),(l,.row B e' f')] [true,false,false]:=
 ⟨fun e=>(by cases e),fun _ cs e f h=>(by cases h;exact pI hA),fun _ cs e f h=>(by cases h;exact pI hB),trivial⟩
theorem aw3:iZ Tryz.prog C7 30 70 mW0 gA0:=by
 rintro ⟨vals,rows⟩ q w0
 obtain ⟨j,hv,w1⟩:=Gl w0
 obtain ⟨lim,B,hr,w2⟩:=ake w1
 obtain ⟨hk,w3⟩:=aJ w2
 obtain ⟨hL,hkL,hB,hj,h1,h2,h3⟩:=KW hk
 have hv:vals=_:=hv
 have hr:rows=_:=hr
 subst hv hr
 cases w3
 refine ⟨axC hB,fun spe h=>?_,atf ?_⟩
 ·have h:some (eW0 0)=some spe:=h
  cases h
  exact aoO hB hB
 ·have e1:(lim.sub 0).ble 9223372036854775807=true:=gQ (by show lim-0≤_;omega)
  have e2:ltI (qaa (lim.sub 0)) (qaa j.succ)=false:=VK (by show j+1≤lim-0;omega)
  have e3:(j.succ.mul 1).ble (aQ B)=true:=gQ (by rw [←hj];show (j+1)*1≤j+1;omega)
  have e4:j.succ.ble 281474976710656=true:=gQ (by omega)
  have e5:(((qas 2 j.succ).add 768).mul 1).ble 281474976710656=true:=gQ (by show (2*(j+1)+768)*1≤_;omega)
  refine (ayu B j lim).trans ?_;unfold adT adR
  rw [e1,e2,e3,e4,e5,uJ hj]
  rfl
theorem avV:iZ Tryz.prog C7 30 70 mW1 gA1:=by
 rintro ⟨vals,rows⟩ q w0
 obtain ⟨j,hv,w1⟩:=Gl w0
 obtain ⟨L,k,lim,t,hr,w2⟩:=X7 w1
 obtain ⟨B,rfl,w3⟩:=RX w2
 obtain ⟨hk,w4⟩:=aJ w3
 obtain ⟨hL,hkL,hB,hj,h1,h2,h3⟩:=KW hk
 have hv:vals=_:=hv
 have hr:rows=_:=hr
 subst hv hr
 cases w4
 refine ⟨aoO hL hB,fun spe h=>?_,atf ?_⟩
 ·have h:some (eW1 0)=some spe:=h
  cases h
  exact aoO hB (qW hL hB)
 ·have e0:k.ble lim=true:=gQ (by omega)
  have e1:(lim.sub k).ble 9223372036854775807=true:=gQ (by show lim-k≤_;omega)
  have e2:ltI (qaa (lim.sub k)) (qaa j.succ)=false:=VK (by show j+1≤lim-k;omega)
  have e3:(j.succ.mul 1).ble (aQ B)=true:=gQ (by rw [←hj];show (j+1)*1≤j+1;omega)
  have e4:(k.add j.succ).ble 281474976710656=true:=gQ (by show k+(j+1)≤_;omega)
  have e5:(((qas 2 (k.add j.succ)).add 768).mul 1).ble 281474976710656=true:=gQ (by show (2*(k+(j+1))+768)*1≤_;omega)
  have e6:(k.add j.succ).ble 18446744073709551616=true:=gQ (by show k+(j+1)≤_;omega)
  have e7:((qag 0 (k.mul 1)).add (j.succ.mul 1)).ble (aQ L)=false:=Fh (by rw [←hkL];show k<0+k*1+(j+1)*1;omega)
  have e8:(k.mul 1).ble (aQ L)=true:=gQ (by rw [←hkL];show k*1≤k;omega)
  have e9:(qag 0 (k.mul 1)).beq (aQ L)=true:=kC (by rw [←hkL];show 0+k*1=k;omega)
  refine (ay1 L B k j lim).trans ?_;unfold aeB adZ aei aco adh
  rw [e0,e1,e2,e3,e6,e7,e4,e5,e8,e9,uJ hj,uJ hkL,Eh B (jD hB),iG]
  rfl
theorem aww:iZ Tryz.prog C7 30 28 mD1 gD1:=by
 rintro ⟨vals,rows⟩ q w0
 obtain ⟨hv,w1⟩:=wI w0
 obtain ⟨L,k,lim,t,hr,w2⟩:=X7 w1
 obtain ⟨rfl,w3⟩:=bW w2
 obtain ⟨k,rfl,w4⟩:=GI w3
 obtain ⟨hk,w5⟩:=aJ w4
 obtain ⟨hL,hkL,h1⟩:=ad3 hk
 have hv:vals=_:=hv
 have hr:rows=_:=hr
 subst hv hr
 cases w5
 refine ⟨axC hL,fun spe h=>?_,atf ?_⟩
 ·have h:some eD1=some spe:=h
  cases h
  exact aoO hL hL
 ·have e3:(k.succ.mul 1).ble (aQ L)=true:=gQ (by rw [←hkL];show (k+1)*1≤k+1;omega)
  have e4:(qag 0 k.succ).ble 281474976710656=true:=gQ (by show 0+(k+1)≤_;omega)
  have e5:(((qas 2 (qag 0 k.succ)).add 768).mul 1).ble 281474976710656=true:=gQ (by show (2*(0+(k+1))+768)*1≤_;omega)
  refine (ay8 L k lim).trans ?_;unfold ac2 aec
  rw [e3,e4,e5,uJ hkL,show qag 0 k.succ=k.succ from qaz _]
  rfl
theorem axk:iZ Tryz.prog C7 30 71 mV0 gV0:=by
 rintro ⟨vals,rows⟩ q w0
 obtain ⟨j,hv,w1⟩:=Gl w0
 obtain ⟨lim,B,hr,w2⟩:=ajB w1
 obtain ⟨hk,w3⟩:=aJ w2
 obtain ⟨hL,hkL,hB,hj,h1,h2,h3⟩:=KW hk
 have hv:vals=_:=hv
 have hr:rows=_:=hr
 subst hv hr
 cases w3
 refine ⟨axC hB,fun spe h=>?_,atf ?_⟩
 ·have h:some (eW0 1)=some spe:=h
  cases h
  exact aoO hB hB
 ·have e1:(qag 0 j.succ).ble 9223372036854775807=true:=gQ (by show 0+(j+1)≤_;omega)
  have e2:ltI (qaa lim) (qaa (qag 0 j.succ))=false:=VK (by show 0+(j+1)≤lim;omega)
  have e3:(j.succ.mul 1).ble (aQ B)=true:=gQ (by rw [←hj];show (j+1)*1≤j+1;omega)
  have e4:j.succ.ble 281474976710656=true:=gQ (by omega)
  have e5:(((qas 2 j.succ).add 768).mul 1).ble 281474976710656=true:=gQ (by show (2*(j+1)+768)*1≤_;omega)
  refine (azs B j lim).trans ?_;unfold adT adR
  rw [e1,e2,e3,e4,e5,uJ hj]
  rfl
theorem atZ:iZ Tryz.prog C7 30 71 mV1 gV1:=by
 rintro ⟨vals,rows⟩ q w0
 obtain ⟨j,hv,w1⟩:=Gl w0
 obtain ⟨L,k,lim,t,hr,w2⟩:=ZJ w1
 obtain ⟨B,rfl,w3⟩:=RX w2
 obtain ⟨hk,w4⟩:=aJ w3
 obtain ⟨hL,hkL,hB,hj,h1,h2,h3⟩:=KW hk
 have hv:vals=_:=hv
 have hr:rows=_:=hr
 subst hv hr
 cases w4
 refine ⟨aoO hL hB,fun spe h=>?_,atf ?_⟩
 ·have h:some (eW1 1)=some spe:=h
  cases h
  exact aoO hB (qW hL hB)
 ·have e1:(k.add j.succ).ble 9223372036854775807=true:=gQ (by show k+(j+1)≤_;omega)
  have e2:ltI (qaa lim) (qaa (k.add j.succ))=false:=VK (by show k+(j+1)≤lim;omega)
  have e3:(j.succ.mul 1).ble (aQ B)=true:=gQ (by rw [←hj];show (j+1)*1≤j+1;omega)
  have e4:(k.add j.succ).ble 281474976710656=true:=gQ (by show k+(j+1)≤_;omega)
  have e5:(((qas 2 (k.add j.succ)).add 768).mul 1).ble 281474976710656=true:=gQ (by show (2*(k+(j+1))+768)*1≤_;omega)
  have e6:(k.add j.succ).ble 18446744073709551616=true:=gQ (by show k+(j+1)≤_;omega)
  have e7:((qag 0 (k.mul 1)).add (j.succ.mul 1)).ble (aQ L)=false:=Fh (by rw [←hkL];show k<0+k*1+(j+1)*1;omega)
  have e8:(k.mul 1).ble (aQ L)=true:=gQ (by rw [←hkL];show k*1≤k;omega)
  have e9:(qag 0 (k.mul 1)).beq (aQ L)=true:=kC (by rw [←hkL];show 0+k*1=k;omega)
  refine (azw L B k j lim).trans ?_;unfold aeB adZ aei aco adh
  rw [e1,e2,e3,e6,e7,e4,e5,e8,e9,uJ hj,uJ hkL,Eh B (jD hB),iG]
  rfl
theorem atF:iZ Tryz.prog C7 30 36 mX1 gX1:=by
 rintro ⟨vals,rows⟩ q w0
 obtain ⟨hv,w1⟩:=wI w0
 obtain ⟨L,k,lim,t,hr,w2⟩:=ZJ w1
 obtain ⟨rfl,w3⟩:=bW w2
 obtain ⟨k,rfl,w4⟩:=GI w3
 obtain ⟨hk,w5⟩:=aJ w4
 obtain ⟨hL,hkL,h1⟩:=ad3 hk
 have hv:vals=_:=hv
 have hr:rows=_:=hr
 subst hv hr
 cases w5
 refine ⟨axC hL,fun spe h=>?_,atf ?_⟩
 ·have h:some eD1=some spe:=h
  cases h
  exact aoO hL hL
 ·have e3:(k.succ.mul 1).ble (aQ L)=true:=gQ (by rw [←hkL];show (k+1)*1≤k+1;omega)
  have e4:(qag 0 k.succ).ble 281474976710656=true:=gQ (by show 0+(k+1)≤_;omega)
  have e5:(((qas 2 (qag 0 k.succ)).add 768).mul 1).ble 281474976710656=true:=gQ (by show (2*(0+(k+1))+768)*1≤_;omega)
  refine (azU L k lim).trans ?_;unfold ac2 aec
  rw [e3,e4,e5,uJ hkL,show qag 0 k.succ=k.succ from qaz _]
  rfl
variable [Lo]
theorem aBk {f:FuncId}{m1 m2:wO}{g1 g2:bg→MT}(h1:iZ Tryz.prog C7 30 f m1 g1)(h2:iZ Tryz.prog C7 30 f m2 g2):∀ p∈[(m1,g1),(m2,g2)],∃ C n,eX C Tryz.prog∧iZ Tryz.prog C n f p.1 p.2:=by
 intro p hp
 rcases List.mem_cons.1 hp with rfl|hp
 ·exact ⟨C7,30,Qo,h1⟩
 ·rcases List.mem_cons.1 hp with rfl|hp
  ·exact ⟨C7,30,Qo,h2⟩
  ·cases hp
theorem aBa {f:FuncId}{m1:wO}{g1:bg→MT}(h1:iZ Tryz.prog C7 30 f m1 g1):∀ p∈[(m1,g1)],∃ C n,eX C Tryz.prog∧iZ Tryz.prog C n f p.1 p.2:=by
 intro p hp
 rcases List.mem_cons.1 hp with rfl|hp
 ·exact ⟨C7,30,Qo,h1⟩
 ·cases hp
def atu:List (Nat × Con):=
 (70,.tree (o9 Tryz.prog [(mW0,gA0),(mW1,gA1)]))::(28,.tree (o9 Tryz.prog [(mD1,gD1)])) ::
 (71,.tree (o9 Tryz.prog [(mV0,gV0),(mV1,gV1)]))::(36,.tree (o9 Tryz.prog [(mX1,gX1)]))::ato
def C9:Cfg:={ CB with ext:=fQ [],insert:=fQ atu }
theorem apd:eu Tryz.prog C9 atu:=eu.o9 (aBk aw3 avV) (eu.o9 (aBa aww) (eu.o9 (aBk axk atZ) (eu.o9 (aBa atF) (eu.to agT rfl))))
theorem arO:eX C9 Tryz.prog:=Ba (ext:=fQ []) (ins:=fQ atu) rfl (fun f t h=>apd f t h) (fun f e h=>by cases h)
end
end Go.Ax
namespace Go.Ax
open Go Go.Proofs
noncomputable section
def sP0:bM:={ N:=70,need:=[4,49,50,51],low:=[32],keep:=[(65,false,true),(69,true,false)],new:=[] }
def sP1:bM:={ N:=70,need:=[4,49,50,51],low:=[32],keep:=[(65,false,true)],new:=[⟨.old 65 0,true,false⟩] }
def sR0:bM:={ N:=70,need:=[1,4,6],low:=[32],keep:=[(64,false,true),(65,false,true),(69,true,false)],new:=[] }
def sR1:bM:={ N:=70,need:=[1,4,6],low:=[32],keep:=[(64,false,true),(65,false,true)],new:=[⟨.old 65 1,true,false⟩] }
def eP1:bM:={ N:=70,need:=[4],low:=[],keep:=[(65,false,true)],new:=[⟨.old 65 0,true,false⟩] }
def eR1:bM:={ N:=70,need:=[4],low:=[],keep:=[(65,false,true)],new:=[⟨.old 65 1,true,false⟩] }
def slL (n:Nat):Value:=.slice (some ⟨32,0,none⟩) n aC
def auE (b k lim:Nat):Nat × Row:=(65,.row [slW b k,iN lim,.bool true,i0] tWp 0)
def awv (b k lim:Nat):Nat × Row:=(65,.row [iN lim,slW b k,i0] tWr 0)
def hP (b:Nat)(W:List Value)(n i:Nat)(L:List Value)(k lim:Nat):bg:=⟨[pt 65,slL n,iN n,iN i],[(32,.row W tW 32),auE b k lim,(b,.row L tB b)]⟩
def hR (b:Nat)(W:List Value)(n i:Nat)(L:List Value)(k lim:Nat):bg:=⟨[pt 64,pt 65,iN i],[(32,.row W tW 32),(64,.row [i0,slL n] tAn 0),awv b k lim,(b,.row L tB b)]⟩
def Dh (W:List Value)(i:Nat):=iD (Value.int IntKind.u64 0) (nth W (qag 0 (i.mul 1)))
def Du (W:List Value)(i:Nat):=ltN (ay W (qag 0 (i.mul 1))) 18446744073709551616
def I4 (W:List Value)(i:Nat):List Value:=.int .u8 (qaa (Fn.mF (ay W (qag 0 (i.mul 1)))))::Fn.oH (ay W (qag 0 (i.mul 1)))
def Kz (W:List Value)(i:Nat):=aQ (Fn.oH (ay W (qag 0 (i.mul 1))))
def Dk (L W:List Value)(i k lim:Nat):=Fn.okA L k (I4 W i) (Kz W i).succ lim
def Dw (i:Nat):=(i.add 1).ble 9223372036854775807
def Bz (L W:List Value)(i:Nat):=Fn.ael L (I4 W i)
def JZ (W:List Value)(i k:Nat):=k.add (Kz W i).succ
def Ji (L W:List Value)(i:Nat):Nat × Row:=(70,.row (Bz L W i) 5 70)
def ZF (L W:List Value)(i k lim n:Nat):Option (Ex × bg):=some (.normal,{ vals:=[.pointer (some ⟨65,0,none⟩),.slice (some ⟨32,0,none⟩) n 18446744073709551616,.int .i64 (qaa n),.int .i64 (qaa (i.add 1))],rows:=[(32,.row W 45 32),(65,.row [.slice (some ⟨70,0,none⟩) (JZ W i k) 18446744073709551616,.int .i64 (qaa lim),.bool true,.int .i64 0] 144 0),(Ji L W i)] })
theorem aBD (W L:List Value)(n i k lim:Nat):jO KM.plain C9 (runK KM C9 20).1 (runK KM C9 20).2 (C9.vars 9) 9 false (fU C9 9 12) (gJ Tryz.prog (C9.vars 9) sP1 eP1) (CX sP0.need (hP 69 W n i L k lim)) (lQ sP0.next (hP 69 W n i L k lim))=sel (ltI (qaa i) (qaa n)) (sel (ltN i n) (sel (Dh W i) (sel (Du W i) (sel (Dk L W i k lim) (sel (Dw i) (sel (List.rec true (fun v x ih=>sel (tC v) ih false) W) (sel (List.rec true (fun v x ih=>sel (aX sP1.N v) ih false) (Bz L W i)) (ZF L W i k lim n) none) none) none) none) none) none) none) none:=by kernel_rfl
theorem aAn (W L:List Value)(n i k lim:Nat):jO KM.plain C9 (runK KM C9 20).1 (runK KM C9 20).2 (C9.vars 9) 9 false (fU C9 9 12) (gJ Tryz.prog (C9.vars 9) sP1 eP1) (CX sP1.need (hP 70 W n i L k lim)) (lQ sP1.next (hP 70 W n i L k lim))=sel (ltI (qaa i) (qaa n)) (sel (ltN i n) (sel (Dh W i) (sel (Du W i) (sel (Dk L W i k lim) (sel (Dw i) (sel (List.rec true (fun v x ih=>sel (tC v) ih false) W) (sel (List.rec true (fun v x ih=>sel (aX sP1.N v) ih false) (Bz L W i)) (ZF L W i k lim n) none) none) none) none) none) none) none) (sel (List.rec true (fun v x ih=>sel (aX eP1.N v) ih false) L) (some (.exit 1,{ vals:=[.pointer (some ⟨65,0,none⟩)],rows:=[(65,.row [.slice (some ⟨70,0,none⟩) k 18446744073709551616,.int .i64 (qaa lim),.bool true,.int .i64 0] 144 0),(70,.row L 5 70)] })) none):=by kernel_rfl
def MV (L W:List Value)(i k lim n:Nat):Option (Ex × bg):=some (.normal,{ vals:=[.pointer (some ⟨64,0,none⟩),.pointer (some ⟨65,0,none⟩),.int .i64 (qaa (i.add 1))],rows:=[(32,.row W 45 32),(64,.row [.int .i64 0,.slice (some ⟨32,0,none⟩) n 18446744073709551616] 27 0),(65,.row [.int .i64 (qaa lim),.slice (some ⟨70,0,none⟩) (JZ W i k) 18446744073709551616,.int .i64 0] 149 0),(Ji L W i)] })
theorem aBq (W L:List Value)(n i k lim:Nat):jO KM.plain C9 (runK KM C9 20).1 (runK KM C9 20).2 (C9.vars 10) 10 false (fU C9 10 12) (gJ Tryz.prog (C9.vars 10) sR1 eR1) (CX sR0.need (hR 69 W n i L k lim)) (lQ sR0.next (hR 69 W n i L k lim))=sel (ltI (qaa i) (qaa n)) (sel (ltN i n) (sel (Dh W i) (sel (Du W i) (sel (Dk L W i k lim) (sel (Dw i) (sel (List.rec true (fun v x ih=>sel (tC v) ih false) W) (sel (List.rec true (fun v x ih=>sel (aX sR1.N v) ih false) (Bz L W i)) (MV L W i k lim n) none) none) none) none) none) none) none) none:=by kernel_rfl
theorem aA3 (W L:List Value)(n i k lim:Nat):jO KM.plain C9 (runK KM C9 20).1 (runK KM C9 20).2 (C9.vars 10) 10 false (fU C9 10 12) (gJ Tryz.prog (C9.vars 10) sR1 eR1) (CX sR1.need (hR 70 W n i L k lim)) (lQ sR1.next (hR 70 W n i L k lim))=sel (ltI (qaa i) (qaa n)) (sel (ltN i n) (sel (Dh W i) (sel (Du W i) (sel (Dk L W i k lim) (sel (Dw i) (sel (List.rec true (fun v x ih=>sel (tC v) ih false) W) (sel (List.rec true (fun v x ih=>sel (aX sR1.N v) ih false) (Bz L W i)) (MV L W i k lim n) none) none) none) none) none) none) none) (sel (List.rec true (fun v x ih=>sel (aX eR1.N v) ih false) L) (some (.exit 1,{ vals:=[.pointer (some ⟨65,0,none⟩)],rows:=[(65,.row [.int .i64 (qaa lim),.slice (some ⟨70,0,none⟩) k 18446744073709551616,.int .i64 0] 149 0),(70,.row L 5 70)] })) none):=by kernel_rfl
def isW (v:Value):Bool:=
 match v with
 |.int .u64 (.ofNat n)=>qau n 18446744073709551615
 |_=>false
def Hq:List Value→Bool:=fun l=>List.rec true (fun v _ ih=>sel (isW v) ih false) l
def nv (v:Value):Nat:=ay [v] 0
def bI (W:List Value):List Nat:=W.map nv
theorem ahJ {v:Value}(h:isW v=true):v=uN (nv v)∧nv v<18446744073709551616:=by
 unfold isW at h
 split at h
 ·rename_i n
  have:=qae h
  exact ⟨rfl,by show n<_;omega⟩
 ·cases h
theorem ajp:∀ {W:List Value},Hq W=true→W=wL (bI W)∧∀ v∈bI W,v<18446744073709551616
 |[],_=>⟨rfl,fun v h=>by cases h⟩
 |a::W,h=>by
  obtain ⟨h1,h2⟩:=dG (show sel (isW a) (Hq W) false=true from h)
  obtain ⟨g1,g2⟩:=ahJ h1
  obtain ⟨g3,g4⟩:=ajp h2
  refine ⟨?_,fun v hv=>?_⟩
  ·show a::W=uN (nv a)::wL (bI W)
   rw [←g1,←g3]
  ·rcases List.mem_cons.1 (show v∈nv a::bI W from hv) with rfl|hv
   ·exact g2
   ·exact g4 v hv
theorem ajN:∀ {W:List Value},Hq W=true→(List.rec true (fun v x ih=>sel (tC v) ih false) W:Bool)=true
 |[],_=>rfl
 |a::W,h=>by
  obtain ⟨h1,h2⟩:=dG (show sel (isW a) (Hq W) false=true from h)
  obtain ⟨g1,_⟩:=ahJ h1
  show sel (tC a) _ false=true
  rw [g1]
  exact ajN h2
theorem aaX {W:List Value}{i:Nat}(h:Hq W=true)(hi:i<W.length):nth W i=some (uN ((bI W).getD i 0))∧ay W i=(bI W).getD i 0∧(bI W).getD i 0<18446744073709551616:=by
 obtain ⟨h1,h2⟩:=ajp h
 have hl:(bI W).length=W.length:=by unfold bI;simp
 have e:nth W i=some (uN ((bI W).getD i 0)):=by
  have h3:(wL (bI W))[i]? = some (uN ((bI W).getD i 0)):=by
   unfold wL
   rw [List.getElem?_map,qak (by rw [hl];exact hi),qan,qak (by rw [hl];exact hi)]
   rfl
  rw [jk]
  rw [←h1] at h3
  exact h3
 refine ⟨e,?_,?_⟩
 ·unfold ay
  rw [e]
  rfl
 ·rw [qan,qak (by rw [hl];exact hi)]
  exact h2 _ (List.getElem_mem _)
namespace Fn
def pF (W L:List Value):List Value:=List.casesOn (motive:=fun _=>List Value) W L fun w t=>L++ng (bI (w::t))
def pKk (W L:List Value):Nat:=aQ (pF W L)-1
def okW (W:List Value)(n:Nat):Bool:=Hq W&&(qaf n (aQ W)&&qau n 400)
def okP (W:List Value)(n:Nat)(L:List Value)(k lim:Nat):Bool:=okW W n&&(allB L&&(qaf k (aQ L)&&(qau 1 k&&(qau k 60&&(qau 4096 lim&&qau lim 1099511627776)))))
end Fn
theorem afP (W L:List Value):Fn.pF W L=L++ng (bI W):=by
 cases W with
 |nil=>show L=L++[];rw [qaq]
 |cons w t=>rfl
theorem kE {W:List Value}{n:Nat}(h:Fn.okW W n=true):Hq W=true∧n=W.length∧n≤400:=by
 unfold Fn.okW at h
 simp only [qad] at h
 obtain ⟨h1,h2,h3⟩:=h
 exact ⟨h1,by rw [←aW];exact qab h2,qae h3⟩
theorem acA {W L:List Value}{n k lim:Nat}(h:Fn.okP W n L k lim=true):(Hq W=true∧n=W.length∧n≤400)∧allB L=true∧k=aQ L∧1≤k∧k≤60∧4096≤lim∧lim≤1099511627776:=by
 unfold Fn.okP at h
 simp only [qad] at h
 obtain ⟨h1,h2,h3,h4,h5,h6,h7⟩:=h
 exact ⟨kE h1,h2,qab h3,qae h4,qae h5,qae h6,qae h7⟩
theorem af7 (ns:List Nat){i:Nat}(h:i<ns.length):ng (ns.take (i+1))=ng (ns.take i)++Fn.iQ (ns.getD i 0):=by
 rw [qaw,qan,qak h,Zb]
 congr 1
 show Fn.iQ _++[]=_
 rw [qaq]
 rfl
theorem AX:∀ (ns:List Nat),(ng ns).length≤10*ns.length
 |[]=>qah _
 |v::ns=>by
  have h1:=(vX v).2
  have h2:=AX ns
  show (Fn.iQ v++ng ns).length≤_
  rw [qal,qap]
  rw [aW] at h1
  omega
def exP (sp:bM)(y:bg):Option (Ex × bg):=
 jO KM.plain C9 (runK KM C9 20).1 (runK KM C9 20).2 (C9.vars 9) 9 false (fU C9 9 12) (gJ Tryz.prog (C9.vars 9) sP1 eP1) (CX sp.need y) (lQ sp.next y)
def exR (sp:bM)(y:bg):Option (Ex × bg):=
 jO KM.plain C9 (runK KM C9 20).1 (runK KM C9 20).2 (C9.vars 10) 10 false (fU C9 10 12) (gJ Tryz.prog (C9.vars 10) sR1 eR1) (CX sp.need y) (lQ sp.next y)
def oP (L:List Value)(k lim:Nat):bg:=⟨[pt 65],[auE 70 k lim,(70,.row L tB 70)]⟩
def oR (L:List Value)(k lim:Nat):bg:=⟨[pt 65],[awv 70 k lim,(70,.row L tB 70)]⟩
section
variable {W L:List Value} {i lim:Nat} (hW:Hq W=true) (hi:i<W.length) (hb:W.length≤400) (hL:allB L=true) (hl:aQ L≤4080) (hm:4096≤lim) (hm2:lim≤1099511627776)
include hW hi hb hL hl hm hm2
theorem Ux:ltI (qaa i) (qaa W.length)=true∧ltN i W.length=true∧qag 0 (i.mul 1)=i∧iD (.int .u64 0) (nth W i)=true∧ay W i=(bI W).getD i 0∧ltN ((bI W).getD i 0) 18446744073709551616=true∧
  Fn.okA L (aQ L) (.int .u8 (qaa (Fn.mF ((bI W).getD i 0)))::Fn.oH ((bI W).getD i 0)) (aQ (Fn.oH ((bI W).getD i 0))).succ lim=true∧(i.add 1).ble 9223372036854775807=true∧
  allB (Fn.ael L (Fn.iQ ((bI W).getD i 0)))=true:=by
 obtain ⟨h1,h2,h3⟩:=aaX hW hi
 have e:Fn.iQ ((bI W).getD i 0) = .int .u8 (qaa (Fn.mF ((bI W).getD i 0)))::Fn.oH ((bI W).getD i 0):=mQ _
 have h10:=vX ((bI W).getD i 0)
 refine ⟨aam hi,gQ hi,by show 0+i*1=i;omega,by rw [h1];rfl,h2,gQ h3,?_,gQ (by show i+1≤_;omega),qW hL (oL _)⟩
 unfold Fn.okA
 rw [←e,hL,oL,kC rfl,show (aQ (Fn.oH ((bI W).getD i 0))).succ=aQ (Fn.iQ ((bI W).getD i 0)) by rw [e];rfl,kC rfl,gQ (by omega),gQ (by omega),gQ hm2]
 rfl
theorem aqD:exP sP0 (hP 69 W W.length i L (aQ L) lim)=some (.normal,hP 70 W W.length (i+1) (Fn.ael L (Fn.iQ ((bI W).getD i 0))) (aQ L+aQ (Fn.iQ ((bI W).getD i 0))) lim):=by
 obtain ⟨f1,f2,f3,f4,f5,f6,f7,f8,f9⟩:=Ux hW hi hb hL hl hm hm2
 have e:Fn.iQ ((bI W).getD i 0) = .int .u8 (qaa (Fn.mF ((bI W).getD i 0)))::Fn.oH ((bI W).getD i 0):=mQ _
 rw [e] at f9 ⊢
 unfold exP
 rw [aBD];unfold ZF Ji JZ Bz Dw Dk Kz I4 Du Dh;rw [f1,f2,f3,f4,f5,f6,f7,f8,ajN hW,oC (N:=sP1.N) f9]
 rfl
theorem aqX:exP sP1 (hP 70 W W.length i L (aQ L) lim)=some (.normal,hP 70 W W.length (i+1) (Fn.ael L (Fn.iQ ((bI W).getD i 0))) (aQ L+aQ (Fn.iQ ((bI W).getD i 0))) lim):=by
 obtain ⟨f1,f2,f3,f4,f5,f6,f7,f8,f9⟩:=Ux hW hi hb hL hl hm hm2
 have e:Fn.iQ ((bI W).getD i 0) = .int .u8 (qaa (Fn.mF ((bI W).getD i 0)))::Fn.oH ((bI W).getD i 0):=mQ _
 rw [e] at f9 ⊢
 unfold exP
 rw [aAn];unfold ZF Ji JZ Bz Dw Dk Kz I4 Du Dh;rw [f1,f2,f3,f4,f5,f6,f7,f8,ajN hW,oC (N:=sP1.N) f9]
 rfl
theorem aqO:exR sR0 (hR 69 W W.length i L (aQ L) lim)=some (.normal,hR 70 W W.length (i+1) (Fn.ael L (Fn.iQ ((bI W).getD i 0))) (aQ L+aQ (Fn.iQ ((bI W).getD i 0))) lim):=by
 obtain ⟨f1,f2,f3,f4,f5,f6,f7,f8,f9⟩:=Ux hW hi hb hL hl hm hm2
 have e:Fn.iQ ((bI W).getD i 0) = .int .u8 (qaa (Fn.mF ((bI W).getD i 0)))::Fn.oH ((bI W).getD i 0):=mQ _
 rw [e] at f9 ⊢
 unfold exR
 rw [aBq];unfold MV Ji JZ Bz Dw Dk Kz I4 Du Dh;rw [f1,f2,f3,f4,f5,f6,f7,f8,ajN hW,oC (N:=sR1.N) f9]
 rfl
theorem aqe:exR sR1 (hR 70 W W.length i L (aQ L) lim)=some (.normal,hR 70 W W.length (i+1) (Fn.ael L (Fn.iQ ((bI W).getD i 0))) (aQ L+aQ (Fn.iQ ((bI W).getD i 0))) lim):=by
 obtain ⟨f1,f2,f3,f4,f5,f6,f7,f8,f9⟩:=Ux hW hi hb hL hl hm hm2
 have e:Fn.iQ ((bI W).getD i 0) = .int .u8 (qaa (Fn.mF ((bI W).getD i 0)))::Fn.oH ((bI W).getD i 0):=mQ _
 rw [e] at f9 ⊢
 unfold exR
 rw [aA3];unfold MV Ji JZ Bz Dw Dk Kz I4 Du Dh;rw [f1,f2,f3,f4,f5,f6,f7,f8,ajN hW,oC (N:=sR1.N) f9]
 rfl
end
theorem awz {W L:List Value}{k lim:Nat}(hL:allB L=true):exP sP1 (hP 70 W W.length W.length L k lim)=some (.exit 1,oP L k lim):=by
 unfold exP
 rw [aAn];unfold ZF Ji JZ Bz Dw Dk Kz I4 Du Dh;rw [VK (qay _),oC (N:=eP1.N) hL]
 rfl
theorem atB {W L:List Value}{k lim:Nat}(hL:allB L=true):exR sR1 (hR 70 W W.length W.length L k lim)=some (.exit 1,oR L k lim):=by
 unfold exR
 rw [aA3];unfold MV Ji JZ Bz Dw Dk Kz I4 Du Dh;rw [VK (qay _),oC (N:=eR1.N) hL]
 rfl
variable [Lo]
def soFar (W L:List Value)(i:Nat):List Value:=L++ng ((bI W).take i)
theorem CJ {W L:List Value}{i:Nat}(h:i<W.length):soFar W L (i+1)=Fn.ael (soFar W L i) (Fn.iQ ((bI W).getD i 0)):=by
 unfold soFar Fn.ael
 rw [af7 _ (by unfold bI;simpa using h),qav]
theorem Xu {W L:List Value}{i:Nat}(hb:W.length≤400):aQ (soFar W L i)≤aQ L+4000:=by
 rw [aW,aW]
 unfold soFar
 have h1:=AX ((bI W).take i)
 have h2:((bI W).take i).length≤400:=by
  rw [qaD]
  unfold bI
  simp
  omega
 rw [qal]
 omega
theorem avn {W L:List Value}{n k lim:Nat}(h:Fn.okP W n L k lim=true)(hn0:0<n) :
  ∃ R f,R f sP0 (hP 69 W n 0 L k lim)∧rC Tryz.prog C9 KM 20 9 (fU C9 9 12) 70 R (.exit 1) eP1 (oP (Fn.pF W L) (qac (Fn.pKk W L)) lim):=by
 obtain ⟨⟨hW,hn,hb⟩,hL,hk,h1,h2,h3,h4⟩:=acA h
 subst hn hk
 refine ⟨fun f sp y=>∃ i b,i≤W.length∧f=W.length-i+1∧y=hP b W W.length i (soFar W L i) (aQ (soFar W L i)) lim∧((sp=sP0∧b=69∧i<W.length)∨(sp=sP1∧b=70)),W.length+1,⟨0,69,qah _,rfl,?_,.inl ⟨rfl,rfl,hn0⟩⟩,⟨?_⟩⟩
 ·show _=hP 69 W W.length 0 (L++[]) (aQ (L++[])) lim
  rw [qaq]
 ·rintro f sp y ⟨i,b,hi,rfl,rfl,hs⟩
  refine ⟨W.length-i,rfl,sP1,?_⟩
  have hX:allB (soFar W L i)=true:=qW hL (nX _)
  have hl:aQ (soFar W L i)≤4080:=qaB (Xu hb) (by omega)
  have hsum:∀ A B:List Value,aQ A+aQ B=aQ (Fn.ael A B):=fun A B=>by rw [aW,aW,aW];unfold Fn.ael;rw [qal]
  rcases hs with ⟨rfl,rfl,hlt⟩|⟨rfl,rfl⟩
  ·exact ⟨_,rfl,aqD hW hlt hb hX hl h3 h4,.inl ⟨rfl,i+1,70,hlt,by omega,by rw [hsum,←CJ hlt],.inr ⟨rfl,rfl⟩⟩⟩
  ·by_cases hlt:i<W.length
   ·exact ⟨_,rfl,aqX hW hlt hb hX hl h3 h4,.inl ⟨rfl,i+1,70,hlt,by omega,by rw [hsum,←CJ hlt],.inr ⟨rfl,rfl⟩⟩⟩
   ·have hi:i=W.length:=by omega
    subst hi
    have e:soFar W L W.length=Fn.pF W L:=by
     rw [afP]
     unfold soFar
     rw [qar (by unfold bI;simp)]
    rw [e] at hX ⊢
    refine ⟨_,rfl,awz hX,.inr ⟨fun h=>(by cases h),?_⟩⟩
    rw [show qac (Fn.pKk W L)=aQ (Fn.pF W L) by
     unfold Fn.pKk
     have:1≤aQ (Fn.pF W L):=by
      rw [aW,afP,qal];rw [aW] at h1;omega
     omega]
theorem avx {W L:List Value}{n k lim:Nat}(h:Fn.okP W n L k lim=true)(hn0:0<n) :
  ∃ R f,R f sR0 (hR 69 W n 0 L k lim)∧rC Tryz.prog C9 KM 20 10 (fU C9 10 12) 70 R (.exit 1) eR1 (oR (Fn.pF W L) (qac (Fn.pKk W L)) lim):=by
 obtain ⟨⟨hW,hn,hb⟩,hL,hk,h1,h2,h3,h4⟩:=acA h
 subst hn hk
 refine ⟨fun f sp y=>∃ i b,i≤W.length∧f=W.length-i+1∧y=hR b W W.length i (soFar W L i) (aQ (soFar W L i)) lim∧((sp=sR0∧b=69∧i<W.length)∨(sp=sR1∧b=70)),W.length+1,⟨0,69,qah _,rfl,?_,.inl ⟨rfl,rfl,hn0⟩⟩,⟨?_⟩⟩
 ·show _=hR 69 W W.length 0 (L++[]) (aQ (L++[])) lim
  rw [qaq]
 ·rintro f sp y ⟨i,b,hi,rfl,rfl,hs⟩
  refine ⟨W.length-i,rfl,sR1,?_⟩
  have hX:allB (soFar W L i)=true:=qW hL (nX _)
  have hl:aQ (soFar W L i)≤4080:=qaB (Xu hb) (by omega)
  have hsum:∀ A B:List Value,aQ A+aQ B=aQ (Fn.ael A B):=fun A B=>by rw [aW,aW,aW];unfold Fn.ael;rw [qal]
  rcases hs with ⟨rfl,rfl,hlt⟩|⟨rfl,rfl⟩
  ·exact ⟨_,rfl,aqO hW hlt hb hX hl h3 h4,.inl ⟨rfl,i+1,70,hlt,by omega,by rw [hsum,←CJ hlt],.inr ⟨rfl,rfl⟩⟩⟩
  ·by_cases hlt:i<W.length
   ·exact ⟨_,rfl,aqe hW hlt hb hX hl h3 h4,.inl ⟨rfl,i+1,70,hlt,by omega,by rw [hsum,←CJ hlt],.inr ⟨rfl,rfl⟩⟩⟩
   ·have hi:i=W.length:=by omega
    subst hi
    have e:soFar W L W.length=Fn.pF W L:=by
     rw [afP]
     unfold soFar
     rw [qar (by unfold bI;simp)]
    rw [e] at hX ⊢
    refine ⟨_,rfl,atB hX,.inr ⟨fun h=>(by cases h),?_⟩⟩
    rw [show qac (Fn.pKk W L)=aQ (Fn.pF W L) by
     unfold Fn.pKk
     have:1≤aQ (Fn.pF W L):=by
      rw [aW,afP,qal];rw [aW] at h1;omega
     omega]
def pWr (l:List Value)(k:Nat→Nat→LT):LT:=dh l fun a1 m=>pSl 69 aC a1 fun n=>dh m fun a2 m=>Ey .i64 a2 fun lim=>dh m fun a3 m=>pTrue a3 (dh m fun a4 m=>Ey .i64 a4 fun e=>zq m (KR (qaf e 0) (k n lim)))
theorem amv {l:List Value}{k:Nat→Nat→LT}{r:Ex × bM × bg}(w0:(pWr l k).run=some r):∃ n lim,l=[slW 69 n,iN lim,.bool true,i0]∧(k n lim).run=some r:=by
 obtain ⟨a1,m1,hl,w6⟩:=aB w0
 obtain ⟨n,rfl,w7⟩:=jQ w6
 obtain ⟨a2,m2,rfl,w8⟩:=aB (l:=m1) w7
 obtain ⟨lim,rfl,w9⟩:=dK w8
 obtain ⟨a3,m3,rfl,w10⟩:=aB (l:=m2) w9
 obtain ⟨rfl,w11⟩:=uy w10
 obtain ⟨a4,m4,rfl,w12⟩:=aB (l:=m3) w11
 obtain ⟨e,rfl,w13⟩:=dK w12
 obtain ⟨rfl,w14⟩:=bW w13
 obtain ⟨he,w15⟩:=gu w14
 have he:e=0:=qab he
 subst he
 exact ⟨n,lim,hl,w15⟩
def pVr (l:List Value)(k:Nat→Nat→LT):LT:=dh l fun a2 m=>Ey .i64 a2 fun lim=>dh m fun a1 m=>pSl 69 aC a1 fun n=>dh m fun a4 m=>Ey .i64 a4 fun e=>zq m (KR (qaf e 0) (k n lim))
theorem aok {l:List Value}{k:Nat→Nat→LT}{r:Ex × bM × bg}(w0:(pVr l k).run=some r):∃ n lim,l=[iN lim,slW 69 n,i0]∧(k n lim).run=some r:=by
 obtain ⟨a2,m2,hl,w8⟩:=aB w0
 obtain ⟨lim,rfl,w9⟩:=dK w8
 obtain ⟨a1,m1,rfl,w6⟩:=aB (l:=m2) w9
 obtain ⟨n,rfl,w7⟩:=jQ w6
 obtain ⟨a4,m4,rfl,w12⟩:=aB (l:=m1) w7
 obtain ⟨e,rfl,w13⟩:=dK w12
 obtain ⟨rfl,w14⟩:=bW w13
 obtain ⟨he,w15⟩:=gu w14
 have he:e=0:=qab he
 subst he
 exact ⟨n,lim,hl,w15⟩
def asz (n:Nat)(k:LT):LT:=Nat.casesOn (motive:=fun _=>LT) n .fail fun _=>k
theorem Ry {n:Nat}{k:LT}{r:Ex × bM × bg}(h:(asz n k).run=some r):0<n∧k.run=some r:=by
 cases n with
 |zero=>cases h
 |succ n=>exact ⟨by omega,h⟩
def aAH (o:bg):LT:=dh o.vals fun u l=>afT 65 u (dh l fun a l=>pSl 32 aC a fun n=>dh l fun b l=>Ey .i64 b fun n2=>dh l fun c l=>Ey .i64 c fun i=>zq l (KR (qaf i 0) (asz n (bU (qaf n2 n)
 (dh o.rows fun q1 l=>CV 32 tW 32 q1 fun W=>dh l fun q2 l=>CV 65 tWp 0 q2 fun w=>dh l fun q3 l=>CV 69 tB 69 q3 fun L=>zq l (pWr w fun k lim=>bU (Fn.okP W n L k lim) (.leaf (.exit 1,eP1,oP (Fn.pF W L) (qac (Fn.pKk W L)) lim)))))))
)
def aAM (o:bg):LT:=dh o.vals fun u l=>afT 64 u (dh l fun u2 l=>afT 65 u2 (dh l fun c l=>Ey .i64 c fun i=>zq l (KR (qaf i 0)
 (dh o.rows fun q1 l=>CV 32 tW 32 q1 fun W=>dh l fun q0 l=>CV 64 tAn 0 q0 fun z=>dh l fun q2 l=>CV 65 tWr 0 q2 fun w=>dh l fun q3 l=>CV 69 tB 69 q3 fun L=>zq l (dh z fun z1 m=>Ey .i64 z1 fun e=>dh m fun z2 m=>pSl 32 aC z2 fun n=>zq m (KR (qaf e 0) (asz n (pVr w fun k lim=>bU (Fn.okP W n L k lim) (.leaf (.exit 1,eR1,oR (Fn.pF W L) (qac (Fn.pKk W L)) lim))))))))))
theorem alo:∀ o e spe O,(aAH o).run=some (e,spe,O)→spe.N=sP0.N∧∃ R k,R k sP0 o∧rC Tryz.prog C9 KM 20 9 (fU C9 9 12) sP0.N R e spe O:=by
 rintro ⟨vals,rows⟩ e spe O w0
 obtain ⟨u,l1,hv,w1⟩:=aB w0
 obtain ⟨rfl,w2⟩:=lD w1
 obtain ⟨a,l2,rfl,w3⟩:=aB (l:=l1) w2
 obtain ⟨n,rfl,w4⟩:=jQ w3
 obtain ⟨b,l3,rfl,w5⟩:=aB (l:=l2) w4
 obtain ⟨n2,rfl,w6⟩:=dK w5
 obtain ⟨c,l4,rfl,w7⟩:=aB (l:=l3) w6
 obtain ⟨i,rfl,w8⟩:=dK w7
 obtain ⟨rfl,w9⟩:=bW w8
 obtain ⟨hi,w10⟩:=gu w9
 have hi:i=0:=qab hi
 subst hi
 obtain ⟨hn0,w11⟩:=Ry w10
 obtain ⟨h2,w12⟩:=aJ w11
 have h2:n2=n:=qab h2
 subst h2
 obtain ⟨q1,m1,hr,w13⟩:=aB w12
 obtain ⟨W,rfl,w14⟩:=dF (p:=q1) w13
 obtain ⟨q2,m2,rfl,w15⟩:=aB (l:=m1) w14
 obtain ⟨w,rfl,w16⟩:=dF (p:=q2) w15
 obtain ⟨q3,m3,rfl,w17⟩:=aB (l:=m2) w16
 obtain ⟨L,rfl,w18⟩:=dF (p:=q3) w17
 obtain ⟨rfl,w19⟩:=bW w18
 obtain ⟨k,lim,rfl,w20⟩:=amv w19
 obtain ⟨hk,w21⟩:=aJ w20
 have hv:vals=_:=hv
 have hr:rows=_:=hr
 subst hv hr
 cases w21
 exact ⟨rfl,avn hk hn0⟩
theorem aoc:∀ o e spe O,(aAM o).run=some (e,spe,O)→spe.N=sR0.N∧∃ R k,R k sR0 o∧rC Tryz.prog C9 KM 20 10 (fU C9 10 12) sR0.N R e spe O:=by
 rintro ⟨vals,rows⟩ ex spe O w0
 obtain ⟨u,l1,hv,w1⟩:=aB w0
 obtain ⟨rfl,w2⟩:=lD w1
 obtain ⟨u2,l2,rfl,w3⟩:=aB (l:=l1) w2
 obtain ⟨rfl,w4⟩:=lD w3
 obtain ⟨c,l4,rfl,w7⟩:=aB (l:=l2) w4
 obtain ⟨i,rfl,w8⟩:=dK w7
 obtain ⟨rfl,w9⟩:=bW w8
 obtain ⟨hi,w10⟩:=gu w9
 have hi:i=0:=qab hi
 subst hi
 obtain ⟨q1,m1,hr,w13⟩:=aB w10
 obtain ⟨W,rfl,w14⟩:=dF (p:=q1) w13
 obtain ⟨q0,m0,rfl,w15⟩:=aB (l:=m1) w14
 obtain ⟨z,rfl,w16⟩:=dF (p:=q0) w15
 obtain ⟨q2,m2,rfl,w17⟩:=aB (l:=m0) w16
 obtain ⟨w,rfl,w18⟩:=dF (p:=q2) w17
 obtain ⟨q3,m3,rfl,w19⟩:=aB (l:=m2) w18
 obtain ⟨L,rfl,w20⟩:=dF (p:=q3) w19
 obtain ⟨rfl,w21⟩:=bW w20
 obtain ⟨z1,n1,rfl,w22⟩:=aB (l:=z) w21
 obtain ⟨e,rfl,w23⟩:=dK w22
 obtain ⟨z2,n2,rfl,w24⟩:=aB (l:=n1) w23
 obtain ⟨n,rfl,w25⟩:=jQ w24
 obtain ⟨rfl,w26⟩:=bW w25
 obtain ⟨he,w27⟩:=gu w26
 have he:e=0:=qab he
 subst he
 obtain ⟨hn0,w28⟩:=Ry w27
 obtain ⟨k,lim,rfl,w29⟩:=aok w28
 obtain ⟨hk,w30⟩:=aJ w29
 have hv:vals=_:=hv
 have hr:rows=_:=hr
 subst hv hr
 cases w30
 exact ⟨rfl,avx hk hn0⟩
def aaA:List (Nat × Nat × PW):=[(9,12,wP Tryz.prog (CB.vars 9) sP0 aAH),(10,12,wP Tryz.prog (CB.vars 10) sR0 aAM)]
def C10:Cfg:={ CB with ext:=fQ [],insert:=fQ atu,MQ:=TR aaA }
theorem aBz:qaf (aQ (vG C9 9 12)) 1=true:=by kernel_rfl
theorem ayT:qaf (aQ (vG C9 10 12)) 1=true:=by kernel_rfl
theorem ait:∀ fn c body,C10.body fn=some c→PartOf c (.loop body)→uX Tryz.prog C10 fn body:=by
 refine Tf (L:=aaA) rfl fun q hq=>?_
 rcases List.mem_cons.1 hq with rfl|hq
 ·exact nP (K:=KM) (C0:=C9) (m:=20) (by decide) bF aT arO rfl rfl aBz rfl alo
 ·rcases List.mem_cons.1 hq with rfl|hq
  ·exact nP (K:=KM) (C0:=C9) (m:=20) (by decide) bF aT arO rfl rfl ayT rfl aoc
  ·cases hq
theorem QL:eX C10 Tryz.prog:=abm (ext:=fQ []) (ins:=fQ atu) (lf:=TR aaA) rfl (fun f t h=>eu.to apd rfl f t h) (fun f e h=>by cases h) ait
end
end Go.Ax
namespace Go.Ax
open Go Go.Proofs
noncomputable section
def anS (e:Int)(W:List Value)(n:Nat):List fK:=[.agg [.raw (.int .i64 e),.sl W tW n]]
def anV (e:Int)(v:Value):List fK:=[.agg [.raw (.int .i64 e),.raw v]]
theorem afk (W:List Value)(z n:Nat):(runK KM C10 40).1 9 (bG (anS (qaj z) W n)) (aH (anS (qaj z) W n)) (bP Tryz.prog)=some { val:=[gq.one (dZ.flat (Value.slice none 0 0)),gq.one (dZ.flat (Value.int IntKind.i64 3))],rows:=[] }:=by kernel_rfl
theorem agt (z c:Nat):(runK KM C10 40).1 9 (bG (anV (qaj z) (.slice none 0 c))) (aH (anV (qaj z) (.slice none 0 c))) (bP Tryz.prog)=some { val:=[gq.one (dZ.flat (Value.slice none 0 0)),gq.one (dZ.flat (Value.int IntKind.i64 3))],rows:=[] }:=by kernel_rfl
theorem agj (z:Nat):(runK KM C10 40).1 9 (bG (anV (qaj z) bY)) (aH (anV (qaj z) bY)) (bP Tryz.prog)=some { val:=[gq.one (dZ.flat (Value.slice none 0 0)),gq.one (dZ.flat (Value.int IntKind.i64 3))],rows:=[] }:=by kernel_rfl
def xG:dZ:=.flat (.slice none 0 0)
def AQ:Option cO:=some { val:=[.one xG,.one (.flat (.int .i64 3))],rows:=[] }
def ahi:Option cO:=some { val:=[.one xG,.one (.flat (.int .i64 2))],rows:=[] }
def TD (W:List Value)(z m:Nat):Option cO:=sel (ltI 99 (qaa z.succ)) AQ ahi
theorem ahe (W:List Value)(z m:Nat):(runK KM C10 40).1 9 (bG (anS (qaa (qac z)) W (qac m))) (aH (anS (qaa (qac z)) W (qac m))) (bP Tryz.prog)=TD W z m:=by kernel_rfl
theorem agh (W:List Value)(z m:Nat):type_of% (by have h_:=ahe W z m;unfold TD ahi AQ xG at h_;exact h_):=ahe W z m
def JX (z:Nat):=qaa (Fn.mF (z.succ.mod 18446744073709551616))
def JO (z:Nat):List Value:=.int .u8 (JX z)::Fn.oH (z.succ.mod 18446744073709551616)
def EN (z:Nat):=aQ (Fn.oH (z.succ.mod 18446744073709551616))
def pX:dZ:=.flat (.int .i64 0)
def Jl (z:Nat):Option cO:=sel (ltN (z.succ.mod 18446744073709551616) 18446744073709551616) (sel (Fn.okA [] 0 (JO z) (EN z).succ 1048576) (sel (Fn.okD (JO z) (EN z).succ) (some { val:=[.one (.sl 0 (EN z).succ),.one pX],rows:=[(.int .u8 (JX z)::Fn.oH (z.succ.mod 18446744073709551616),5)] }) none) none) none
def zW (z:Nat):Option cO:=sel (ltI 99 (qaa z.succ)) AQ (Jl z)
theorem aiu (z:Nat):(runK KM C9 40).1 9 (bG (anS (qaa (qac z)) [] 0)) (aH (anS (qaa (qac z)) [] 0)) (bP Tryz.prog)=zW z:=by kernel_rfl
theorem afG (z:Nat):type_of% (by have h_:=aiu z;unfold zW Jl pX EN JO JX AQ xG at h_;exact h_):=aiu z
def VW (z c:Nat):Option cO:=sel (ltI 99 (qaa z.succ)) AQ (Jl z)
theorem aiK (z c:Nat):(runK KM C10 40).1 9 (bG (anV (qaa (qac z)) (.slice none 0 c))) (aH (anV (qaa (qac z)) (.slice none 0 c))) (bP Tryz.prog)=VW z c:=by kernel_rfl
theorem afz (z c:Nat):type_of% (by have h_:=aiK z c;unfold VW Jl pX EN JO JX AQ xG at h_;exact h_):=aiK z c
theorem aie (z:Nat):(runK KM C10 40).1 9 (bG (anV (qaa (qac z)) bY)) (aH (anV (qaa (qac z)) bY)) (bP Tryz.prog)=zW z:=by kernel_rfl
theorem afn (z:Nat):type_of% (by have h_:=aie z;unfold zW Jl pX EN JO JX AQ xG at h_;exact h_):=aie z
def ad7:Option cO:=some { val:=[.one xG,.one (.flat (.int .i64 4))],rows:=[] }
def acJ (m:Nat):=ltN (m.succ.mod 18446744073709551616) 18446744073709551616
def VZ (m:Nat):=qaa (Fn.mF (m.succ.mod 18446744073709551616))
def V5 (m:Nat):List Value:=.int .u8 (VZ m)::Fn.oH (m.succ.mod 18446744073709551616)
def PL (m:Nat):=Fn.oH (m.succ.mod 18446744073709551616)
def OZ (m:Nat):=aQ (PL m)
def Hr (m:Nat):List Value:=.int .u8 (qaa (Fn.mF 0)) :: .int .u8 (VZ m)::Fn.oH (m.succ.mod 18446744073709551616)
def Ti (W:List Value)(m:Nat):=Fn.pKk W (Hr m)
def V6 (W:List Value)(m:Nat):Option cO:=sel (Fn.okP W m.succ (Hr m) (qag 1 (OZ m).succ) 1048576) (sel (Fn.okD (Fn.pF W (Hr m)) (Ti W m).succ) (some { val:=[.one (.sl 0 (Ti W m).succ),.one pX],rows:=[(Fn.pF W (Hr m),5)] }) none) none
theorem arE (W:List Value)(m:Nat):(runK KM C10 40).1 9 (bG (anS (qaa 0) W (qac m))) (aH (anS (qaa 0) W (qac m))) (bP Tryz.prog)=sel (ltI 100000 (qaa m.succ)) ad7 (sel (acJ m) (sel (Fn.okA [.int .u8 (qaa (Fn.mF 0))] 1 (V5 m) (OZ m).succ 1048576) (sel (List.rec true (fun v x ih=>sel (tC v) ih false) W) (sel (List.rec true (fun v x ih=>sel (aX sP0.N v) ih false) (PL m)) (sel (m.succ.beq m.succ) (V6 W m) none) none) none) none) none):=by kernel_rfl
def AO (z:Nat):Option cO:=some { val:=[.one (.sl 0 2),.one pX],rows:=[([.int .u8 (qaa (Fn.mF 0)),.int .u8 (qaa (Fn.mF 0))],5)] }
theorem aiq (z:Nat):(runK KM C9 40).1 9 (bG (anS (qaa 0) [] 0)) (aH (anS (qaa 0) [] 0)) (bP Tryz.prog)=AO z:=by kernel_rfl
theorem afR (z:Nat):type_of% (by have h_:=aiq z;unfold AO pX at h_;exact h_):=aiq z
def TQ (z c:Nat):Option cO:=some { val:=[.one (.sl 0 2),.one pX],rows:=[([.int .u8 (qaa (Fn.mF 0)),.int .u8 (qaa (Fn.mF 0))],5)] }
theorem aix (z c:Nat):(runK KM C10 40).1 9 (bG (anV (qaa 0) (.slice none 0 c))) (aH (anV (qaa 0) (.slice none 0 c))) (bP Tryz.prog)=TQ z c:=by kernel_rfl
theorem aeN (z c:Nat):type_of% (by have h_:=aix z c;unfold TQ pX at h_;exact h_):=aix z c
theorem ajK (z:Nat):(runK KM C10 40).1 9 (bG (anV (qaa 0) bY)) (aH (anV (qaa 0) bY)) (bP Tryz.prog)=AO z:=by kernel_rfl
theorem afV (z:Nat):type_of% (by have h_:=ajK z;unfold AO pX at h_;exact h_):=ajK z
theorem afw (W:List Value)(z n:Nat):(runK KM C10 40).1 10 (bG (anS (qaj z) W n)) (aH (anS (qaj z) W n)) (bP Tryz.prog)=some { val:=[gq.one (dZ.flat (Value.slice none 0 0)),gq.one (dZ.flat (Value.int IntKind.i64 3))],rows:=[] }:=by kernel_rfl
theorem afl (z c:Nat):(runK KM C10 40).1 10 (bG (anV (qaj z) (.slice none 0 c))) (aH (anV (qaj z) (.slice none 0 c))) (bP Tryz.prog)=some { val:=[gq.one (dZ.flat (Value.slice none 0 0)),gq.one (dZ.flat (Value.int IntKind.i64 3))],rows:=[] }:=by kernel_rfl
theorem agx (z:Nat):(runK KM C10 40).1 10 (bG (anV (qaj z) bY)) (aH (anV (qaj z) bY)) (bP Tryz.prog)=some { val:=[gq.one (dZ.flat (Value.slice none 0 0)),gq.one (dZ.flat (Value.int IntKind.i64 3))],rows:=[] }:=by kernel_rfl
theorem ahV (W:List Value)(z m:Nat):(runK KM C10 40).1 10 (bG (anS (qaa (qac z)) W (qac m))) (aH (anS (qaa (qac z)) W (qac m))) (bP Tryz.prog)=TD W z m:=by kernel_rfl
theorem aeQ (W:List Value)(z m:Nat):type_of% (by have h_:=ahV W z m;unfold TD ahi AQ xG at h_;exact h_):=ahV W z m
theorem ag6 (z:Nat):(runK KM C9 40).1 10 (bG (anS (qaa (qac z)) [] 0)) (aH (anS (qaa (qac z)) [] 0)) (bP Tryz.prog)=zW z:=by kernel_rfl
theorem afr (z:Nat):type_of% (by have h_:=ag6 z;unfold zW Jl pX EN JO JX AQ xG at h_;exact h_):=ag6 z
theorem ajc (z c:Nat):(runK KM C10 40).1 10 (bG (anV (qaa (qac z)) (.slice none 0 c))) (aH (anV (qaa (qac z)) (.slice none 0 c))) (bP Tryz.prog)=VW z c:=by kernel_rfl
theorem aga (z c:Nat):type_of% (by have h_:=ajc z c;unfold VW Jl pX EN JO JX AQ xG at h_;exact h_):=ajc z c
theorem aj8 (z:Nat):(runK KM C10 40).1 10 (bG (anV (qaa (qac z)) bY)) (aH (anV (qaa (qac z)) bY)) (bP Tryz.prog)=zW z:=by kernel_rfl
theorem afI (z:Nat):type_of% (by have h_:=aj8 z;unfold zW Jl pX EN JO JX AQ xG at h_;exact h_):=aj8 z
theorem ata (W:List Value)(m:Nat):(runK KM C10 40).1 10 (bG (anS (qaa 0) W (qac m))) (aH (anS (qaa 0) W (qac m))) (bP Tryz.prog)=sel (ltI 100000 (qaa m.succ)) ad7 (sel (acJ m) (sel (Fn.okA [.int .u8 (qaa (Fn.mF 0))] 1 (V5 m) (OZ m).succ 1048576) (sel (List.rec true (fun v x ih=>sel (tC v) ih false) W) (sel (List.rec true (fun v x ih=>sel (aX sR0.N v) ih false) (PL m)) (V6 W m) none) none) none) none):=by kernel_rfl
theorem ajm (z:Nat):(runK KM C9 40).1 10 (bG (anS (qaa 0) [] 0)) (aH (anS (qaa 0) [] 0)) (bP Tryz.prog)=AO z:=by kernel_rfl
theorem ae9 (z:Nat):type_of% (by have h_:=ajm z;unfold AO pX at h_;exact h_):=ajm z
theorem ak1 (z c:Nat):(runK KM C10 40).1 10 (bG (anV (qaa 0) (.slice none 0 c))) (aH (anV (qaa 0) (.slice none 0 c))) (bP Tryz.prog)=TQ z c:=by kernel_rfl
theorem afc (z c:Nat):type_of% (by have h_:=ak1 z c;unfold TQ pX at h_;exact h_):=ak1 z c
theorem agH (z:Nat):(runK KM C10 40).1 10 (bG (anV (qaa 0) bY)) (aH (anV (qaa 0) bY)) (bP Tryz.prog)=AO z:=by kernel_rfl
theorem aeT (z:Nat):type_of% (by have h_:=agH z;unfold AO pX at h_;exact h_):=agH z
namespace Fn
def aOk (e:Int)(W:List Value):Bool:=qaf (aE e (bI W)) 0
def aEr (e:Int)(W:List Value):Nat:=aE e (bI W)-1
def aBy (e:Int)(W:List Value):List Value:=List.casesOn (motive:=fun _=>List Value) W (aL e.toNat []) fun w t=>aL e.toNat (bI (w::t))
def aLn (e:Int)(W:List Value):Nat:=aQ (aBy e W)-1
end Fn
theorem agF (e:Int)(W:List Value):Fn.aBy e W=Fn.aL e.toNat (bI W):=by
 cases W <;> rfl
theorem ai6 (e:Nat)(ns:List Nat):1≤aQ (Fn.aL e ns):=by
 have:=(vX e).1
 rw [aW] at this ⊢
 show 1≤(Fn.iQ e++ng _).length
 rw [qal]
 omega
def BF (e:Int)(W:List Value):Tree cO:=.test (Fn.aOk e W) (.leaf ⟨[.one (.sl 0 (qac (Fn.aLn e W))),.one (.flat (.int .i64 0))],[(Fn.aBy e W,tB)]⟩) (.leaf ⟨[.one (.flat (.slice none 0 0)),.one (.flat (iN (qac (Fn.aEr e W))))],[]⟩)
theorem F5 {e:Int}{W:List Value}{x:Nat}(h:Fn.aE e (bI W)=x)(hx:x≠0):(BF e W).run=some ⟨[.one (.flat (.slice none 0 0)),.one (.flat (iN x))],[]⟩:=by
 show sel (Fn.aOk e W) _ (some (cO.mk [.one (.flat (.slice none 0 0)),.one (.flat (iN (qac (Fn.aEr e W))))] []))=_
 unfold Fn.aOk Fn.aEr
 rw [h,uq hx,show qac (x-1)=x by omega]
 rfl
theorem UK {e:Int}{W:List Value}{L:List Value}{k:Nat}(h:Fn.aE e (bI W)=0)(hL:Fn.aL e.toNat (bI W)=L)(hk:k=aQ L):(BF e W).run=some ⟨[.one (.sl 0 k),.one (.flat (.int .i64 0))],[(L,tB)]⟩:=by
 show sel (Fn.aOk e W) (some (cO.mk [.one (.sl 0 (qac (Fn.aLn e W))),.one (.flat (.int .i64 0))] [(Fn.aBy e W,tB)])) _=_
 unfold Fn.aOk Fn.aLn
 have h1:=ai6 e.toNat (bI W)
 rw [h,kC rfl,agF,hL]
 rw [hL] at h1
 rw [show qac (aQ L-1)=k by omega]
 rfl
theorem ayE (v:Nat):ng [v]=Fn.iQ v:=by show Fn.iQ v++[]=_;rw [qaq]
theorem aAp {v:Nat}{L:List Value}{k:Nat}(hL:allB L=true)(hk:k=aQ L)(hb:k≤1000):Fn.okA L k (.int .u8 (qaa (Fn.mF v))::Fn.oH v) (aQ (Fn.oH v)).succ 1048576=true:=by
 have e:Fn.iQ v = .int .u8 (qaa (Fn.mF v))::Fn.oH v:=mQ _
 have h10:=vX v
 unfold Fn.okA
 rw [←e,hL,oL,kC hk,show (aQ (Fn.oH v)).succ=aQ (Fn.iQ v) by rw [e];rfl,kC rfl,gQ (show k+aQ (Fn.iQ v)≤4096 by omega),gQ (show k+aQ (Fn.iQ v)≤1048576 by omega)]
 rfl
theorem aAV {L:List Value}{k:Nat}(hL:allB L=true)(hk:k=aQ L)(hb:k≤4096):Fn.okD L k=true:=by
 unfold Fn.okD
 rw [hL,kC hk,gQ hb]
 rfl
theorem IE (z:Nat):sel (ltI 99 (qaa z.succ)) (some (cO.mk [.one (.flat (.slice none 0 0)),.one (.flat (iN 3))] [])) (sel (ltN (z.succ.mod 18446744073709551616) 18446744073709551616) (sel (Fn.okA [] 0 (.int .u8 (qaa (Fn.mF (z.succ.mod 18446744073709551616)))::Fn.oH (z.succ.mod 18446744073709551616)) (aQ (Fn.oH (z.succ.mod 18446744073709551616))).succ 1048576)
  (sel (Fn.okD (.int .u8 (qaa (Fn.mF (z.succ.mod 18446744073709551616)))::Fn.oH (z.succ.mod 18446744073709551616)) (aQ (Fn.oH (z.succ.mod 18446744073709551616))).succ) (some (cO.mk [.one (.sl 0 (aQ (Fn.oH (z.succ.mod 18446744073709551616))).succ),.one (.flat (.int .i64 0))] [(.int .u8 (qaa (Fn.mF (z.succ.mod 18446744073709551616)))::Fn.oH (z.succ.mod 18446744073709551616),tB)])) none) none) none)=(BF (qaa z.succ) []).run:=by
 by_cases h:99<z+1
 ·rw [show ltI 99 (qaa z.succ)=true from aam (a:=99) h,F5 (x:=3) (by unfold Fn.aE;rw [if_pos (.inr (by simp only [qam];omega))]) (by omega)]
  rfl
 ·have hm:z.succ.mod 18446744073709551616=z+1:=qaC (by omega)
  have e:Fn.iQ (z+1) = .int .u8 (qaa (Fn.mF (z+1)))::Fn.oH (z+1):=mQ _
  have e2:(aQ (Fn.oH (z+1))).succ=aQ (Fn.iQ (z+1)):=by rw [e];rfl
  have h10:=vX (z+1)
  have hok:Fn.aE (qaa z.succ) (bI [])=0:=by
   unfold Fn.aE
   rw [if_neg (by simp only [qam];omega),if_neg (fun h=>h.2 rfl),if_neg (by show ¬100000<0;omega)]
  have hL:Fn.aL (qaa z.succ).toNat (bI [])=Fn.iQ (z+1):=by
   show ng ((z+1)::(if z+1=0 then _ else []))=_
   rw [if_neg (by omega)]
   exact ayE _
  rw [show ltI 99 (qaa z.succ)=false from VK (b:=z+1) (a:=99) (by omega),hm,show ltN (z+1) 18446744073709551616=true from gQ (by omega),aAp (L:=[]) (k:=0) rfl rfl (qah _),←e,e2,aAV (oL _) rfl (by omega),UK (k:=aQ (Fn.iQ (z+1))) hok hL rfl]
  rfl
theorem aue:Fn.aL 0 []=[.int .u8 (qaa (Fn.mF 0)),.int .u8 (qaa (Fn.mF 0))]:=by kernel_rfl
theorem II:some (cO.mk [.one (.sl 0 2),.one (.flat (.int .i64 0))] [([.int .u8 (qaa (Fn.mF 0)),.int .u8 (qaa (Fn.mF 0))],tB)])=(BF (qaa 0) []).run:=by
 exact (UK (e:=qaa 0) (W:=[]) (L:=[.int .u8 (qaa (Fn.mF 0)),.int .u8 (qaa (Fn.mF 0))]) (k:=2) rfl aue rfl).symm
theorem G9 (z:Nat)(W:List Value):some (cO.mk [.one (.flat (.slice none 0 0)),.one (.flat (.int .i64 3))] [])=(BF (qaj z) W).run:=by
 rw [F5 (x:=3) (by unfold Fn.aE;rw [if_pos (.inl (Int.negSucc_lt_zero z))]) (by omega)]
 rfl
theorem aef {z m:Nat}{W:List Value}(hn:m+1=W.length):sel (ltI 99 (qaa z.succ)) (some (cO.mk [.one (.flat (.slice none 0 0)),.one (.flat (.int .i64 3))] [])) (some (cO.mk [.one (.flat (.slice none 0 0)),.one (.flat (.int .i64 2))] []))=(BF (qaa z.succ) W).run:=by
 by_cases h:99<z+1
 ·rw [show ltI 99 (qaa z.succ)=true from aam (a:=99) h,F5 (x:=3) (by unfold Fn.aE;rw [if_pos (.inr (by simp only [qam];omega))]) (by omega)]
  rfl
 ·have hne:bI W≠[]:=by
   cases W with
   |nil=>simp at hn
   |cons w t=>simp [bI]
  rw [show ltI 99 (qaa z.succ)=false from VK (b:=z+1) (a:=99) (by omega),F5 (x:=2) (by unfold Fn.aE;rw [if_neg (by simp only [qam];omega),if_pos ⟨by simp only [qam];omega,hne⟩]) (by omega)]
  rfl
theorem Ru {m:Nat}{W:List Value}(hW:Hq W=true)(hn:m+1=W.length)(hb:W.length≤400) :
  ltI 100000 (qaa m.succ)=false∧m.succ.mod 18446744073709551616=m+1∧ltN (m+1) 18446744073709551616=true∧
  Fn.okA [.int .u8 (qaa (Fn.mF 0))] 1 (.int .u8 (qaa (Fn.mF (m+1)))::Fn.oH (m+1)) (aQ (Fn.oH (m+1))).succ 1048576=true∧allB (Fn.oH (m+1))=true∧m.succ.beq m.succ=true∧
  Fn.okP W m.succ (.int .u8 (qaa (Fn.mF 0)) :: .int .u8 (qaa (Fn.mF (m+1)))::Fn.oH (m+1)) (qag 1 (aQ (Fn.oH (m+1))).succ) 1048576=true∧
  Fn.okD (Fn.pF W (.int .u8 (qaa (Fn.mF 0)) :: .int .u8 (qaa (Fn.mF (m+1)))::Fn.oH (m+1))) (Fn.pKk W (.int .u8 (qaa (Fn.mF 0)) :: .int .u8 (qaa (Fn.mF (m+1)))::Fn.oH (m+1))).succ=true∧
  (BF (qaa 0) W).run=some (cO.mk [.one (.sl 0 (Fn.pKk W (.int .u8 (qaa (Fn.mF 0)) :: .int .u8 (qaa (Fn.mF (m+1)))::Fn.oH (m+1))).succ),.one (.flat (.int .i64 0))] [(Fn.pF W (.int .u8 (qaa (Fn.mF 0)) :: .int .u8 (qaa (Fn.mF (m+1)))::Fn.oH (m+1)),tB)]):=by
 have e:Fn.iQ (m+1) = .int .u8 (qaa (Fn.mF (m+1)))::Fn.oH (m+1):=mQ _
 have e0:Fn.iQ 0=[.int .u8 (qaa (Fn.mF 0))]:=by kernel_rfl
 have h10:=vX (m+1)
 have hB:allB (.int .u8 (qaa (Fn.mF 0)) :: .int .u8 (qaa (Fn.mF (m+1)))::Fn.oH (m+1))=true:=by
  have:=qW (oL 0) (oL (m+1))
  rw [e0,e] at this
  exact this
 have hT:allB (Fn.oH (m+1))=true:=by
  have:=oL (m+1)
  rw [e] at this
  exact (dG (show sel (isB _) (allB (Fn.oH (m+1))) false=true from this)).2
 have e2:(aQ (Fn.oH (m+1))).succ=aQ (Fn.iQ (m+1)):=by rw [e];rfl
 have hl:qag 1 (aQ (Fn.oH (m+1))).succ=aQ (.int .u8 (qaa (Fn.mF 0)) :: .int .u8 (qaa (Fn.mF (m+1)))::Fn.oH (m+1)):=by
  show 1+(aQ (Fn.oH (m+1))).succ=(aQ (Fn.oH (m+1))).succ.succ;omega
 have hlen:(bI W).length=m+1:=by unfold bI;simp [hn]
 have hF:Fn.aL 0 (bI W)=Fn.pF W (.int .u8 (qaa (Fn.mF 0)) :: .int .u8 (qaa (Fn.mF (m+1)))::Fn.oH (m+1)):=by
  rw [afP]
  show ng (0::(bI W).length::bI W)=_
  rw [hlen]
  show Fn.iQ 0++(Fn.iQ (m+1)++ng (bI W))=_
  rw [e0,e]
  rfl
 have hFB:allB (Fn.pF W (.int .u8 (qaa (Fn.mF 0)) :: .int .u8 (qaa (Fn.mF (m+1)))::Fn.oH (m+1)))=true:=by rw [afP];exact qW hB (nX _)
 have hFl:aQ (Fn.pF W (.int .u8 (qaa (Fn.mF 0)) :: .int .u8 (qaa (Fn.mF (m+1)))::Fn.oH (m+1)))≤4096∧1≤aQ (Fn.pF W (.int .u8 (qaa (Fn.mF 0)) :: .int .u8 (qaa (Fn.mF (m+1)))::Fn.oH (m+1))):=by
  rw [←hF]
  refine ⟨?_,ai6 _ _⟩
  show aQ (ng (0::(bI W).length::bI W))≤_
  rw [aW]
  have:=AX (0::(bI W).length::bI W)
  simp only [qap] at this
  omega
 have hk:(Fn.pKk W (.int .u8 (qaa (Fn.mF 0)) :: .int .u8 (qaa (Fn.mF (m+1)))::Fn.oH (m+1))).succ=aQ (Fn.pF W (.int .u8 (qaa (Fn.mF 0)) :: .int .u8 (qaa (Fn.mF (m+1)))::Fn.oH (m+1))):=by
  unfold Fn.pKk
  omega
 refine ⟨VK (a:=100000) (by show m+1≤_;omega),qaC (by omega),gQ (by omega),aAp (by rw [←e0];exact oL 0) rfl (by omega),hT,kC rfl,?_,aAV hFB hk (by omega),?_⟩
 ·unfold Fn.okP Fn.okW
  rw [hW,show m.succ.beq (aQ W)=true from kC (by rw [aW];exact hn),gQ (show m.succ≤400 by omega),hB,kC hl,hl]
  have h1:1≤aQ (Value.int .u8 (qaa (Fn.mF 0)) :: .int .u8 (qaa (Fn.mF (m+1)))::Fn.oH (m+1)):=by rw [←hl];show 1≤1+(aQ (Fn.oH (m+1))).succ;omega
  have h2:aQ (Value.int .u8 (qaa (Fn.mF 0)) :: .int .u8 (qaa (Fn.mF (m+1)))::Fn.oH (m+1))≤60:=by rw [←hl];show 1+(aQ (Fn.oH (m+1))).succ≤60;omega
  rw [gQ h1,gQ h2]
  rfl
 ·exact UK (by unfold Fn.aE;rw [if_neg (by show ¬((0:Int)<0∨(99:Int)<0);omega),if_neg (fun h=>h.1 rfl),if_neg (by rw [hlen];omega)]) hF hk
def avC (l:List fK):Tree cO:=
 match l with
 |[.agg [.raw (.int k e),.sl W t n]]=>bU (gY k .i64&&(qaf t tW&&Fn.okW W n)) (BF e W)
 |[.agg [.raw (.int k e),.raw (.slice _ n _)]]=>bU (gY k .i64&&qaf n 0) (BF e [])
 |_=>.fail
theorem qC {e:Int}{W:List Value}{r:cO}(h:(BF e W).run=some r):∀ p∈r.rows,flatAll p.1=true:=by
 have h:sel (Fn.aOk e W) _ _=some r:=h
 rw [aG] at h
 split at h
 ·cases h
  intro p hp
  rcases List.mem_cons.1 hp with rfl|hp
  ·show flatAll (Fn.aBy e W)=true
   rw [agF]
   exact jD (nX _)
  ·cases hp
 ·cases h
  intro p hp
  cases hp
theorem Wq {f:FuncId}
  (hnS:∀ W z n,(runK KM C10 40).1 f (bG (anS (qaj z) W n)) (aH (anS (qaj z) W n)) (bP Tryz.prog)=(BF (qaj z) W).run)
  (hnN:∀ z c,(runK KM C10 40).1 f (bG (anV (qaj z) (.slice none 0 c))) (aH (anV (qaj z) (.slice none 0 c))) (bP Tryz.prog)=(BF (qaj z) []).run)
  (hnD:∀ z,(runK KM C10 40).1 f (bG (anV (qaj z) bY)) (aH (anV (qaj z) bY)) (bP Tryz.prog)=(BF (qaj z) []).run)
  (hpS:∀ W e m,Fn.okW W (qac m)=true→(runK KM C10 40).1 f (bG (anS (qaa e) W (qac m))) (aH (anS (qaa e) W (qac m))) (bP Tryz.prog)=(BF (qaa e) W).run)
  (hpE:∀ e,(runK KM C9 40).1 f (bG (anS (qaa e) [] 0)) (aH (anS (qaa e) [] 0)) (bP Tryz.prog)=(BF (qaa e) []).run)
  (hpN:∀ e c,(runK KM C10 40).1 f (bG (anV (qaa e) (.slice none 0 c))) (aH (anV (qaa e) (.slice none 0 c))) (bP Tryz.prog)=(BF (qaa e) []).run)
  (hpD:∀ e,(runK KM C10 40).1 f (bG (anV (qaa e) bY)) (aH (anV (qaa e) bY)) (bP Tryz.prog)=(BF (qaa e) []).run):TA Tryz.prog f avC:=by
 intro comps r kL hr
 unfold avC at hr
 split at hr
 ·rename_i k e W t n
  obtain ⟨hg,h2⟩:=aJ hr
  simp only [qad] at hg
  obtain ⟨g1,g2,g3⟩:=hg
  have g1:=mM g1
  have g2:t=tW:=qab g2
  subst g1 g2
  cases e with
  |negSucc z=>exact ⟨C10,40,fun lo=>@QL lo,qC h2,bV (K:=KM) (by decide) bF aT ((hnS W z n).trans h2)⟩
  |ofNat e=>
   cases n with
   |succ m=>exact ⟨C10,40,fun lo=>@QL lo,qC h2,bV (K:=KM) (by decide) bF aT ((hpS W e m g3).trans h2)⟩
   |zero=>
    have:W=[]:=by
     obtain ⟨_,h,_⟩:=kE g3
     exact List.length_eq_zero_iff.1 h.symm
    subst this
    exact ⟨C9,40,fun lo=>@arO lo,qC h2,bV (K:=KM) (by decide) bF aT ((hpE e).trans h2)⟩
 ·rename_i k e a n c
  obtain ⟨hg,h2⟩:=aJ hr
  simp only [qad] at hg
  obtain ⟨g1,g2⟩:=hg
  have g1:=mM g1
  have g2:n=0:=qab g2
  subst g1 g2
  have hf:=kL (.agg [.raw (.int .i64 e),.raw (.slice a 0 c)]) qai
  have hf:o7 (.slice a 0 c)=true:=hf (.raw (.slice a 0 c)) (qao _ qai)
  cases a with
  |none=>
   cases e with
   |negSucc z=>exact ⟨C10,40,fun lo=>@QL lo,qC h2,bV (K:=KM) (by decide) bF aT ((hnN z c).trans h2)⟩
   |ofNat e=>exact ⟨C10,40,fun lo=>@QL lo,qC h2,bV (K:=KM) (by decide) bF aT ((hpN e c).trans h2)⟩
  |some a=>
   obtain ⟨b,o,sp⟩:=a
   have hf:(sp.isNone&&(qaf b fP&&(qaf o 0&&(qaf 0 0&&qaf c aC))))=true:=hf
   simp only [qad] at hf
   obtain ⟨f1,f2,f3,_,f5⟩:=hf
   have f2:=qab f2
   have f3:=qab f3
   have f5:=qab f5
   subst f2 f3 f5
   cases sp with
   |some x=>cases f1
   |none=>
    cases e with
    |negSucc z=>exact ⟨C10,40,fun lo=>@QL lo,qC h2,bV (K:=KM) (by decide) bF aT ((hnD z).trans h2)⟩
    |ofNat e=>exact ⟨C10,40,fun lo=>@QL lo,qC h2,bV (K:=KM) (by decide) bF aT ((hpD e).trans h2)⟩
 ·cases hr
theorem aoq:TA Tryz.prog 9 avC:=by
 refine Wq (fun W z n=>(afk W z n).trans (G9 z W)) (fun z c=>(agt z c).trans (G9 z [])) (fun z=>(agj z).trans (G9 z [])) ?_ ?_ ?_ ?_
 ·intro W e m hW
  obtain ⟨h1,h2,h3⟩:=kE hW
  cases e with
  |succ z=>exact (agh W z m).trans (aef h2)
  |zero=>
   obtain ⟨f1,f2,f3,f4,f5,f6,f7,f8,f9⟩:=Ru (m:=m) h1 h2 (by omega)
   refine (arE W m).trans ?_;unfold V6 pX Ti Hr OZ PL V5 VZ acJ ad7 xG
   rw [f1,f2,f3,f4,ajN h1,oC (N:=sP0.N) f5,f6,f7,f8,f9]
   rfl
 ·intro e
  cases e with
  |succ z=>exact (afG z).trans (IE z)
  |zero=>exact (afR 0).trans II
 ·intro e c
  cases e with
  |succ z=>exact (afz z c).trans (IE z)
  |zero=>exact (aeN 0 c).trans II
 ·intro e
  cases e with
  |succ z=>exact (afn z).trans (IE z)
  |zero=>exact (afV 0).trans II
theorem amR:TA Tryz.prog 10 avC:=by
 refine Wq (fun W z n=>(afw W z n).trans (G9 z W)) (fun z c=>(afl z c).trans (G9 z [])) (fun z=>(agx z).trans (G9 z [])) ?_ ?_ ?_ ?_
 ·intro W e m hW
  obtain ⟨h1,h2,h3⟩:=kE hW
  cases e with
  |succ z=>exact (aeQ W z m).trans (aef h2)
  |zero=>
   obtain ⟨f1,f2,f3,f4,f5,f6,f7,f8,f9⟩:=Ru (m:=m) h1 h2 (by omega)
   refine (ata W m).trans ?_;unfold V6 pX Ti Hr OZ PL V5 VZ acJ ad7 xG
   rw [f1,f2,f3,f4,ajN h1,oC (N:=sR0.N) f5,f7,f8,f9]
   rfl
 ·intro e
  cases e with
  |succ z=>exact (afr z).trans (IE z)
  |zero=>exact (ae9 0).trans II
 ·intro e c
  cases e with
  |succ z=>exact (aga z c).trans (IE z)
  |zero=>exact (afc 0 c).trans II
 ·intro e
  cases e with
  |succ z=>exact (afI z).trans (IE z)
  |zero=>exact (aeT 0).trans II
def aS (W:List Value)(t:TypeId)(n:Nat):fK:=.one (.sl W t n)
def aV (v:Value):fK:=.one (.raw v)
def sSW:bM:={ N:=64,need:=[0,1,5,6],low:=[32,33],keep:=[],new:=[] }
def eSW:bM:={ N:=64,need:=[5],low:=[],keep:=[],new:=[] }
def slM (n:Nat):Value:=.slice (some ⟨33,0,none⟩) n aC
def sOB:bM:={ N:=65,need:=[0,2],low:=[],keep:=[(64,true,false)],new:=[] }
def eOB:bM:={ N:=65,need:=[],low:=[],keep:=[],new:=[] }
def hOB (L:List Value)(n i:Nat):bg:=⟨[slW 64 n,iN i],[(64,.row L tB 64)]⟩
theorem aiF (A:List Value)(n:Nat)(B:List Value)(k:Nat):(runK KM CB 12).1 11 (bG ([aS A tB n,aS B tB k])) (aH ([aS A tB n,aS B tB k])) (bP Tryz.prog)=sel ((n.mul 1).ble (aQ A)) (sel (gI (aA (n.mul 1) A)) (sel ((k.mul 1).ble (aQ B)) (sel (gI (aA (k.mul 1) B)) (some { val:=[.one (.flat (.bool (nO (wz (aA (n.mul 1) A)) (wz (aA (k.mul 1) B)))))],rows:=[] }) none) none) none) none:=by kernel_rfl
theorem ajw (A:List Value)(n:Nat)(d:Nat):(runK KM CB 12).1 11 (bG ([aS A tB n,aV (.slice none 0 d)])) (aH ([aS A tB n,aV (.slice none 0 d)])) (bP Tryz.prog)=sel ((n.mul 1).ble (aQ A)) (sel (gI (aA (n.mul 1) A)) (some { val:=[gq.one (dZ.flat (Value.bool (nO (wz (aA (n.mul 1) A)) [])))],rows:=[] }) none) none:=by kernel_rfl
def Xg (n:Nat):Option cO:=some { val:=[.one (.flat (.bool (eqI (qaa n) (qaa 0))))],rows:=[] }
def acP (A:List Value)(n:Nat):Option cO:=sel (ltI 0 (qaa n)) (sel (ltN 0 n) (sel (iD (.int .u64 0) (nth A 0)) none none) none) (Xg n)
theorem atE (A:List Value)(n:Nat)(d:Nat):(runK KM CB 12).1 37 (bG ([aS A tW n,aV (.slice none 0 d)])) (aH ([aS A tW n,aV (.slice none 0 d)])) (bP Tryz.prog)=sel (eqI (qaa n) (qaa 0)) (acP A n) (Xg n):=by kernel_rfl
theorem aiR (A:List Value)(n:Nat):(runK KM CB 12).1 11 (bG ([aS A tB n,aV bY])) (aH ([aS A tB n,aV bY])) (bP Tryz.prog)=sel ((n.mul 1).ble (aQ A)) (sel (gI (aA (n.mul 1) A)) (some { val:=[gq.one (dZ.flat (Value.bool (nO (wz (aA (n.mul 1) A)) [])))],rows:=[] }) none) none:=by kernel_rfl
theorem atQ (A:List Value)(n:Nat):(runK KM CB 12).1 37 (bG ([aS A tW n,aV bY])) (aH ([aS A tW n,aV bY])) (bP Tryz.prog)=sel (eqI (qaa n) (qaa 0)) (acP A n) (Xg n):=by kernel_rfl
theorem aiJ (c:Nat)(B:List Value)(k:Nat):(runK KM CB 12).1 11 (bG ([aV (.slice none 0 c),aS B tB k])) (aH ([aV (.slice none 0 c),aS B tB k])) (bP Tryz.prog)=sel ((k.mul 1).ble (aQ B)) (sel (gI (aA (k.mul 1) B)) (some { val:=[gq.one (dZ.flat (Value.bool (nO [] (wz (aA (k.mul 1) B)))))],rows:=[] }) none) none:=by kernel_rfl
def QB (k:Nat):Option cO:=some { val:=[.one (.flat (.bool (eqI (qaa 0) (qaa k))))],rows:=[] }
theorem auG (c:Nat)(B:List Value)(k:Nat):(runK KM CB 12).1 37 (bG ([aV (.slice none 0 c),aS B tW k])) (aH ([aV (.slice none 0 c),aS B tW k])) (bP Tryz.prog)=sel (eqI (qaa 0) (qaa k)) (QB k) (QB k):=by kernel_rfl
theorem ahR (c:Nat)(d:Nat):(runK KM CB 12).1 11 (bG ([aV (.slice none 0 c),aV (.slice none 0 d)])) (aH ([aV (.slice none 0 c),aV (.slice none 0 d)])) (bP Tryz.prog)=some { val:=[gq.one (dZ.flat (Value.bool true))],rows:=[] }:=by kernel_rfl
theorem aiN (c:Nat)(d:Nat):(runK KM CB 12).1 37 (bG ([aV (.slice none 0 c),aV (.slice none 0 d)])) (aH ([aV (.slice none 0 c),aV (.slice none 0 d)])) (bP Tryz.prog)=some { val:=[gq.one (dZ.flat (Value.bool true))],rows:=[] }:=by kernel_rfl
theorem aiP (c:Nat):(runK KM CB 12).1 11 (bG ([aV (.slice none 0 c),aV bY])) (aH ([aV (.slice none 0 c),aV bY])) (bP Tryz.prog)=some { val:=[gq.one (dZ.flat (Value.bool true))],rows:=[] }:=by kernel_rfl
theorem ajZ (c:Nat):(runK KM CB 12).1 37 (bG ([aV (.slice none 0 c),aV bY])) (aH ([aV (.slice none 0 c),aV bY])) (bP Tryz.prog)=some { val:=[gq.one (dZ.flat (Value.bool true))],rows:=[] }:=by kernel_rfl
theorem akU (B:List Value)(k:Nat):(runK KM CB 12).1 11 (bG ([aV bY,aS B tB k])) (aH ([aV bY,aS B tB k])) (bP Tryz.prog)=sel ((k.mul 1).ble (aQ B)) (sel (gI (aA (k.mul 1) B)) (some { val:=[gq.one (dZ.flat (Value.bool (nO [] (wz (aA (k.mul 1) B)))))],rows:=[] }) none) none:=by kernel_rfl
theorem awC (B:List Value)(k:Nat):(runK KM CB 12).1 37 (bG ([aV bY,aS B tW k])) (aH ([aV bY,aS B tW k])) (bP Tryz.prog)=sel (eqI (qaa 0) (qaa k)) (QB k) (QB k):=by kernel_rfl
theorem aiV (d:Nat):(runK KM CB 12).1 11 (bG ([aV bY,aV (.slice none 0 d)])) (aH ([aV bY,aV (.slice none 0 d)])) (bP Tryz.prog)=some { val:=[gq.one (dZ.flat (Value.bool true))],rows:=[] }:=by kernel_rfl
theorem ajt (d:Nat):(runK KM CB 12).1 37 (bG ([aV bY,aV (.slice none 0 d)])) (aH ([aV bY,aV (.slice none 0 d)])) (bP Tryz.prog)=some { val:=[gq.one (dZ.flat (Value.bool true))],rows:=[] }:=by kernel_rfl
theorem ahn (z:Nat):(runK KM CB 12).1 11 (bG ([aV bY,aV bY])) (aH ([aV bY,aV bY])) (bP Tryz.prog)=some { val:=[gq.one (dZ.flat (Value.bool true))],rows:=[] }:=by kernel_rfl
theorem agV (z:Nat):(runK KM CB 12).1 37 (bG ([aV bY,aV bY])) (aH ([aV bY,aV bY])) (bP Tryz.prog)=some { val:=[gq.one (dZ.flat (Value.bool true))],rows:=[] }:=by kernel_rfl
def adY (m:Nat):=(qas 2 (qag 0 m.succ)).add 768
theorem azu (A:List Value)(m:Nat):(runK KM CB 12).1 13 (bG ([aS A tB (qac m)])) (aH ([aS A tB (qac m)])) (bP Tryz.prog)=sel ((m.succ.mul 1).ble (aQ A)) (sel ((qag 0 m.succ).ble 281474976710656&&((adY m).mul 1).ble 281474976710656&&true&&true) (some { val:=[.one (.sl 0 (qag 0 m.succ))],rows:=[(aK [] (aA (m.succ.mul 1) A),5)] }) none) none:=by kernel_rfl
theorem amN (c:Nat):(runK KM CB 12).1 13 (bG ([aS [] tB 0])) (aH ([aS [] tB 0])) (bP Tryz.prog)=some { val:=[gq.one (dZ.sl 0 0)],rows:=[([],5)] }:=by kernel_rfl
theorem al8 (c:Nat):(runK KM CB 12).1 13 (bG ([aV (.slice none 0 c)])) (aH ([aV (.slice none 0 c)])) (bP Tryz.prog)=some { val:=[gq.one (dZ.sl 0 0)],rows:=[([],5)] }:=by kernel_rfl
theorem alQ (c:Nat):(runK KM CB 12).1 13 (bG ([aV bY])) (aH ([aV bY])) (bP Tryz.prog)=some { val:=[gq.one (dZ.sl 0 0)],rows:=[([],5)] }:=by kernel_rfl
theorem aAi (A:List Value)(m:Nat):(runK KM CB 12).1 8 (bG ([aS A tW (qac m)])) (aH ([aS A tW (qac m)])) (bP Tryz.prog)=sel ((m.succ.mul 1).ble (aQ A)) (sel ((qag 0 m.succ).ble 281474976710656&&((adY m).mul 8).ble 281474976710656&&true&&true) (some { val:=[.one (.sl 0 (qag 0 m.succ))],rows:=[(aK [] (aA (m.succ.mul 1) A),45)] }) none) none:=by kernel_rfl
theorem alM (c:Nat):(runK KM CB 12).1 8 (bG ([aS [] tW 0])) (aH ([aS [] tW 0])) (bP Tryz.prog)=some { val:=[gq.one (dZ.sl 0 0)],rows:=[([],45)] }:=by kernel_rfl
theorem ama (c:Nat):(runK KM CB 12).1 8 (bG ([aV (.slice none 0 c)])) (aH ([aV (.slice none 0 c)])) (bP Tryz.prog)=some { val:=[gq.one (dZ.sl 0 0)],rows:=[([],45)] }:=by kernel_rfl
theorem aol (c:Nat):(runK KM CB 12).1 8 (bG ([aV bY])) (aH ([aV bY])) (bP Tryz.prog)=some { val:=[gq.one (dZ.sl 0 0)],rows:=[([],45)] }:=by kernel_rfl
def ah1 (i:Nat):=(i.add 1).ble 9223372036854775807
def ac9 (L:List Value)(i:Nat):=qaa (((ay L (qag 0 (i.mul 1))).mod 256).xor 165)
theorem aAJ (L:List Value)(n i:Nat):jO KM.plain CB (runK KM CB 8).1 (runK KM CB 8).2 (CB.vars 18) 18 false (fU CB 18 1) (gJ Tryz.prog (CB.vars 18) sOB eOB) (CX sOB.need (hOB L n i)) (lQ sOB.next (hOB L n i))=sel (ltI (qaa i) (qaa n)) (sel (ltN i n) (sel (iD (.int .u8 0) (nth L (qag 0 (i.mul 1)))) (sel (ltN i n) (sel (((qag 0 (i.mul 1)).add 1).ble (aQ L)) (sel (ah1 i) (sel (List.rec true (fun v x ih=>sel (aX sOB.N v) ih false) (zi [.int .u8 (ac9 L i)] (qag 0 (i.mul 1)) L)) (some (.normal,{ vals:=[.slice (some ⟨64,0,none⟩) n 18446744073709551616,.int .i64 (qaa (i.add 1))],rows:=[(64,.row (zi [.int .u8 (ac9 L i)] (qag 0 (i.mul 1)) L) 5 64)] })) none) none) none) none) none) none) (some (.exit 0,{ vals:=[],rows:=[] })):=by kernel_rfl
namespace Fn
def ab7 (A B:List Value):Bool:=nO (wz A) (wz B)
def Df (A B:List Value):Bool:=decide (bI A=bI B)
def okL (A:List Value)(n:Nat):Bool:=allB A&&(qaf n (aQ A)&&qau n 4096)
end Fn
theorem CG {A:List Value}{n:Nat}(h:Fn.okL A n=true):allB A=true∧n=aQ A∧n≤4096:=by
 unfold Fn.okL at h
 simp only [qad] at h
 exact ⟨h.1,qab h.2.1,qae h.2.2⟩
theorem Jy:∀ l:List UInt8,nO l l=true
 |[]=>rfl
 |a::l=>by
  show sel (qaf a.toNat a.toNat) (nO l l) false=true
  rw [kC rfl,aN]
  exact Jy l
theorem BI (A:List Value):Fn.ab7 A A=true:=Jy _
theorem Rq (A:List Value):Fn.Df A A=true:=by unfold Fn.Df;simp
def bRs (b:Bool):cO:=⟨[.one (.flat (.bool b))],[]⟩
def ao8 (t:TypeId)(ok:List Value→Nat→Bool)(same:List Value→List Value→Bool)(l:List fK):Tree cO:=
 match l with
 |[.one (.sl A e n),.one (.sl B e' k)]=>bU (qaf e t&&(qaf e' t&&(ok A n&&ok B k))) (.leaf (bRs (same A B)))
 |[.one (.sl A e n),.one (.raw (.slice _ k _))]=>bU (qaf e t&&(ok A n&&qaf k 0)) (.leaf (bRs (same A [])))
 |[.one (.raw (.slice _ k _)),.one (.sl A e n)]=>bU (qaf e t&&(ok A n&&qaf k 0)) (.leaf (bRs (same [] A)))
 |[.one (.raw (.slice _ n _)),.one (.raw (.slice _ k _))]=>bU (qaf n 0&&qaf k 0) (.leaf (bRs true))
 |_=>.fail
theorem mZ {a:Option Addr}{c:Nat}(h:o7 (.slice a 0 c)=true):a=none∨(Value.slice a 0 c=bY):=by
 cases a with
 |none=>exact .inl rfl
 |some a=>
  right
  obtain ⟨b,o,sp⟩:=a
  have hf:(sp.isNone&&(qaf b fP&&(qaf o 0&&(qaf 0 0&&qaf c aC))))=true:=h
  simp only [qad] at hf
  obtain ⟨f1,f2,f3,_,f5⟩:=hf
  have f2:=qab f2
  have f3:=qab f3
  have f5:=qab f5
  subst f2 f3 f5
  cases sp with
  |some x=>cases f1
  |none=>rfl
abbrev KG (C:Cfg)(f:FuncId)(l:List fK):Option cO:=(runK KM C 12).1 f (bG l) (aH l) (bP Tryz.prog)
theorem asw {C:Cfg}{f:FuncId}{t:TypeId}{ok:List Value→Nat→Bool}{same:List Value→List Value→Bool}
  (hSS:∀ A n B k,ok A n=true→ok B k=true→KG C f [aS A t n,aS B t k]=some (bRs (same A B)))
  (hSN:∀ A n c,ok A n=true→KG C f [aS A t n,aV (.slice none 0 c)]=some (bRs (same A [])))
  (hSD:∀ A n,ok A n=true→KG C f [aS A t n,aV bY]=some (bRs (same A [])))
  (hNS:∀ A n c,ok A n=true→KG C f [aV (.slice none 0 c),aS A t n]=some (bRs (same [] A)))
  (hDS:∀ A n,ok A n=true→KG C f [aV bY,aS A t n]=some (bRs (same [] A)))
  (hNN:∀ c d,KG C f [aV (.slice none 0 c),aV (.slice none 0 d)]=some (bRs true))
  (hND:∀ c,KG C f [aV (.slice none 0 c),aV bY]=some (bRs true))
  (hDN:∀ c,KG C f [aV bY,aV (.slice none 0 c)]=some (bRs true))
  (hDD:KG C f [aV bY,aV bY]=some (bRs true)):vF Tryz.prog C 12 f (ao8 t ok same):=by
 intro comps r kL hr
 have KN:∀ b,r=bRs b→∀ p∈r.rows,flatAll p.1=true:=fun b h p hp=>by rw [h] at hp;cases hp
 have key:∀ b,r=bRs b→KG C f comps=some (bRs b)→(∀ p∈r.rows,flatAll p.1=true)∧aj ((runN C 12).1 f (bG comps) (aH comps)) (bP Tryz.prog)=some r:=
  fun b h g=>⟨KN b h,by rw [h];exact bV (K:=KM) (by decide) bF aT g⟩
 unfold ao8 at hr
 split at hr
 ·rename_i A e n B e' k
  obtain ⟨hg,h2⟩:=aJ hr
  simp only [qad] at hg
  obtain ⟨g1,g2,g3,g4⟩:=hg
  have g1:e=t:=qab g1
  have g2:e'=t:=qab g2
  subst g1 g2
  cases h2
  exact key _ rfl (hSS A n B k g3 g4)
 ·rename_i A e n a k c
  obtain ⟨hg,h2⟩:=aJ hr
  simp only [qad] at hg
  obtain ⟨g1,g2,g3⟩:=hg
  have g1:e=t:=qab g1
  have g3:k=0:=qab g3
  subst g1 g3
  cases h2
  have hf:o7 (.slice a 0 c)=true:=kL (.one (.raw (.slice a 0 c))) (qao _ qai)
  rcases mZ hf with rfl|e
  ·exact key _ rfl (hSN A n c g2)
  ·refine key _ rfl ?_
   rw [e]
   exact hSD A n g2
 ·rename_i a k c A e n
  obtain ⟨hg,h2⟩:=aJ hr
  simp only [qad] at hg
  obtain ⟨g1,g2,g3⟩:=hg
  have g1:e=t:=qab g1
  have g3:k=0:=qab g3
  subst g1 g3
  cases h2
  have hf:o7 (.slice a 0 c)=true:=kL (.one (.raw (.slice a 0 c))) qai
  rcases mZ hf with rfl|e
  ·exact key _ rfl (hNS A n c g2)
  ·refine key _ rfl ?_
   rw [e]
   exact hDS A n g2
 ·rename_i a n c b k d
  obtain ⟨hg,h2⟩:=aJ hr
  simp only [qad] at hg
  obtain ⟨g1,g2⟩:=hg
  have g1:n=0:=qab g1
  have g2:k=0:=qab g2
  subst g1 g2
  cases h2
  have hf:o7 (.slice a 0 c)=true:=kL (.one (.raw (.slice a 0 c))) qai
  have hf':o7 (.slice b 0 d)=true:=kL (.one (.raw (.slice b 0 d))) (qao _ qai)
  rcases mZ hf with rfl|e <;> rcases mZ hf' with rfl|e'
  ·exact key _ rfl (hNN c d)
  ·refine key _ rfl ?_
   rw [e']
   exact hND c
  ·refine key _ rfl ?_
   rw [e]
   exact hDN d
  ·refine key _ rfl ?_
   rw [e,e']
   exact hDD
 ·cases hr
theorem atU:vF Tryz.prog CB 12 11 (ao8 tB Fn.okL Fn.ab7):=by
 have t1:∀ {A:List Value} {n:Nat},Fn.okL A n=true→(n.mul 1).ble (aQ A)=true∧aA (n.mul 1) A=A∧gI A=true:=fun h=>by
  obtain ⟨h1,h2,h3⟩:=CG h
  exact ⟨gQ (by rw [←h2];show _*1≤_;omega),uJ h2,Hg h1⟩
 refine asw ?_ ?_ ?_ ?_ ?_ (fun c d=>ahR c d) (fun c=>aiP c) (fun c=>aiV c) (ahn 0)
 ·intro A n B k hA hB
  obtain ⟨a1,a2,a3⟩:=t1 hA
  obtain ⟨b1,b2,b3⟩:=t1 hB
  refine (aiF A n B k).trans ?_
  rw [a1,a2,a3,b1,b2,b3];rfl
 ·intro A n c hA
  obtain ⟨a1,a2,a3⟩:=t1 hA
  refine (ajw A n c).trans ?_
  rw [a1,a2,a3];rfl
 ·intro A n hA
  obtain ⟨a1,a2,a3⟩:=t1 hA
  refine (aiR A n).trans ?_
  rw [a1,a2,a3];rfl
 ·intro A n c hA
  obtain ⟨a1,a2,a3⟩:=t1 hA
  refine (aiJ c A n).trans ?_
  rw [a1,a2,a3];rfl
 ·intro A n hA
  obtain ⟨a1,a2,a3⟩:=t1 hA
  refine (akU A n).trans ?_
  rw [a1,a2,a3];rfl
def afW (t:TypeId)(ok:List Value→Nat→Bool)(l:List fK):Tree cO:=
 match l with
 |[.one (.sl A e n)]=>bU (qaf e t&&ok A n) (.leaf ⟨[.one (.sl 0 n)],[(A,t)]⟩)
 |[.one (.raw (.slice _ n _))]=>bU (qaf n 0) (.leaf ⟨[.one (.sl 0 0)],[([],t)]⟩)
 |_=>.fail
theorem aej {f:FuncId}{t:TypeId}{ok:List Value→Nat→Bool}(hok:∀ A n,ok A n=true→n=A.length∧n≤4096∧flatAll A=true)
  (hS:∀ A m,ok A (qac m)=true→KG CB f [aS A t (qac m)]=some ⟨[.one (.sl 0 (qac m))],[(A,t)]⟩)
  (hE:KG CB f [aS [] t 0]=some ⟨[.one (.sl 0 0)],[([],t)]⟩) (hN:∀ c,KG CB f [aV (.slice none 0 c)]=some ⟨[.one (.sl 0 0)],[([],t)]⟩) (hD:KG CB f [aV bY]=some ⟨[.one (.sl 0 0)],[([],t)]⟩):vF Tryz.prog CB 12 f (afW t ok):=by
 intro comps r kL hr
 have key:∀ q:cO,r=q→(∀ p∈q.rows,flatAll p.1=true)→KG CB f comps=some q→(∀ p∈r.rows,flatAll p.1=true)∧aj ((runN CB 12).1 f (bG comps) (aH comps)) (bP Tryz.prog)=some r:=
  fun q h hf g=>⟨by rw [h];exact hf,by rw [h];exact bV (K:=KM) (by decide) bF aT g⟩
 have hnil:∀ p∈(cO.mk [.one (.sl 0 0)] [([],t)]).rows,flatAll p.1=true:=fun p hp=>by
  obtain rfl:p=([],t):=by simpa using hp
  rfl
 unfold afW at hr
 split at hr
 ·rename_i A e n
  obtain ⟨hg,h2⟩:=aJ hr
  simp only [qad] at hg
  obtain ⟨g1,g2⟩:=hg
  have g1:e=t:=qab g1
  subst g1
  cases h2
  obtain ⟨k1,k2,k3⟩:=hok A n g2
  cases n with
  |succ m=>exact key _ rfl (fun p hp=>by obtain rfl:p=(A,e):=by simpa using hp
                                         exact k3) (hS A m g2)
  |zero=>
   have:A=[]:=List.length_eq_zero_iff.1 k1.symm
   subst this
   exact key _ rfl hnil hE
 ·rename_i a n c
  obtain ⟨hg,h2⟩:=aJ hr
  have hg:n=0:=qab hg
  subst hg
  cases h2
  have hf:o7 (.slice a 0 c)=true:=kL (.one (.raw (.slice a 0 c))) qai
  rcases mZ hf with rfl|e
  ·exact key _ rfl hnil (hN c)
  ·refine key _ rfl hnil ?_
   rw [e]
   exact hD
 ·cases hr
theorem AY:∀ {W:List Value},Hq W=true→flatAll W=true
 |[],_=>rfl
 |a::W,h=>by
  obtain ⟨h1,h2⟩:=dG (show sel (isW a) (Hq W) false=true from h)
  obtain ⟨g1,_⟩:=ahJ h1
  show sel (lZ a) (flatAll W) false=true
  rw [g1]
  exact AY h2
theorem avf:vF Tryz.prog CB 12 13 (afW tB Fn.okL):=by
 refine aej (fun A n h=>?_) (fun A m h=>?_) (amN 0) (fun c=>al8 c) (alQ 0)
 ·obtain ⟨h1,h2,h3⟩:=CG h
  exact ⟨by rw [←aW];exact h2,h3,jD h1⟩
 ·obtain ⟨h1,h2,h3⟩:=CG h
  refine (azu A m).trans ?_;unfold adY
  rw [gQ (show m.succ.mul 1≤aQ A by rw [←h2];show (m+1)*1≤m+1;omega),gQ (show qag 0 m.succ≤281474976710656 by show 0+(m+1)≤_;omega),gQ (show ((qas 2 (qag 0 m.succ)).add 768).mul 1≤281474976710656 by show (2*(0+(m+1))+768)*1≤_;omega),uJ h2,show qag 0 m.succ=m.succ from qaz _]
  rfl
theorem axa:vF Tryz.prog CB 12 8 (afW tW Fn.okW):=by
 refine aej (fun A n h=>?_) (fun A m h=>?_) (alM 0) (fun c=>ama c) (aol 0)
 ·obtain ⟨h1,h2,h3⟩:=kE h
  exact ⟨h2,by omega,AY h1⟩
 ·obtain ⟨h1,h2,h3⟩:=kE h
  have h2':m.succ=aQ A:=by rw [aW];exact h2
  refine (aAi A m).trans ?_;unfold adY
  rw [gQ (show m.succ.mul 1≤aQ A by rw [←h2'];show (m+1)*1≤m+1;omega),gQ (show qag 0 m.succ≤281474976710656 by show 0+(m+1)≤_;omega),gQ (show ((qas 2 (qag 0 m.succ)).add 768).mul 8≤281474976710656 by show (2*(0+(m+1))+768)*8≤_;omega),uJ h2',show qag 0 m.succ=m.succ from qaz _]
  rfl
def hSX (A B:List Value)(n k i:Nat)(b:Bool):bg:=⟨[slL n,slM k,.bool b,iN i],[(32,.row A tW 32),(33,.row B tW 33)]⟩
theorem acL (A B:List Value)(n k i:Nat):jO KM.plain CB (runK KM CB 8).1 (runK KM CB 8).2 (CB.vars 37) 37 false (fU CB 37 3) (gJ Tryz.prog (CB.vars 37) sSW eSW) (CX sSW.need (hSX A B n k i true)) (lQ sSW.next (hSX A B n k i true))=sel (ltI (qaa i) (qaa n)) (sel (ltN i n) (sel (iD (.int .u64 0) (nth A (qag 0 (i.mul 1)))) (sel (ltN i k) (sel (iD (.int .u64 0) (nth B (qag 0 (i.mul 1)))) (sel ((i.add 1).ble 9223372036854775807) (sel (List.rec true (fun v x ih=>sel (tC v) ih false) A) (sel (List.rec true (fun v x ih=>sel (tC v) ih false) B) (some (.normal,{ vals:=[.slice (some ⟨32,0,none⟩) n 18446744073709551616,.slice (some ⟨33,0,none⟩) k 18446744073709551616,.bool (eqI (qaa (ay A (qag 0 (i.mul 1)))) (qaa (ay B (qag 0 (i.mul 1))))),.int .i64 (qaa (i.add 1))],rows:=[(32,.row A 45 32),(33,.row B 45 33)] })) none) none) none) none) none) none) none) (some (.exit 0,{ vals:=[.bool true],rows:=[] })):=by kernel_rfl
theorem anW (A B:List Value)(n k i:Nat):jO KM.plain CB (runK KM CB 8).1 (runK KM CB 8).2 (CB.vars 37) 37 false (fU CB 37 3) (gJ Tryz.prog (CB.vars 37) sSW eSW) (CX sSW.need (hSX A B n k i false)) (lQ sSW.next (hSX A B n k i false))=some (Ex.exit 0,{ vals:=[Value.bool false],rows:=[] }):=by kernel_rfl
def exS (y:bg):Option (Ex × bg):=
 jO KM.plain CB (runK KM CB 8).1 (runK KM CB 8).2 (CB.vars 37) 37 false (fU CB 37 3) (gJ Tryz.prog (CB.vars 37) sSW eSW) (CX sSW.need y) (lQ sSW.next y)
def exO (y:bg):Option (Ex × bg):=
 jO KM.plain CB (runK KM CB 8).1 (runK KM CB 8).2 (CB.vars 18) 18 false (fU CB 18 1) (gJ Tryz.prog (CB.vars 18) sOB eOB) (CX sOB.need y) (lQ sOB.next y)
theorem asA {A B:List Value}{i:Nat}(hA:Hq A=true)(hB:Hq B=true)(hi:i<A.length)(hl:A.length=B.length)(hb:A.length≤400) :
  exS (hSX A B A.length B.length i true)=some (.normal,hSX A B A.length B.length (i+1) (eqI (qaa ((bI A).getD i 0)) (qaa ((bI B).getD i 0)))):=by
 obtain ⟨a1,a2,a3⟩:=aaX hA hi
 obtain ⟨b1,b2,b3⟩:=aaX (i:=i) hB (by omega)
 have e:qag 0 (i.mul 1)=i:=by show 0+i*1=i;omega
 unfold exS
 rw [acL,aam hi,show ltN i A.length=true from gQ hi,show ltN i B.length=true from gQ (by omega),e,a2,b2,show iD (.int .u64 0) (nth A i)=true by rw [a1];rfl,show iD (.int .u64 0) (nth B i)=true by rw [b1];rfl,
  show (i.add 1).ble 9223372036854775807=true from gQ (by show i+1≤_;omega),ajN hA,ajN hB]
 rfl
theorem aug {A B:List Value}{k:Nat}:exS (hSX A B A.length k A.length true)=some (.exit 0,⟨[.bool true],[]⟩):=by
 unfold exS
 rw [acL,VK (qay _)]
 rfl
theorem aya {A B:List Value}{n k i:Nat}:exS (hSX A B n k i false)=some (.exit 0,⟨[.bool false],[]⟩):=anW A B n k i
theorem arj {L:List Value}{i:Nat}(hL:allB L=true)(hi:i<L.length)(hb:L.length≤4096):∃ L',allB L'=true∧L'.length=L.length∧exO (hOB L L.length i)=some (.normal,hOB L' L.length (i+1)):=by
 obtain ⟨x,hx,hlt⟩:=UH hL hi
 have e:qag 0 (i.mul 1)=i:=by show 0+i*1=i;omega
 have hn:nth L i=some (qb8 x):=by rw [jk];exact hx
 have e2:zi [.int .u8 (qaa (((ay L i).mod 256).xor 165))] i L=L.take i++(qb8 (((ay L i)%256) ^^^ 165)::L.drop (i+1)):=by
  unfold zi
  rw [iG,iG,qU,iy]
  rfl
 have hX:allB (L.take i++(qb8 (((ay L i)%256) ^^^ 165)::L.drop (i+1)))=true:=by
  refine qW ?_ ?_
  ·have:∀ (n:Nat) (l:List Value),allB l=true→allB (l.take n)=true:=by
    intro n
    induction n with
    |zero=>intro l _;rfl
    |succ n ih=>
     intro l h
     cases l with
     |nil=>rfl
     |cons a l=>
      obtain ⟨h1,h2⟩:=dG (show sel (isB a) (allB l) false=true from h)
      show sel (isB a) (allB (l.take n)) false=true
      rw [h1,aN]
      exact ih l h2
   exact this i L hL
  ·show sel (isB (qb8 _)) (allB (L.drop (i+1))) false=true
   rw [acN (Nat.xor_lt_two_pow (n:=8) (by omega) (by omega)),aN]
   exact xY _ hL
 refine ⟨_,hX,?_,?_⟩
 ·rw [qal,qaD,qap,List.length_drop];omega
 ·unfold exO
  rw [aAJ];unfold ac9 ah1;rw [aam hi,show ltN i L.length=true from gQ hi,e,show iD (.int .u8 0) (nth L i)=true by rw [hn];rfl,gQ (show i.add 1≤aQ L by rw [aW];show i+1≤_;omega),gQ (show i.add 1≤9223372036854775807 by show i+1≤_;omega),e2,oC (N:=sOB.N) hX]
  rfl
theorem avW {L:List Value}:exO (hOB L L.length L.length)=some (.exit 0,⟨[],[]⟩):=by
 unfold exO
 rw [aAJ];unfold ac9 ah1;rw [VK (qay _)]
 rfl
variable [Lo]
theorem ZT {a b:List Nat}{i:Nat}(h:a.take i=b.take i)(ha:i<a.length)(hb:i<b.length):a.take (i+1)=b.take (i+1)↔a.getD i 0=b.getD i 0:=by
 have e1:a.take (i+1)=a.take i++[a[i]]:=by rw [qaw,qak ha];rfl
 have e2:b.take (i+1)=b.take i++[b[i]]:=by rw [qaw,qak hb];rfl
 have e3:a.getD i 0=a[i]:=by rw [qan,qak ha];rfl
 have e4:b.getD i 0=b[i]:=by rw [qan,qak hb];rfl
 rw [e1,e2,h,e3,e4]
 constructor
 ·intro g
  exact List.cons.inj (List.append_cancel_left g) |>.1
 ·intro g
  rw [g]
theorem arS {A B:List Value}{n k:Nat}{b:Bool}(hA:Hq A=true)(hn:n=A.length)(hb:A.length≤400)(hB:Hq B=true)(hk:k=B.length)(hnk:b=true→n=k) :
  ∃ R f,R f sSW (hSX A B n k 0 b)∧rC Tryz.prog CB KM 8 37 (fU CB 37 3) 64 R (.exit 0) eSW ⟨[.bool (b&&Fn.Df A B)],[]⟩:=by
 subst hn hk
 have hla:(bI A).length=A.length:=by unfold bI;simp
 have hlb:(bI B).length=B.length:=by unfold bI;simp
 refine ⟨fun f sp y=>sp=sSW∧∃ i c,i≤A.length∧f=A.length-i+1∧y=hSX A B A.length B.length i c∧((c=true∧b=true∧A.length=B.length∧(bI A).take i=(bI B).take i)∨(c=false∧(b&&Fn.Df A B)=false)),A.length+1,⟨rfl,0,b,qah _,rfl,rfl,?_⟩,⟨?_⟩⟩
 ·cases b with
  |true=>exact .inl ⟨rfl,rfl,hnk rfl,rfl⟩
  |false=>exact .inr ⟨rfl,rfl⟩
 ·rintro f sp y ⟨rfl,i,c,hi,rfl,rfl,h⟩
  refine ⟨A.length-i,rfl,sSW,?_⟩
  rcases h with ⟨rfl,rfl,hl,ht⟩|⟨rfl,hf⟩
  ·by_cases hlt:i<A.length
   ·refine ⟨_,rfl,asA hA hB hlt hl hb,.inl ⟨rfl,rfl,i+1,_,hlt,by omega,rfl,?_⟩⟩
    have key:=ZT ht (by omega) (by omega)
    by_cases he:(bI A).getD i 0=(bI B).getD i 0
    ·exact .inl ⟨by rw [he];exact dX _,rfl,hl,key.2 he⟩
    ·refine .inr ⟨uq he,?_⟩
     show Fn.Df A B=false
     unfold Fn.Df
     rw [decide_eq_false_iff_not]
     intro e
     exact he (key.1 (by rw [e]))
   ·have hi:i=A.length:=by omega
    subst hi
    refine ⟨_,rfl,aug,.inr ⟨fun h=>(by cases h),?_⟩⟩
    have:Fn.Df A B=true:=by
     unfold Fn.Df
     rw [decide_eq_true_iff]
     rw [qar (by omega),qar (by omega)] at ht
     exact ht
    rw [this]
    rfl
  ·refine ⟨_,rfl,aya,.inr ⟨fun h=>(by cases h),?_⟩⟩
   rw [hf]
theorem asO {L:List Value}{n:Nat}(hL:allB L=true)(hn:n=L.length)(hb:L.length≤4096) :
  ∃ R f,R f sOB (hOB L n 0)∧rC Tryz.prog CB KM 8 18 (fU CB 18 1) 65 R (.exit 0) eOB ⟨[],[]⟩:=by
 subst hn
 refine ⟨fun f sp y=>sp=sOB∧∃ i L',i≤L.length∧f=L.length-i+1∧y=hOB L' L.length i∧allB L'=true∧L'.length=L.length,L.length+1,⟨rfl,0,L,qah _,rfl,rfl,hL,rfl⟩,⟨?_⟩⟩
 rintro f sp y ⟨rfl,i,L',hi,rfl,rfl,hL',hl⟩
 refine ⟨L.length-i,rfl,sOB,?_⟩
 by_cases hlt:i<L.length
 ·obtain ⟨L2,h1,h2,h3⟩:=arj (i:=i) hL' (by omega) (by omega)
  rw [hl] at h3
  exact ⟨_,rfl,h3,.inl ⟨rfl,rfl,i+1,L2,hlt,by omega,rfl,h1,by omega⟩⟩
 ·have hi:i=L.length:=by omega
  subst hi
  have:=avW (L:=L')
  rw [hl] at this
  exact ⟨_,rfl,this,.inr ⟨fun h=>(by cases h),rfl⟩⟩
def arC (v:Value)(k:Bool→LT):LT:=
 match v with
 |.bool b=>k b
 |_=>.fail
theorem agm {v:Value}{k:Bool→LT}{r:Ex × bM × bg}(h:(arC v k).run=some r):∃ b,v = .bool b∧(k b).run=some r:=by
 unfold arC at h
 split at h
 ·exact ⟨_,rfl,h⟩
 ·cases h
namespace Fn
def au2 (A:List Value)(n:Nat)(B:List Value)(k:Nat)(b:Bool):Bool:=okW A n&&(okW B k&&sel b (qaf n k) true)
def axK (b:Bool)(A B:List Value):Bool:=b&&Df A B
end Fn
def gSW (o:bg):LT:=dh o.vals fun u l=>pSl 32 aC u fun n=>dh l fun v l=>pSl 33 aC v fun k=>dh l fun w l=>arC w fun b=>dh l fun c l=>Ey .i64 c fun i=>zq l (KR (qaf i 0)
 (dh o.rows fun q1 l=>CV 32 tW 32 q1 fun A=>dh l fun q2 l=>CV 33 tW 33 q2 fun B=>zq l (bU (Fn.au2 A n B k b) (.leaf (.exit 0,eSW,⟨[.bool (Fn.axK b A B)],[]⟩)))))
def gOB (o:bg):LT:=dh o.vals fun u l=>pSl 64 aC u fun n=>dh l fun c l=>Ey .i64 c fun i=>zq l (KR (qaf i 0)
 (dh o.rows fun q1 l=>CV 64 tB 64 q1 fun L=>zq l (bU (Fn.okL L n) (.leaf (.exit 0,eOB,⟨[],[]⟩)))))
theorem ard:∀ o e spe O,(gSW o).run=some (e,spe,O)→spe.N=sSW.N∧∃ R k,R k sSW o∧rC Tryz.prog CB KM 8 37 (fU CB 37 3) sSW.N R e spe O:=by
 rintro ⟨vals,rows⟩ e spe O w0
 obtain ⟨u,l1,hv,w1⟩:=aB w0
 obtain ⟨n,rfl,w2⟩:=jQ w1
 obtain ⟨v,l2,rfl,w3⟩:=aB (l:=l1) w2
 obtain ⟨k,rfl,w4⟩:=jQ w3
 obtain ⟨w,l3,rfl,w5⟩:=aB (l:=l2) w4
 obtain ⟨b,rfl,w6⟩:=agm w5
 obtain ⟨c,l4,rfl,w7⟩:=aB (l:=l3) w6
 obtain ⟨i,rfl,w8⟩:=dK w7
 obtain ⟨rfl,w9⟩:=bW w8
 obtain ⟨hi,w10⟩:=gu w9
 have hi:i=0:=qab hi
 subst hi
 obtain ⟨q1,m1,hr,w13⟩:=aB w10
 obtain ⟨A,rfl,w14⟩:=dF (p:=q1) w13
 obtain ⟨q2,m2,rfl,w15⟩:=aB (l:=m1) w14
 obtain ⟨B,rfl,w16⟩:=dF (p:=q2) w15
 obtain ⟨rfl,w17⟩:=bW w16
 obtain ⟨hk,w18⟩:=aJ w17
 have hv:vals=_:=hv
 have hr:rows=_:=hr
 subst hv hr
 unfold Fn.au2 at hk
 simp only [qad] at hk
 obtain ⟨k1,k2,k3⟩:=hk
 obtain ⟨a1,a2,a3⟩:=kE k1
 obtain ⟨b1,b2,b3⟩:=kE k2
 cases w18
 exact ⟨rfl,arS a1 a2 (by omega) b1 b2 (fun hb=>by rw [hb,aN] at k3;exact qab k3)⟩
theorem arW:∀ o e spe O,(gOB o).run=some (e,spe,O)→spe.N=sOB.N∧∃ R k,R k sOB o∧rC Tryz.prog CB KM 8 18 (fU CB 18 1) sOB.N R e spe O:=by
 rintro ⟨vals,rows⟩ e spe O w0
 obtain ⟨u,l1,hv,w1⟩:=aB w0
 obtain ⟨n,rfl,w2⟩:=jQ w1
 obtain ⟨c,l4,rfl,w7⟩:=aB (l:=l1) w2
 obtain ⟨i,rfl,w8⟩:=dK w7
 obtain ⟨rfl,w9⟩:=bW w8
 obtain ⟨hi,w10⟩:=gu w9
 have hi:i=0:=qab hi
 subst hi
 obtain ⟨q1,m1,hr,w13⟩:=aB w10
 obtain ⟨L,rfl,w14⟩:=dF (p:=q1) w13
 obtain ⟨rfl,w17⟩:=bW w14
 obtain ⟨hk,w18⟩:=aJ w17
 have hv:vals=_:=hv
 have hr:rows=_:=hr
 subst hv hr
 obtain ⟨a1,a2,a3⟩:=CG hk
 rw [aW] at a2
 cases w18
 exact ⟨rfl,asO a1 a2 (by omega)⟩
def acd:List (Nat × Nat × PW):=[(37,3,wP Tryz.prog (CB.vars 37) sSW gSW),(18,1,wP Tryz.prog (CB.vars 18) sOB gOB)]
def C11:Cfg:={ CB with ext:=fQ [],insert:=fQ [],MQ:=TR acd }
theorem aBr:qaf (aQ (vG CB 37 3)) 1=true:=by kernel_rfl
theorem aBS:qaf (aQ (vG CB 18 1)) 1=true:=by kernel_rfl
theorem aij:∀ fn c body,C11.body fn=some c→PartOf c (.loop body)→uX Tryz.prog C11 fn body:=by
 refine Tf (L:=acd) rfl fun q hq=>?_
 rcases List.mem_cons.1 hq with rfl|hq
 ·exact nP (K:=KM) (C0:=CB) (m:=8) (by decide) bF aT pR rfl rfl aBr rfl ard
 ·rcases List.mem_cons.1 hq with rfl|hq
  ·exact nP (K:=KM) (C0:=CB) (m:=8) (by decide) bF aT pR rfl rfl aBS rfl arW
  ·cases hq
theorem apR:eX C11 Tryz.prog:=abm (ext:=fQ []) (ins:=fQ []) (lf:=TR acd) rfl (fun f t h=>by cases h) (fun f e h=>by cases h) aij
def mOB:wO:={ pre:={ N:=64,need:=[],low:=[],keep:=[],new:=[⟨.var 0 0,true,false⟩] },ends:=[{ N:=65,need:=[],low:=[],keep:=[],new:=[] }] }
end
end Go.Ax
namespace Go.Ax
open Go Go.Proofs
noncomputable section
theorem ai7 (A B:List Value)(n k:Nat):(runK KM C11 12).1 37 (bG ([aS A tW n,aS B tW k])) (aH ([aS A tW n,aS B tW k])) (bP Tryz.prog)=sel (List.rec true (fun v x ih=>sel (tC v) ih false) A) (sel (List.rec true (fun v x ih=>sel (tC v) ih false) B) (sel (Fn.au2 A n B k (eqI (qaa n) (qaa k))) (some { val:=[.one (.flat (.bool (Fn.axK (eqI (qaa n) (qaa k)) A B)))],rows:=[] }) none) none) none:=by kernel_rfl
theorem amy (L:List Value)(n:Nat):(runK KM C11 12).1 18 [slW 64 n] (lQ mOB.pre.next ⟨[slW 64 n],[(64,.row L tB 64)]⟩) (fun r=>(dU Tryz.prog mOB.ends 0 r).vS some)=sel (List.rec true (fun v x ih=>sel (aX sOB.N v) ih false) L) (sel (Fn.okL L n) (some (0,{ vals:=[],rows:=[] })) none) none:=by kernel_rfl
theorem amb {C:Cfg}(hC:∀ lo:Lo,@eX lo C Tryz.prog){f:FuncId}{t:TypeId}{ok:List Value→Nat→Bool}{same:List Value→List Value→Bool}
  (hSS:∀ A n B k,ok A n=true→ok B k=true→KG C f [aS A t n,aS B t k]=some (bRs (same A B)))
  (hSN:∀ A n c,ok A n=true→KG CB f [aS A t n,aV (.slice none 0 c)]=some (bRs (same A [])))
  (hSD:∀ A n,ok A n=true→KG CB f [aS A t n,aV bY]=some (bRs (same A [])))
  (hNS:∀ A n c,ok A n=true→KG CB f [aV (.slice none 0 c),aS A t n]=some (bRs (same [] A)))
  (hDS:∀ A n,ok A n=true→KG CB f [aV bY,aS A t n]=some (bRs (same [] A)))
  (hNN:∀ c d,KG CB f [aV (.slice none 0 c),aV (.slice none 0 d)]=some (bRs true))
  (hND:∀ c,KG CB f [aV (.slice none 0 c),aV bY]=some (bRs true))
  (hDN:∀ c,KG CB f [aV bY,aV (.slice none 0 c)]=some (bRs true))
  (hDD:KG CB f [aV bY,aV bY]=some (bRs true)):TA Tryz.prog f (ao8 t ok same):=by
 intro comps r kL hr
 have KN:∀ b,r=bRs b→∀ p∈r.rows,flatAll p.1=true:=fun b h p hp=>by rw [h] at hp;cases hp
 have aAA:∀ (D:Cfg),(∀ lo:Lo,@eX lo D Tryz.prog)→∀ b,r=bRs b→KG D f comps=some (bRs b)→∃ (C:Cfg) (n:Nat),(∀ lo:Lo,@eX lo C Tryz.prog)∧(∀ p∈r.rows,flatAll p.1=true)∧aj ((runN C n).1 f (bG comps) (aH comps)) (bP Tryz.prog)=some r:=
  fun D hD b h g=>⟨D,12,hD,KN b h,by rw [h];exact bV (K:=KM) (by decide) bF aT g⟩
 have key:=aAA CB (fun lo=>@pR lo)
 unfold ao8 at hr
 split at hr
 ·rename_i A e n B e' k
  obtain ⟨hg,h2⟩:=aJ hr
  simp only [qad] at hg
  obtain ⟨g1,g2,g3,g4⟩:=hg
  have g1:e=t:=qab g1
  have g2:e'=t:=qab g2
  subst g1 g2
  cases h2
  exact aAA C hC _ rfl (hSS A n B k g3 g4)
 ·rename_i A e n a k c
  obtain ⟨hg,h2⟩:=aJ hr
  simp only [qad] at hg
  obtain ⟨g1,g2,g3⟩:=hg
  have g1:e=t:=qab g1
  have g3:k=0:=qab g3
  subst g1 g3
  cases h2
  have hf:o7 (.slice a 0 c)=true:=kL (.one (.raw (.slice a 0 c))) (qao _ qai)
  rcases mZ hf with rfl|e
  ·exact key _ rfl (hSN A n c g2)
  ·refine key _ rfl ?_
   rw [e]
   exact hSD A n g2
 ·rename_i a k c A e n
  obtain ⟨hg,h2⟩:=aJ hr
  simp only [qad] at hg
  obtain ⟨g1,g2,g3⟩:=hg
  have g1:e=t:=qab g1
  have g3:k=0:=qab g3
  subst g1 g3
  cases h2
  have hf:o7 (.slice a 0 c)=true:=kL (.one (.raw (.slice a 0 c))) qai
  rcases mZ hf with rfl|e
  ·exact key _ rfl (hNS A n c g2)
  ·refine key _ rfl ?_
   rw [e]
   exact hDS A n g2
 ·rename_i a n c b k d
  obtain ⟨hg,h2⟩:=aJ hr
  simp only [qad] at hg
  obtain ⟨g1,g2⟩:=hg
  have g1:n=0:=qab g1
  have g2:k=0:=qab g2
  subst g1 g2
  cases h2
  have hf:o7 (.slice a 0 c)=true:=kL (.one (.raw (.slice a 0 c))) qai
  have hf':o7 (.slice b 0 d)=true:=kL (.one (.raw (.slice b 0 d))) (qao _ qai)
  rcases mZ hf with rfl|e <;> rcases mZ hf' with rfl|e'
  ·exact key _ rfl (hNN c d)
  ·refine key _ rfl ?_
   rw [e']
   exact hND c
  ·refine key _ rfl ?_
   rw [e]
   exact hDN d
  ·refine key _ rfl ?_
   rw [e,e']
   exact hDD
 ·cases hr
theorem A8 {A B:List Value}(h:A.length≠B.length):Fn.Df A B=false:=by
 unfold Fn.Df
 rw [decide_eq_false_iff_not]
 intro e
 have:=congrArg List.length e
 unfold bI at this
 simp at this
 exact h this
theorem avE:TA Tryz.prog 37 (ao8 tW Fn.okW Fn.Df):=by
 have hz:∀ A:List Value,Fn.okW A 0=true→A=[]:=fun A h=>List.length_eq_zero_iff.1 (kE h).2.1.symm
 refine amb (fun lo=>@apR lo) ?_ ?_ ?_ ?_ ?_ (fun c d=>aiN c d) (fun c=>ajZ c) (fun c=>ajt c) (agV 0)
 ·intro A n B k hA hB
  obtain ⟨a1,a2,a3⟩:=kE hA
  obtain ⟨b1,b2,b3⟩:=kE hB
  have h:Fn.au2 A n B k (eqI (qaa n) (qaa k))=true:=by
   unfold Fn.au2
   rw [hA,hB]
   show sel (qaf n k) (qaf n k) true=true
   cases qaf n k <;> rfl
  refine (ai7 A B n k).trans ?_
  rw [ajN a1,ajN b1,h]
  have:Fn.axK (eqI (qaa n) (qaa k)) A B=Fn.Df A B:=by
   unfold Fn.axK
   by_cases e:n=k
   ·rw [e,dX];rfl
   ·rw [show eqI (qaa n) (qaa k)=false from uq e,A8 (by omega)]
    rfl
  rw [this]
  rfl
 ·intro A n c hA
  refine (atE A n c).trans ?_;unfold acP Xg
  obtain ⟨_,h2,_⟩:=kE hA
  by_cases e:n=0
  ·subst e
   have:=hz A hA
   subst this
   rfl
  ·rw [show eqI (qaa n) (qaa 0)=false from uq e,A8 (B:=[]) (by show _≠0;omega)]
   rfl
 ·intro A n hA
  refine (atQ A n).trans ?_;unfold acP Xg
  obtain ⟨_,h2,_⟩:=kE hA
  by_cases e:n=0
  ·subst e
   have:=hz A hA
   subst this
   rfl
  ·rw [show eqI (qaa n) (qaa 0)=false from uq e,A8 (B:=[]) (by show _≠0;omega)]
   rfl
 ·intro A n c hA
  refine (auG c A n).trans ?_;unfold QB
  obtain ⟨_,h2,_⟩:=kE hA
  by_cases e:n=0
  ·subst e
   have:=hz A hA
   subst this
   rfl
  ·rw [show eqI (qaa 0) (qaa n)=false from uq (fun h=>e h.symm),A8 (A:=[]) (by show 0≠_;omega)]
   rfl
 ·intro A n hA
  refine (awC A n).trans ?_;unfold QB
  obtain ⟨_,h2,_⟩:=kE hA
  by_cases e:n=0
  ·subst e
   have:=hz A hA
   subst this
   rfl
  ·rw [show eqI (qaa 0) (qaa n)=false from uq (fun h=>e h.symm),A8 (A:=[]) (by show 0≠_;omega)]
   rfl
def aqC (o:bg):MT:=dh o.vals fun u l=>pSl 64 aC u fun n=>zq l (dh o.rows fun q1 l=>CV 64 tB 64 q1 fun L=>zq l (bU (Fn.okL L n) (.leaf (0,⟨[],[]⟩))))
theorem ame:iZ Tryz.prog C11 12 18 mOB aqC:=by
 rintro ⟨vals,rows⟩ q w0
 obtain ⟨u,l1,hv,w1⟩:=aB w0
 obtain ⟨n,rfl,w2⟩:=jQ w1
 obtain ⟨rfl,w3⟩:=bW w2
 obtain ⟨q1,m1,hr,w4⟩:=aB w3
 obtain ⟨L,rfl,w5⟩:=dF (p:=q1) w4
 obtain ⟨rfl,w6⟩:=bW w5
 obtain ⟨hk,w7⟩:=aJ w6
 have hv:vals=_:=hv
 have hr:rows=_:=hr
 subst hv hr
 cases w7
 obtain ⟨a1,a2,a3⟩:=CG hk
 refine ⟨⟨fun _ cs e f h=>(by cases h;exact pI a1),trivial⟩,fun spe h=>trivial,D7 (K:=KM) (by decide) bF aT ?_⟩
 refine (amy L n).trans ?_
 rw [oC (N:=sOB.N) a1,hk]
 rfl
namespace Fn
def qOk (k a v c h:Int):Bool:=qaf (qE k a v c h) 0
def qEr (k a v c h:Int):Nat:=qE k a v c h-1
def qLn (k a v c h:Int):Nat:=aQ (qL k a v c h)-1
end Fn
def ap2 (k a v c h:Int):Tree cO:=.test (Fn.qOk k a v c h) (.leaf ⟨[.one (.sl 0 (qac (Fn.qLn k a v c h))),.one (.flat (.int .i64 0))],[(Fn.qL k a v c h,tB)]⟩) (.leaf ⟨[.one (.flat (.slice none 0 0)),.one (.flat (iN (qac (Fn.qEr k a v c h))))],[]⟩)
def MX (l:List fK):Tree cO:=
 match l with
 |[.agg [.raw (.int .i64 k),.raw (.int .i64 a),.raw (.int .i64 v),.raw (.int .i64 c),.raw (.int .i64 h)]]=>ap2 k a v c h
 |_=>.fail
theorem akv (k a v c h:Int):1≤aQ (Fn.qL k a v c h):=by
 have:=(vX k.toNat).1
 rw [aW] at this ⊢
 show 1≤(Fn.iQ k.toNat++ng _).length
 rw [qal]
 omega
theorem NI {f:FuncId}(hf:∀ k a v c h:Int,Fn.qE k a v c h=0→∃ w,(runK (fH true) (C4 w) 40).1 f [qv k a v c h] (aH []) (bP Tryz.prog)=some (zN k a v c h))
  (hg:∀ k a v c h:Int,Fn.qE k a v c h≠0→(runK (fH true) (C3 false) 40).1 f [qv k a v c h] (aH []) (bP Tryz.prog)=some (aep (Fn.qE k a v c h))):TA Tryz.prog f MX:=by
 have h1:=aau hf
 have h2:=abf hg
 intro comps r kL hr
 unfold MX at hr
 split at hr
 ·rename_i k a v c h
  have hr:sel (Fn.qOk k a v c h) _ _=some r:=hr
  unfold Fn.qOk at hr
  by_cases he:Fn.qE k a v c h=0
  ·rw [kC he] at hr
   cases hr
   refine h1 _ _ kL ?_
   show (bU (qaf (Fn.qE k a v c h) 0) (.leaf (zN k a v c h))).run=_
   rw [kC he]
   unfold zN Fn.qLn
   have:=akv k a v c h
   rw [show qac (aQ (Fn.qL k a v c h)-1)=aQ (Fn.qL k a v c h) by omega]
   rfl
  ·rw [uq he] at hr
   cases hr
   refine h2 _ _ kL ?_
   show sel (qaf (Fn.qE k a v c h) 2) (some (aep 2)) (sel (qaf (Fn.qE k a v c h) 3) (some (aep 3)) (sel (qaf (Fn.qE k a v c h) 5) (some (aep 5)) none))=_
   unfold Fn.qEr
   rcases La k a v c h with e|e|e|e
   ·exact absurd e he
   all_goals (rw [e];rfl)
 ·cases hr
theorem avm:TA Tryz.prog 6 MX:=NI ay7 ayN
theorem awO:TA Tryz.prog 7 MX:=NI ax9 ay9
def rdG (T:List Value→Tree cO)(l:List fK):Tree cO:=
 match l with
 |[.one (.sl A e n)]=>bU (qaf e tB&&Fn.okL A n) (T A)
 |[.one (.raw (.slice _ n _))]=>bU (qaf n 0) (T [])
 |_=>.fail
theorem Vf {f:FuncId}{T:List Value→Tree cO}(KN:∀ A r,allB A=true→(T A).run=some r→∀ p∈r.rows,flatAll p.1=true)
  (hS:∀ A m,allB A=true→m+1=A.length→A.length≤4096→∃ (K:KP) (C:Cfg),K.L≤100000∧Qj K C∧zT K C∧(∀ lo:Lo,@eX lo C Tryz.prog)∧(runK K C 40).1 f (bG [aS A tB (qac m)]) (aH [aS A tB (qac m)]) (bP Tryz.prog)=(T A).run)
  (hE:(runK KM C7 40).1 f (bG [aS [] tB 0]) (aH [aS [] tB 0]) (bP Tryz.prog)=(T []).run) (hN:∀ c,(runK KM C7 40).1 f (bG [aV (.slice none 0 c)]) (aH [aV (.slice none 0 c)]) (bP Tryz.prog)=(T []).run)
  (hD:(runK KM C7 40).1 f (bG [aV bY]) (aH [aV bY]) (bP Tryz.prog)=(T []).run):TA Tryz.prog f (rdG T):=by
 intro comps r kL hr
 unfold rdG at hr
 split at hr
 ·rename_i A e n
  obtain ⟨hg,h2⟩:=aJ hr
  simp only [qad] at hg
  obtain ⟨g1,g2⟩:=hg
  have g1:e=tB:=qab g1
  subst g1
  obtain ⟨k1,k2,k3⟩:=CG g2
  rw [aW] at k2
  cases n with
  |succ m=>
   obtain ⟨K,C,q1,q2,q3,q4,q5⟩:=hS A m k1 k2 (by omega)
   exact ⟨C,40,q4,KN A r k1 h2,bV q1 q2 q3 (q5.trans h2)⟩
  |zero=>
   have:A=[]:=List.length_eq_zero_iff.1 k2.symm
   subst this
   exact ⟨C7,40,fun lo=>@Qo lo,KN [] r rfl h2,bV (K:=KM) (by decide) bF aT (hE.trans h2)⟩
 ·rename_i a n c
  obtain ⟨hg,h2⟩:=aJ hr
  have hg:n=0:=qab hg
  subst hg
  have hf:o7 (.slice a 0 c)=true:=kL (.one (.raw (.slice a 0 c))) qai
  rcases mZ hf with rfl|e
  ·exact ⟨C7,40,fun lo=>@Qo lo,KN [] r rfl h2,bV (K:=KM) (by decide) bF aT ((hN c).trans h2)⟩
  ·refine ⟨C7,40,fun lo=>@Qo lo,KN [] r rfl h2,bV (K:=KM) (by decide) bF aT ?_⟩
   rw [e]
   exact hD.trans h2
 ·cases hr
theorem Og (A:List Value)(r:cO)(_:allB A=true)(h:(SH A).run=some r):∀ p∈r.rows,flatAll p.1=true:=by
 rw [Ii] at h
 cases h
 intro p hp
 cases hp
theorem ab9:∀ ns:List Nat,flatAll (wL ns)=true
 |[]=>rfl
 |n::ns=>ab9 ns
theorem QM (A:List Value)(r:cO)(_:allB A=true)(h:(MR A).run=some r):∀ p∈r.rows,flatAll p.1=true:=by
 have h:sel (Fn.gTo A) (sel (Fn.gZ A) (some (aw5 (Fn.Qb A))) (some (atd (Fn.Qb A) (Fn.gLn A) (Fn.gWw A)))) (some (axr (qac (Fn.gTe A)) (Fn.gTa A)))=some r:=h
 rw [aG,aG] at h
 split at h
 ·split at h
  ·cases h;intro p hp;cases hp
  ·cases h
   intro p hp
   obtain rfl:p=(Fn.gWw A,tW):=by simpa [atd] using hp
   exact ab9 _
 ·cases h;intro p hp;cases hp
theorem acu {A:List Value}(hX:allB A=true):∃ k:Nat,(k=1∨k=2∨k=3∨k=4∨k=5∨k=6∨k=7∨k=8∨k=9∨k=10)∧(Fn.rF A 1 10 0=0→Fn.rN A 1 10 0=k):=by
 by_cases h:Fn.rF A 1 10 0=0
 ·obtain ⟨h1,h2,_⟩:=CQ hX (Dc h)
  exact ⟨Fn.rN A 1 10 0,by omega,fun _=>rfl⟩
 ·exact ⟨8,by omega,fun e=>absurd e h⟩
theorem at1:TA Tryz.prog 14 (rdG SH):=by
 refine Vf Og (fun A m hX hn hb=>?_) (by kernel_rfl) (fun c=>by kernel_rfl) (by kernel_rfl)
 obtain ⟨k,hk,hv⟩:=acu hX
 refine ⟨KPk k,C7,(show (12:Nat)≤100000 by decide),bF,aT,fun lo=>@Qo lo,?_⟩
 rw [Ii]
 rcases hk with rfl|rfl|rfl|rfl|rfl|rfl|rfl|rfl|rfl|rfl
 ·exact ajh hX hn hb hv
 ·exact ahk hX hn hb hv
 ·exact ajl hX hn hb hv
 ·exact ak9 hX hn hb hv
 ·exact ajY hX hn hb hv
 ·exact ahw hX hn hb hv
 ·exact aiO hX hn hb hv
 ·exact ahZ hX hn hb hv
 ·exact aj3 hX hn hb hv
 ·exact acS hX hn hb hv
theorem avg:TA Tryz.prog 15 (rdG SH):=by
 refine Vf Og (fun A m hX hn hb=>?_) (by kernel_rfl) (fun c=>by kernel_rfl) (by kernel_rfl)
 obtain ⟨k,hk,hv⟩:=acu hX
 refine ⟨KPk k,C7,(show (12:Nat)≤100000 by decide),bF,aT,fun lo=>@Qo lo,?_⟩
 rw [Ii]
 rcases hk with rfl|rfl|rfl|rfl|rfl|rfl|rfl|rfl|rfl|rfl
 ·exact asZ hX hn hb hv
 ·exact aqt hX hn hb hv
 ·exact arZ hX hn hb hv
 ·exact aqE hX hn hb hv
 ·exact asL hX hn hb hv
 ·exact ar2 hX hn hb hv
 ·exact asb hX hn hb hv
 ·exact ars hX hn hb hv
 ·exact ase hX hn hb hv
 ·exact aoo hX hn hb hv
theorem atL:TA Tryz.prog 16 (rdG MR):=by
 refine Vf QM (fun A m hX hn hb=>?_) (by kernel_rfl) (fun c=>by kernel_rfl) (by kernel_rfl)
 exact ⟨KM,C8,by decide,bF,aT,fun lo=>@auT lo,(apy hX hn hb).1⟩
theorem awu:TA Tryz.prog 17 (rdG MR):=by
 refine Vf QM (fun A m hX hn hb=>?_) (by kernel_rfl) (fun c=>by kernel_rfl) (by kernel_rfl)
 exact ⟨KM,C8,by decide,bF,aT,fun lo=>@auT lo,(apy hX hn hb).2⟩
variable [Lo]
theorem aoj:∀ p∈[(mOB,aqC)],∃ C n,eX C Tryz.prog∧iZ Tryz.prog C n 18 p.1 p.2:=by
 intro p hp
 rcases List.mem_cons.1 hp with rfl|hp
 ·exact ⟨C11,12,apR,ame⟩
 ·cases hp
end
end Go.Ax
namespace Go.Ax
open Go Go.Proofs
noncomputable section
def tell {R:Type}(b c:Bool)(x y:Tree R):Tree R:=sel b (bU c x) (bU (sel c false true) y)
theorem SV {R:Type}{b c:Bool}{x y:Tree R}{r:R}(h:(tell b c x y).run=some r):(Tree.test c x y).run=some r:=by
 cases b <;> cases c
 ·exact h
 ·cases h
 ·cases h
 ·exact h
theorem told {f:FuncId}{G G':List fK→Tree cO}(h:TA Tryz.prog f G)(ht:∀ l r,(G' l).run=some r→(G l).run=some r):TA Tryz.prog f G':=fun comps r hf hr=>h comps r hf (ht comps r hr)
theorem Gg {R:Type}{b:Bool}{t t':Tree R}{r:R}(ht:t.run=some r→t'.run=some r)(h:(bU b t).run=some r):(bU b t').run=some r:=by
 obtain ⟨rfl,h2⟩:=aJ h
 exact ht h2
def adP (b:Bool)(l:List fK):Tree cO:=
 match l with
 |[.agg [.raw (.int .i64 k),.raw (.int .i64 a),.raw (.int .i64 v),.raw (.int .i64 c),.raw (.int .i64 h)]]=>
  tell b (Fn.qOk k a v c h) (.leaf ⟨[.one (.sl 0 (qac (Fn.qLn k a v c h))),.one (.flat (.int .i64 0))],[(Fn.qL k a v c h,tB)]⟩) (.leaf ⟨[.one (.flat (.slice none 0 0)),.one (.flat (iN (qac (Fn.qEr k a v c h))))],[]⟩)
 |_=>.fail
theorem WA (b:Bool)(l:List fK)(r:cO)(h:(adP b l).run=some r):(MX l).run=some r:=by
 unfold adP at h
 split at h
 ·exact SV h
 ·cases h
def aAx (b:Bool)(e:Int)(W:List Value):Tree cO:=tell b (Fn.aOk e W) (.leaf ⟨[.one (.sl 0 (qac (Fn.aLn e W))),.one (.flat (.int .i64 0))],[(Fn.aBy e W,tB)]⟩) (.leaf ⟨[.one (.flat (.slice none 0 0)),.one (.flat (iN (qac (Fn.aEr e W))))],[]⟩)
def ank (b:Bool)(l:List fK):Tree cO:=
 match l with
 |[.agg [.raw (.int k e),.sl W t n]]=>bU (gY k .i64&&(qaf t tW&&Fn.okW W n)) (aAx b e W)
 |[.agg [.raw (.int k e),.raw (.slice _ n _)]]=>bU (gY k .i64&&qaf n 0) (aAx b e [])
 |_=>.fail
theorem adE (b:Bool)(l:List fK)(r:cO)(h:(ank b l).run=some r):(avC l).run=some r:=by
 unfold ank at h
 split at h
 ·exact Gg (fun h=>SV h) h
 ·exact Gg (fun h=>SV h) h
 ·cases h
namespace Fn
def r0 (X:List Value):Nat:=sel (qTo X) (q0 X) 0
def r1 (X:List Value):Nat:=sel (qTo X) (q1 X) 0
def r2 (X:List Value):Nat:=sel (qTo X) (q2 X) 0
def r3 (X:List Value):Nat:=sel (qTo X) (q3 X) 0
def r4 (X:List Value):Nat:=sel (qTo X) (q4 X) 0
def rE (X:List Value):Nat:=sel (qTo X) 0 (qac (qTe X))
def rA (X:List Value):Nat:=sel (qTo X) 0 (qTa X)
def agz (X:List Value):Bool:=sel (gTo X) (sel (gZ X) false true) false
def gE (X:List Value):Nat:=sel (gTo X) (Qb X) 0
def gFe (X:List Value):Nat:=sel (gTo X) 0 (qac (gTe X))
def gFa (X:List Value):Nat:=sel (gTo X) 0 (gTa X)
end Fn
def anN (X:List Value):Tree cO:=.leaf ⟨[.agg [.flat (iN (Fn.r0 X)),.flat (iN (Fn.r1 X)),.flat (iN (Fn.r2 X)),.flat (iN (Fn.r3 X)),.flat (iN (Fn.r4 X))],.agg [.flat (iN (Fn.rE X)),.flat (iN (Fn.rA X))]],[]⟩
theorem ad2 (A:List Value)(r:cO)(h:(anN A).run=some r):(SH A).run=some r:=by
 rw [←h]
 unfold SH anN Fn.r0 Fn.r1 Fn.r2 Fn.r3 Fn.r4 Fn.rE Fn.rA
 show sel (Fn.qTo A) _ _=_
 cases Fn.qTo A <;> rfl
def ayK (X:List Value):cO:=⟨[.agg [.flat (iN (Fn.gE X)),.flat (.slice none 0 0)],.agg [.flat (iN (Fn.gFe X)),.flat (iN (Fn.gFa X))]],[]⟩
theorem arw (A:List Value)(r:cO)(h:(Tree.test (Fn.agz A) (.leaf (atd (Fn.Qb A) (Fn.gLn A) (Fn.gWw A))) (.leaf (ayK A))).run=some r):(MR A).run=some r:=by
 rw [←h]
 unfold MR ayK Fn.agz Fn.gE Fn.gFe Fn.gFa
 show sel (Fn.gTo A) (sel (Fn.gZ A) _ _) _=sel (sel (Fn.gTo A) (sel (Fn.gZ A) false true) false) _ _
 cases Fn.gTo A <;> cases Fn.gZ A <;> rfl
def ayF (b:Bool)(X:List Value):Tree cO:=tell b (Fn.agz X) (.leaf (atd (Fn.Qb X) (Fn.gLn X) (Fn.gWw X))) (.leaf (ayK X))
theorem adl {T T':List Value→Tree cO}(hT:∀ A r,(T' A).run=some r→(T A).run=some r)(l:List fK)(r:cO)(h:(rdG T' l).run=some r):(rdG T l).run=some r:=by
 unfold rdG at h
 split at h
 ·exact Gg (fun h=>hT _ _ h) h
 ·exact Gg (fun h=>hT _ _ h) h
 ·cases h
theorem akm (b:Bool)(A:List Value)(r:cO)(h:(ayF b A).run=some r):(MR A).run=some r:=arw A r (SV h)
variable [Lo]
def aoh (b1 b2 b3:Bool):List (Nat × Con):=
 (6,.tree (vW Tryz.prog (adP b1)))::(7,.tree (vW Tryz.prog (adP b1)))::(14,.tree (vW Tryz.prog (rdG anN)))::(15,.tree (vW Tryz.prog (rdG anN))) ::
 (16,.tree (vW Tryz.prog (rdG (ayF b3))))::(17,.tree (vW Tryz.prog (rdG (ayF b3))))::(9,.tree (vW Tryz.prog (ank b2)))::(10,.tree (vW Tryz.prog (ank b2))) ::
 (11,.tree (vW Tryz.prog (ao8 tB Fn.okL Fn.ab7)))::(37,.tree (vW Tryz.prog (ao8 tW Fn.okW Fn.Df))) ::
 (13,.tree (vW Tryz.prog (afW tB Fn.okL)))::(8,.tree (vW Tryz.prog (afW tW Fn.okW)))::(18,.tree (o9 Tryz.prog [(mOB,aqC)]))::[]
theorem an4 {C:Cfg}(b1 b2 b3:Bool):eu Tryz.prog C (aoh b1 b2 b3):=
 eu.alL (told avm (WA b1)).gives (eu.alL (told awO (WA b1)).gives (eu.alL (told at1 (adl ad2)).gives (eu.alL (told avg (adl ad2)).gives
  (eu.alL (told atL (adl (akm b3))).gives (eu.alL (told awu (adl (akm b3))).gives (eu.alL (told aoq (adE b2)).gives (eu.alL (told amR (adE b2)).gives
  (eu.vW (fun lo=>@pR lo) atU.gives (eu.alL avE.gives (eu.vW (fun lo=>@pR lo) avf.gives (eu.vW (fun lo=>@pR lo) axa.gives (eu.o9 aoj eu.nil))))))))))))
def qA (k a v c h:Int):fK:=.agg [.raw (.int .i64 k),.raw (.int .i64 a),.raw (.int .i64 v),.raw (.int .i64 c),.raw (.int .i64 h)]
def nA (e:Int)(c:jw):fK:=.agg [.raw (.int .i64 e),c]
def CT (b1 b2 b3:Bool):Cfg:={ CB with ext:=fQ [],insert:=fQ ((5,.closed Fp)::aoh b1 b2 b3) }
end
end Go.Ax
namespace Go.Ax
open Go Go.Proofs
noncomputable section
def pV (b1 b2 b3:Bool)(l:List fK)(t:TypeId):Option Value:=(runK KM (CT b1 b2 b3) 60).1 3 (bG l) (LM (aH l) [(0,row0,t)]) (fun q=>some q.1)
def zT0 (k a v c h:Int)(R:Option Value):Option Value:=sel (Fn.qOk k a v c h) R none
def zT1 (W:List Value)(n:Nat)(R:Option Value):Option Value:=sel (true&&(true&&((n.mul 1).beq (aQ W)&&flatAll W))) R none
def zT2 (W:List Value)(n:Nat)(R:Option Value):Option Value:=sel (true&&Fn.okW W n) R none
def zT3 (e:Int)(R:Option Value):Option Value:=sel (sel (false||true&&(true&&eqI e e)) true false&&true) R none
def zT4 (W:List Value)(n:Nat)(R:Option Value):Option Value:=sel (true&&(true&&Fn.okW W n)) R none
def zT5 (e:Int)(W:List Value)(R:Option Value):Option Value:=sel (Fn.aOk e W) R none
def zT6 (k a v c h:Int)(R:Option Value):Option Value:=sel (true&&(true&&(((Fn.qLn k a v c h).succ.mul 1).beq (aQ (Fn.qL k a v c h))&&flatAll (Fn.qL k a v c h)))) R none
def zT7 (k a v c h:Int)(R:Option Value):Option Value:=sel (true&&(true&&(Fn.okL (eH 0 (Fn.qL k a v c h)) (Fn.qLn k a v c h).succ&&Fn.okL (eH 0 (Fn.qL k a v c h)) (Fn.qLn k a v c h).succ))) R none
def zT8 (k a v c h:Int)(R:Option Value):Option Value:=sel (!Fn.ab7 (eH 0 (Fn.qL k a v c h)) (eH 0 (Fn.qL k a v c h))) (some (Value.bool false)) R
def zT9 (e:Int)(W:List Value)(R:Option Value):Option Value:=sel (true&&(true&&(((Fn.aLn e W).succ.mul 1).beq (aQ (Fn.aBy e W))&&flatAll (Fn.aBy e W)))) R none
def aAB (e:Int)(W:List Value)(R:Option Value):Option Value:=sel (true&&(true&&(Fn.okL (eH 0 (Fn.aBy e W)) (Fn.aLn e W).succ&&Fn.okL (eH 0 (Fn.aBy e W)) (Fn.aLn e W).succ))) R none
def aA4 (e:Int)(W:List Value)(R:Option Value):Option Value:=sel (!Fn.ab7 (eH 0 (Fn.aBy e W)) (eH 0 (Fn.aBy e W))) (some (Value.bool false)) R
def axJ (e:Int)(R:Option Value):Option Value:=sel (eqI e e) R (some (Value.bool false))
def aAI (W:List Value)(n:Nat)(R:Option Value):Option Value:=sel (true&&(true&&(Fn.okW W n&&Fn.okW W n))) R none
def aAP (W:List Value)(R:Option Value):Option Value:=sel (!Fn.Df W W) (some (Value.bool false)) R
def axm (B:List Value)(m:Nat)(R:Option Value):Option Value:=sel (true&&(true&&((m.mul 1).beq (aQ B)&&flatAll B))) R none
def aAo (B:List Value)(m:Nat)(R:Option Value):Option Value:=sel (true&&Fn.okL B m) R none
def ayp (B:List Value)(R:Option Value):Option Value:=sel (Fn.agz B) R none
def aAv (B:List Value)(m:Nat)(R:Option Value):Option Value:=sel (true&&(true&&(Fn.okL B m&&Fn.okL B m))) R none
def aAt (B:List Value)(m:Nat)(R:Option Value):Option Value:=sel (Fn.okL B m) R none
def aAE (B:List Value)(R:Option Value):Option Value:=sel (Fn.ab7 B B) R (some (Value.bool false))
def aAq (B:List Value)(R:Option Value):Option Value:=sel (eqI (qaa (Fn.r0 B)) (qaa (Fn.r0 B))&&(eqI (qaa (Fn.r1 B)) (qaa (Fn.r1 B))&&(eqI (qaa (Fn.r2 B)) (qaa (Fn.r2 B))&&(eqI (qaa (Fn.r3 B)) (qaa (Fn.r3 B))&&(eqI (qaa (Fn.r4 B)) (qaa (Fn.r4 B))&&true))))) R (some (Value.bool false))
def aAR (B:List Value)(R:Option Value):Option Value:=sel (eqI (qaa (Fn.rE B)) (qaa (Fn.rE B))&&(eqI (qaa (Fn.rA B)) (qaa (Fn.rA B))&&true)) R (some (Value.bool false))
def aAU (B:List Value)(R:Option Value):Option Value:=sel (eqI (qaa (Fn.Qb B)) (qaa (Fn.Qb B))) R (some (Value.bool false))
def azb (B:List Value)(R:Option Value):Option Value:=sel (true&&(true&&(((Fn.gLn B).mul 1).beq (aQ (Fn.gWw B))&&flatAll (Fn.gWw B)))) R none
def aA6 (B:List Value)(R:Option Value):Option Value:=sel (true&&(true&&(Fn.okW (eH 0 (Fn.gWw B)) (Fn.gLn B)&&Fn.okW (eH 0 (Fn.gWw B)) (Fn.gLn B)))) R none
def aA2 (B:List Value)(R:Option Value):Option Value:=sel (Fn.Df (eH 0 (Fn.gWw B)) (eH 0 (Fn.gWw B))) R (some (Value.bool false))
def ax2 (B:List Value)(R:Option Value):Option Value:=sel (sel (Fn.agz B) false true) R none
def aBg (B:List Value)(R:Option Value):Option Value:=sel (eqI (qaa (Fn.gE B)) (qaa (Fn.gE B))) R (some (Value.bool false))
def aAK (B:List Value)(R:Option Value):Option Value:=sel (eqI (qaa (Fn.gFe B)) (qaa (Fn.gFe B))&&(eqI (qaa (Fn.gFa B)) (qaa (Fn.gFa B))&&true)) R (some (Value.bool false))
def aAh (e:Int)(W:List Value)(R:Option Value):Option Value:=sel (sel (Fn.aOk e W) false true) R none
def aA1 (e:Int)(W:List Value)(R:Option Value):Option Value:=sel (!eqI (qaa (Fn.aEr e W).succ) (qaa (Fn.aEr e W).succ)) (some (Value.bool false)) R
def azK (e:Int)(R:Option Value):Option Value:=sel (Fn.aOk e []) R none
def ax3 (e:Int)(R:Option Value):Option Value:=sel (true&&(true&&(((Fn.aLn e []).succ.mul 1).beq (aQ (Fn.aBy e []))&&flatAll (Fn.aBy e [])))) R none
def aAC (e:Int)(R:Option Value):Option Value:=sel (true&&(true&&(Fn.okL (eH 0 (Fn.aBy e [])) (Fn.aLn e []).succ&&Fn.okL (eH 0 (Fn.aBy e [])) (Fn.aLn e []).succ))) R none
def aBb (e:Int)(R:Option Value):Option Value:=sel (!Fn.ab7 (eH 0 (Fn.aBy e [])) (eH 0 (Fn.aBy e []))) (some (Value.bool false)) R
def aAf (e:Int)(R:Option Value):Option Value:=sel (sel (Fn.aOk e []) false true) R none
def aAD (e:Int)(R:Option Value):Option Value:=sel (!eqI (qaa (Fn.aEr e []).succ) (qaa (Fn.aEr e []).succ)) (some (Value.bool false)) R
def az2 (k a v c h:Int)(R:Option Value):Option Value:=sel (sel (Fn.qOk k a v c h) false true) R none
def auf (k a v c h:Int)(R:Option Value):Option Value:=sel (!eqI (qaa (Fn.qEr k a v c h).succ) (qaa (Fn.qEr k a v c h).succ)) (some (Value.bool false)) R
def zS0 (B:List Value)(m:Nat)(R:Option Value):Option Value:=axm B m (aAo B m R)
def zS1 (B:List Value)(m:Nat)(R:Option Value):Option Value:=zS0 B m (zS0 B m R)
def zS2 (W:List Value)(n:Nat)(R:Option Value):Option Value:=zT1 W n (zT4 W n R)
def zS3 (k a v c h:Int)(R:Option Value):Option Value:=zT0 k a v c h (zT0 k a v c h R)
def zS6 (k a v c h:Int)(R:Option Value):Option Value:=zT6 k a v c h (zT6 k a v c h (zT7 k a v c h (zT8 k a v c h R)))
def zS7 (B:List Value)(m:Nat)(R:Option Value):Option Value:=zS1 B m (zS1 B m R)
def ayJ (B:List Value)(m:Nat)(R:Option Value):Option Value:=axm B m (axm B m (aAv B m (aAt B m (aAE B (aAq B (aAR B R))))))
def ayX (k a v c h:Int)(R:Option Value):Option Value:=az2 k a v c h (az2 k a v c h R)
def axN (e:Int)(W:List Value)(n:Nat)(R:Option Value):Option Value:=zT1 W n (zT2 W n (zT3 e (zS2 W n R)))
def ayQ (e:Int)(W:List Value)(n:Nat)(R:Option Value):Option Value:=axJ e (zT1 W n (zT1 W n (aAI W n (aAP W R))))
def axU (k a v c h e:Int)(R:Option Value):Option Value:=zS3 k a v c h (zT3 e R)
def azE (e:Int)(R:Option Value):Option Value:=azK e (azK e R)
def azx (e:Int)(R:Option Value):Option Value:=ax3 e (ax3 e (aAC e (aBb e (axJ e R))))
def ayZ (e:Int)(R:Option Value):Option Value:=aAf e (aAf e R)
def ayG (e:Int)(R:Option Value):Option Value:=aAD e (axJ e R)
def axM (k a v c h e:Int)(R:Option Value):Option Value:=ayX k a v c h (zT3 e R)
def agc (B:List Value)(m:Nat)(R:Option Value):Option Value:=zS7 B m (ayp B (zS0 B m (ayp B (ayJ B m (aAU B (azb B (azb B (aA6 B (aA2 B R)))))))))
def afO (B:List Value)(m:Nat)(R:Option Value):Option Value:=zS7 B m (ax2 B (zS0 B m (ax2 B (ayJ B m (aBg B (aAK B R))))))
def aAc (k a v c h e:Int)(W:List Value)(n:Nat)(R:Option Value):Option Value:=zS3 k a v c h (axN e W n R)
def ayy (e:Int)(W:List Value)(n:Nat)(R:Option Value):Option Value:=zT5 e W (zS2 W n (zT5 e W R))
def ayf (e:Int)(W:List Value)(n:Nat)(R:Option Value):Option Value:=zT9 e W (zT9 e W (aAB e W (aA4 e W (ayQ e W n R))))
def azY (e:Int)(W:List Value)(n:Nat)(R:Option Value):Option Value:=aAh e W (zS2 W n (aAh e W R))
def axW (e:Int)(W:List Value)(n:Nat)(R:Option Value):Option Value:=aA1 e W (ayQ e W n R)
def aoe (k a v c h e:Int)(R:Option Value):Option Value:=axU k a v c h e (azE e (zS6 k a v c h (azx e R)))
def aot (k a v c h e:Int)(R:Option Value):Option Value:=axU k a v c h e (ayZ e (zS6 k a v c h (ayG e R)))
def aAm (k a v c h e:Int)(W:List Value)(n:Nat)(R:Option Value):Option Value:=ayX k a v c h (axN e W n R)
def amH (k a v c h e:Int)(R:Option Value):Option Value:=axM k a v c h e (azE e (auf k a v c h (azx e R)))
def alI (k a v c h e:Int)(R:Option Value):Option Value:=axM k a v c h e (ayZ e (auf k a v c h (ayG e R)))
def awQ (k a v c h e:Int)(W:List Value)(n:Nat)(R:Option Value):Option Value:=aAc k a v c h e W n (ayy e W n (zS6 k a v c h (ayf e W n R)))
def auX (k a v c h e:Int)(W:List Value)(n:Nat)(R:Option Value):Option Value:=aAc k a v c h e W n (azY e W n (zS6 k a v c h (axW e W n R)))
def avS (k a v c h e:Int)(W:List Value)(n:Nat)(R:Option Value):Option Value:=aAm k a v c h e W n (ayy e W n (auf k a v c h (ayf e W n R)))
def av9 (k a v c h e:Int)(W:List Value)(n:Nat)(R:Option Value):Option Value:=aAm k a v c h e W n (azY e W n (auf k a v c h (axW e W n R)))
theorem AL (k a v c h e:Int)(W B:List Value)(n m:Nat)(t:TypeId):pV true true true [qA k a v c h,nA e (.sl W tW n),aS B tB m] t=sel (ltI 60 (qaa n)) (some (Value.bool true)) (sel (ltI 400 (qaa m)) (some (Value.bool true)) (awQ k a v c h e W n (agc B m (some (Value.bool true))))):=by kernel_rfl
theorem Yu (k a v c h e:Int)(W B:List Value)(n m:Nat)(t:TypeId):pV true true false [qA k a v c h,nA e (.sl W tW n),aS B tB m] t=sel (ltI 60 (qaa n)) (some (Value.bool true)) (sel (ltI 400 (qaa m)) (some (Value.bool true)) (awQ k a v c h e W n (afO B m (some (Value.bool true))))):=by kernel_rfl
theorem JC (k a v c h e:Int)(W B:List Value)(n m:Nat)(t:TypeId):pV true true false [qA k a v c h,nA e (.sl W tW n),aV (.slice none 0 0)] t=sel (ltI 60 (qaa n)) (some (Value.bool true)) (awQ k a v c h e W n (some (Value.bool true))):=by kernel_rfl
theorem Ky (k a v c h e:Int)(W B:List Value)(n m:Nat)(t:TypeId):pV true true false [qA k a v c h,nA e (.sl W tW n),aV bY] t=sel (ltI 60 (qaa n)) (some (Value.bool true)) (awQ k a v c h e W n (some (Value.bool true))):=by kernel_rfl
theorem Xc (k a v c h e:Int)(W B:List Value)(n m:Nat)(t:TypeId):pV true false true [qA k a v c h,nA e (.sl W tW n),aS B tB m] t=sel (ltI 60 (qaa n)) (some (Value.bool true)) (sel (ltI 400 (qaa m)) (some (Value.bool true)) (auX k a v c h e W n (agc B m (some (Value.bool true))))):=by kernel_rfl
theorem WU (k a v c h e:Int)(W B:List Value)(n m:Nat)(t:TypeId):pV true false false [qA k a v c h,nA e (.sl W tW n),aS B tB m] t=sel (ltI 60 (qaa n)) (some (Value.bool true)) (sel (ltI 400 (qaa m)) (some (Value.bool true)) (auX k a v c h e W n (afO B m (some (Value.bool true))))):=by kernel_rfl
theorem Yb (k a v c h e:Int)(W B:List Value)(n m:Nat)(t:TypeId):pV true false false [qA k a v c h,nA e (.sl W tW n),aV (.slice none 0 0)] t=sel (ltI 60 (qaa n)) (some (Value.bool true)) (auX k a v c h e W n (some (Value.bool true))):=by kernel_rfl
theorem XO (k a v c h e:Int)(W B:List Value)(n m:Nat)(t:TypeId):pV true false false [qA k a v c h,nA e (.sl W tW n),aV bY] t=sel (ltI 60 (qaa n)) (some (Value.bool true)) (auX k a v c h e W n (some (Value.bool true))):=by kernel_rfl
theorem Jt (k a v c h e:Int)(W B:List Value)(n m:Nat)(t:TypeId):pV true true true [qA k a v c h,nA e (.raw (.slice none 0 0)),aS B tB m] t=sel (ltI 400 (qaa m)) (some (Value.bool true)) (aoe k a v c h e (agc B m (some (Value.bool true)))):=by kernel_rfl
theorem WS (k a v c h e:Int)(W B:List Value)(n m:Nat)(t:TypeId):pV true true false [qA k a v c h,nA e (.raw (.slice none 0 0)),aS B tB m] t=sel (ltI 400 (qaa m)) (some (Value.bool true)) (aoe k a v c h e (afO B m (some (Value.bool true)))):=by kernel_rfl
theorem WE (k a v c h e:Int)(W B:List Value)(n m:Nat)(t:TypeId):pV true true false [qA k a v c h,nA e (.raw (.slice none 0 0)),aV (.slice none 0 0)] t=aoe k a v c h e (some (Value.bool true)):=by kernel_rfl
theorem Yc (k a v c h e:Int)(W B:List Value)(n m:Nat)(t:TypeId):pV true true false [qA k a v c h,nA e (.raw (.slice none 0 0)),aV bY] t=aoe k a v c h e (some (Value.bool true)):=by kernel_rfl
theorem XT (k a v c h e:Int)(W B:List Value)(n m:Nat)(t:TypeId):pV true false true [qA k a v c h,nA e (.raw (.slice none 0 0)),aS B tB m] t=sel (ltI 400 (qaa m)) (some (Value.bool true)) (aot k a v c h e (agc B m (some (Value.bool true)))):=by kernel_rfl
theorem Yq (k a v c h e:Int)(W B:List Value)(n m:Nat)(t:TypeId):pV true false false [qA k a v c h,nA e (.raw (.slice none 0 0)),aS B tB m] t=sel (ltI 400 (qaa m)) (some (Value.bool true)) (aot k a v c h e (afO B m (some (Value.bool true)))):=by kernel_rfl
theorem YE (k a v c h e:Int)(W B:List Value)(n m:Nat)(t:TypeId):pV true false false [qA k a v c h,nA e (.raw (.slice none 0 0)),aV (.slice none 0 0)] t=aot k a v c h e (some (Value.bool true)):=by kernel_rfl
theorem ZQ (k a v c h e:Int)(W B:List Value)(n m:Nat)(t:TypeId):pV true false false [qA k a v c h,nA e (.raw (.slice none 0 0)),aV bY] t=aot k a v c h e (some (Value.bool true)):=by kernel_rfl
theorem J8 (k a v c h e:Int)(W B:List Value)(n m:Nat)(t:TypeId):pV true true true [qA k a v c h,nA e (.raw bY),aS B tB m] t=sel (ltI 400 (qaa m)) (some (Value.bool true)) (aoe k a v c h e (agc B m (some (Value.bool true)))):=by kernel_rfl
theorem Zy (k a v c h e:Int)(W B:List Value)(n m:Nat)(t:TypeId):pV true true false [qA k a v c h,nA e (.raw bY),aS B tB m] t=sel (ltI 400 (qaa m)) (some (Value.bool true)) (aoe k a v c h e (afO B m (some (Value.bool true)))):=by kernel_rfl
theorem ZV (k a v c h e:Int)(W B:List Value)(n m:Nat)(t:TypeId):pV true true false [qA k a v c h,nA e (.raw bY),aV (.slice none 0 0)] t=aoe k a v c h e (some (Value.bool true)):=by kernel_rfl
theorem WV (k a v c h e:Int)(W B:List Value)(n m:Nat)(t:TypeId):pV true true false [qA k a v c h,nA e (.raw bY),aV bY] t=aoe k a v c h e (some (Value.bool true)):=by kernel_rfl
theorem XL (k a v c h e:Int)(W B:List Value)(n m:Nat)(t:TypeId):pV true false true [qA k a v c h,nA e (.raw bY),aS B tB m] t=sel (ltI 400 (qaa m)) (some (Value.bool true)) (aot k a v c h e (agc B m (some (Value.bool true)))):=by kernel_rfl
theorem YJ (k a v c h e:Int)(W B:List Value)(n m:Nat)(t:TypeId):pV true false false [qA k a v c h,nA e (.raw bY),aS B tB m] t=sel (ltI 400 (qaa m)) (some (Value.bool true)) (aot k a v c h e (afO B m (some (Value.bool true)))):=by kernel_rfl
theorem Xv (k a v c h e:Int)(W B:List Value)(n m:Nat)(t:TypeId):pV true false false [qA k a v c h,nA e (.raw bY),aV (.slice none 0 0)] t=aot k a v c h e (some (Value.bool true)):=by kernel_rfl
theorem aaj (k a v c h e:Int)(W B:List Value)(n m:Nat)(t:TypeId):pV true false false [qA k a v c h,nA e (.raw bY),aV bY] t=aot k a v c h e (some (Value.bool true)):=by kernel_rfl
theorem Y9 (k a v c h e:Int)(W B:List Value)(n m:Nat)(t:TypeId):pV false true true [qA k a v c h,nA e (.sl W tW n),aS B tB m] t=sel (ltI 60 (qaa n)) (some (Value.bool true)) (sel (ltI 400 (qaa m)) (some (Value.bool true)) (avS k a v c h e W n (agc B m (some (Value.bool true))))):=by kernel_rfl
theorem Zh (k a v c h e:Int)(W B:List Value)(n m:Nat)(t:TypeId):pV false true false [qA k a v c h,nA e (.sl W tW n),aS B tB m] t=sel (ltI 60 (qaa n)) (some (Value.bool true)) (sel (ltI 400 (qaa m)) (some (Value.bool true)) (avS k a v c h e W n (afO B m (some (Value.bool true))))):=by kernel_rfl
theorem XA (k a v c h e:Int)(W B:List Value)(n m:Nat)(t:TypeId):pV false true false [qA k a v c h,nA e (.sl W tW n),aV (.slice none 0 0)] t=sel (ltI 60 (qaa n)) (some (Value.bool true)) (avS k a v c h e W n (some (Value.bool true))):=by kernel_rfl
theorem Wn (k a v c h e:Int)(W B:List Value)(n m:Nat)(t:TypeId):pV false true false [qA k a v c h,nA e (.sl W tW n),aV bY] t=sel (ltI 60 (qaa n)) (some (Value.bool true)) (avS k a v c h e W n (some (Value.bool true))):=by kernel_rfl
theorem XV (k a v c h e:Int)(W B:List Value)(n m:Nat)(t:TypeId):pV false false true [qA k a v c h,nA e (.sl W tW n),aS B tB m] t=sel (ltI 60 (qaa n)) (some (Value.bool true)) (sel (ltI 400 (qaa m)) (some (Value.bool true)) (av9 k a v c h e W n (agc B m (some (Value.bool true))))):=by kernel_rfl
theorem YZ (k a v c h e:Int)(W B:List Value)(n m:Nat)(t:TypeId):pV false false false [qA k a v c h,nA e (.sl W tW n),aS B tB m] t=sel (ltI 60 (qaa n)) (some (Value.bool true)) (sel (ltI 400 (qaa m)) (some (Value.bool true)) (av9 k a v c h e W n (afO B m (some (Value.bool true))))):=by kernel_rfl
theorem Wi (k a v c h e:Int)(W B:List Value)(n m:Nat)(t:TypeId):pV false false false [qA k a v c h,nA e (.sl W tW n),aV (.slice none 0 0)] t=sel (ltI 60 (qaa n)) (some (Value.bool true)) (av9 k a v c h e W n (some (Value.bool true))):=by kernel_rfl
theorem Xq (k a v c h e:Int)(W B:List Value)(n m:Nat)(t:TypeId):pV false false false [qA k a v c h,nA e (.sl W tW n),aV bY] t=sel (ltI 60 (qaa n)) (some (Value.bool true)) (av9 k a v c h e W n (some (Value.bool true))):=by kernel_rfl
theorem Zt (k a v c h e:Int)(W B:List Value)(n m:Nat)(t:TypeId):pV false true true [qA k a v c h,nA e (.raw (.slice none 0 0)),aS B tB m] t=sel (ltI 400 (qaa m)) (some (Value.bool true)) (amH k a v c h e (agc B m (some (Value.bool true)))):=by kernel_rfl
theorem XQ (k a v c h e:Int)(W B:List Value)(n m:Nat)(t:TypeId):pV false true false [qA k a v c h,nA e (.raw (.slice none 0 0)),aS B tB m] t=sel (ltI 400 (qaa m)) (some (Value.bool true)) (amH k a v c h e (afO B m (some (Value.bool true)))):=by kernel_rfl
theorem YA (k a v c h e:Int)(W B:List Value)(n m:Nat)(t:TypeId):pV false true false [qA k a v c h,nA e (.raw (.slice none 0 0)),aV (.slice none 0 0)] t=amH k a v c h e (some (Value.bool true)):=by kernel_rfl
theorem WZ (k a v c h e:Int)(W B:List Value)(n m:Nat)(t:TypeId):pV false true false [qA k a v c h,nA e (.raw (.slice none 0 0)),aV bY] t=amH k a v c h e (some (Value.bool true)):=by kernel_rfl
theorem Yl (k a v c h e:Int)(W B:List Value)(n m:Nat)(t:TypeId):pV false false true [qA k a v c h,nA e (.raw (.slice none 0 0)),aS B tB m] t=sel (ltI 400 (qaa m)) (some (Value.bool true)) (alI k a v c h e (agc B m (some (Value.bool true)))):=by kernel_rfl
theorem WB (k a v c h e:Int)(W B:List Value)(n m:Nat)(t:TypeId):pV false false false [qA k a v c h,nA e (.raw (.slice none 0 0)),aS B tB m] t=sel (ltI 400 (qaa m)) (some (Value.bool true)) (alI k a v c h e (afO B m (some (Value.bool true)))):=by kernel_rfl
theorem ZR (k a v c h e:Int)(W B:List Value)(n m:Nat)(t:TypeId):pV false false false [qA k a v c h,nA e (.raw (.slice none 0 0)),aV (.slice none 0 0)] t=alI k a v c h e (some (Value.bool true)):=by kernel_rfl
theorem Yj (k a v c h e:Int)(W B:List Value)(n m:Nat)(t:TypeId):pV false false false [qA k a v c h,nA e (.raw (.slice none 0 0)),aV bY] t=alI k a v c h e (some (Value.bool true)):=by kernel_rfl
theorem Zn (k a v c h e:Int)(W B:List Value)(n m:Nat)(t:TypeId):pV false true true [qA k a v c h,nA e (.raw bY),aS B tB m] t=sel (ltI 400 (qaa m)) (some (Value.bool true)) (amH k a v c h e (agc B m (some (Value.bool true)))):=by kernel_rfl
theorem Yn (k a v c h e:Int)(W B:List Value)(n m:Nat)(t:TypeId):pV false true false [qA k a v c h,nA e (.raw bY),aS B tB m] t=sel (ltI 400 (qaa m)) (some (Value.bool true)) (amH k a v c h e (afO B m (some (Value.bool true)))):=by kernel_rfl
theorem aak (k a v c h e:Int)(W B:List Value)(n m:Nat)(t:TypeId):pV false true false [qA k a v c h,nA e (.raw bY),aV (.slice none 0 0)] t=amH k a v c h e (some (Value.bool true)):=by kernel_rfl
theorem ZG (k a v c h e:Int)(W B:List Value)(n m:Nat)(t:TypeId):pV false true false [qA k a v c h,nA e (.raw bY),aV bY] t=amH k a v c h e (some (Value.bool true)):=by kernel_rfl
theorem YB (k a v c h e:Int)(W B:List Value)(n m:Nat)(t:TypeId):pV false false true [qA k a v c h,nA e (.raw bY),aS B tB m] t=sel (ltI 400 (qaa m)) (some (Value.bool true)) (alI k a v c h e (agc B m (some (Value.bool true)))):=by kernel_rfl
theorem YW (k a v c h e:Int)(W B:List Value)(n m:Nat)(t:TypeId):pV false false false [qA k a v c h,nA e (.raw bY),aS B tB m] t=sel (ltI 400 (qaa m)) (some (Value.bool true)) (alI k a v c h e (afO B m (some (Value.bool true)))):=by kernel_rfl
theorem ZP (k a v c h e:Int)(W B:List Value)(n m:Nat)(t:TypeId):pV false false false [qA k a v c h,nA e (.raw bY),aV (.slice none 0 0)] t=alI k a v c h e (some (Value.bool true)):=by kernel_rfl
theorem X8 (k a v c h e:Int)(W B:List Value)(n m:Nat)(t:TypeId):pV false false false [qA k a v c h,nA e (.raw bY),aV bY] t=alI k a v c h e (some (Value.bool true)):=by kernel_rfl
theorem kD {α:Type}{c:Bool}{x y r:α}(h:c=true)(hx:x=r):sel c x y=r:=by rw [h];exact hx
theorem jq {α:Type}{c:Bool}{x y r:α}(h:c=false)(hy:y=r):sel c x y=r:=by rw [h];exact hy
theorem alj {a b:Bool}(ha:a=true)(hb:b=true):(true&&(true&&(a&&b)))=true:=by rw [ha,hb];rfl
theorem and1 {a:Bool}(ha:a=true):(true&&a)=true:=by rw [ha];rfl
theorem arH {a:Bool}(ha:a=true):(!a)=false:=by rw [ha];rfl
theorem ahF:∀ ns:List Nat,ns.length≤(ng ns).length
 |[]=>qay _
 |v::ns=>by
  have h1:=(vX v).1
  have h2:=ahF ns
  show ns.length+1≤(Fn.iQ v++ng ns).length
  rw [aW] at h1
  rw [qal]
  omega
theorem aiD:∀ {ns:List Nat},(∀ v∈ns,v<18446744073709551616)→Hq (wL ns)=true
 |[],_=>rfl
 |v::ns,h=>by
  show sel (isW (uN v)) (Hq (wL ns)) false=true
  rw [aiD fun x hx=>h x (qao _ hx)]
  have:isW (uN v)=true:=by
   show qau _ _=true
   have:=h v qai
   exact Nat.ble_eq_true_of_le (by omega)
  rw [this]
  rfl
theorem axx {c:Bool}(h:c=false):sel c false true=true:=by rw [h];rfl
theorem f_e {e:Int}:(sel (false||true&&(true&&eqI e e)) true false&&true)=true:=by rw [kW];rfl
theorem afU {n:Nat}{W:List Value}(hn:n=W.length)(hW:flatAll W=true):(true&&(true&&((n.mul 1).beq (aQ W)&&flatAll W)))=true:=alj (kC (by rw [aW,hn];exact qax _)) hW
theorem awZ {x y:Int}:(eqI x x&&(eqI y y&&true))=true:=by rw [kW,kW];rfl
theorem azW {x y z u w:Int}:(eqI x x&&(eqI y y&&(eqI z z&&(eqI u u&&(eqI w w&&true)))))=true:=by rw [kW,kW,kW,kW,kW];rfl
theorem Q9 {a b:Nat}(h:ltI (qaa a) (qaa b)=false):b≤a:=by
 by_cases e:b≤a
 ·exact e
 ·rw [aam (by omega)] at h
  cases h
theorem aiE {W:List Value}{n:Nat}(hW:Hq W=true)(hn:n=W.length)(h:n≤400):Fn.okW W n=true:=by
 unfold Fn.okW
 rw [hW,kC (by rw [aW];exact hn),gQ h]
 rfl
theorem ah5 {B:List Value}{n:Nat}(hB:allB B=true)(hn:n=B.length)(h:n≤4096):Fn.okL B n=true:=by
 unfold Fn.okL
 rw [hB,kC (by rw [aW];exact hn),gQ h]
 rfl
theorem f_q {k a v c h:Int}:(true&&(true&&(((Fn.qLn k a v c h).succ.mul 1).beq (aQ (Fn.qL k a v c h))&&flatAll (Fn.qL k a v c h))))=true:=by
 refine alj (kC ?_) (ajM k a v c h)
 have:=akv k a v c h
 show (aQ (Fn.qL k a v c h)-1+1)*1=_
 omega
theorem aA8 {k a v c h:Int}:Fn.okL (Fn.qL k a v c h) (Fn.qLn k a v c h).succ=true:=by
 have h1:=akv k a v c h
 have h2:aQ (Fn.qL k a v c h)≤4096:=by
  rw [aW]
  have:=AX (k.toNat::qVs k a v c h)
  have h3:(qVs k a v c h).length≤3:=by
   unfold qVs
   repeat' split
   all_goals simp
  simp only [qap] at this
  show (ng _).length≤_
  omega
 unfold Fn.okL
 rw [show allB (Fn.qL k a v c h)=true from nX _,kC (show (Fn.qLn k a v c h).succ=aQ (Fn.qL k a v c h) by unfold Fn.qLn;omega),gQ (show (Fn.qLn k a v c h).succ≤4096 by unfold Fn.qLn;omega)]
 rfl
theorem Wu {e:Int}{W:List Value}(hW:W.length≤400):allB (Fn.aBy e W)=true∧(Fn.aLn e W).succ=aQ (Fn.aBy e W)∧aQ (Fn.aBy e W)≤4096:=by
 unfold Fn.aLn
 rw [agF]
 have h1:=ai6 e.toNat (bI W)
 refine ⟨nX _,by omega,?_⟩
 have h2:=AX (e.toNat::(if e.toNat=0 then (bI W).length::bI W else []))
 have h3:(bI W).length=W.length:=by unfold bI;simp
 rw [aW]
 show (ng _).length≤_
 refine qaB h2 ?_
 split <;> simp only [qap,List.length_nil] <;> omega
theorem f_a {e:Int}{W:List Value}(hW:W.length≤400):(true&&(true&&(((Fn.aLn e W).succ.mul 1).beq (aQ (Fn.aBy e W))&&flatAll (Fn.aBy e W))))=true:=by
 obtain ⟨h1,h2,h3⟩:=Wu (e:=e) hW
 exact alj (kC (by rw [h2];exact qax _)) (jD h1)
theorem axv {e:Int}{W:List Value}(hW:W.length≤400):Fn.okL (Fn.aBy e W) (Fn.aLn e W).succ=true:=by
 obtain ⟨h1,h2,h3⟩:=Wu (e:=e) hW
 unfold Fn.okL
 rw [h1,kC h2,gQ (by omega)]
 rfl
theorem akI {B:List Value}(hB:allB B=true)(hb:B.length≤400):(Fn.gNs B).length≤400∧∀ v∈Fn.gNs B,v<18446744073709551616:=by
 by_cases h:(Fn.gT B).1=0
 ·obtain ⟨h1,h2,h3⟩:=akM hB h
  refine ⟨?_,h3⟩
  rw [←h2] at hb
  by_cases hz:Fn.Qb B=0
  ·have e:Fn.aL (Fn.Qb B) (Fn.gNs B)=ng (0::(Fn.gNs B).length::Fn.gNs B):=by unfold Fn.aL;rw [hz];rfl
   rw [e] at hb
   have:=ahF (0::(Fn.gNs B).length::Fn.gNs B)
   simp only [qap] at this
   omega
  ·have:Fn.gNs B=[]:=by
    by_cases hn:Fn.gNs B=[]
    ·exact hn
    ·exfalso
     unfold Fn.aE at h1
     split at h1
     ·cases h1
     ·rw [if_pos ⟨by simpa using hz,hn⟩] at h1
      cases h1
   rw [this]
   exact qah _
 ·unfold Fn.gNs
  rw [if_neg h]
  exact ⟨qah _,fun v hv=>by cases hv⟩
theorem f_g {B:List Value}:(true&&(true&&(((Fn.gLn B).mul 1).beq (aQ (Fn.gWw B))&&flatAll (Fn.gWw B))))=true:=by
 refine alj (kC ?_) (ab9 _)
 unfold Fn.gWw
 rw [vK]
 exact qax _
theorem azG {B:List Value}(hB:allB B=true)(hb:B.length≤400):Fn.okW (Fn.gWw B) (Fn.gLn B)=true:=by
 obtain ⟨h1,h2⟩:=akI hB hb
 unfold Fn.okW Fn.gWw
 rw [aiD h2,vK,kC (show Fn.gLn B=(Fn.gNs B).length from rfl),gQ (show Fn.gLn B≤400 from h1)]
 rfl
theorem aum {k a v c h:Int}{R r:Option Value}(hq:Fn.qOk k a v c h=true)(hR:R=r):zT0 k a v c h R=r:=kD hq hR
theorem amQ {W:List Value}{n:Nat}{R r:Option Value}(w1:(true&&(true&&((n.mul 1).beq (aQ W)&&flatAll W)))=true)(hR:R=r):zT1 W n R=r:=kD w1 hR
theorem axY {W:List Value}{n:Nat}{R r:Option Value}(hw:Fn.okW W n=true)(hR:R=r):zT2 W n R=r:=kD (and1 hw) hR
theorem arp {e:Int}{R r:Option Value}(hR:R=r):zT3 e R=r:=kD f_e hR
theorem azd {W:List Value}{n:Nat}{R r:Option Value}(hw:Fn.okW W n=true)(hR:R=r):zT4 W n R=r:=kD (and1 (and1 hw)) hR
theorem awL {e:Int}{W:List Value}{R r:Option Value}(ha:Fn.aOk e W=true)(hR:R=r):zT5 e W R=r:=kD ha hR
theorem aui {k a v c h:Int}{R r:Option Value}(hR:R=r):zT6 k a v c h R=r:=kD f_q hR
theorem ayr {k a v c h:Int}{R r:Option Value}(hR:R=r):zT7 k a v c h R=r:=kD (alj aA8 aA8) hR
theorem aAg {k a v c h:Int}{R r:Option Value}(hR:R=r):zT8 k a v c h R=r:=jq (arH (BI _)) hR
theorem auM {e:Int}{W:List Value}{R r:Option Value}(hwl:W.length≤400)(hR:R=r):zT9 e W R=r:=kD (f_a hwl) hR
theorem awU {e:Int}{W:List Value}{R r:Option Value}(hwl:W.length≤400)(hR:R=r):aAB e W R=r:=kD (alj (axv hwl) (axv hwl)) hR
theorem awr {e:Int}{W:List Value}{R r:Option Value}(hR:R=r):aA4 e W R=r:=jq (arH (BI _)) hR
theorem agE {e:Int}{R r:Option Value}(hR:R=r):axJ e R=r:=kD (kW _) hR
theorem avq {W:List Value}{n:Nat}{R r:Option Value}(hw:Fn.okW W n=true)(hR:R=r):aAI W n R=r:=kD (alj hw hw) hR
theorem axd {W:List Value}{R r:Option Value}(hR:R=r):aAP W R=r:=jq (arH (Rq _)) hR
theorem agL {B:List Value}{m:Nat}{R r:Option Value}(b1:(true&&(true&&((m.mul 1).beq (aQ B)&&flatAll B)))=true)(hR:R=r):axm B m R=r:=kD b1 hR
theorem awP {B:List Value}{m:Nat}{R r:Option Value}(hb:Fn.okL B m=true)(hR:R=r):aAo B m R=r:=kD (and1 hb) hR
theorem apF {B:List Value}{R r:Option Value}(hg:Fn.agz B=true)(hR:R=r):ayp B R=r:=kD hg hR
theorem atT {B:List Value}{m:Nat}{R r:Option Value}(hb:Fn.okL B m=true)(hR:R=r):aAv B m R=r:=kD (alj hb hb) hR
theorem auR {B:List Value}{m:Nat}{R r:Option Value}(hb:Fn.okL B m=true)(hR:R=r):aAt B m R=r:=kD hb hR
theorem auo {B:List Value}{R r:Option Value}(hR:R=r):aAE B R=r:=kD (BI _) hR
theorem avH {B:List Value}{R r:Option Value}(hR:R=r):aAq B R=r:=kD azW hR
theorem avv {B:List Value}{R r:Option Value}(hR:R=r):aAR B R=r:=kD awZ hR
theorem avd {B:List Value}{R r:Option Value}(hR:R=r):aAU B R=r:=kD (kW _) hR
theorem ao4 {B:List Value}{R r:Option Value}(hR:R=r):azb B R=r:=kD f_g hR
theorem axc {B:List Value}{R r:Option Value}(hgw:Fn.okW (Fn.gWw B) (Fn.gLn B)=true)(hR:R=r):aA6 B R=r:=kD (alj hgw hgw) hR
theorem avp {B:List Value}{R r:Option Value}(hR:R=r):aA2 B R=r:=kD (Rq _) hR
theorem apH {B:List Value}{R r:Option Value}(hg:Fn.agz B=false)(hR:R=r):ax2 B R=r:=kD (axx hg) hR
theorem auD {B:List Value}{R r:Option Value}(hR:R=r):aBg B R=r:=kD (kW _) hR
theorem atx {B:List Value}{R r:Option Value}(hR:R=r):aAK B R=r:=kD awZ hR
theorem aoR {e:Int}{W:List Value}{R r:Option Value}(ha:Fn.aOk e W=false)(hR:R=r):aAh e W R=r:=kD (axx ha) hR
theorem av8 {e:Int}{W:List Value}{R r:Option Value}(hR:R=r):aA1 e W R=r:=jq (arH (kW _)) hR
theorem apQ {e:Int}{R r:Option Value}(ha:Fn.aOk e []=true)(hR:R=r):azK e R=r:=kD ha hR
theorem ao0 {e:Int}{R r:Option Value}(hwl:([]:List Value).length≤400)(hR:R=r):ax3 e R=r:=kD (f_a hwl) hR
theorem awG {e:Int}{R r:Option Value}(hwl:([]:List Value).length≤400)(hR:R=r):aAC e R=r:=kD (alj (axv hwl) (axv hwl)) hR
theorem at6 {e:Int}{R r:Option Value}(hR:R=r):aBb e R=r:=jq (arH (BI _)) hR
theorem aoK {e:Int}{R r:Option Value}(ha:Fn.aOk e []=false)(hR:R=r):aAf e R=r:=kD (axx ha) hR
theorem axj {e:Int}{R r:Option Value}(hR:R=r):aAD e R=r:=jq (arH (kW _)) hR
theorem apP {k a v c h:Int}{R r:Option Value}(hq:Fn.qOk k a v c h=false)(hR:R=r):az2 k a v c h R=r:=kD (axx hq) hR
theorem adn {k a v c h:Int}{R r:Option Value}(hR:R=r):auf k a v c h R=r:=jq (arH (kW _)) hR
theorem aou {B:List Value}{m:Nat}{R r:Option Value}(b1:(true&&(true&&((m.mul 1).beq (aQ B)&&flatAll B)))=true)(hb:Fn.okL B m=true)(hR:R=r):zS0 B m R=r:=agL b1 (awP hb hR)
theorem aw0 {B:List Value}{m:Nat}{R r:Option Value}(b1:(true&&(true&&((m.mul 1).beq (aQ B)&&flatAll B)))=true)(hb:Fn.okL B m=true)(hR:R=r):zS1 B m R=r:=aou b1 hb (aou b1 hb hR)
theorem asg {W:List Value}{n:Nat}{R r:Option Value}(w1:(true&&(true&&((n.mul 1).beq (aQ W)&&flatAll W)))=true)(hw:Fn.okW W n=true)(hR:R=r):zS2 W n R=r:=amQ w1 (azd hw hR)
theorem atJ {k a v c h:Int}{R r:Option Value}(hq:Fn.qOk k a v c h=true)(hR:R=r):zS3 k a v c h R=r:=aum hq (aum hq hR)
theorem al1 {k a v c h:Int}{R r:Option Value}(hR:R=r):zS6 k a v c h R=r:=aui (aui (ayr (aAg hR)))
theorem avI {B:List Value}{m:Nat}{R r:Option Value}(b1:(true&&(true&&((m.mul 1).beq (aQ B)&&flatAll B)))=true)(hb:Fn.okL B m=true)(hR:R=r):zS7 B m R=r:=aw0 b1 hb (aw0 b1 hb hR)
theorem aoL {B:List Value}{m:Nat}{R r:Option Value}(b1:(true&&(true&&((m.mul 1).beq (aQ B)&&flatAll B)))=true)(hb:Fn.okL B m=true)(hR:R=r):ayJ B m R=r:=agL b1 (agL b1 (atT hb (auR hb (auo (avH (avv hR))))))
theorem aoP {k a v c h:Int}{R r:Option Value}(hq:Fn.qOk k a v c h=false)(hR:R=r):ayX k a v c h R=r:=apP hq (apP hq hR)
theorem aoN {e:Int}{W:List Value}{n:Nat}{R r:Option Value}(w1:(true&&(true&&((n.mul 1).beq (aQ W)&&flatAll W)))=true)(hw:Fn.okW W n=true)(hR:R=r):axN e W n R=r:=amQ w1 (axY hw (arp (asg w1 hw hR)))
theorem apq {e:Int}{W:List Value}{n:Nat}{R r:Option Value}(w1:(true&&(true&&((n.mul 1).beq (aQ W)&&flatAll W)))=true)(hw:Fn.okW W n=true)(hR:R=r):ayQ e W n R=r:=agE (amQ w1 (amQ w1 (avq hw (axd hR))))
theorem apw {k a v c h e:Int}{R r:Option Value}(hq:Fn.qOk k a v c h=true)(hR:R=r):axU k a v c h e R=r:=atJ hq (arp hR)
theorem apr {e:Int}{R r:Option Value}(ha:Fn.aOk e []=true)(hR:R=r):azE e R=r:=apQ ha (apQ ha hR)
theorem aoA {e:Int}{R r:Option Value}(hwl:([]:List Value).length≤400)(hR:R=r):azx e R=r:=ao0 hwl (ao0 hwl (awG hwl (at6 (agE hR))))
theorem aoD {e:Int}{R r:Option Value}(ha:Fn.aOk e []=false)(hR:R=r):ayZ e R=r:=aoK ha (aoK ha hR)
theorem apC {e:Int}{R r:Option Value}(hR:R=r):ayG e R=r:=axj (agE hR)
theorem apK {k a v c h e:Int}{R r:Option Value}(hq:Fn.qOk k a v c h=false)(hR:R=r):axM k a v c h e R=r:=aoP hq (arp hR)
theorem zo {B:List Value}{m:Nat}{R r:Option Value}(b1:(true&&(true&&((m.mul 1).beq (aQ B)&&flatAll B)))=true)(hb:Fn.okL B m=true)(hg:Fn.agz B=true)(hgw:Fn.okW (Fn.gWw B) (Fn.gLn B)=true)(hR:R=r):agc B m R=r:=avI b1 hb (apF hg (aou b1 hb (apF hg (aoL b1 hb (avd (ao4 (ao4 (axc hgw (avp hR)))))))))
theorem zy {B:List Value}{m:Nat}{R r:Option Value}(b1:(true&&(true&&((m.mul 1).beq (aQ B)&&flatAll B)))=true)(hb:Fn.okL B m=true)(hg:Fn.agz B=false)(hR:R=r):afO B m R=r:=avI b1 hb (apH hg (aou b1 hb (apH hg (aoL b1 hb (auD (atx hR))))))
theorem apB {k a v c h e:Int}{W:List Value}{n:Nat}{R r:Option Value}(hq:Fn.qOk k a v c h=true)(w1:(true&&(true&&((n.mul 1).beq (aQ W)&&flatAll W)))=true)(hw:Fn.okW W n=true)(hR:R=r):aAc k a v c h e W n R=r:=atJ hq (aoN w1 hw hR)
theorem aoS {e:Int}{W:List Value}{n:Nat}{R r:Option Value}(ha:Fn.aOk e W=true)(w1:(true&&(true&&((n.mul 1).beq (aQ W)&&flatAll W)))=true)(hw:Fn.okW W n=true)(hR:R=r):ayy e W n R=r:=awL ha (asg w1 hw (awL ha hR))
theorem aoX {e:Int}{W:List Value}{n:Nat}{R r:Option Value}(hwl:W.length≤400)(w1:(true&&(true&&((n.mul 1).beq (aQ W)&&flatAll W)))=true)(hw:Fn.okW W n=true)(hR:R=r):ayf e W n R=r:=auM hwl (auM hwl (awU hwl (awr (apq w1 hw hR))))
theorem apf {e:Int}{W:List Value}{n:Nat}{R r:Option Value}(ha:Fn.aOk e W=false)(w1:(true&&(true&&((n.mul 1).beq (aQ W)&&flatAll W)))=true)(hw:Fn.okW W n=true)(hR:R=r):azY e W n R=r:=aoR ha (asg w1 hw (aoR ha hR))
theorem aoV {e:Int}{W:List Value}{n:Nat}{R r:Option Value}(w1:(true&&(true&&((n.mul 1).beq (aQ W)&&flatAll W)))=true)(hw:Fn.okW W n=true)(hR:R=r):axW e W n R=r:=av8 (apq w1 hw hR)
theorem JB {k a v c h e:Int}{R r:Option Value}(hq:Fn.qOk k a v c h=true)(ha:Fn.aOk e []=true)(hwl:([]:List Value).length≤400)(hR:R=r):aoe k a v c h e R=r:=apw hq (apr ha (al1 (aoA hwl hR)))
theorem JY {k a v c h e:Int}{R r:Option Value}(hq:Fn.qOk k a v c h=true)(ha:Fn.aOk e []=false)(hR:R=r):aot k a v c h e R=r:=apw hq (aoD ha (al1 (apC hR)))
theorem apx {k a v c h e:Int}{W:List Value}{n:Nat}{R r:Option Value}(hq:Fn.qOk k a v c h=false)(w1:(true&&(true&&((n.mul 1).beq (aQ W)&&flatAll W)))=true)(hw:Fn.okW W n=true)(hR:R=r):aAm k a v c h e W n R=r:=aoP hq (aoN w1 hw hR)
theorem Jh {k a v c h e:Int}{R r:Option Value}(hq:Fn.qOk k a v c h=false)(ha:Fn.aOk e []=true)(hwl:([]:List Value).length≤400)(hR:R=r):amH k a v c h e R=r:=apK hq (apr ha (adn (aoA hwl hR)))
theorem Jo {k a v c h e:Int}{R r:Option Value}(hq:Fn.qOk k a v c h=false)(ha:Fn.aOk e []=false)(hR:R=r):alI k a v c h e R=r:=apK hq (aoD ha (adn (apC hR)))
theorem aen {k a v c h e:Int}{W:List Value}{n:Nat}{R r:Option Value}(hq:Fn.qOk k a v c h=true)(w1:(true&&(true&&((n.mul 1).beq (aQ W)&&flatAll W)))=true)(hw:Fn.okW W n=true)(ha:Fn.aOk e W=true)(hwl:W.length≤400)(hR:R=r):awQ k a v c h e W n R=r:=apB hq w1 hw (aoS ha w1 hw (al1 (aoX hwl w1 hw hR)))
theorem adr {k a v c h e:Int}{W:List Value}{n:Nat}{R r:Option Value}(hq:Fn.qOk k a v c h=true)(w1:(true&&(true&&((n.mul 1).beq (aQ W)&&flatAll W)))=true)(hw:Fn.okW W n=true)(ha:Fn.aOk e W=false)(hR:R=r):auX k a v c h e W n R=r:=apB hq w1 hw (apf ha w1 hw (al1 (aoV w1 hw hR)))
theorem adJ {k a v c h e:Int}{W:List Value}{n:Nat}{R r:Option Value}(hq:Fn.qOk k a v c h=false)(w1:(true&&(true&&((n.mul 1).beq (aQ W)&&flatAll W)))=true)(hw:Fn.okW W n=true)(ha:Fn.aOk e W=true)(hwl:W.length≤400)(hR:R=r):avS k a v c h e W n R=r:=apx hq w1 hw (aoS ha w1 hw (adn (aoX hwl w1 hw hR)))
theorem ad5 {k a v c h e:Int}{W:List Value}{n:Nat}{R r:Option Value}(hq:Fn.qOk k a v c h=false)(w1:(true&&(true&&((n.mul 1).beq (aQ W)&&flatAll W)))=true)(hw:Fn.okW W n=true)(ha:Fn.aOk e W=false)(hR:R=r):av9 k a v c h e W n R=r:=apx hq w1 hw (apf ha w1 hw (adn (aoV w1 hw hR)))
theorem az4 (k a v c h e:Int)(W B:List Value)(n m:Nat)(t:TypeId)(hW:Hq W=true)(hn:n=W.length)(hB:allB B=true)(hm:m=B.length):∃ b1 b2 b3,pV b1 b2 b3 [qA k a v c h,nA e (.sl W tW n),aS B tB m] t=some (.bool true):=by
 cases g1:ltI 60 (qaa n)
 case true=>exact ⟨true,true,true,(AL k a v c h e W B n m t).trans (kD g1 rfl)⟩
 cases g2:ltI 400 (qaa m)
 case true=>exact ⟨true,true,true,(AL k a v c h e W B n m t).trans (jq g1 (kD g2 rfl))⟩
 have aBd:n≤60:=Q9 g1
 have hw:Fn.okW W n=true:=aiE hW hn (by omega)
 have w1:=afU hn (AY hW)
 have hwl:W.length≤400:=by omega
 have hm4:m≤400:=Q9 g2
 have hb:Fn.okL B m=true:=ah5 hB hm (by omega)
 have b1:=afU hm (jD hB)
 have hgw:=azG hB (show B.length≤400 by omega)
 cases hq:Fn.qOk k a v c h <;> cases ha:Fn.aOk e W <;> cases hg:Fn.agz B
 ·exact ⟨false,false,false,(YZ k a v c h e W B n m t).trans (jq g1 (jq g2 (ad5 hq w1 hw ha (zy b1 hb hg rfl))))⟩
 ·exact ⟨false,false,true,(XV k a v c h e W B n m t).trans (jq g1 (jq g2 (ad5 hq w1 hw ha (zo b1 hb hg hgw rfl))))⟩
 ·exact ⟨false,true,false,(Zh k a v c h e W B n m t).trans (jq g1 (jq g2 (adJ hq w1 hw ha hwl (zy b1 hb hg rfl))))⟩
 ·exact ⟨false,true,true,(Y9 k a v c h e W B n m t).trans (jq g1 (jq g2 (adJ hq w1 hw ha hwl (zo b1 hb hg hgw rfl))))⟩
 ·exact ⟨true,false,false,(WU k a v c h e W B n m t).trans (jq g1 (jq g2 (adr hq w1 hw ha (zy b1 hb hg rfl))))⟩
 ·exact ⟨true,false,true,(Xc k a v c h e W B n m t).trans (jq g1 (jq g2 (adr hq w1 hw ha (zo b1 hb hg hgw rfl))))⟩
 ·exact ⟨true,true,false,(Yu k a v c h e W B n m t).trans (jq g1 (jq g2 (aen hq w1 hw ha hwl (zy b1 hb hg rfl))))⟩
 ·exact ⟨true,true,true,(AL k a v c h e W B n m t).trans (jq g1 (jq g2 (aen hq w1 hw ha hwl (zo b1 hb hg hgw rfl))))⟩
theorem ayz (k a v c h e:Int)(W B:List Value)(n m:Nat)(t:TypeId)(hW:Hq W=true)(hn:n=W.length):∃ b1 b2 b3,pV b1 b2 b3 [qA k a v c h,nA e (.sl W tW n),aV (.slice none 0 0)] t=some (.bool true):=by
 cases g1:ltI 60 (qaa n)
 case true=>exact ⟨true,true,false,(JC k a v c h e W B n m t).trans (kD g1 rfl)⟩
 have aBd:n≤60:=Q9 g1
 have hw:Fn.okW W n=true:=aiE hW hn (by omega)
 have w1:=afU hn (AY hW)
 have hwl:W.length≤400:=by omega
 cases hq:Fn.qOk k a v c h <;> cases ha:Fn.aOk e W
 ·exact ⟨false,false,false,(Wi k a v c h e W B n m t).trans (jq g1 (ad5 hq w1 hw ha rfl))⟩
 ·exact ⟨false,true,false,(XA k a v c h e W B n m t).trans (jq g1 (adJ hq w1 hw ha hwl rfl))⟩
 ·exact ⟨true,false,false,(Yb k a v c h e W B n m t).trans (jq g1 (adr hq w1 hw ha rfl))⟩
 ·exact ⟨true,true,false,(JC k a v c h e W B n m t).trans (jq g1 (aen hq w1 hw ha hwl rfl))⟩
theorem az5 (k a v c h e:Int)(W B:List Value)(n m:Nat)(t:TypeId)(hW:Hq W=true)(hn:n=W.length):∃ b1 b2 b3,pV b1 b2 b3 [qA k a v c h,nA e (.sl W tW n),aV bY] t=some (.bool true):=by
 cases g1:ltI 60 (qaa n)
 case true=>exact ⟨true,true,false,(Ky k a v c h e W B n m t).trans (kD g1 rfl)⟩
 have aBd:n≤60:=Q9 g1
 have hw:Fn.okW W n=true:=aiE hW hn (by omega)
 have w1:=afU hn (AY hW)
 have hwl:W.length≤400:=by omega
 cases hq:Fn.qOk k a v c h <;> cases ha:Fn.aOk e W
 ·exact ⟨false,false,false,(Xq k a v c h e W B n m t).trans (jq g1 (ad5 hq w1 hw ha rfl))⟩
 ·exact ⟨false,true,false,(Wn k a v c h e W B n m t).trans (jq g1 (adJ hq w1 hw ha hwl rfl))⟩
 ·exact ⟨true,false,false,(XO k a v c h e W B n m t).trans (jq g1 (adr hq w1 hw ha rfl))⟩
 ·exact ⟨true,true,false,(Ky k a v c h e W B n m t).trans (jq g1 (aen hq w1 hw ha hwl rfl))⟩
theorem azz (k a v c h e:Int)(W B:List Value)(n m:Nat)(t:TypeId)(hB:allB B=true)(hm:m=B.length):∃ b1 b2 b3,pV b1 b2 b3 [qA k a v c h,nA e (.raw (.slice none 0 0)),aS B tB m] t=some (.bool true):=by
 cases g2:ltI 400 (qaa m)
 case true=>exact ⟨true,true,true,(Jt k a v c h e W B n m t).trans (kD g2 rfl)⟩
 have hwl:([]:List Value).length≤400:=qah _
 have hm4:m≤400:=Q9 g2
 have hb:Fn.okL B m=true:=ah5 hB hm (by omega)
 have b1:=afU hm (jD hB)
 have hgw:=azG hB (show B.length≤400 by omega)
 cases hq:Fn.qOk k a v c h <;> cases ha:Fn.aOk e [] <;> cases hg:Fn.agz B
 ·exact ⟨false,false,false,(WB k a v c h e W B n m t).trans (jq g2 (Jo hq ha (zy b1 hb hg rfl)))⟩
 ·exact ⟨false,false,true,(Yl k a v c h e W B n m t).trans (jq g2 (Jo hq ha (zo b1 hb hg hgw rfl)))⟩
 ·exact ⟨false,true,false,(XQ k a v c h e W B n m t).trans (jq g2 (Jh hq ha hwl (zy b1 hb hg rfl)))⟩
 ·exact ⟨false,true,true,(Zt k a v c h e W B n m t).trans (jq g2 (Jh hq ha hwl (zo b1 hb hg hgw rfl)))⟩
 ·exact ⟨true,false,false,(Yq k a v c h e W B n m t).trans (jq g2 (JY hq ha (zy b1 hb hg rfl)))⟩
 ·exact ⟨true,false,true,(XT k a v c h e W B n m t).trans (jq g2 (JY hq ha (zo b1 hb hg hgw rfl)))⟩
 ·exact ⟨true,true,false,(WS k a v c h e W B n m t).trans (jq g2 (JB hq ha hwl (zy b1 hb hg rfl)))⟩
 ·exact ⟨true,true,true,(Jt k a v c h e W B n m t).trans (jq g2 (JB hq ha hwl (zo b1 hb hg hgw rfl)))⟩
theorem ayo (k a v c h e:Int)(W B:List Value)(n m:Nat)(t:TypeId):∃ b1 b2 b3,pV b1 b2 b3 [qA k a v c h,nA e (.raw (.slice none 0 0)),aV (.slice none 0 0)] t=some (.bool true):=by
 have hwl:([]:List Value).length≤400:=qah _
 cases hq:Fn.qOk k a v c h <;> cases ha:Fn.aOk e []
 ·exact ⟨false,false,false,(ZR k a v c h e W B n m t).trans (Jo hq ha rfl)⟩
 ·exact ⟨false,true,false,(YA k a v c h e W B n m t).trans (Jh hq ha hwl rfl)⟩
 ·exact ⟨true,false,false,(YE k a v c h e W B n m t).trans (JY hq ha rfl)⟩
 ·exact ⟨true,true,false,(WE k a v c h e W B n m t).trans (JB hq ha hwl rfl)⟩
theorem axR (k a v c h e:Int)(W B:List Value)(n m:Nat)(t:TypeId):∃ b1 b2 b3,pV b1 b2 b3 [qA k a v c h,nA e (.raw (.slice none 0 0)),aV bY] t=some (.bool true):=by
 have hwl:([]:List Value).length≤400:=qah _
 cases hq:Fn.qOk k a v c h <;> cases ha:Fn.aOk e []
 ·exact ⟨false,false,false,(Yj k a v c h e W B n m t).trans (Jo hq ha rfl)⟩
 ·exact ⟨false,true,false,(WZ k a v c h e W B n m t).trans (Jh hq ha hwl rfl)⟩
 ·exact ⟨true,false,false,(ZQ k a v c h e W B n m t).trans (JY hq ha rfl)⟩
 ·exact ⟨true,true,false,(Yc k a v c h e W B n m t).trans (JB hq ha hwl rfl)⟩
theorem ayU (k a v c h e:Int)(W B:List Value)(n m:Nat)(t:TypeId)(hB:allB B=true)(hm:m=B.length):∃ b1 b2 b3,pV b1 b2 b3 [qA k a v c h,nA e (.raw bY),aS B tB m] t=some (.bool true):=by
 cases g2:ltI 400 (qaa m)
 case true=>exact ⟨true,true,true,(J8 k a v c h e W B n m t).trans (kD g2 rfl)⟩
 have hwl:([]:List Value).length≤400:=qah _
 have hm4:m≤400:=Q9 g2
 have hb:Fn.okL B m=true:=ah5 hB hm (by omega)
 have b1:=afU hm (jD hB)
 have hgw:=azG hB (show B.length≤400 by omega)
 cases hq:Fn.qOk k a v c h <;> cases ha:Fn.aOk e [] <;> cases hg:Fn.agz B
 ·exact ⟨false,false,false,(YW k a v c h e W B n m t).trans (jq g2 (Jo hq ha (zy b1 hb hg rfl)))⟩
 ·exact ⟨false,false,true,(YB k a v c h e W B n m t).trans (jq g2 (Jo hq ha (zo b1 hb hg hgw rfl)))⟩
 ·exact ⟨false,true,false,(Yn k a v c h e W B n m t).trans (jq g2 (Jh hq ha hwl (zy b1 hb hg rfl)))⟩
 ·exact ⟨false,true,true,(Zn k a v c h e W B n m t).trans (jq g2 (Jh hq ha hwl (zo b1 hb hg hgw rfl)))⟩
 ·exact ⟨true,false,false,(YJ k a v c h e W B n m t).trans (jq g2 (JY hq ha (zy b1 hb hg rfl)))⟩
 ·exact ⟨true,false,true,(XL k a v c h e W B n m t).trans (jq g2 (JY hq ha (zo b1 hb hg hgw rfl)))⟩
 ·exact ⟨true,true,false,(Zy k a v c h e W B n m t).trans (jq g2 (JB hq ha hwl (zy b1 hb hg rfl)))⟩
 ·exact ⟨true,true,true,(J8 k a v c h e W B n m t).trans (jq g2 (JB hq ha hwl (zo b1 hb hg hgw rfl)))⟩
theorem ax8 (k a v c h e:Int)(W B:List Value)(n m:Nat)(t:TypeId):∃ b1 b2 b3,pV b1 b2 b3 [qA k a v c h,nA e (.raw bY),aV (.slice none 0 0)] t=some (.bool true):=by
 have hwl:([]:List Value).length≤400:=qah _
 cases hq:Fn.qOk k a v c h <;> cases ha:Fn.aOk e []
 ·exact ⟨false,false,false,(ZP k a v c h e W B n m t).trans (Jo hq ha rfl)⟩
 ·exact ⟨false,true,false,(aak k a v c h e W B n m t).trans (Jh hq ha hwl rfl)⟩
 ·exact ⟨true,false,false,(Xv k a v c h e W B n m t).trans (JY hq ha rfl)⟩
 ·exact ⟨true,true,false,(ZV k a v c h e W B n m t).trans (JB hq ha hwl rfl)⟩
theorem azh (k a v c h e:Int)(W B:List Value)(n m:Nat)(t:TypeId):∃ b1 b2 b3,pV b1 b2 b3 [qA k a v c h,nA e (.raw bY),aV bY] t=some (.bool true):=by
 have hwl:([]:List Value).length≤400:=qah _
 cases hq:Fn.qOk k a v c h <;> cases ha:Fn.aOk e []
 ·exact ⟨false,false,false,(X8 k a v c h e W B n m t).trans (Jo hq ha rfl)⟩
 ·exact ⟨false,true,false,(ZG k a v c h e W B n m t).trans (Jh hq ha hwl rfl)⟩
 ·exact ⟨true,false,false,(aaj k a v c h e W B n m t).trans (JY hq ha rfl)⟩
 ·exact ⟨true,true,false,(WV k a v c h e W B n m t).trans (JB hq ha hwl rfl)⟩
theorem aem:∀ {n:Nat} {cs:List Value},jy (repeatL' n [.int .u64]) cs→Hq cs=true∧n=cs.length
 |0,_,h=>by cases h;exact ⟨rfl,rfl⟩
 |n+1,_,h=>by
  cases h with
  |cons h hs=>
   obtain ⟨h1,h2⟩:=aem (n:=n) hs
   obtain ⟨x,rfl,hw⟩:=h.yO
   simp [Lit.wf,IntKind.min,IntKind.max,IntKind.signed,IntKind.bits] at hw
   cases x with
   |negSucc x=>omega
   |ofNat x=>
    refine ⟨?_,by simp [h2]⟩
    show sel (qau x 18446744073709551615) (Hq _) false=true
    rw [h1,gQ (show x≤18446744073709551615 by simp only [qam] at hw;omega)]
    rfl
theorem ajL:∀ {n:Nat} {cs:List Value},jy (repeatL' n [.int .u8]) cs→allB cs=true∧n=cs.length
 |0,_,h=>by cases h;exact ⟨rfl,rfl⟩
 |n+1,_,h=>by
  cases h with
  |cons h hs=>
   obtain ⟨h1,h2⟩:=ajL (n:=n) hs
   obtain ⟨x,rfl,hw⟩:=h.yO
   simp [Lit.wf,IntKind.min,IntKind.max,IntKind.signed,IntKind.bits] at hw
   cases x with
   |negSucc x=>omega
   |ofNat x=>
    refine ⟨?_,by simp [h2]⟩
    show sel (gY .u8 .u8&&ltN x 256) (allB _) false=true
    rw [h1,show ltN x 256=true from gQ (by simp only [qam] at hw;omega)]
    rfl
theorem agS [Lo]{base:Nat}{ρ:Ren}{s:St}{w:World}(h:HR Tryz.prog base ρ s w)(hk:Fp s=true):Laid w:=by
 unfold Fp at hk
 split at hk
 ·rename_i t x e hc
  simp only [qad] at hk
  obtain ⟨h1,h2⟩:=hk
  have h1:=qab h1
  subst h1
  cases hu:ofHandle Tryz.prog x with
  |none=>rw [hu] at h2;cases h2
  |some u=>
   rw [hu] at h2
   have h2:u=259:=qab h2
   subst h2
   obtain ⟨l,hat,a,fz,⟨e9,ha,he9⟩,hv,_,h0,_⟩:=h.rows 0 _ _ _ hc
   have he9:=(he9 (.inl rfl)).symm
   subst he9
   rw [Ren.Ya (by show 0<32;omega)] at hat
   cases hat
   obtain ⟨_,hsz,_⟩:=h0 rfl
   obtain ⟨y,hy,hvy⟩:=hv 0 _ rfl
   refine ⟨e,fz,?_⟩
   have:a=#[.iface 458 (.agg #[hdl Tryz.prog 259])]:=by
    have hs1:a.size=1:=hsz
    cases hvy with
    |iface _ hvy=>cases hvy with
     |agg hvy=>cases hvy with
      |cons hvy hn=>cases hn with
       |nil=>
        rw [LZ xP hvy hu] at hy
        apply Array.ext
        ·simpa using hs1
        ·intro j j1 j2
         have:j=0:=by omega
         subst this
         have hy:a[0]? = some (.iface 458 (.agg #[hdl Tryz.prog 259])):=hy
         have:=(Array.getElem?_eq_some_iff.1 hy).2
         simpa using this
   rw [←this]
   exact ha
 ·cases hk
theorem aif [Lo]{C:Cfg}{L:List (Nat × Con)}{f0:FuncId}(hc:∀ {W:World},Laid W→Calls Tryz.prog f0 #[] W fun e w'=>e = .returned (.bool true)∧RowKit.Below W.heap.size W w')(hL:eu Tryz.prog C L) :
  eu Tryz.prog C ((f0,.closed Fp)::L):=by
 intro f t h args s v s' hv base ρ w aZ hr ha
 have h':sel (qaf f0 f) (some (Con.closed Fp)) (fC L f)=some t:=h
 rw [aG] at h'
 split at h'
 ·rename_i hb
  cases h'
  have hf:f0=f:=qab hb
  subst hf
  unfold mY at hv
  cases args with
  |nil=>
   obtain ⟨hk,hv⟩:=au.1 hv
   cases hv
   cases ha
   exact (hc (agS hr hk)).mono fun e w' ⟨he,hb⟩=>⟨_,ρ,he,Goes.Ym hr hb,.bool _⟩
  |cons a l=>cases hv
 ·exact hL f t h' args s v s' hv base ρ w aZ hr ha
theorem avl {C:Cfg}[Lo](b1 b2 b3:Bool):eu Tryz.prog C ((5,.closed Fp)::aoh b1 b2 b3):=aif aut (an4 b1 b2 b3)
theorem ayw (b1 b2 b3:Bool)(lo:Lo):@eX lo (CT b1 b2 b3) Tryz.prog:=
 Ba (ext:=fQ []) (ins:=fQ ((5,.closed Fp)::aoh b1 b2 b3)) rfl (fun f t h=>avl b1 b2 b3 f t h) (fun f e h=>by cases h)
theorem apV (lo:Lo)(ρ:Ren):@VRs lo ρ row0 [.iface 458 (.agg #[hdl Tryz.prog 259])]:=
 .cons (.iface _ (.agg (.cons (ZL ρ xP 259) .nil))) .nil
theorem afi {f:FuncId}{comps:List fK}{aZ:List Value}{bn:List Loc}{W:World}(h:oV Tryz.prog W comps aZ bn)(hlen:(mW comps).length≤31)(hL:Laid W)
  (hrun:∀ t,∃ C n,(∀ lo:Lo,@eX lo C Tryz.prog)∧(runK KM C n).1 f (bG comps) (LM (aH comps) [(0,row0,t)]) (fun q=>some q.1)=some (.bool true)):Calls Tryz.prog f ⟨aZ⟩ W fun e w'=>e = .returned (.bool true)∧RowKit.Below W.heap.size W w':=by
 obtain ⟨t,fz,hg⟩:=hL
 obtain ⟨C,n,hK,hrun⟩:=hrun t
 refine aiv hK h hlen (G:=[(0,row0,t)]) (fun x hx=>?_) (fun x hx=>?_) (agd (K:=KM) (by decide) bF aT hrun)
 ·obtain rfl:x=(0,row0,t):=by simpa using hx
  show 0<eU
  decide
 ·obtain rfl:x=(0,row0,t):=by simpa using hx
  exact ⟨_,fz,hg,fun lo ρ=>apV lo ρ⟩
theorem AA {ks:List AK}{k:AK}{c:List jw}(h:kV (k::ks) c):∃ a l,c=a::l∧aii k a∧kV ks l:=by
 cases h with
 |cons h hs=>exact ⟨_,_,rfl,h,hs⟩
theorem yO {k:IntKind}{a:jw}(h:aii (.int k) a):∃ n,a = .raw (.int k n):=by cases h;exact ⟨_,rfl⟩
theorem abE {c:List jw}(h:kV [] c):c=[]:=by cases h;rfl
theorem ahA {a:jw}(h:aii (.sl tW [.int .u64]) a):a = .raw (.slice none 0 0)∨a = .raw bY∨∃ W n,a = .sl W tW n∧Hq W=true∧n=W.length:=by
 cases h with
 |nil=>exact .inl rfl
 |dead=>exact .inr (.inl rfl)
 |row _ _ cs n h0 hl h=>exact .inr (.inr ⟨cs,n,rfl,aem h⟩)
theorem akC {a:jw}(h:aii (.sl tB [.int .u8]) a):a = .raw (.slice none 0 0)∨a = .raw bY∨∃ W n,a = .sl W tB n∧allB W=true∧n=W.length:=by
 cases h with
 |nil=>exact .inl rfl
 |dead=>exact .inr (.inl rfl)
 |row _ _ cs n h0 hl h=>exact .inr (.inr ⟨cs,n,rfl,ajL h⟩)
def ksQ:List AK:=[.int .i64,.int .i64,.int .i64,.int .i64,.int .i64]
def ksA:List AK:=[.int .i64,.sl tW [.int .u64]]
def ksB:List AK:=[.sl tB [.int .u8]]
theorem anC {W:World}{c1 c2 c3:List jw}{x1 x2 x3:List Value}{l1 l2 l3:List Loc}(h1:eG Tryz.prog W c1 x1 l1)(a1:kV ksQ c1)(h2:eG Tryz.prog W c2 x2 l2)(a2:kV ksA c2)(h3:eG Tryz.prog W c3 x3 l3)(a3:kV ksB c3) :
  ∃ k a v c h e d b x,x3=[x]∧oV Tryz.prog W [qA k a v c h,nA e d,.one b] [.agg ⟨x1⟩,.agg ⟨x2⟩,x] (l1++(l2++(l3++[])))∧
   (d = .raw (.slice none 0 0)∨d = .raw bY∨∃ W n,d = .sl W tW n∧Hq W=true∧n=W.length)∧(b = .raw (.slice none 0 0)∨b = .raw bY∨∃ W n,b = .sl W tB n∧allB W=true∧n=W.length):=by
 obtain ⟨_,_,rfl,k1,a1⟩:=AA a1
 obtain ⟨_,_,rfl,k2,a1⟩:=AA a1
 obtain ⟨_,_,rfl,k3,a1⟩:=AA a1
 obtain ⟨_,_,rfl,k4,a1⟩:=AA a1
 obtain ⟨_,_,rfl,k5,a1⟩:=AA a1
 obtain rfl:=abE a1
 obtain ⟨k,rfl⟩:=yO k1
 obtain ⟨a,rfl⟩:=yO k2
 obtain ⟨v,rfl⟩:=yO k3
 obtain ⟨c,rfl⟩:=yO k4
 obtain ⟨h,rfl⟩:=yO k5
 obtain ⟨_,_,rfl,k6,a2⟩:=AA a2
 obtain ⟨d,_,rfl,k7,a2⟩:=AA a2
 obtain rfl:=abE a2
 obtain ⟨e,rfl⟩:=yO k6
 obtain ⟨b,_,rfl,k8,a3⟩:=AA a3
 obtain rfl:=abE a3
 cases h3 with
 |cons hf hr hv h4=>
  cases h4
  exact ⟨k,a,v,c,h,e,d,b,_,rfl,.agg h1 (.agg h2 (.one (.cons hf hr hv .nil) .nil)),ahA k7,akC k8⟩
theorem auZ {k a v c h e:Int}{d b:jw}(hd:d = .raw (.slice none 0 0)∨d = .raw bY∨∃ W n,d = .sl W tW n∧Hq W=true∧n=W.length)(hb:b = .raw (.slice none 0 0)∨b = .raw bY∨∃ W n,b = .sl W tB n∧allB W=true∧n=W.length)(t:TypeId) :
  ∃ b1 b2 b3,(runK KM (CT b1 b2 b3) 60).1 3 (bG [qA k a v c h,nA e d,.one b]) (LM (aH [qA k a v c h,nA e d,.one b]) [(0,row0,t)]) (fun q=>some q.1)=some (.bool true):=by
 rcases hd with rfl|rfl|⟨W,n,rfl,hW,hn⟩ <;> rcases hb with rfl|rfl|⟨B,m,rfl,hB,hm⟩
 ·exact ayo k a v c h e [] [] 0 0 t
 ·exact axR k a v c h e [] [] 0 0 t
 ·exact azz k a v c h e [] B 0 m t hB hm
 ·exact ax8 k a v c h e [] [] 0 0 t
 ·exact azh k a v c h e [] [] 0 0 t
 ·exact ayU k a v c h e [] B 0 m t hB hm
 ·exact ayz k a v c h e W [] n 0 t hW hn
 ·exact az5 k a v c h e W [] n 0 t hW hn
 ·exact az4 k a v c h e W B n m t hW hn hB hm
theorem aqU {k a v c h e:Int}{d b:jw}:(mW [qA k a v c h,nA e d,.one b]).length≤31:=by
 cases d <;> cases b <;> exact qae rfl
theorem anb {W:World}{c1 c2 c3:List jw}{x1 x2 x3:List Value}{l1 l2 l3:List Loc}(h1:eG Tryz.prog W c1 x1 l1)(a1:kV ksQ c1)(h2:eG Tryz.prog W c2 x2 l2)(a2:kV ksA c2)(h3:eG Tryz.prog W c3 x3 l3)(a3:kV ksB c3)(hL:Laid W) :
  ∃ x,x3=[x]∧Calls Tryz.prog 3 #[.agg ⟨x1⟩,.agg ⟨x2⟩,x] W fun e w'=>e = .returned (.bool true)∧RowKit.Below W.heap.size W w':=by
 obtain ⟨k,a,v,c,h,e,d,b,x,hx,hC,hd,hb⟩:=anC h1 a1 h2 a2 h3 a3
 refine ⟨x,hx,afi hC aqU hL fun t=>?_⟩
 obtain ⟨b1,b2,b3,hr⟩:=auZ (k:=k) (a:=a) (v:=v) (c:=c) (h:=h) (e:=e) hd hb t
 exact ⟨CT b1 b2 b3,60,ayw b1 b2 b3,hr⟩
abbrev tQ:TypeId:=23
abbrev tAs:TypeId:=27
abbrev tBs:TypeId:=28
theorem aBF:Ql Tryz.prog 6 tQ=some ksQ:=by kernel_rfl
theorem aBI:Ql Tryz.prog 6 tAs=some ksA:=by kernel_rfl
theorem aB4:Ql Tryz.prog 6 tBs=some ksB:=by kernel_rfl
theorem azt:(match Tryz.prog.underlying tQ with|some (.struct _)=>true|_=>false)=true:=by kernel_rfl
theorem ay5:(match Tryz.prog.underlying tAs with|some (.struct _)=>true|_=>false)=true:=by kernel_rfl
theorem azn:Tryz.prog.underlying tBs=some (.slice tB):=by kernel_rfl
theorem Sv {W:World}{base:Nat}{t:TypeId}{v:Value}(ht:(match Tryz.prog.underlying t with|some (.struct _)=>true|_=>false)=true)(h:Value.okWide Tryz.prog W .any base t v):∃ cs,v = .agg cs:=by
 unfold Value.okWide at h
 split at ht
 ·rename_i fs hu
  rw [hu] at h
  obtain ⟨cs,h1,_⟩:=h
  exact ⟨cs,h1⟩
 ·cases ht
theorem af0 {f:FuncId}(hf:∀ {W:World} {c1 c2 c3:List jw} {x1 x2 x3:List Value} {l1 l2 l3:List Loc},eG Tryz.prog W c1 x1 l1→kV ksQ c1→eG Tryz.prog W c2 x2 l2→kV ksA c2→eG Tryz.prog W c3 x3 l3→kV ksB c3→Laid W→
   ∃ x,x3=[x]∧Calls Tryz.prog f #[.agg ⟨x1⟩,.agg ⟨x2⟩,x] W fun e w'=>e = .returned (.bool true)∧RowKit.Below W.heap.size W w')
  {H:Type} {enc:TypeId × Value→H} {W:World} {base b:Nat} {hd:Bool} {v0 v1 v2:Value} {d0 d1 d2:DataW H} {p0 p1 p2:List MemPlace}
  (h0:DataW.Trod enc Tryz.prog W b (fun _=>true) hd tQ v0 d0 p0) (h1:DataW.Trod enc Tryz.prog W b (fun _=>true) hd tAs v1 d1 p1) (h2:DataW.Trod enc Tryz.prog W b (fun _=>true) hd tBs v2 d2 p2)
  (k0:Value.okWide Tryz.prog W .any base tQ v0) (k1:Value.okWide Tryz.prog W .any base tAs v1) (k2:Value.okWide Tryz.prog W .any base tBs v2) (hL:Laid W) :
  Calls Tryz.prog f #[v0,v1,v2] W fun e w'=>e = .returned (.bool true)∧RowKit.Below W.heap.size W w':=by
 obtain ⟨a0,rfl⟩:=Sv azt k0
 obtain ⟨a1,rfl⟩:=Sv ay5 k1
 obtain ⟨a,n,c,rfl⟩:=WideShapes.okWide_slice azn k2
 obtain ⟨f0,h0⟩:=h0
 obtain ⟨f1,h1⟩:=h1
 obtain ⟨f2,h2⟩:=h2
 obtain ⟨c1,l1,m1,q1⟩:=Gi aBF h0
 obtain ⟨c2,l2,m2,q2⟩:=Gi aBI h1
 obtain ⟨c3,l3,m3,q3⟩:=Gi aB4 h2
 obtain ⟨x,hx,hC⟩:=hf m1 q1 m2 q2 m3 q3 hL
 cases hx
 exact hC
theorem LX {H:Type}{enc:TypeId × Value→H}{P:Program}(hl:laidOutB P=true){W W':World}(hb:RowKit.Below W.heap.size W W'){t:TypeId}(ht:(P.readableRec t&&decide (t<P.types.size))=true){v:Value}{d:DataW H}{p:List MemPlace}{sp:Nat→Bool}
  (h:DataW.Trod enc P W 0 (fun _=>true) true t v d p) (hlt:∀ x∈p,x.block<W.heap.size) (hs:∀ x∈p,sp x.block=true):DataW.Trod enc P W' 0 sp true t v d p:=by
 simp only [qad,decide_eq_true_eq] at ht
 exact WideElems.Trod_stays hl ht.1 ht.2 h (fun x hx=>hb.same (hlt x hx)) hs
end
end Go.Ax
