import Derived.Test.YtgpfgjhbiehafaaGreatDoorDo
set_option maxRecDepth 1000000
set_option maxHeartbeats 0
set_option linter.unusedSectionVars false
set_option linter.unusedSimpArgs false
set_option linter.unusedVariables false
namespace Go.Ax
open Go Go.Proofs
noncomputable section
def sPi:bZ:={ N:=67,need:=[0,1,4,5,6,8,11,12,13,18,19,20],low:=0::afb,keep:=[(64,false,true),(65,true,false),(66,false,false)],new:=[] }
def sPj:bZ:={ N:=67,need:=[0,1,4,5,6,8,11,12,13],low:=0::afb,keep:=[(64,false,true),(65,true,false),(66,false,false)],new:=[] }
def apv (i:Nat):Value:=.pointer (some ⟨i,0,none⟩)
def ajp (t:Nat)(X:List Value)(l:Nat)(L:List Value)(T:List Value)(P:Nat→List Value):List (Nat × Row):=
 (0,.row (Qz 20) t 0)::dG (TL T P) [(64,.row [kP,.slice (some ⟨65,0,none⟩) l aA] tLn 0),(65,.row X tB 65),(66,.row L tTk 0)]
def hPi (t:Nat)(X:List Value)(l n n2 n3 p:Nat)(a b:Int)(i k m m2:Nat)(L:List Value)(T:List Value)(P:Nat→List Value):bC:=
 ⟨[kP,Ko n,uN p,iC a,iC b,apv 66,Ko n2,iN n3,iN i,slP i m,iN m2,iN k],ajp t X l L T P⟩
def hPj (t:Nat)(X:List Value)(l n n2 n3 p:Nat)(a b:Int)(i:Nat)(L:List Value)(T:List Value)(P:Nat→List Value):bC:=
 ⟨[kP,Ko n,uN p,iC a,iC b,apv 66,Ko n2,iN n3,iN i],ajp t X l L T P⟩
def Yi {R:Type}(X L T:List Value)(P:Nat→List Value)(Y:Option R):Option R:=y7 T P (sel (bH 67 X) (sel (bH 67 L) Y none) none)
abbrev piR (t:Nat)(X:List Value)(l n n2 n3 p:Nat)(a b:Int)(i k m m2:Nat)(L:List Value)(T:List Value)(P:Nat→List Value):Option (Ex × bC):=
 pU KM.plain CM7 (runK KM CM7 4).1 (runK KM CM7 4).2 (CM7.vars 32) 32 false (mX CM7 32 5) (qM Tryz.prog (CM7.vars 32) sPi sPj)
  (Xv sPi.need (hPi t X l n n2 n3 p a b i k m m2 L T P)) (uT sPi.next (hPi t X l n n2 n3 p a b i k m m2 L T P))
def piT (t:Nat)(X:List Value)(l n n2 n3 p:Nat)(a b:Int)(i k m m2:Nat)(L:List Value)(T:List Value)(P:Nat→List Value):Option (Ex × bC):=
 sel (ltI (Int.ofNat k) (Int.ofNat m2)) (sel (ltN k m) (sel (YI (P i) k) (sel (Nat.ble (Nat.add k 1) 9223372036854775807) (Yi X L T P (some (.normal,hPi t X l n n2 n3 (aed p (ade (P i) k)) a b i (Nat.add k 1) m m2 L T P))) none) none) none)
  (Yi X L T P (some (.exit 2,hPj t X l n n2 n3 p a b i L T P)))
theorem ajT (t:Nat)(X:List Value)(l n n2 n3 p:Nat)(a b:Int)(k m m2:Nat)(L:List Value)(T:List Value)(P:Nat→List Value):piR t X l n n2 n3 p a b 0 k m m2 L T P=piT t X l n n2 n3 p a b 0 k m m2 L T P∧piR t X l n n2 n3 p a b 1 k m m2 L T P=piT t X l n n2 n3 p a b 1 k m m2 L T P∧piR t X l n n2 n3 p a b 2 k m m2 L T P=piT t X l n n2 n3 p a b 2 k m m2 L T P∧piR t X l n n2 n3 p a b 3 k m m2 L T P=piT t X l n n2 n3 p a b 3 k m m2 L T P∧piR t X l n n2 n3 p a b 4 k m m2 L T P=piT t X l n n2 n3 p a b 4 k m m2 L T P∧piR t X l n n2 n3 p a b 5 k m m2 L T P=piT t X l n n2 n3 p a b 5 k m m2 L T P∧piR t X l n n2 n3 p a b 6 k m m2 L T P=piT t X l n n2 n3 p a b 6 k m m2 L T P∧piR t X l n n2 n3 p a b 7 k m m2 L T P=piT t X l n n2 n3 p a b 7 k m m2 L T P∧piR t X l n n2 n3 p a b 8 k m m2 L T P=piT t X l n n2 n3 p a b 8 k m m2 L T P∧piR t X l n n2 n3 p a b 9 k m m2 L T P=piT t X l n n2 n3 p a b 9 k m m2 L T P∧piR t X l n n2 n3 p a b 10 k m m2 L T P=piT t X l n n2 n3 p a b 10 k m m2 L T P∧piR t X l n n2 n3 p a b 11 k m m2 L T P=piT t X l n n2 n3 p a b 11 k m m2 L T P∧piR t X l n n2 n3 p a b 12 k m m2 L T P=piT t X l n n2 n3 p a b 12 k m m2 L T P∧piR t X l n n2 n3 p a b 13 k m m2 L T P=piT t X l n n2 n3 p a b 13 k m m2 L T P∧piR t X l n n2 n3 p a b 14 k m m2 L T P=piT t X l n n2 n3 p a b 14 k m m2 L T P∧piR t X l n n2 n3 p a b 15 k m m2 L T P=piT t X l n n2 n3 p a b 15 k m m2 L T P∧piR t X l n n2 n3 p a b 16 k m m2 L T P=piT t X l n n2 n3 p a b 16 k m m2 L T P∧piR t X l n n2 n3 p a b 17 k m m2 L T P=piT t X l n n2 n3 p a b 17 k m m2 L T P∧piR t X l n n2 n3 p a b 18 k m m2 L T P=piT t X l n n2 n3 p a b 18 k m m2 L T P∧piR t X l n n2 n3 p a b 19 k m m2 L T P=piT t X l n n2 n3 p a b 19 k m m2 L T P:=⟨by kernel_rfl,by kernel_rfl,by kernel_rfl,by kernel_rfl,by kernel_rfl,by kernel_rfl,by kernel_rfl,by kernel_rfl,by kernel_rfl,by kernel_rfl,by kernel_rfl,by kernel_rfl,by kernel_rfl,by kernel_rfl,by kernel_rfl,by kernel_rfl,by kernel_rfl,by kernel_rfl,by kernel_rfl,by kernel_rfl⟩
theorem anh {i:Nat}(hi:i<20)(t:Nat)(X:List Value)(l n n2 n3 p:Nat)(a b:Int)(k m m2:Nat)(L:List Value)(T:List Value)(P:Nat→List Value):piR t X l n n2 n3 p a b i k m m2 L T P=piT t X l n n2 n3 p a b i k m m2 L T P:=by
 obtain ⟨q0,q1,q2,q3,q4,q5,q6,q7,q8,q9,q10,q11,q12,q13,q14,q15,q16,q17,q18,q19⟩:=ajT t X l n n2 n3 p a b k m m2 L T P
 match i,hi with
 |0,_=>exact q0
 |1,_=>exact q1
 |2,_=>exact q2
 |3,_=>exact q3
 |4,_=>exact q4
 |5,_=>exact q5
 |6,_=>exact q6
 |7,_=>exact q7
 |8,_=>exact q8
 |9,_=>exact q9
 |10,_=>exact q10
 |11,_=>exact q11
 |12,_=>exact q12
 |13,_=>exact q13
 |14,_=>exact q14
 |15,_=>exact q15
 |16,_=>exact q16
 |17,_=>exact q17
 |18,_=>exact q18
 |19,_=>exact q19
 |i+20,h=>omega
theorem Fv {R:Type}{X L T:List Value}{P:Nat→List Value}(hT:dF T=true)(h:∀ i,dF (P i)=true)(hX:bH 67 X=true)(hL:bH 67 L=true)(Y:Option R):Yi X L T P Y=Y:=by
 unfold Yi
 rw [lg hT h,hX,hL]
 rfl
theorem ahW {t:Nat}{X:List Value}{l n n2 n3 p:Nat}{a b:Int}{i m:Nat}{L T:List Value}{P:Nat→List Value}(h20:i<20)(hm:m≤9223372036854775807)(hT:dF T=true)(hP:∀ i,dF (P i)=true)(hX:bH 67 X=true)(hL:bH 67 L=true)(hb:Fn.ql (P i) m=true) :
  sPj.N=sPi.N∧∃ R k,R k sPi (hPi t X l n n2 n3 p a b i 0 m m L T P)∧yw Tryz.prog CM7 KM 4 32 (mX CM7 32 5) sPi.N R (.exit 2) sPj (hPj t X l n n2 n3 (Fn.sumP (P i) m p) a b i L T P):=by
 refine ⟨rfl,fun j sp y=>sp=sPi∧∃ k,k≤m∧j=m-k+1∧y=hPi t X l n n2 n3 (Fn.sumP (P i) k p) a b i k m m L T P,m-0+1,⟨rfl,0,Nat.zero_le _,rfl,rfl⟩,⟨?_⟩⟩
 rintro j sp y ⟨rfl,k,hk,rfl,rfl⟩
 refine ⟨m-k,rfl,sPi,?_⟩
 have hr:=anh h20 t X l n n2 n3 (Fn.sumP (P i) k p) a b k m m L T P
 unfold piR at hr
 by_cases hkm:k<m
 ·have hgo:piT t X l n n2 n3 (Fn.sumP (P i) k p) a b i k m m L T P=some (.normal,hPi t X l n n2 n3 (Fn.sumP (P i) (k+1) p) a b i (k+1) m m L T P):=by
   unfold piT
   rw [qV,decide_eq_true hkm,jD hkm,(BO hb k hkm).2,rH (show Nat.add k 1≤9223372036854775807 by show k+1≤_;omega),Fv hT hP hX hL]
   rfl
  exact ⟨_,rfl,hr.trans hgo,.inl ⟨rfl,rfl,k+1,by omega,by omega,rfl⟩⟩
 ·have:k=m:=by omega
  subst this
  have hgo:piT t X l n n2 n3 (Fn.sumP (P i) k p) a b i k k k L T P=some (.exit 2,hPj t X l n n2 n3 (Fn.sumP (P i) k p) a b i L T P):=by
   unfold piT
   rw [qV,decide_eq_false (by omega),Fv hT hP hX hL,Fv hT hP hX hL]
   rfl
  exact ⟨_,rfl,hr.trans hgo,.inr ⟨(fun h=>by cases h),rfl⟩⟩
section
variable {R:Type}
def qPt (b:Nat)(v:Value)(k:Tree R):Tree R:=
 match v with
 |.pointer (some a)=>sel (a.spot.isNone&&(Nat.beq a.block b&&Nat.beq a.off 0)) k .fail
 |_=>.fail
theorem EZ {b:Nat}{v:Value}{k:Tree R}{r:R}(h:(qPt b v k).run=some r):v = .pointer (some ⟨b,0,none⟩)∧k.run=some r:=by
 unfold qPt at h
 split at h
 ·rename_i a
  obtain ⟨b',o,sp⟩:=a
  obtain ⟨h1,h9⟩:=bD h
  clear h
  simp only [Bool.and_eq_true] at h1
  obtain ⟨h1,h2,h3⟩:=h1
  have h2:b'=b:=Nat.eq_of_beq_eq_true h2
  have h3:o=0:=Nat.eq_of_beq_eq_true h3
  cases sp with
  |none=>subst h2 h3;exact ⟨rfl,h9⟩
  |some x=>cases h1
 ·cases h
def qSl (v:Value)(k:Nat→Nat→Tree R):Tree R:=
 match v with
 |.slice (some a) n c=>sel (a.spot.isNone&&(Nat.ble 33 a.block&&(Nat.beq a.off 0&&Nat.beq c aA))) (k (Nat.sub a.block 33) n) .fail
 |_=>.fail
theorem adW {v:Value}{k:Nat→Nat→Tree R}{r:R}(h:(qSl v k).run=some r):∃ i m,v=slP i m∧(k i m).run=some r:=by
 unfold qSl at h
 split at h
 ·rename_i a n c
  obtain ⟨b',o,sp⟩:=a
  obtain ⟨h1,h9⟩:=bD h
  clear h
  simp only [Bool.and_eq_true] at h1
  obtain ⟨h1,h2,h3,h4⟩:=h1
  have h2:33≤b':=Nat.le_of_ble_eq_true h2
  have h3:o=0:=Nat.eq_of_beq_eq_true h3
  have h4:c=aA:=Nat.eq_of_beq_eq_true h4
  cases sp with
  |none=>
   subst h3 h4
   refine ⟨b'-33,n,?_,h9⟩
   unfold slP
   rw [show Nat.add 33 (b'-33)=b' by show 33+(b'-33)=b';omega]
  |some x=>cases h1
 ·cases h
def qTb (p:Nat × Row)(k:Nat→Tree R):Tree R:=
 match p with
 |(i,.row cs e f)=>sel (Nat.beq i 0&&(Nat.beq f 0&&qR (jG 4) cs (Qz 20))) (k e) .fail
 |_=>.fail
theorem OT {p:Nat × Row}{k:Nat→Tree R}{r:R}(h:(qTb p k).run=some r):∃ t,p=(0,.row (Qz 20) t 0)∧(k t).run=some r:=by
 unfold qTb at h
 split at h
 ·rename_i i cs e f
  obtain ⟨h1,h2⟩:=bD h
  simp only [Bool.and_eq_true] at h1
  obtain ⟨h1,h3,h4⟩:=h1
  have h1:=Nat.eq_of_beq_eq_true h1
  have h3:=Nat.eq_of_beq_eq_true h3
  have h4:cs=Qz 20:=jQ (fun a b=>jR 4) h4
  subst h1 h3 h4
  exact ⟨e,rfl,h2⟩
 ·cases h
def qBl (p q:Nat × Row)(k:List Value→Nat→Tree R):Tree R:=afh 64 tLn 0 p fun c=>fO c fun u c=>qPt 64 u (fO c fun v c=>pSl 65 aA v fun l=>Yx c (afh 65 tB 65 q fun X=>k X l))
theorem Nq {p q:Nat × Row}{k:List Value→Nat→Tree R}{r:R}(h:(qBl p q k).run=some r):∃ X l,p=(64,.row [kP,.slice (some ⟨65,0,none⟩) l aA] tLn 0)∧q=(65,.row X tB 65)∧(k X l).run=some r:=by
 obtain ⟨c,rfl,z1⟩:=wL h
 obtain ⟨u,c1,rfl,z2⟩:=aT z1
 obtain ⟨rfl,z3⟩:=EZ z2
 obtain ⟨v,c2,rfl,z4⟩:=aT z3
 obtain ⟨l,rfl,z5⟩:=mM z4
 obtain ⟨rfl,z6⟩:=iQ z5
 obtain ⟨X,rfl,z7⟩:=wL z6
 exact ⟨X,l,rfl,rfl,z7⟩
end
def aix (X L T:List Value)(Ps:List (List Value))(D:List Value)(m m2:Nat):Bool:=dF T&&(yG Ps&&(bH 67 X&&(bH 67 L&&(Nat.beq m m2&&(Nat.ble m 9223372036854775807&&Fn.ql D m)))))
def gPi (o:bC):LT:=
 fO o.vals fun v c=>qPt 64 v (fO c fun v c=>pSl 32 aA v fun n=>fO c fun v c=>MJ .u64 v fun p=>fO c fun v c=>aiv .i64 v fun a=>fO c fun v c=>aiv .i64 v fun b=>fO c fun v c=>qPt 66 v (fO c fun v c=>pSl 32 aA v fun n2=>fO c fun v c=>MJ .i64 v fun n3=>
  fO c fun v c=>MJ .i64 v fun i=>fO c fun v c=>qSl v fun j m=>fO c fun v c=>MJ .i64 v fun m2=>fO c fun v c=>MJ .i64 v fun k=>Yx c (QB (Nat.beq k 0&&(Nat.beq i j&&ltN i 20))
   (fO o.rows fun q1 r=>qTb q1 fun t=>pKr r fun T Ps r=>fO r fun q2 r=>fO r fun q3 r=>qBl q2 q3 fun X l=>fO r fun q4 r=>afh 66 tTk 0 q4 fun L=>Yx r (fF (aix X L T Ps (jq Ps i) m m2) (.leaf (.exit 2,sPj,hPj t X l n n2 n3 (Fn.sumP (jq Ps i) m p) a b i L T (jq Ps))))))))
theorem ZG:∀ o e spe O,(gPi o).run=some (e,spe,O)→spe.N=sPi.N∧∃ R k,R k sPi o∧yw Tryz.prog CM7 KM 4 32 (mX CM7 32 5) sPi.N R e spe O:=by
 rintro ⟨vals,rows⟩ e spe O h
 obtain ⟨v1,c1,hv,z1⟩:=aT h
 obtain ⟨e1,z2⟩:=EZ z1
 obtain ⟨v2,c2,e2,z3⟩:=aT z2
 obtain ⟨n,e3,z4⟩:=mM z3
 obtain ⟨v3,c3,e4,z5⟩:=aT z4
 obtain ⟨p,e5,z6⟩:=eX z5
 obtain ⟨v4,c4,e6,z7⟩:=aT z6
 obtain ⟨a,e7,z8⟩:=A8 z7
 obtain ⟨v5,c5,e8,z9⟩:=aT z8
 obtain ⟨b,e9,z10⟩:=A8 z9
 obtain ⟨v6,c6,e10,z11⟩:=aT z10
 obtain ⟨e11,z12⟩:=EZ z11
 obtain ⟨v7,c7,e12,z13⟩:=aT z12
 obtain ⟨n2,e13,z14⟩:=mM z13
 obtain ⟨v8,c8,e14,z15⟩:=aT z14
 obtain ⟨n3,e15,z16⟩:=eX z15
 obtain ⟨v9,c9,e16,z17⟩:=aT z16
 obtain ⟨i,e17,z18⟩:=eX z17
 obtain ⟨v10,c10,e18,z19⟩:=aT z18
 obtain ⟨j,m,e19,z20⟩:=adW z19
 obtain ⟨v11,c11,e20,z21⟩:=aT z20
 obtain ⟨m2,e21,z22⟩:=eX z21
 obtain ⟨v12,c12,e22,z23⟩:=aT z22
 obtain ⟨k,e23,z24⟩:=eX z23
 obtain ⟨e24,z25⟩:=iQ z24
 obtain ⟨h1,z26⟩:=iT z25
 obtain ⟨q1,r1,hr,z27⟩:=aT z26
 obtain ⟨t,e25,z28⟩:=OT z27
 obtain ⟨T,Ps,r2,e26,hl,z29⟩:=xg z28
 obtain ⟨q2,r3,e27,z30⟩:=aT z29
 obtain ⟨q3,r4,e28,z31⟩:=aT z30
 obtain ⟨X,l,e29,e30,z32⟩:=Nq z31
 obtain ⟨q4,r5,e31,z33⟩:=aT z32
 obtain ⟨L,e32,z34⟩:=wL z33
 obtain ⟨e33,z35⟩:=iQ z34
 obtain ⟨hg,z36⟩:=bI z35
 simp only [Bool.and_eq_true] at h1
 obtain ⟨k1,k2,k3⟩:=h1
 have k1:=Nat.eq_of_beq_eq_true k1
 have k2:=Nat.eq_of_beq_eq_true k2
 have h20:i<20:=Nat.le_of_ble_eq_true k3
 unfold aix at hg
 simp only [Bool.and_eq_true] at hg
 obtain ⟨g1,g2,g3,g4,g5,g6,g7⟩:=hg
 have g5:=Nat.eq_of_beq_eq_true g5
 have g6:=Nat.le_of_ble_eq_true g6
 have hv:vals=_:=hv
 have hr:rows=_:=hr
 subst e33 e32 e31 e30 e29 e28 e27 e26 e25 e24 e23 e22 e21 e20 e19 e18 e17 e16 e15 e14 e13 e12 e11 e10 e9 e8 e7 e6 e5 e4 e3 e2 e1 k1 k2 g5
 subst hv hr
 cases z36
 exact ahW h20 g6 g1 (jA g2) g3 g4 g7
variable [Lo]
def WV:List (Nat × Nat × BU):=[(32,5,fun fr s=>sel (al4 (CB.vars 32) 18 fr ae7) (vZ Tryz.prog (CB.vars 32) sPi gPi fr s) .fail)]
def CP1:Cfg:={ CB with ext:=dJ RH,insert:=dJ YZ,EK:=IB WV }
theorem aj2:Nat.beq (aV (uI CM7 32 5)) 1=true:=by kernel_rfl
theorem aaL:∀ fn c body,CP1.body fn=some c→PartOf c (.loop body)→nD Tryz.prog CP1 fn body:=by
 refine Fa (L:=WV) rfl fun q hq=>?_
 rcases List.mem_cons.1 hq with rfl|hq
 ·exact fun c body h1 h2 h3=>kJ _ (kH (K:=KM) (C0:=CM7) (m:=4) (by show (6:Nat)≤_;decide) dI bQ VY rfl rfl aj2 rfl ZG c body h1 h2 h3)
 ·cases hq
theorem aj6:dH CP1 Tryz.prog:=MZ (ext:=dJ RH) (ins:=dJ YZ) (lf:=IB WV) rfl (fun f t h=>(BH (C:=CP1)) f t h) vI aaL
end
end Go.Ax
namespace Go.Ax
open Go Go.Proofs
noncomputable section
def sPo:bZ:={ N:=66,need:=[0,1,4,5,6,11,12,13],low:=0::afb,keep:=[(64,false,true),(65,true,false)],new:=[] }
def sPe:bZ:={ N:=66,need:=[0,1,4,5,6],low:=[0],keep:=[(64,false,true),(65,true,false)],new:=[] }
def akJ (t:Nat)(X:List Value)(l:Nat)(T:List Value)(P:Nat→List Value):List (Nat × Row):=
 (0,.row (Qz 20) t 0)::dG (TL T P) [(64,.row [kP,.slice (some ⟨65,0,none⟩) l aA] tLn 0),(65,.row X tB 65)]
def hPo (t:Nat)(X:List Value)(l n n2 n3 p:Nat)(a b:Int)(i:Nat)(T:List Value)(P:Nat→List Value):bC:=⟨[kP,Ko n,uN p,iC a,iC b,Ko n2,iN n3,iN i],akJ t X l T P⟩
def oPe (t:Nat)(X:List Value)(l n p:Nat)(a b:Int):bC:=⟨[kP,Ko n,uN p,iC a,iC b],[(0,.row (Qz 20) t 0),(64,.row [kP,.slice (some ⟨65,0,none⟩) l aA] tLn 0),(65,.row X tB 65)]⟩
abbrev poR (c d e i t:Nat)(X:List Value)(l n n2 n3 p:Nat)(a b:Int)(m x y:Nat)(h:Int)(q:Value)(f:Nat→Value)(R:List Value)(P:Nat→List Value):Option (Ex × bC):=
 pU KX.plain CP1 (runK KX CP1 4).1 (runK KX CP1 4).2 (CP1.vars 32) 32 false (mX CP1 32 2) (qM Tryz.prog (CP1.vars 32) sPo sPe)
  (Xv sPo.need (hPo t X l n n2 n3 p a b i (tkT c d e i m x y h q f R) P)) (uT sPo.next (hPo t X l n n2 n3 p a b i (tkT c d e i m x y h q f R) P))
def L5 (c d e i m x y:Nat)(h:Int)(q:Value):List Value:=[iC h,pvF c i m,q,ovF d x,ovF e y]
def poI (c i m p:Nat)(X L T:List Value)(P:Nat→List Value)(K:Nat→Option (Ex × bC)):Option (Ex × bC):=
 pO c (K p) fun c=>pO c (K p) fun _=>Yi X L T P (sel (aix X L T (psL P) (jq (psL P) i) m m) (K (Fn.sumP (jq (psL P) i) m p)) none)
def poT (c d e i t:Nat)(X:List Value)(l n n2 n3 p:Nat)(a b:Int)(m x y:Nat)(h:Int)(q:Value)(T:List Value)(P:Nat→List Value):Option (Ex × bC):=
 sel (ltI (Int.ofNat i) (Int.ofNat n3)) (sel (ltN i n2) (sel (true&&kV (L5 c d e i m x y h q)) (poI c i m p X (L5 c d e i m x y h q) T P fun p=>
  (y7 T P (sel (bH 66 X) (some (.normal,hPo t X l n n2 n3 p (nS a (lnF d x)) (nS b (lnF e y)) (Nat.succ i) T P)) none))) none) none) (sel (bH 66 X) (some (.exit 0,oPe t X l n p a b)) none)
abbrev poE (c d e i t:Nat)(X:List Value)(l n n2 n3 p:Nat)(a b:Int)(m x y:Nat)(h:Int)(q:Value)(f:Nat→Value)(R:List Value)(P:Nat→List Value):Prop:=
 poR c d e i t X l n n2 n3 p a b m x y h q f R P=poT c d e i t X l n n2 n3 p a b m x y h q (tkT c d e i m x y h q f R) P
theorem aqi (t:Nat)(X:List Value)(l n n2 n3 p:Nat)(a b:Int)(m x y:Nat)(h:Int)(q:Value)(f:Nat→Value)(R:List Value)(P:Nat→List Value):poE 0 0 0 0 t X l n n2 n3 p a b m x y h q f R P∧poE 0 0 1 0 t X l n n2 n3 p a b m x y h q f R P∧poE 0 1 0 0 t X l n n2 n3 p a b m x y h q f R P∧poE 0 1 1 0 t X l n n2 n3 p a b m x y h q f R P∧poE 1 0 0 0 t X l n n2 n3 p a b m x y h q f R P∧poE 1 0 1 0 t X l n n2 n3 p a b m x y h q f R P∧poE 1 1 0 0 t X l n n2 n3 p a b m x y h q f R P∧poE 1 1 1 0 t X l n n2 n3 p a b m x y h q f R P∧poE 2 0 0 0 t X l n n2 n3 p a b m x y h q f R P∧poE 2 0 1 0 t X l n n2 n3 p a b m x y h q f R P∧poE 2 1 0 0 t X l n n2 n3 p a b m x y h q f R P∧poE 2 1 1 0 t X l n n2 n3 p a b m x y h q f R P:=⟨(by unfold poE;kernel_rfl),(by unfold poE;kernel_rfl),(by unfold poE;kernel_rfl),(by unfold poE;kernel_rfl),(by unfold poE;kernel_rfl),(by unfold poE;kernel_rfl),(by unfold poE;kernel_rfl),(by unfold poE;kernel_rfl),(by unfold poE;kernel_rfl),(by unfold poE;kernel_rfl),(by unfold poE;kernel_rfl),(by unfold poE;kernel_rfl)⟩
theorem aqV (t:Nat)(X:List Value)(l n n2 n3 p:Nat)(a b:Int)(m x y:Nat)(h:Int)(q:Value)(f:Nat→Value)(R:List Value)(P:Nat→List Value):poE 0 0 0 1 t X l n n2 n3 p a b m x y h q f R P∧poE 0 0 1 1 t X l n n2 n3 p a b m x y h q f R P∧poE 0 1 0 1 t X l n n2 n3 p a b m x y h q f R P∧poE 0 1 1 1 t X l n n2 n3 p a b m x y h q f R P∧poE 1 0 0 1 t X l n n2 n3 p a b m x y h q f R P∧poE 1 0 1 1 t X l n n2 n3 p a b m x y h q f R P∧poE 1 1 0 1 t X l n n2 n3 p a b m x y h q f R P∧poE 1 1 1 1 t X l n n2 n3 p a b m x y h q f R P∧poE 2 0 0 1 t X l n n2 n3 p a b m x y h q f R P∧poE 2 0 1 1 t X l n n2 n3 p a b m x y h q f R P∧poE 2 1 0 1 t X l n n2 n3 p a b m x y h q f R P∧poE 2 1 1 1 t X l n n2 n3 p a b m x y h q f R P:=⟨(by unfold poE;kernel_rfl),(by unfold poE;kernel_rfl),(by unfold poE;kernel_rfl),(by unfold poE;kernel_rfl),(by unfold poE;kernel_rfl),(by unfold poE;kernel_rfl),(by unfold poE;kernel_rfl),(by unfold poE;kernel_rfl),(by unfold poE;kernel_rfl),(by unfold poE;kernel_rfl),(by unfold poE;kernel_rfl),(by unfold poE;kernel_rfl)⟩
theorem apG (t:Nat)(X:List Value)(l n n2 n3 p:Nat)(a b:Int)(m x y:Nat)(h:Int)(q:Value)(f:Nat→Value)(R:List Value)(P:Nat→List Value):poE 0 0 0 2 t X l n n2 n3 p a b m x y h q f R P∧poE 0 0 1 2 t X l n n2 n3 p a b m x y h q f R P∧poE 0 1 0 2 t X l n n2 n3 p a b m x y h q f R P∧poE 0 1 1 2 t X l n n2 n3 p a b m x y h q f R P∧poE 1 0 0 2 t X l n n2 n3 p a b m x y h q f R P∧poE 1 0 1 2 t X l n n2 n3 p a b m x y h q f R P∧poE 1 1 0 2 t X l n n2 n3 p a b m x y h q f R P∧poE 1 1 1 2 t X l n n2 n3 p a b m x y h q f R P∧poE 2 0 0 2 t X l n n2 n3 p a b m x y h q f R P∧poE 2 0 1 2 t X l n n2 n3 p a b m x y h q f R P∧poE 2 1 0 2 t X l n n2 n3 p a b m x y h q f R P∧poE 2 1 1 2 t X l n n2 n3 p a b m x y h q f R P:=⟨(by unfold poE;kernel_rfl),(by unfold poE;kernel_rfl),(by unfold poE;kernel_rfl),(by unfold poE;kernel_rfl),(by unfold poE;kernel_rfl),(by unfold poE;kernel_rfl),(by unfold poE;kernel_rfl),(by unfold poE;kernel_rfl),(by unfold poE;kernel_rfl),(by unfold poE;kernel_rfl),(by unfold poE;kernel_rfl),(by unfold poE;kernel_rfl)⟩
theorem aqz (t:Nat)(X:List Value)(l n n2 n3 p:Nat)(a b:Int)(m x y:Nat)(h:Int)(q:Value)(f:Nat→Value)(R:List Value)(P:Nat→List Value):poE 0 0 0 3 t X l n n2 n3 p a b m x y h q f R P∧poE 0 0 1 3 t X l n n2 n3 p a b m x y h q f R P∧poE 0 1 0 3 t X l n n2 n3 p a b m x y h q f R P∧poE 0 1 1 3 t X l n n2 n3 p a b m x y h q f R P∧poE 1 0 0 3 t X l n n2 n3 p a b m x y h q f R P∧poE 1 0 1 3 t X l n n2 n3 p a b m x y h q f R P∧poE 1 1 0 3 t X l n n2 n3 p a b m x y h q f R P∧poE 1 1 1 3 t X l n n2 n3 p a b m x y h q f R P∧poE 2 0 0 3 t X l n n2 n3 p a b m x y h q f R P∧poE 2 0 1 3 t X l n n2 n3 p a b m x y h q f R P∧poE 2 1 0 3 t X l n n2 n3 p a b m x y h q f R P∧poE 2 1 1 3 t X l n n2 n3 p a b m x y h q f R P:=⟨(by unfold poE;kernel_rfl),(by unfold poE;kernel_rfl),(by unfold poE;kernel_rfl),(by unfold poE;kernel_rfl),(by unfold poE;kernel_rfl),(by unfold poE;kernel_rfl),(by unfold poE;kernel_rfl),(by unfold poE;kernel_rfl),(by unfold poE;kernel_rfl),(by unfold poE;kernel_rfl),(by unfold poE;kernel_rfl),(by unfold poE;kernel_rfl)⟩
theorem aqk (t:Nat)(X:List Value)(l n n2 n3 p:Nat)(a b:Int)(m x y:Nat)(h:Int)(q:Value)(f:Nat→Value)(R:List Value)(P:Nat→List Value):poE 0 0 0 4 t X l n n2 n3 p a b m x y h q f R P∧poE 0 0 1 4 t X l n n2 n3 p a b m x y h q f R P∧poE 0 1 0 4 t X l n n2 n3 p a b m x y h q f R P∧poE 0 1 1 4 t X l n n2 n3 p a b m x y h q f R P∧poE 1 0 0 4 t X l n n2 n3 p a b m x y h q f R P∧poE 1 0 1 4 t X l n n2 n3 p a b m x y h q f R P∧poE 1 1 0 4 t X l n n2 n3 p a b m x y h q f R P∧poE 1 1 1 4 t X l n n2 n3 p a b m x y h q f R P∧poE 2 0 0 4 t X l n n2 n3 p a b m x y h q f R P∧poE 2 0 1 4 t X l n n2 n3 p a b m x y h q f R P∧poE 2 1 0 4 t X l n n2 n3 p a b m x y h q f R P∧poE 2 1 1 4 t X l n n2 n3 p a b m x y h q f R P:=⟨(by unfold poE;kernel_rfl),(by unfold poE;kernel_rfl),(by unfold poE;kernel_rfl),(by unfold poE;kernel_rfl),(by unfold poE;kernel_rfl),(by unfold poE;kernel_rfl),(by unfold poE;kernel_rfl),(by unfold poE;kernel_rfl),(by unfold poE;kernel_rfl),(by unfold poE;kernel_rfl),(by unfold poE;kernel_rfl),(by unfold poE;kernel_rfl)⟩
theorem ap9 (t:Nat)(X:List Value)(l n n2 n3 p:Nat)(a b:Int)(m x y:Nat)(h:Int)(q:Value)(f:Nat→Value)(R:List Value)(P:Nat→List Value):poE 0 0 0 5 t X l n n2 n3 p a b m x y h q f R P∧poE 0 0 1 5 t X l n n2 n3 p a b m x y h q f R P∧poE 0 1 0 5 t X l n n2 n3 p a b m x y h q f R P∧poE 0 1 1 5 t X l n n2 n3 p a b m x y h q f R P∧poE 1 0 0 5 t X l n n2 n3 p a b m x y h q f R P∧poE 1 0 1 5 t X l n n2 n3 p a b m x y h q f R P∧poE 1 1 0 5 t X l n n2 n3 p a b m x y h q f R P∧poE 1 1 1 5 t X l n n2 n3 p a b m x y h q f R P∧poE 2 0 0 5 t X l n n2 n3 p a b m x y h q f R P∧poE 2 0 1 5 t X l n n2 n3 p a b m x y h q f R P∧poE 2 1 0 5 t X l n n2 n3 p a b m x y h q f R P∧poE 2 1 1 5 t X l n n2 n3 p a b m x y h q f R P:=⟨(by unfold poE;kernel_rfl),(by unfold poE;kernel_rfl),(by unfold poE;kernel_rfl),(by unfold poE;kernel_rfl),(by unfold poE;kernel_rfl),(by unfold poE;kernel_rfl),(by unfold poE;kernel_rfl),(by unfold poE;kernel_rfl),(by unfold poE;kernel_rfl),(by unfold poE;kernel_rfl),(by unfold poE;kernel_rfl),(by unfold poE;kernel_rfl)⟩
theorem aqT (t:Nat)(X:List Value)(l n n2 n3 p:Nat)(a b:Int)(m x y:Nat)(h:Int)(q:Value)(f:Nat→Value)(R:List Value)(P:Nat→List Value):poE 0 0 0 6 t X l n n2 n3 p a b m x y h q f R P∧poE 0 0 1 6 t X l n n2 n3 p a b m x y h q f R P∧poE 0 1 0 6 t X l n n2 n3 p a b m x y h q f R P∧poE 0 1 1 6 t X l n n2 n3 p a b m x y h q f R P∧poE 1 0 0 6 t X l n n2 n3 p a b m x y h q f R P∧poE 1 0 1 6 t X l n n2 n3 p a b m x y h q f R P∧poE 1 1 0 6 t X l n n2 n3 p a b m x y h q f R P∧poE 1 1 1 6 t X l n n2 n3 p a b m x y h q f R P∧poE 2 0 0 6 t X l n n2 n3 p a b m x y h q f R P∧poE 2 0 1 6 t X l n n2 n3 p a b m x y h q f R P∧poE 2 1 0 6 t X l n n2 n3 p a b m x y h q f R P∧poE 2 1 1 6 t X l n n2 n3 p a b m x y h q f R P:=⟨(by unfold poE;kernel_rfl),(by unfold poE;kernel_rfl),(by unfold poE;kernel_rfl),(by unfold poE;kernel_rfl),(by unfold poE;kernel_rfl),(by unfold poE;kernel_rfl),(by unfold poE;kernel_rfl),(by unfold poE;kernel_rfl),(by unfold poE;kernel_rfl),(by unfold poE;kernel_rfl),(by unfold poE;kernel_rfl),(by unfold poE;kernel_rfl)⟩
theorem aq2 (t:Nat)(X:List Value)(l n n2 n3 p:Nat)(a b:Int)(m x y:Nat)(h:Int)(q:Value)(f:Nat→Value)(R:List Value)(P:Nat→List Value):poE 0 0 0 7 t X l n n2 n3 p a b m x y h q f R P∧poE 0 0 1 7 t X l n n2 n3 p a b m x y h q f R P∧poE 0 1 0 7 t X l n n2 n3 p a b m x y h q f R P∧poE 0 1 1 7 t X l n n2 n3 p a b m x y h q f R P∧poE 1 0 0 7 t X l n n2 n3 p a b m x y h q f R P∧poE 1 0 1 7 t X l n n2 n3 p a b m x y h q f R P∧poE 1 1 0 7 t X l n n2 n3 p a b m x y h q f R P∧poE 1 1 1 7 t X l n n2 n3 p a b m x y h q f R P∧poE 2 0 0 7 t X l n n2 n3 p a b m x y h q f R P∧poE 2 0 1 7 t X l n n2 n3 p a b m x y h q f R P∧poE 2 1 0 7 t X l n n2 n3 p a b m x y h q f R P∧poE 2 1 1 7 t X l n n2 n3 p a b m x y h q f R P:=⟨(by unfold poE;kernel_rfl),(by unfold poE;kernel_rfl),(by unfold poE;kernel_rfl),(by unfold poE;kernel_rfl),(by unfold poE;kernel_rfl),(by unfold poE;kernel_rfl),(by unfold poE;kernel_rfl),(by unfold poE;kernel_rfl),(by unfold poE;kernel_rfl),(by unfold poE;kernel_rfl),(by unfold poE;kernel_rfl),(by unfold poE;kernel_rfl)⟩
theorem arh (t:Nat)(X:List Value)(l n n2 n3 p:Nat)(a b:Int)(m x y:Nat)(h:Int)(q:Value)(f:Nat→Value)(R:List Value)(P:Nat→List Value):poE 0 0 0 8 t X l n n2 n3 p a b m x y h q f R P∧poE 0 0 1 8 t X l n n2 n3 p a b m x y h q f R P∧poE 0 1 0 8 t X l n n2 n3 p a b m x y h q f R P∧poE 0 1 1 8 t X l n n2 n3 p a b m x y h q f R P∧poE 1 0 0 8 t X l n n2 n3 p a b m x y h q f R P∧poE 1 0 1 8 t X l n n2 n3 p a b m x y h q f R P∧poE 1 1 0 8 t X l n n2 n3 p a b m x y h q f R P∧poE 1 1 1 8 t X l n n2 n3 p a b m x y h q f R P∧poE 2 0 0 8 t X l n n2 n3 p a b m x y h q f R P∧poE 2 0 1 8 t X l n n2 n3 p a b m x y h q f R P∧poE 2 1 0 8 t X l n n2 n3 p a b m x y h q f R P∧poE 2 1 1 8 t X l n n2 n3 p a b m x y h q f R P:=⟨(by unfold poE;kernel_rfl),(by unfold poE;kernel_rfl),(by unfold poE;kernel_rfl),(by unfold poE;kernel_rfl),(by unfold poE;kernel_rfl),(by unfold poE;kernel_rfl),(by unfold poE;kernel_rfl),(by unfold poE;kernel_rfl),(by unfold poE;kernel_rfl),(by unfold poE;kernel_rfl),(by unfold poE;kernel_rfl),(by unfold poE;kernel_rfl)⟩
theorem apS (t:Nat)(X:List Value)(l n n2 n3 p:Nat)(a b:Int)(m x y:Nat)(h:Int)(q:Value)(f:Nat→Value)(R:List Value)(P:Nat→List Value):poE 0 0 0 9 t X l n n2 n3 p a b m x y h q f R P∧poE 0 0 1 9 t X l n n2 n3 p a b m x y h q f R P∧poE 0 1 0 9 t X l n n2 n3 p a b m x y h q f R P∧poE 0 1 1 9 t X l n n2 n3 p a b m x y h q f R P∧poE 1 0 0 9 t X l n n2 n3 p a b m x y h q f R P∧poE 1 0 1 9 t X l n n2 n3 p a b m x y h q f R P∧poE 1 1 0 9 t X l n n2 n3 p a b m x y h q f R P∧poE 1 1 1 9 t X l n n2 n3 p a b m x y h q f R P∧poE 2 0 0 9 t X l n n2 n3 p a b m x y h q f R P∧poE 2 0 1 9 t X l n n2 n3 p a b m x y h q f R P∧poE 2 1 0 9 t X l n n2 n3 p a b m x y h q f R P∧poE 2 1 1 9 t X l n n2 n3 p a b m x y h q f R P:=⟨(by unfold poE;kernel_rfl),(by unfold poE;kernel_rfl),(by unfold poE;kernel_rfl),(by unfold poE;kernel_rfl),(by unfold poE;kernel_rfl),(by unfold poE;kernel_rfl),(by unfold poE;kernel_rfl),(by unfold poE;kernel_rfl),(by unfold poE;kernel_rfl),(by unfold poE;kernel_rfl),(by unfold poE;kernel_rfl),(by unfold poE;kernel_rfl)⟩
theorem aou (t:Nat)(X:List Value)(l n n2 n3 p:Nat)(a b:Int)(m x y:Nat)(h:Int)(q:Value)(f:Nat→Value)(R:List Value)(P:Nat→List Value):poE 0 0 0 10 t X l n n2 n3 p a b m x y h q f R P∧poE 0 0 1 10 t X l n n2 n3 p a b m x y h q f R P∧poE 0 1 0 10 t X l n n2 n3 p a b m x y h q f R P∧poE 0 1 1 10 t X l n n2 n3 p a b m x y h q f R P∧poE 1 0 0 10 t X l n n2 n3 p a b m x y h q f R P∧poE 1 0 1 10 t X l n n2 n3 p a b m x y h q f R P∧poE 1 1 0 10 t X l n n2 n3 p a b m x y h q f R P∧poE 1 1 1 10 t X l n n2 n3 p a b m x y h q f R P∧poE 2 0 0 10 t X l n n2 n3 p a b m x y h q f R P∧poE 2 0 1 10 t X l n n2 n3 p a b m x y h q f R P∧poE 2 1 0 10 t X l n n2 n3 p a b m x y h q f R P∧poE 2 1 1 10 t X l n n2 n3 p a b m x y h q f R P:=⟨(by unfold poE;kernel_rfl),(by unfold poE;kernel_rfl),(by unfold poE;kernel_rfl),(by unfold poE;kernel_rfl),(by unfold poE;kernel_rfl),(by unfold poE;kernel_rfl),(by unfold poE;kernel_rfl),(by unfold poE;kernel_rfl),(by unfold poE;kernel_rfl),(by unfold poE;kernel_rfl),(by unfold poE;kernel_rfl),(by unfold poE;kernel_rfl)⟩
theorem aov (t:Nat)(X:List Value)(l n n2 n3 p:Nat)(a b:Int)(m x y:Nat)(h:Int)(q:Value)(f:Nat→Value)(R:List Value)(P:Nat→List Value):poE 0 0 0 11 t X l n n2 n3 p a b m x y h q f R P∧poE 0 0 1 11 t X l n n2 n3 p a b m x y h q f R P∧poE 0 1 0 11 t X l n n2 n3 p a b m x y h q f R P∧poE 0 1 1 11 t X l n n2 n3 p a b m x y h q f R P∧poE 1 0 0 11 t X l n n2 n3 p a b m x y h q f R P∧poE 1 0 1 11 t X l n n2 n3 p a b m x y h q f R P∧poE 1 1 0 11 t X l n n2 n3 p a b m x y h q f R P∧poE 1 1 1 11 t X l n n2 n3 p a b m x y h q f R P∧poE 2 0 0 11 t X l n n2 n3 p a b m x y h q f R P∧poE 2 0 1 11 t X l n n2 n3 p a b m x y h q f R P∧poE 2 1 0 11 t X l n n2 n3 p a b m x y h q f R P∧poE 2 1 1 11 t X l n n2 n3 p a b m x y h q f R P:=⟨(by unfold poE;kernel_rfl),(by unfold poE;kernel_rfl),(by unfold poE;kernel_rfl),(by unfold poE;kernel_rfl),(by unfold poE;kernel_rfl),(by unfold poE;kernel_rfl),(by unfold poE;kernel_rfl),(by unfold poE;kernel_rfl),(by unfold poE;kernel_rfl),(by unfold poE;kernel_rfl),(by unfold poE;kernel_rfl),(by unfold poE;kernel_rfl)⟩
theorem anr (t:Nat)(X:List Value)(l n n2 n3 p:Nat)(a b:Int)(m x y:Nat)(h:Int)(q:Value)(f:Nat→Value)(R:List Value)(P:Nat→List Value):poE 0 0 0 12 t X l n n2 n3 p a b m x y h q f R P∧poE 0 0 1 12 t X l n n2 n3 p a b m x y h q f R P∧poE 0 1 0 12 t X l n n2 n3 p a b m x y h q f R P∧poE 0 1 1 12 t X l n n2 n3 p a b m x y h q f R P∧poE 1 0 0 12 t X l n n2 n3 p a b m x y h q f R P∧poE 1 0 1 12 t X l n n2 n3 p a b m x y h q f R P∧poE 1 1 0 12 t X l n n2 n3 p a b m x y h q f R P∧poE 1 1 1 12 t X l n n2 n3 p a b m x y h q f R P∧poE 2 0 0 12 t X l n n2 n3 p a b m x y h q f R P∧poE 2 0 1 12 t X l n n2 n3 p a b m x y h q f R P∧poE 2 1 0 12 t X l n n2 n3 p a b m x y h q f R P∧poE 2 1 1 12 t X l n n2 n3 p a b m x y h q f R P:=⟨(by unfold poE;kernel_rfl),(by unfold poE;kernel_rfl),(by unfold poE;kernel_rfl),(by unfold poE;kernel_rfl),(by unfold poE;kernel_rfl),(by unfold poE;kernel_rfl),(by unfold poE;kernel_rfl),(by unfold poE;kernel_rfl),(by unfold poE;kernel_rfl),(by unfold poE;kernel_rfl),(by unfold poE;kernel_rfl),(by unfold poE;kernel_rfl)⟩
theorem ao2 (t:Nat)(X:List Value)(l n n2 n3 p:Nat)(a b:Int)(m x y:Nat)(h:Int)(q:Value)(f:Nat→Value)(R:List Value)(P:Nat→List Value):poE 0 0 0 13 t X l n n2 n3 p a b m x y h q f R P∧poE 0 0 1 13 t X l n n2 n3 p a b m x y h q f R P∧poE 0 1 0 13 t X l n n2 n3 p a b m x y h q f R P∧poE 0 1 1 13 t X l n n2 n3 p a b m x y h q f R P∧poE 1 0 0 13 t X l n n2 n3 p a b m x y h q f R P∧poE 1 0 1 13 t X l n n2 n3 p a b m x y h q f R P∧poE 1 1 0 13 t X l n n2 n3 p a b m x y h q f R P∧poE 1 1 1 13 t X l n n2 n3 p a b m x y h q f R P∧poE 2 0 0 13 t X l n n2 n3 p a b m x y h q f R P∧poE 2 0 1 13 t X l n n2 n3 p a b m x y h q f R P∧poE 2 1 0 13 t X l n n2 n3 p a b m x y h q f R P∧poE 2 1 1 13 t X l n n2 n3 p a b m x y h q f R P:=⟨(by unfold poE;kernel_rfl),(by unfold poE;kernel_rfl),(by unfold poE;kernel_rfl),(by unfold poE;kernel_rfl),(by unfold poE;kernel_rfl),(by unfold poE;kernel_rfl),(by unfold poE;kernel_rfl),(by unfold poE;kernel_rfl),(by unfold poE;kernel_rfl),(by unfold poE;kernel_rfl),(by unfold poE;kernel_rfl),(by unfold poE;kernel_rfl)⟩
theorem amN (t:Nat)(X:List Value)(l n n2 n3 p:Nat)(a b:Int)(m x y:Nat)(h:Int)(q:Value)(f:Nat→Value)(R:List Value)(P:Nat→List Value):poE 0 0 0 14 t X l n n2 n3 p a b m x y h q f R P∧poE 0 0 1 14 t X l n n2 n3 p a b m x y h q f R P∧poE 0 1 0 14 t X l n n2 n3 p a b m x y h q f R P∧poE 0 1 1 14 t X l n n2 n3 p a b m x y h q f R P∧poE 1 0 0 14 t X l n n2 n3 p a b m x y h q f R P∧poE 1 0 1 14 t X l n n2 n3 p a b m x y h q f R P∧poE 1 1 0 14 t X l n n2 n3 p a b m x y h q f R P∧poE 1 1 1 14 t X l n n2 n3 p a b m x y h q f R P∧poE 2 0 0 14 t X l n n2 n3 p a b m x y h q f R P∧poE 2 0 1 14 t X l n n2 n3 p a b m x y h q f R P∧poE 2 1 0 14 t X l n n2 n3 p a b m x y h q f R P∧poE 2 1 1 14 t X l n n2 n3 p a b m x y h q f R P:=⟨(by unfold poE;kernel_rfl),(by unfold poE;kernel_rfl),(by unfold poE;kernel_rfl),(by unfold poE;kernel_rfl),(by unfold poE;kernel_rfl),(by unfold poE;kernel_rfl),(by unfold poE;kernel_rfl),(by unfold poE;kernel_rfl),(by unfold poE;kernel_rfl),(by unfold poE;kernel_rfl),(by unfold poE;kernel_rfl),(by unfold poE;kernel_rfl)⟩
theorem amn (t:Nat)(X:List Value)(l n n2 n3 p:Nat)(a b:Int)(m x y:Nat)(h:Int)(q:Value)(f:Nat→Value)(R:List Value)(P:Nat→List Value):poE 0 0 0 15 t X l n n2 n3 p a b m x y h q f R P∧poE 0 0 1 15 t X l n n2 n3 p a b m x y h q f R P∧poE 0 1 0 15 t X l n n2 n3 p a b m x y h q f R P∧poE 0 1 1 15 t X l n n2 n3 p a b m x y h q f R P∧poE 1 0 0 15 t X l n n2 n3 p a b m x y h q f R P∧poE 1 0 1 15 t X l n n2 n3 p a b m x y h q f R P∧poE 1 1 0 15 t X l n n2 n3 p a b m x y h q f R P∧poE 1 1 1 15 t X l n n2 n3 p a b m x y h q f R P∧poE 2 0 0 15 t X l n n2 n3 p a b m x y h q f R P∧poE 2 0 1 15 t X l n n2 n3 p a b m x y h q f R P∧poE 2 1 0 15 t X l n n2 n3 p a b m x y h q f R P∧poE 2 1 1 15 t X l n n2 n3 p a b m x y h q f R P:=⟨(by unfold poE;kernel_rfl),(by unfold poE;kernel_rfl),(by unfold poE;kernel_rfl),(by unfold poE;kernel_rfl),(by unfold poE;kernel_rfl),(by unfold poE;kernel_rfl),(by unfold poE;kernel_rfl),(by unfold poE;kernel_rfl),(by unfold poE;kernel_rfl),(by unfold poE;kernel_rfl),(by unfold poE;kernel_rfl),(by unfold poE;kernel_rfl)⟩
theorem aoq (t:Nat)(X:List Value)(l n n2 n3 p:Nat)(a b:Int)(m x y:Nat)(h:Int)(q:Value)(f:Nat→Value)(R:List Value)(P:Nat→List Value):poE 0 0 0 16 t X l n n2 n3 p a b m x y h q f R P∧poE 0 0 1 16 t X l n n2 n3 p a b m x y h q f R P∧poE 0 1 0 16 t X l n n2 n3 p a b m x y h q f R P∧poE 0 1 1 16 t X l n n2 n3 p a b m x y h q f R P∧poE 1 0 0 16 t X l n n2 n3 p a b m x y h q f R P∧poE 1 0 1 16 t X l n n2 n3 p a b m x y h q f R P∧poE 1 1 0 16 t X l n n2 n3 p a b m x y h q f R P∧poE 1 1 1 16 t X l n n2 n3 p a b m x y h q f R P∧poE 2 0 0 16 t X l n n2 n3 p a b m x y h q f R P∧poE 2 0 1 16 t X l n n2 n3 p a b m x y h q f R P∧poE 2 1 0 16 t X l n n2 n3 p a b m x y h q f R P∧poE 2 1 1 16 t X l n n2 n3 p a b m x y h q f R P:=⟨(by unfold poE;kernel_rfl),(by unfold poE;kernel_rfl),(by unfold poE;kernel_rfl),(by unfold poE;kernel_rfl),(by unfold poE;kernel_rfl),(by unfold poE;kernel_rfl),(by unfold poE;kernel_rfl),(by unfold poE;kernel_rfl),(by unfold poE;kernel_rfl),(by unfold poE;kernel_rfl),(by unfold poE;kernel_rfl),(by unfold poE;kernel_rfl)⟩
theorem ami (t:Nat)(X:List Value)(l n n2 n3 p:Nat)(a b:Int)(m x y:Nat)(h:Int)(q:Value)(f:Nat→Value)(R:List Value)(P:Nat→List Value):poE 0 0 0 17 t X l n n2 n3 p a b m x y h q f R P∧poE 0 0 1 17 t X l n n2 n3 p a b m x y h q f R P∧poE 0 1 0 17 t X l n n2 n3 p a b m x y h q f R P∧poE 0 1 1 17 t X l n n2 n3 p a b m x y h q f R P∧poE 1 0 0 17 t X l n n2 n3 p a b m x y h q f R P∧poE 1 0 1 17 t X l n n2 n3 p a b m x y h q f R P∧poE 1 1 0 17 t X l n n2 n3 p a b m x y h q f R P∧poE 1 1 1 17 t X l n n2 n3 p a b m x y h q f R P∧poE 2 0 0 17 t X l n n2 n3 p a b m x y h q f R P∧poE 2 0 1 17 t X l n n2 n3 p a b m x y h q f R P∧poE 2 1 0 17 t X l n n2 n3 p a b m x y h q f R P∧poE 2 1 1 17 t X l n n2 n3 p a b m x y h q f R P:=⟨(by unfold poE;kernel_rfl),(by unfold poE;kernel_rfl),(by unfold poE;kernel_rfl),(by unfold poE;kernel_rfl),(by unfold poE;kernel_rfl),(by unfold poE;kernel_rfl),(by unfold poE;kernel_rfl),(by unfold poE;kernel_rfl),(by unfold poE;kernel_rfl),(by unfold poE;kernel_rfl),(by unfold poE;kernel_rfl),(by unfold poE;kernel_rfl)⟩
theorem aoF (t:Nat)(X:List Value)(l n n2 n3 p:Nat)(a b:Int)(m x y:Nat)(h:Int)(q:Value)(f:Nat→Value)(R:List Value)(P:Nat→List Value):poE 0 0 0 18 t X l n n2 n3 p a b m x y h q f R P∧poE 0 0 1 18 t X l n n2 n3 p a b m x y h q f R P∧poE 0 1 0 18 t X l n n2 n3 p a b m x y h q f R P∧poE 0 1 1 18 t X l n n2 n3 p a b m x y h q f R P∧poE 1 0 0 18 t X l n n2 n3 p a b m x y h q f R P∧poE 1 0 1 18 t X l n n2 n3 p a b m x y h q f R P∧poE 1 1 0 18 t X l n n2 n3 p a b m x y h q f R P∧poE 1 1 1 18 t X l n n2 n3 p a b m x y h q f R P∧poE 2 0 0 18 t X l n n2 n3 p a b m x y h q f R P∧poE 2 0 1 18 t X l n n2 n3 p a b m x y h q f R P∧poE 2 1 0 18 t X l n n2 n3 p a b m x y h q f R P∧poE 2 1 1 18 t X l n n2 n3 p a b m x y h q f R P:=⟨(by unfold poE;kernel_rfl),(by unfold poE;kernel_rfl),(by unfold poE;kernel_rfl),(by unfold poE;kernel_rfl),(by unfold poE;kernel_rfl),(by unfold poE;kernel_rfl),(by unfold poE;kernel_rfl),(by unfold poE;kernel_rfl),(by unfold poE;kernel_rfl),(by unfold poE;kernel_rfl),(by unfold poE;kernel_rfl),(by unfold poE;kernel_rfl)⟩
theorem an6 (t:Nat)(X:List Value)(l n n2 n3 p:Nat)(a b:Int)(m x y:Nat)(h:Int)(q:Value)(f:Nat→Value)(R:List Value)(P:Nat→List Value):poE 0 0 0 19 t X l n n2 n3 p a b m x y h q f R P∧poE 0 0 1 19 t X l n n2 n3 p a b m x y h q f R P∧poE 0 1 0 19 t X l n n2 n3 p a b m x y h q f R P∧poE 0 1 1 19 t X l n n2 n3 p a b m x y h q f R P∧poE 1 0 0 19 t X l n n2 n3 p a b m x y h q f R P∧poE 1 0 1 19 t X l n n2 n3 p a b m x y h q f R P∧poE 1 1 0 19 t X l n n2 n3 p a b m x y h q f R P∧poE 1 1 1 19 t X l n n2 n3 p a b m x y h q f R P∧poE 2 0 0 19 t X l n n2 n3 p a b m x y h q f R P∧poE 2 0 1 19 t X l n n2 n3 p a b m x y h q f R P∧poE 2 1 0 19 t X l n n2 n3 p a b m x y h q f R P∧poE 2 1 1 19 t X l n n2 n3 p a b m x y h q f R P:=⟨(by unfold poE;kernel_rfl),(by unfold poE;kernel_rfl),(by unfold poE;kernel_rfl),(by unfold poE;kernel_rfl),(by unfold poE;kernel_rfl),(by unfold poE;kernel_rfl),(by unfold poE;kernel_rfl),(by unfold poE;kernel_rfl),(by unfold poE;kernel_rfl),(by unfold poE;kernel_rfl),(by unfold poE;kernel_rfl),(by unfold poE;kernel_rfl)⟩
abbrev peR (t:Nat)(X:List Value)(l n n2 n3 p:Nat)(a b:Int)(i:Nat)(T:List Value)(P:Nat→List Value):Option (Ex × bC):=
 pU KX.plain CP1 (runK KX CP1 4).1 (runK KX CP1 4).2 (CP1.vars 32) 32 false (mX CP1 32 2) (qM Tryz.prog (CP1.vars 32) sPo sPe)
  (Xv sPo.need (hPo t X l n n2 n3 p a b i T P)) (uT sPo.next (hPo t X l n n2 n3 p a b i T P))
theorem aiU (t:Nat)(X:List Value)(l n n2 p:Nat)(a b:Int)(T:List Value)(P:Nat→List Value):peR t X l n n2 1 p a b 1 T P=sel (bH 66 X) (some (.exit 0,oPe t X l n p a b)) none∧peR t X l n n2 2 p a b 2 T P=sel (bH 66 X) (some (.exit 0,oPe t X l n p a b)) none∧peR t X l n n2 3 p a b 3 T P=sel (bH 66 X) (some (.exit 0,oPe t X l n p a b)) none∧peR t X l n n2 4 p a b 4 T P=sel (bH 66 X) (some (.exit 0,oPe t X l n p a b)) none∧peR t X l n n2 5 p a b 5 T P=sel (bH 66 X) (some (.exit 0,oPe t X l n p a b)) none∧peR t X l n n2 6 p a b 6 T P=sel (bH 66 X) (some (.exit 0,oPe t X l n p a b)) none∧peR t X l n n2 7 p a b 7 T P=sel (bH 66 X) (some (.exit 0,oPe t X l n p a b)) none∧peR t X l n n2 8 p a b 8 T P=sel (bH 66 X) (some (.exit 0,oPe t X l n p a b)) none∧peR t X l n n2 9 p a b 9 T P=sel (bH 66 X) (some (.exit 0,oPe t X l n p a b)) none∧peR t X l n n2 10 p a b 10 T P=sel (bH 66 X) (some (.exit 0,oPe t X l n p a b)) none∧peR t X l n n2 11 p a b 11 T P=sel (bH 66 X) (some (.exit 0,oPe t X l n p a b)) none∧peR t X l n n2 12 p a b 12 T P=sel (bH 66 X) (some (.exit 0,oPe t X l n p a b)) none∧peR t X l n n2 13 p a b 13 T P=sel (bH 66 X) (some (.exit 0,oPe t X l n p a b)) none∧peR t X l n n2 14 p a b 14 T P=sel (bH 66 X) (some (.exit 0,oPe t X l n p a b)) none∧peR t X l n n2 15 p a b 15 T P=sel (bH 66 X) (some (.exit 0,oPe t X l n p a b)) none∧peR t X l n n2 16 p a b 16 T P=sel (bH 66 X) (some (.exit 0,oPe t X l n p a b)) none∧peR t X l n n2 17 p a b 17 T P=sel (bH 66 X) (some (.exit 0,oPe t X l n p a b)) none∧peR t X l n n2 18 p a b 18 T P=sel (bH 66 X) (some (.exit 0,oPe t X l n p a b)) none∧peR t X l n n2 19 p a b 19 T P=sel (bH 66 X) (some (.exit 0,oPe t X l n p a b)) none∧peR t X l n n2 20 p a b 20 T P=sel (bH 66 X) (some (.exit 0,oPe t X l n p a b)) none:=⟨by kernel_rfl,by kernel_rfl,by kernel_rfl,by kernel_rfl,by kernel_rfl,by kernel_rfl,by kernel_rfl,by kernel_rfl,by kernel_rfl,by kernel_rfl,by kernel_rfl,by kernel_rfl,by kernel_rfl,by kernel_rfl,by kernel_rfl,by kernel_rfl,by kernel_rfl,by kernel_rfl,by kernel_rfl,by kernel_rfl⟩
theorem aon {i:Nat}(h1:1≤i)(h20:i≤20)(t:Nat)(X:List Value)(l n n2 p:Nat)(a b:Int)(T:List Value)(P:Nat→List Value):peR t X l n n2 i p a b i T P=sel (bH 66 X) (some (.exit 0,oPe t X l n p a b)) none:=by
 obtain ⟨q1,q2,q3,q4,q5,q6,q7,q8,q9,q10,q11,q12,q13,q14,q15,q16,q17,q18,q19,q20⟩:=aiU t X l n n2 p a b T P
 match i,h1,h20 with
 |1,_,_=>exact q1
 |2,_,_=>exact q2
 |3,_,_=>exact q3
 |4,_,_=>exact q4
 |5,_,_=>exact q5
 |6,_,_=>exact q6
 |7,_,_=>exact q7
 |8,_,_=>exact q8
 |9,_,_=>exact q9
 |10,_,_=>exact q10
 |11,_,_=>exact q11
 |12,_,_=>exact q12
 |13,_,_=>exact q13
 |14,_,_=>exact q14
 |15,_,_=>exact q15
 |16,_,_=>exact q16
 |17,_,_=>exact q17
 |18,_,_=>exact q18
 |19,_,_=>exact q19
 |20,_,_=>exact q20
 |i+21,_,h=>omega
theorem ao0 {i:Nat}(h20:i<20){c d e:Nat}(hc:c<3)(hd:d<2)(he:e<2)(t:Nat)(X:List Value)(l n n2 n3 p:Nat)(a b:Int)(m x y:Nat)(h:Int)(q:Value)(f:Nat→Value)(R:List Value)(P:Nat→List Value):poE c d e i t X l n n2 n3 p a b m x y h q f R P:=by
 match i,h20 with
 |0,_=>obtain ⟨iO,iq,iP,iL,iM,iw,iE,iF,iH,iD,iJ,iK⟩:=aqi t X l n n2 n3 p a b m x y h q f R P;match c,d,e,hc,hd,he with
  |0,0,0,_,_,_=>exact iO
  |0,0,1,_,_,_=>exact iq
  |0,1,0,_,_,_=>exact iP
  |0,1,1,_,_,_=>exact iL
  |1,0,0,_,_,_=>exact iM
  |1,0,1,_,_,_=>exact iw
  |1,1,0,_,_,_=>exact iE
  |1,1,1,_,_,_=>exact iF
  |2,0,0,_,_,_=>exact iH
  |2,0,1,_,_,_=>exact iD
  |2,1,0,_,_,_=>exact iJ
  |2,1,1,_,_,_=>exact iK
  |c+3,_,_,h,_,_=>omega
  |0,d+2,_,_,h,_|1,d+2,_,_,h,_|2,d+2,_,_,h,_=>omega
  |0,0,e+2,_,_,h|0,1,e+2,_,_,h|1,0,e+2,_,_,h|1,1,e+2,_,_,h|2,0,e+2,_,_,h|2,1,e+2,_,_,h=>omega
 |1,_=>obtain ⟨iO,iq,iP,iL,iM,iw,iE,iF,iH,iD,iJ,iK⟩:=aqV t X l n n2 n3 p a b m x y h q f R P;match c,d,e,hc,hd,he with
  |0,0,0,_,_,_=>exact iO
  |0,0,1,_,_,_=>exact iq
  |0,1,0,_,_,_=>exact iP
  |0,1,1,_,_,_=>exact iL
  |1,0,0,_,_,_=>exact iM
  |1,0,1,_,_,_=>exact iw
  |1,1,0,_,_,_=>exact iE
  |1,1,1,_,_,_=>exact iF
  |2,0,0,_,_,_=>exact iH
  |2,0,1,_,_,_=>exact iD
  |2,1,0,_,_,_=>exact iJ
  |2,1,1,_,_,_=>exact iK
  |c+3,_,_,h,_,_=>omega
  |0,d+2,_,_,h,_|1,d+2,_,_,h,_|2,d+2,_,_,h,_=>omega
  |0,0,e+2,_,_,h|0,1,e+2,_,_,h|1,0,e+2,_,_,h|1,1,e+2,_,_,h|2,0,e+2,_,_,h|2,1,e+2,_,_,h=>omega
 |2,_=>obtain ⟨iO,iq,iP,iL,iM,iw,iE,iF,iH,iD,iJ,iK⟩:=apG t X l n n2 n3 p a b m x y h q f R P;match c,d,e,hc,hd,he with
  |0,0,0,_,_,_=>exact iO
  |0,0,1,_,_,_=>exact iq
  |0,1,0,_,_,_=>exact iP
  |0,1,1,_,_,_=>exact iL
  |1,0,0,_,_,_=>exact iM
  |1,0,1,_,_,_=>exact iw
  |1,1,0,_,_,_=>exact iE
  |1,1,1,_,_,_=>exact iF
  |2,0,0,_,_,_=>exact iH
  |2,0,1,_,_,_=>exact iD
  |2,1,0,_,_,_=>exact iJ
  |2,1,1,_,_,_=>exact iK
  |c+3,_,_,h,_,_=>omega
  |0,d+2,_,_,h,_|1,d+2,_,_,h,_|2,d+2,_,_,h,_=>omega
  |0,0,e+2,_,_,h|0,1,e+2,_,_,h|1,0,e+2,_,_,h|1,1,e+2,_,_,h|2,0,e+2,_,_,h|2,1,e+2,_,_,h=>omega
 |3,_=>obtain ⟨iO,iq,iP,iL,iM,iw,iE,iF,iH,iD,iJ,iK⟩:=aqz t X l n n2 n3 p a b m x y h q f R P;match c,d,e,hc,hd,he with
  |0,0,0,_,_,_=>exact iO
  |0,0,1,_,_,_=>exact iq
  |0,1,0,_,_,_=>exact iP
  |0,1,1,_,_,_=>exact iL
  |1,0,0,_,_,_=>exact iM
  |1,0,1,_,_,_=>exact iw
  |1,1,0,_,_,_=>exact iE
  |1,1,1,_,_,_=>exact iF
  |2,0,0,_,_,_=>exact iH
  |2,0,1,_,_,_=>exact iD
  |2,1,0,_,_,_=>exact iJ
  |2,1,1,_,_,_=>exact iK
  |c+3,_,_,h,_,_=>omega
  |0,d+2,_,_,h,_|1,d+2,_,_,h,_|2,d+2,_,_,h,_=>omega
  |0,0,e+2,_,_,h|0,1,e+2,_,_,h|1,0,e+2,_,_,h|1,1,e+2,_,_,h|2,0,e+2,_,_,h|2,1,e+2,_,_,h=>omega
 |4,_=>obtain ⟨iO,iq,iP,iL,iM,iw,iE,iF,iH,iD,iJ,iK⟩:=aqk t X l n n2 n3 p a b m x y h q f R P;match c,d,e,hc,hd,he with
  |0,0,0,_,_,_=>exact iO
  |0,0,1,_,_,_=>exact iq
  |0,1,0,_,_,_=>exact iP
  |0,1,1,_,_,_=>exact iL
  |1,0,0,_,_,_=>exact iM
  |1,0,1,_,_,_=>exact iw
  |1,1,0,_,_,_=>exact iE
  |1,1,1,_,_,_=>exact iF
  |2,0,0,_,_,_=>exact iH
  |2,0,1,_,_,_=>exact iD
  |2,1,0,_,_,_=>exact iJ
  |2,1,1,_,_,_=>exact iK
  |c+3,_,_,h,_,_=>omega
  |0,d+2,_,_,h,_|1,d+2,_,_,h,_|2,d+2,_,_,h,_=>omega
  |0,0,e+2,_,_,h|0,1,e+2,_,_,h|1,0,e+2,_,_,h|1,1,e+2,_,_,h|2,0,e+2,_,_,h|2,1,e+2,_,_,h=>omega
 |5,_=>obtain ⟨iO,iq,iP,iL,iM,iw,iE,iF,iH,iD,iJ,iK⟩:=ap9 t X l n n2 n3 p a b m x y h q f R P;match c,d,e,hc,hd,he with
  |0,0,0,_,_,_=>exact iO
  |0,0,1,_,_,_=>exact iq
  |0,1,0,_,_,_=>exact iP
  |0,1,1,_,_,_=>exact iL
  |1,0,0,_,_,_=>exact iM
  |1,0,1,_,_,_=>exact iw
  |1,1,0,_,_,_=>exact iE
  |1,1,1,_,_,_=>exact iF
  |2,0,0,_,_,_=>exact iH
  |2,0,1,_,_,_=>exact iD
  |2,1,0,_,_,_=>exact iJ
  |2,1,1,_,_,_=>exact iK
  |c+3,_,_,h,_,_=>omega
  |0,d+2,_,_,h,_|1,d+2,_,_,h,_|2,d+2,_,_,h,_=>omega
  |0,0,e+2,_,_,h|0,1,e+2,_,_,h|1,0,e+2,_,_,h|1,1,e+2,_,_,h|2,0,e+2,_,_,h|2,1,e+2,_,_,h=>omega
 |6,_=>obtain ⟨iO,iq,iP,iL,iM,iw,iE,iF,iH,iD,iJ,iK⟩:=aqT t X l n n2 n3 p a b m x y h q f R P;match c,d,e,hc,hd,he with
  |0,0,0,_,_,_=>exact iO
  |0,0,1,_,_,_=>exact iq
  |0,1,0,_,_,_=>exact iP
  |0,1,1,_,_,_=>exact iL
  |1,0,0,_,_,_=>exact iM
  |1,0,1,_,_,_=>exact iw
  |1,1,0,_,_,_=>exact iE
  |1,1,1,_,_,_=>exact iF
  |2,0,0,_,_,_=>exact iH
  |2,0,1,_,_,_=>exact iD
  |2,1,0,_,_,_=>exact iJ
  |2,1,1,_,_,_=>exact iK
  |c+3,_,_,h,_,_=>omega
  |0,d+2,_,_,h,_|1,d+2,_,_,h,_|2,d+2,_,_,h,_=>omega
  |0,0,e+2,_,_,h|0,1,e+2,_,_,h|1,0,e+2,_,_,h|1,1,e+2,_,_,h|2,0,e+2,_,_,h|2,1,e+2,_,_,h=>omega
 |7,_=>obtain ⟨iO,iq,iP,iL,iM,iw,iE,iF,iH,iD,iJ,iK⟩:=aq2 t X l n n2 n3 p a b m x y h q f R P;match c,d,e,hc,hd,he with
  |0,0,0,_,_,_=>exact iO
  |0,0,1,_,_,_=>exact iq
  |0,1,0,_,_,_=>exact iP
  |0,1,1,_,_,_=>exact iL
  |1,0,0,_,_,_=>exact iM
  |1,0,1,_,_,_=>exact iw
  |1,1,0,_,_,_=>exact iE
  |1,1,1,_,_,_=>exact iF
  |2,0,0,_,_,_=>exact iH
  |2,0,1,_,_,_=>exact iD
  |2,1,0,_,_,_=>exact iJ
  |2,1,1,_,_,_=>exact iK
  |c+3,_,_,h,_,_=>omega
  |0,d+2,_,_,h,_|1,d+2,_,_,h,_|2,d+2,_,_,h,_=>omega
  |0,0,e+2,_,_,h|0,1,e+2,_,_,h|1,0,e+2,_,_,h|1,1,e+2,_,_,h|2,0,e+2,_,_,h|2,1,e+2,_,_,h=>omega
 |8,_=>obtain ⟨iO,iq,iP,iL,iM,iw,iE,iF,iH,iD,iJ,iK⟩:=arh t X l n n2 n3 p a b m x y h q f R P;match c,d,e,hc,hd,he with
  |0,0,0,_,_,_=>exact iO
  |0,0,1,_,_,_=>exact iq
  |0,1,0,_,_,_=>exact iP
  |0,1,1,_,_,_=>exact iL
  |1,0,0,_,_,_=>exact iM
  |1,0,1,_,_,_=>exact iw
  |1,1,0,_,_,_=>exact iE
  |1,1,1,_,_,_=>exact iF
  |2,0,0,_,_,_=>exact iH
  |2,0,1,_,_,_=>exact iD
  |2,1,0,_,_,_=>exact iJ
  |2,1,1,_,_,_=>exact iK
  |c+3,_,_,h,_,_=>omega
  |0,d+2,_,_,h,_|1,d+2,_,_,h,_|2,d+2,_,_,h,_=>omega
  |0,0,e+2,_,_,h|0,1,e+2,_,_,h|1,0,e+2,_,_,h|1,1,e+2,_,_,h|2,0,e+2,_,_,h|2,1,e+2,_,_,h=>omega
 |9,_=>obtain ⟨iO,iq,iP,iL,iM,iw,iE,iF,iH,iD,iJ,iK⟩:=apS t X l n n2 n3 p a b m x y h q f R P;match c,d,e,hc,hd,he with
  |0,0,0,_,_,_=>exact iO
  |0,0,1,_,_,_=>exact iq
  |0,1,0,_,_,_=>exact iP
  |0,1,1,_,_,_=>exact iL
  |1,0,0,_,_,_=>exact iM
  |1,0,1,_,_,_=>exact iw
  |1,1,0,_,_,_=>exact iE
  |1,1,1,_,_,_=>exact iF
  |2,0,0,_,_,_=>exact iH
  |2,0,1,_,_,_=>exact iD
  |2,1,0,_,_,_=>exact iJ
  |2,1,1,_,_,_=>exact iK
  |c+3,_,_,h,_,_=>omega
  |0,d+2,_,_,h,_|1,d+2,_,_,h,_|2,d+2,_,_,h,_=>omega
  |0,0,e+2,_,_,h|0,1,e+2,_,_,h|1,0,e+2,_,_,h|1,1,e+2,_,_,h|2,0,e+2,_,_,h|2,1,e+2,_,_,h=>omega
 |10,_=>obtain ⟨iO,iq,iP,iL,iM,iw,iE,iF,iH,iD,iJ,iK⟩:=aou t X l n n2 n3 p a b m x y h q f R P;match c,d,e,hc,hd,he with
  |0,0,0,_,_,_=>exact iO
  |0,0,1,_,_,_=>exact iq
  |0,1,0,_,_,_=>exact iP
  |0,1,1,_,_,_=>exact iL
  |1,0,0,_,_,_=>exact iM
  |1,0,1,_,_,_=>exact iw
  |1,1,0,_,_,_=>exact iE
  |1,1,1,_,_,_=>exact iF
  |2,0,0,_,_,_=>exact iH
  |2,0,1,_,_,_=>exact iD
  |2,1,0,_,_,_=>exact iJ
  |2,1,1,_,_,_=>exact iK
  |c+3,_,_,h,_,_=>omega
  |0,d+2,_,_,h,_|1,d+2,_,_,h,_|2,d+2,_,_,h,_=>omega
  |0,0,e+2,_,_,h|0,1,e+2,_,_,h|1,0,e+2,_,_,h|1,1,e+2,_,_,h|2,0,e+2,_,_,h|2,1,e+2,_,_,h=>omega
 |11,_=>obtain ⟨iO,iq,iP,iL,iM,iw,iE,iF,iH,iD,iJ,iK⟩:=aov t X l n n2 n3 p a b m x y h q f R P;match c,d,e,hc,hd,he with
  |0,0,0,_,_,_=>exact iO
  |0,0,1,_,_,_=>exact iq
  |0,1,0,_,_,_=>exact iP
  |0,1,1,_,_,_=>exact iL
  |1,0,0,_,_,_=>exact iM
  |1,0,1,_,_,_=>exact iw
  |1,1,0,_,_,_=>exact iE
  |1,1,1,_,_,_=>exact iF
  |2,0,0,_,_,_=>exact iH
  |2,0,1,_,_,_=>exact iD
  |2,1,0,_,_,_=>exact iJ
  |2,1,1,_,_,_=>exact iK
  |c+3,_,_,h,_,_=>omega
  |0,d+2,_,_,h,_|1,d+2,_,_,h,_|2,d+2,_,_,h,_=>omega
  |0,0,e+2,_,_,h|0,1,e+2,_,_,h|1,0,e+2,_,_,h|1,1,e+2,_,_,h|2,0,e+2,_,_,h|2,1,e+2,_,_,h=>omega
 |12,_=>obtain ⟨iO,iq,iP,iL,iM,iw,iE,iF,iH,iD,iJ,iK⟩:=anr t X l n n2 n3 p a b m x y h q f R P;match c,d,e,hc,hd,he with
  |0,0,0,_,_,_=>exact iO
  |0,0,1,_,_,_=>exact iq
  |0,1,0,_,_,_=>exact iP
  |0,1,1,_,_,_=>exact iL
  |1,0,0,_,_,_=>exact iM
  |1,0,1,_,_,_=>exact iw
  |1,1,0,_,_,_=>exact iE
  |1,1,1,_,_,_=>exact iF
  |2,0,0,_,_,_=>exact iH
  |2,0,1,_,_,_=>exact iD
  |2,1,0,_,_,_=>exact iJ
  |2,1,1,_,_,_=>exact iK
  |c+3,_,_,h,_,_=>omega
  |0,d+2,_,_,h,_|1,d+2,_,_,h,_|2,d+2,_,_,h,_=>omega
  |0,0,e+2,_,_,h|0,1,e+2,_,_,h|1,0,e+2,_,_,h|1,1,e+2,_,_,h|2,0,e+2,_,_,h|2,1,e+2,_,_,h=>omega
 |13,_=>obtain ⟨iO,iq,iP,iL,iM,iw,iE,iF,iH,iD,iJ,iK⟩:=ao2 t X l n n2 n3 p a b m x y h q f R P;match c,d,e,hc,hd,he with
  |0,0,0,_,_,_=>exact iO
  |0,0,1,_,_,_=>exact iq
  |0,1,0,_,_,_=>exact iP
  |0,1,1,_,_,_=>exact iL
  |1,0,0,_,_,_=>exact iM
  |1,0,1,_,_,_=>exact iw
  |1,1,0,_,_,_=>exact iE
  |1,1,1,_,_,_=>exact iF
  |2,0,0,_,_,_=>exact iH
  |2,0,1,_,_,_=>exact iD
  |2,1,0,_,_,_=>exact iJ
  |2,1,1,_,_,_=>exact iK
  |c+3,_,_,h,_,_=>omega
  |0,d+2,_,_,h,_|1,d+2,_,_,h,_|2,d+2,_,_,h,_=>omega
  |0,0,e+2,_,_,h|0,1,e+2,_,_,h|1,0,e+2,_,_,h|1,1,e+2,_,_,h|2,0,e+2,_,_,h|2,1,e+2,_,_,h=>omega
 |14,_=>obtain ⟨iO,iq,iP,iL,iM,iw,iE,iF,iH,iD,iJ,iK⟩:=amN t X l n n2 n3 p a b m x y h q f R P;match c,d,e,hc,hd,he with
  |0,0,0,_,_,_=>exact iO
  |0,0,1,_,_,_=>exact iq
  |0,1,0,_,_,_=>exact iP
  |0,1,1,_,_,_=>exact iL
  |1,0,0,_,_,_=>exact iM
  |1,0,1,_,_,_=>exact iw
  |1,1,0,_,_,_=>exact iE
  |1,1,1,_,_,_=>exact iF
  |2,0,0,_,_,_=>exact iH
  |2,0,1,_,_,_=>exact iD
  |2,1,0,_,_,_=>exact iJ
  |2,1,1,_,_,_=>exact iK
  |c+3,_,_,h,_,_=>omega
  |0,d+2,_,_,h,_|1,d+2,_,_,h,_|2,d+2,_,_,h,_=>omega
  |0,0,e+2,_,_,h|0,1,e+2,_,_,h|1,0,e+2,_,_,h|1,1,e+2,_,_,h|2,0,e+2,_,_,h|2,1,e+2,_,_,h=>omega
 |15,_=>obtain ⟨iO,iq,iP,iL,iM,iw,iE,iF,iH,iD,iJ,iK⟩:=amn t X l n n2 n3 p a b m x y h q f R P;match c,d,e,hc,hd,he with
  |0,0,0,_,_,_=>exact iO
  |0,0,1,_,_,_=>exact iq
  |0,1,0,_,_,_=>exact iP
  |0,1,1,_,_,_=>exact iL
  |1,0,0,_,_,_=>exact iM
  |1,0,1,_,_,_=>exact iw
  |1,1,0,_,_,_=>exact iE
  |1,1,1,_,_,_=>exact iF
  |2,0,0,_,_,_=>exact iH
  |2,0,1,_,_,_=>exact iD
  |2,1,0,_,_,_=>exact iJ
  |2,1,1,_,_,_=>exact iK
  |c+3,_,_,h,_,_=>omega
  |0,d+2,_,_,h,_|1,d+2,_,_,h,_|2,d+2,_,_,h,_=>omega
  |0,0,e+2,_,_,h|0,1,e+2,_,_,h|1,0,e+2,_,_,h|1,1,e+2,_,_,h|2,0,e+2,_,_,h|2,1,e+2,_,_,h=>omega
 |16,_=>obtain ⟨iO,iq,iP,iL,iM,iw,iE,iF,iH,iD,iJ,iK⟩:=aoq t X l n n2 n3 p a b m x y h q f R P;match c,d,e,hc,hd,he with
  |0,0,0,_,_,_=>exact iO
  |0,0,1,_,_,_=>exact iq
  |0,1,0,_,_,_=>exact iP
  |0,1,1,_,_,_=>exact iL
  |1,0,0,_,_,_=>exact iM
  |1,0,1,_,_,_=>exact iw
  |1,1,0,_,_,_=>exact iE
  |1,1,1,_,_,_=>exact iF
  |2,0,0,_,_,_=>exact iH
  |2,0,1,_,_,_=>exact iD
  |2,1,0,_,_,_=>exact iJ
  |2,1,1,_,_,_=>exact iK
  |c+3,_,_,h,_,_=>omega
  |0,d+2,_,_,h,_|1,d+2,_,_,h,_|2,d+2,_,_,h,_=>omega
  |0,0,e+2,_,_,h|0,1,e+2,_,_,h|1,0,e+2,_,_,h|1,1,e+2,_,_,h|2,0,e+2,_,_,h|2,1,e+2,_,_,h=>omega
 |17,_=>obtain ⟨iO,iq,iP,iL,iM,iw,iE,iF,iH,iD,iJ,iK⟩:=ami t X l n n2 n3 p a b m x y h q f R P;match c,d,e,hc,hd,he with
  |0,0,0,_,_,_=>exact iO
  |0,0,1,_,_,_=>exact iq
  |0,1,0,_,_,_=>exact iP
  |0,1,1,_,_,_=>exact iL
  |1,0,0,_,_,_=>exact iM
  |1,0,1,_,_,_=>exact iw
  |1,1,0,_,_,_=>exact iE
  |1,1,1,_,_,_=>exact iF
  |2,0,0,_,_,_=>exact iH
  |2,0,1,_,_,_=>exact iD
  |2,1,0,_,_,_=>exact iJ
  |2,1,1,_,_,_=>exact iK
  |c+3,_,_,h,_,_=>omega
  |0,d+2,_,_,h,_|1,d+2,_,_,h,_|2,d+2,_,_,h,_=>omega
  |0,0,e+2,_,_,h|0,1,e+2,_,_,h|1,0,e+2,_,_,h|1,1,e+2,_,_,h|2,0,e+2,_,_,h|2,1,e+2,_,_,h=>omega
 |18,_=>obtain ⟨iO,iq,iP,iL,iM,iw,iE,iF,iH,iD,iJ,iK⟩:=aoF t X l n n2 n3 p a b m x y h q f R P;match c,d,e,hc,hd,he with
  |0,0,0,_,_,_=>exact iO
  |0,0,1,_,_,_=>exact iq
  |0,1,0,_,_,_=>exact iP
  |0,1,1,_,_,_=>exact iL
  |1,0,0,_,_,_=>exact iM
  |1,0,1,_,_,_=>exact iw
  |1,1,0,_,_,_=>exact iE
  |1,1,1,_,_,_=>exact iF
  |2,0,0,_,_,_=>exact iH
  |2,0,1,_,_,_=>exact iD
  |2,1,0,_,_,_=>exact iJ
  |2,1,1,_,_,_=>exact iK
  |c+3,_,_,h,_,_=>omega
  |0,d+2,_,_,h,_|1,d+2,_,_,h,_|2,d+2,_,_,h,_=>omega
  |0,0,e+2,_,_,h|0,1,e+2,_,_,h|1,0,e+2,_,_,h|1,1,e+2,_,_,h|2,0,e+2,_,_,h|2,1,e+2,_,_,h=>omega
 |19,_=>obtain ⟨iO,iq,iP,iL,iM,iw,iE,iF,iH,iD,iJ,iK⟩:=an6 t X l n n2 n3 p a b m x y h q f R P;match c,d,e,hc,hd,he with
  |0,0,0,_,_,_=>exact iO
  |0,0,1,_,_,_=>exact iq
  |0,1,0,_,_,_=>exact iP
  |0,1,1,_,_,_=>exact iL
  |1,0,0,_,_,_=>exact iM
  |1,0,1,_,_,_=>exact iw
  |1,1,0,_,_,_=>exact iE
  |1,1,1,_,_,_=>exact iF
  |2,0,0,_,_,_=>exact iH
  |2,0,1,_,_,_=>exact iD
  |2,1,0,_,_,_=>exact iJ
  |2,1,1,_,_,_=>exact iK
  |c+3,_,_,h,_,_=>omega
  |0,d+2,_,_,h,_|1,d+2,_,_,h,_|2,d+2,_,_,h,_=>omega
  |0,0,e+2,_,_,h|0,1,e+2,_,_,h|1,0,e+2,_,_,h|1,1,e+2,_,_,h|2,0,e+2,_,_,h|2,1,e+2,_,_,h=>omega
 |i+20,h=>omega
theorem ajk {c d e i m x y g z:Nat}{h:Int}(hc:c<3)(hd:d<2)(he:e<2)(hg:g<2):kV (L5 c d e i m x y h (ovF g z))=true:=by
 match c,d,e,g,hc,hd,he,hg with
 |0,0,0,0,_,_,_,_|0,0,0,1,_,_,_,_|0,0,1,0,_,_,_,_|0,0,1,1,_,_,_,_|0,1,0,0,_,_,_,_|0,1,0,1,_,_,_,_|0,1,1,0,_,_,_,_|0,1,1,1,_,_,_,_
 |1,0,0,0,_,_,_,_|1,0,0,1,_,_,_,_|1,0,1,0,_,_,_,_|1,0,1,1,_,_,_,_|1,1,0,0,_,_,_,_|1,1,0,1,_,_,_,_|1,1,1,0,_,_,_,_|1,1,1,1,_,_,_,_
 |2,0,0,0,_,_,_,_|2,0,0,1,_,_,_,_|2,0,1,0,_,_,_,_|2,0,1,1,_,_,_,_|2,1,0,0,_,_,_,_|2,1,0,1,_,_,_,_|2,1,1,0,_,_,_,_|2,1,1,1,_,_,_,_=>rfl
theorem Nz {g z:Nat}(hg:g<2)(N:Nat):fQ N (ovF g z)=true:=by
 match g,hg with
 |0,_|1,_=>rfl
theorem agW {d e i m x y g z:Nat}{h:Int}(h20:i<20)(hd:d<2)(he:e<2)(hg:g<2):bH 67 (L5 2 d e i m x y h (ovF g z))=true:=by
 show sel true (sel (fQ 67 (slP i m)) (sel (fQ 67 (ovF g z)) (sel (fQ 67 (ovF d x)) (sel (fQ 67 (ovF e y)) true false) false) false) false) false=true
 rw [Nz hg,Nz hd,Nz he]
 have:fQ 67 (slP i m)=true:=by
  show (true&&(ltN (Nat.add 33 i) 64||_))=true
  rw [jD (show Nat.add 33 i<64 by show 33+i<64;omega)]
  rfl
 rw [this]
 rfl
theorem jB {N:Nat}:∀ {l:List Value},dV l=true→bH N l=true
 |[],_=>rfl
 |v::l,h=>by
  obtain ⟨h1,h2⟩:=bM (show sel (byteOf v).isSome (dV l) false=true from h)
  show sel (fQ N v) (bH N l) false=true
  rw [jB h2]
  unfold byteOf at h1
  split at h1
  ·rfl
  ·cases h1
theorem ane {c d e i t:Nat}{X:List Value}{l n n2 n3 p:Nat}{a b:Int}{m x y g z:Nat}{h:Int}{T:List Value}{Ps:List (List Value)}(hl:Ps.length=20)(h20:i<20)(hc:c<3)(hd:d<2)(he:e<2)(hg:g<2)(hi:i<n2)(hi3:i<n3)
  (hT:dF T=true) (hP:yG Ps=true) (hX:dV X=true) (h2:c=2→m≤9223372036854775807∧Fn.ql (jq Ps i) m=true) :
  poT c d e i t X l n n2 n3 p a b m x y h (ovF g z) T (jq Ps)=some (.normal,hPo t X l n n2 n3 (if c=2 then Fn.sumP (jq Ps i) m p else p) (nS a (lnF d x)) (nS b (lnF e y)) (i+1) T (jq Ps)):=by
 have hP':=jA hP
 have hX':∀ q,y7 T (jq Ps) (sel (bH 66 X) (some (Ex.normal,hPo t X l n n2 n3 q (nS a (lnF d x)) (nS b (lnF e y)) (Nat.succ i) T (jq Ps))) none)=some (.normal,hPo t X l n n2 n3 q (nS a (lnF d x)) (nS b (lnF e y)) (i+1) T (jq Ps)):=fun q=>by
  rw [lg hT hP',jB hX]
  rfl
 unfold poT
 rw [qV,decide_eq_true hi3,aH,jD hi,aH,ajk hc hd he hg,Bool.and_true,aH]
 match c,hc with
 |0,_=>
  rw [if_neg (by omega)]
  exact hX' p
 |1,_=>
  rw [if_neg (by omega)]
  exact hX' p
 |2,_=>
  obtain ⟨h3,h4⟩:=h2 rfl
  have hL:=agW (m:=m) (x:=x) (y:=y) (z:=z) (h:=h) h20 hd he hg
  have hg:aix X (L5 2 d e i m x y h (ovF g z)) T (psL (jq Ps)) (jq (psL (jq Ps)) i) m m=true:=by
   rw [uD hl]
   unfold aix
   rw [hT,hP,jB hX,hL,rH h3,h4]
   simp
  show Yi X (L5 2 d e i m x y h (ovF g z)) T (jq Ps) (sel (aix X (L5 2 d e i m x y h (ovF g z)) T (psL (jq Ps)) (jq (psL (jq Ps)) i) m m) _ none)=_
  rw [Fv hT hP' (jB hX) hL,hg,aH,if_pos rfl,uD hl]
  exact hX' _
 |c+3,h=>omega
def aoZ (t:Nat)(X:List Value)(l n i:Nat)(T:List Value)(Ps:List (List Value)):bC:=hPo t X l n n n (Fn.tkP T Ps i) (Fn.tkA T i) (Fn.tkB T i) i T (jq Ps)
theorem af7 {t:Nat}{X:List Value}{l n:Nat}{T:List Value}{Ps:List (List Value)}(hl:Ps.length=20)(h:Fn.Sr T Ps n=true)(hX:dV X=true) :
  sPe.N=sPo.N∧∃ R k,R k sPo (hPo t X l n n n 0 0 0 0 T (jq Ps))∧yw Tryz.prog CP1 KX 4 32 (mX CP1 32 2) sPo.N R (.exit 0) sPe (oPe t X l n (Fn.tkP T Ps n) (Fn.tkA T n) (Fn.tkB T n)):=by
 obtain ⟨hT,hP,h1,h2,hC⟩:=wS h
 refine ⟨rfl,fun j sp y=>sp=sPo∧∃ i,i≤n∧j=n-i+1∧y=aoZ t X l n i T Ps,n-0+1,⟨rfl,0,Nat.zero_le _,rfl,rfl⟩,⟨?_⟩⟩
 rintro j sp y ⟨rfl,i,hi,rfl,rfl⟩
 refine ⟨n-i,rfl,sPo,?_⟩
 by_cases hin:i<n
 ·obtain ⟨c,d,e,m,x,y,hh,q,f,R,hc,hd,he,hTe,⟨g,z,hg,hq⟩,hm,hp,e1,e2⟩:=WE (hC i hin)
  subst hq
  have hr:=ao0 (i:=i) (by omega) hc hd he t X l n n n (Fn.tkP T Ps i) (Fn.tkA T i) (Fn.tkB T i) m x y hh (ovF g z) f R (jq Ps)
  unfold poE at hr
  rw [ane hl (by omega) hc hd he hg hin hin (by rw [←hTe];exact hT) hP hX (fun h=>⟨(hm h).1,(hm h).2.1⟩)] at hr
  unfold poR at hr
  rw [←hTe] at hr
  refine ⟨_,rfl,hr,.inl ⟨rfl,rfl,i+1,by omega,by omega,?_⟩⟩
  show hPo t X l n n n _ _ _ _ _ _=aoZ t X l n (i+1) T Ps
  unfold aoZ
  have e3:Fn.tkA T (i+1)=nS (Fn.tkA T i) (acH (Uc T (5*i+3))):=rfl
  have e4:Fn.tkB T (i+1)=nS (Fn.tkB T i) (acH (Uc T (5*i+4))):=rfl
  have e5:Fn.tkP T Ps (i+1)=Gi (jq Ps i) (Fn.tkP T Ps i) (Uc T (5*i+1)):=rfl
  rw [e3,e4,e5,e1,e2,hp]
 ·have:i=n:=by omega
  subst this
  have hr:=aon h1 h2 t X l i i (Fn.tkP T Ps i) (Fn.tkA T i) (Fn.tkB T i) T (jq Ps)
  rw [jB hX] at hr
  unfold peR at hr
  exact ⟨_,rfl,hr,.inr ⟨(fun h=>by cases h),rfl⟩⟩
def gPo (o:bC):LT:=
 fO o.vals fun v c=>qPt 64 v (fO c fun v c=>pSl 32 aA v fun n=>fO c fun v c=>MJ .u64 v fun p=>fO c fun v c=>MJ .i64 v fun a=>fO c fun v c=>MJ .i64 v fun b=>fO c fun v c=>pSl 32 aA v fun n2=>fO c fun v c=>MJ .i64 v fun n3=>
  fO c fun v c=>MJ .i64 v fun i=>Yx c (QB (Nat.beq p 0&&(Nat.beq a 0&&(Nat.beq b 0&&Nat.beq i 0)))
   (fO o.rows fun q1 r=>qTb q1 fun t=>pKr r fun T Ps r=>fO r fun q2 r=>fO r fun q3 r=>qBl q2 q3 fun X l=>Yx r (fF (Fn.Sr T Ps n&&(dV X&&(Nat.beq n n2&&Nat.beq n n3))) (.leaf (.exit 0,sPe,oPe t X l n (Fn.tkP T Ps n) (Fn.tkA T n) (Fn.tkB T n)))))))
theorem afP:∀ o e spe O,(gPo o).run=some (e,spe,O)→spe.N=sPo.N∧∃ R k,R k sPo o∧yw Tryz.prog CP1 KX 4 32 (mX CP1 32 2) sPo.N R e spe O:=by
 rintro ⟨vals,rows⟩ e spe O h
 obtain ⟨v1,c1,hv,z1⟩:=aT h
 obtain ⟨e1,z2⟩:=EZ z1
 obtain ⟨v2,c2,e2,z3⟩:=aT z2
 obtain ⟨n,e3,z4⟩:=mM z3
 obtain ⟨v3,c3,e4,z5⟩:=aT z4
 obtain ⟨p,e5,z6⟩:=eX z5
 obtain ⟨v4,c4,e6,z7⟩:=aT z6
 obtain ⟨a,e7,z8⟩:=eX z7
 obtain ⟨v5,c5,e8,z9⟩:=aT z8
 obtain ⟨b,e9,z10⟩:=eX z9
 obtain ⟨v7,c7,e12,z13⟩:=aT z10
 obtain ⟨n2,e13,z14⟩:=mM z13
 obtain ⟨v8,c8,e14,z15⟩:=aT z14
 obtain ⟨n3,e15,z16⟩:=eX z15
 obtain ⟨v9,c9,e16,z17⟩:=aT z16
 obtain ⟨i,e17,z18⟩:=eX z17
 obtain ⟨e24,z25⟩:=iQ z18
 obtain ⟨h1,z26⟩:=iT z25
 obtain ⟨q1,r1,hr,z27⟩:=aT z26
 obtain ⟨t,e25,z28⟩:=OT z27
 obtain ⟨T,Ps,r2,e26,hl,z29⟩:=xg z28
 obtain ⟨q2,r3,e27,z30⟩:=aT z29
 obtain ⟨q3,r4,e28,z31⟩:=aT z30
 obtain ⟨X,l,e29,e30,z32⟩:=Nq z31
 obtain ⟨e33,z35⟩:=iQ z32
 obtain ⟨hg,z36⟩:=bI z35
 simp only [Bool.and_eq_true] at h1 hg
 obtain ⟨k1,k2,k3,k4⟩:=h1
 have k1:=Nat.eq_of_beq_eq_true k1
 have k2:=Nat.eq_of_beq_eq_true k2
 have k3:=Nat.eq_of_beq_eq_true k3
 have k4:=Nat.eq_of_beq_eq_true k4
 obtain ⟨g1,g2,g3,g4⟩:=hg
 have g3:=Nat.eq_of_beq_eq_true g3
 have g4:=Nat.eq_of_beq_eq_true g4
 have hv:vals=_:=hv
 have hr:rows=_:=hr
 subst e33 e30 e29 e28 e27 e26 e25 e24 e17 e16 e15 e14 e13 e12 e9 e8 e7 e6 e5 e4 e3 e2 e1 k1 k2 k3 k4 g3 g4
 subst hv hr
 cases z36
 exact af7 hl g1 g2
variable [Lo]
def aar:List (Nat × Nat × BU):=(32,2,fun fr s=>sel (al4 (CB.vars 32) 11 fr akR) (vZ Tryz.prog (CB.vars 32) sPo gPo fr s) .fail)::WV
def CP2:Cfg:={ CB with ext:=dJ RH,insert:=dJ YZ,EK:=IB aar }
theorem anL:Nat.beq (aV (uI CP1 32 2)) 1=true:=by kernel_rfl
theorem aby:∀ fn c body,CP2.body fn=some c→PartOf c (.loop body)→nD Tryz.prog CP2 fn body:=by
 refine Fa (L:=aar) rfl fun q hq=>?_
 rcases List.mem_cons.1 hq with rfl|hq
 ·exact fun c body h1 h2 h3=>kJ _ (kH (K:=KX) (C0:=CP1) (m:=4) (by show (6:Nat)≤_;decide) dI bQ aj6 rfl rfl anL rfl afP c body h1 h2 h3)
 ·rcases List.mem_cons.1 hq with rfl|hq
  ·exact fun c body h1 h2 h3=>kJ _ (kH (K:=KM) (C0:=CM7) (m:=4) (by show (6:Nat)≤_;decide) dI bQ VY rfl rfl aj2 rfl ZG c body h1 h2 h3)
  ·cases hq
theorem ak8:dH CP2 Tryz.prog:=MZ (ext:=dJ RH) (ins:=dJ YZ) (lf:=IB aar) rfl (fun f t h=>(BH (C:=CP2)) f t h) vI aby
end
end Go.Ax
namespace Go.Ax
open Go Go.Proofs
noncomputable section
section
variable {R:Type}
theorem TB {zs:List Int}{X:List Value}{n:Nat}{K:List Value→Nat→Option R}(h:iW okI zs=true)(hX:Fn.okB X n=true)(hn:n+22*zs.length≤1000000):okn zs X n K=K (dG X (aK (Fn.nums zs))) (Nat.add n (aV (Fn.nums zs))):=by
 have hl:=nums_length h
 unfold okn Fn.okN
 rw [h,hX,rH (show Nat.add n (aV (Fn.nums zs))≤1000000 by rw [aP];show n+_≤_;omega)]
 rfl
theorem Za {ws:List Nat}{X:List Value}{n:Nat}{K:List Value→Nat→Option R}(h:iW okU ws=true)(hX:Fn.okB X n=true)(hn:n+22*ws.length≤1000000):okw ws X n K=K (dG X (aK (Fn.wds ws))) (Nat.add n (aV (Fn.wds ws))):=by
 have hl:=jF h
 unfold okw Fn.okW
 rw [h,hX,rH (show Nat.add n (aV (Fn.wds ws))≤1000000 by rw [aP];show n+_≤_;omega)]
 rfl
theorem afv {s:List UInt8}{X:List Value}{n:Nat}{K:List Value→Nat→Option R}(hX:Fn.okB X n=true)(hs:Fn.okS s=true):oks s X n K=K (dG X (aK s)) (Nat.add n (aV s)):=by
 unfold oks
 rw [hX,hs]
 rfl
theorem agM {X:List Value}{n:Nat}{K:List UInt8→Option R}(hX:Fn.okB X n=true):fin X n K=K (pX X):=by
 unfold fin
 rw [hX]
 rfl
theorem dZ {a b:List UInt8}{K:List UInt8→Option R}(h:a.length+b.length≤1000000):cat a b K=K (dG a b):=by
 unfold cat
 rw [rH (show Nat.add (aV a) (aV b)≤9223372036854775807 by rw [aP,aP];show a.length+b.length≤9223372036854775807;omega)]
 rfl
theorem nR {z:Int}{K:List UInt8→Option R}(h:okI z=true):Zg z K=K (32::Fn.itoa z):=by
 unfold Zg
 rw [h]
 rfl
theorem lq {w:Nat}{K:List UInt8→Option R}(h:okU w=true):Ia w K=K (32::Fn.dec w):=by
 unfold Ia
 rw [h]
 rfl
theorem AX {zs:List Int}{K:List UInt8→Option R}(h:iW okI zs=true):Xu zs K=K (Fn.nums zs):=by
 unfold Xu
 rw [h]
 rfl
theorem akH {b:Bool}{K:Option R}(h:b=true):lk b K=K:=by
 subst h
 rfl
theorem abH {z:Int}{K:Option R}:lkI z K=K:=by
 unfold lkI
 rw [Bv]
 rfl
end
theorem aco {s:List UInt8}(h1:1≤s.length)(h2:s.length≤1000000):Fn.okB (aK s) (aV s)=true:=by
 unfold Fn.okB
 rw [jl,vH,aP,rH h1,rH h2]
 simp
theorem Vr {n:Nat}(h:n≤9223372036854775807):okI (Int.ofNat n)=true:=rH h
theorem tq {z:Int}(h:okI z=true):iW okI [z]=true:=by show sel (okI z) true false=true;rw [h];rfl
theorem ah4 {y z:Int}(h:okI y=true)(h2:okI z=true):iW okI [y,z]=true:=by show sel (okI y) (iW okI [z]) false=true;rw [h,tq h2];rfl
theorem Yv {z:Nat}(h:okU z=true):iW okU [z]=true:=by show sel (okU z) true false=true;rw [h];rfl
theorem Xh {T:List Value}{Ps:List (List Value)}:∀ n,Fn.tkP T Ps n<18446744073709551616
 |0=>by show 0<_;omega
 |n+1=>by
  have hs:∀ (L:List Value) (m p:Nat),p<18446744073709551616→Fn.sumP L m p<18446744073709551616:=by
   intro L m p hp
   induction m with
   |zero=>exact hp
   |succ m ih=>exact Nat.mod_lt _ (by omega)
  have ih:=Xh (T:=T) (Ps:=Ps) n
  show Gi (jq Ps n) (Fn.tkP T Ps n) (Uc T (5*n+1))<_
  unfold Gi
  split
  ·rename_i a m c hv
   show sel (Nat.beq a.block 63) (Fn.tkP T Ps n) (Fn.sumP (jq Ps n) m (Fn.tkP T Ps n))<_
   cases Nat.beq a.block 63
   ·exact hs _ _ _ ih
   ·exact ih
  ·exact ih
theorem SB {n:Nat}(h:n<9223372036854775808):(Fn.itoa (Int.ofNat n)).length≤20:=(kC n (by omega)).2
def pTi:bZ:={ N:=64,need:=[],low:=afb,keep:=[],new:=[] }
def mTi:xZ:={ pre:=pTi,ends:=[spZ] }
namespace Fn
def tkS (T:List Value)(Ps:List (List Value))(n:Nat):List UInt8:=dG (dG (32::itoa (Int.ofNat n)) (32::dec (tkP T Ps n))) (nums [tkA T n,tkB T n])
def tkW (T:List Value)(Ps:List (List Value))(n:Nat):List UInt8:=dG (nums [Int.ofNat n]) (dG (wds [tkP T Ps n]) (nums [tkA T n,tkB T n]))
end Fn
theorem abj (T:List Value)(Ps:List (List Value))(n:Nat):Fn.tkS T Ps n=Fn.tkW T Ps n:=by
 unfold Fn.tkS Fn.tkW
 have e1:Fn.nums [Int.ofNat n]=32::Fn.itoa (Int.ofNat n):=by
  show 32::dG (Fn.itoa (Int.ofNat n)) []=_
  rw [aX,List.append_nil]
 have e2:Fn.wds [Fn.tkP T Ps n]=32::Fn.dec (Fn.tkP T Ps n):=by
  show 32::dG (Fn.dec (Fn.tkP T Ps n)) []=_
  rw [aX,List.append_nil]
 rw [e1,e2]
 simp only [aX,List.append_assoc]
abbrev tiR (n:Nat)(T:List Value)(P:Nat→List Value):Option (Nat × bC):=(runK KM CR2 8).1 21 [Ko n] (uT mTi.pre.next ⟨[Ko n],TL T P⟩) (fun r=>(eF Tryz.prog mTi.ends 0 r).xQ some)
def tiT (n p:Nat)(a b:Int):Option (Nat × bC):=Zg (Int.ofNat n) fun s1=>Ia p fun s2=>cat s1 s2 fun s3=>Xu [a,b] fun s4=>cat s3 s4 fun s=>some (0,⟨[str s],[]⟩)
theorem afT (n:Nat)(T:List Value)(P:Nat→List Value):tiR n T P=y7 T P (sel (Fn.Sr T (psL P) n) (tiT n (Fn.tkP T (psL P) n) (Fn.tkA T n) (Fn.tkB T n)) none):=by kernel_rfl
theorem ai1 {n:Nat}{T:List Value}{Ps:List (List Value)}(hl:Ps.length=20)(h:Fn.Sr T Ps n=true):tiR n T (jq Ps)=some (0,⟨[str (Fn.tkS T Ps n)],[]⟩):=by
 obtain ⟨hT,hP,h1,h2,hC⟩:=wS h
 have hp:=Xh (T:=T) (Ps:=Ps) n
 have l1:=SB (n:=n) (by omega)
 have l2:=(kC (Fn.tkP T Ps n) hp).2
 have hall:=ah4 (aaj T n) (abq T n)
 have l3:=nums_length hall
 rw [afT,lg hT (jA hP),uD hl,h,aH]
 unfold tiT
 rw [nR (Vr (by omega)),lq (rH (by omega)),dZ (by rw [List.length_cons,List.length_cons];omega),AX hall,dZ (by rw [aX,List.length_append,List.length_cons,List.length_cons];simp only [List.length_cons,List.length_nil] at l3;omega)]
 rfl
def gTi (o:bC):MT:=fO o.vals fun v l=>pSl 32 aA v fun n=>Yx l (pKr o.rows fun T Ps t=>Yx t (fF (Fn.Sr T Ps n) (.leaf (0,⟨[str (Fn.tkS T Ps n)],[]⟩))))
theorem abE:∀ (rows:List (Nat × Row)) (fl:List Bool),(∀ b∈fl,b=true)→rG rows fl
 |[],_,_=>trivial
 |p::rows,[],_=>⟨trivial,abE rows [] (fun b h=>by cases h)⟩
 |p::rows,b::fl,h=>⟨fun e=>absurd (h b List.mem_cons_self) (by rw [e];decide),abE rows fl fun b hb=>h b (List.mem_cons_of_mem _ hb)⟩
theorem ajd:kZ Tryz.prog CR2 8 21 mTi gTi:=by
 rintro ⟨vals,rows⟩ q h
 obtain ⟨v1,c1,hv,z1⟩:=aT h
 obtain ⟨n,e1,z2⟩:=mM z1
 obtain ⟨e2,z3⟩:=iQ z2
 obtain ⟨T,Ps,t,hr,hl,z4⟩:=xg z3
 obtain ⟨e3,z5⟩:=iQ z4
 obtain ⟨hg,z6⟩:=bI z5
 have hv:vals=_:=hv
 have hr:rows=_:=hr
 subst e3 e2 e1
 rw [List.append_nil] at hr
 subst hv hr
 cases z6
 refine ⟨abE _ _ (by decide),fun spe h=>?_,?_⟩
 ·have h:some spZ=some spe:=h
  cases h
  exact trivial
 ·exact jX (K:=KM) (by show (6:Nat)≤_;decide) dI bQ (ai1 hl hg)
def pTo:bZ:={ N:=64,need:=[],low:=0::afb,keep:=[],new:=[⟨.var 0 0,false,true⟩,⟨.row 0 1,true,false⟩] }
def mTo:xZ:={ pre:=pTo,ends:=[eW1] }
abbrev toR (t:Nat)(X:List Value)(l n:Nat)(T:List Value)(P:Nat→List Value):Option (Nat × bC):=(runK KM CP2 8).1 32 [kP,Ko n] (uT mTo.pre.next ⟨[kP,Ko n],akJ t X l T P⟩) (fun r=>(eF Tryz.prog mTo.ends 0 r).xQ some)
def toT (X:List Value)(l n p:Nat)(a b:Int):Option (Nat × bC):=okn [Int.ofNat n] X l fun X l=>okw [p] X l fun X l=>okn [a,b] X l fun X l=>some (0,⟨[],uw 66 X l⟩)
theorem agu (t:Nat)(X:List Value)(l n:Nat)(T:List Value)(P:Nat→List Value):toR t X l n T P=y7 T P (sel (bH 66 X) (sel (Fn.Sr T (psL P) n&&(dV X&&(Nat.beq n n&&Nat.beq n n))) (toT X l n (Fn.tkP T (psL P) n) (Fn.tkA T n) (Fn.tkB T n)) none) none):=by kernel_rfl
theorem akY {t:Nat}{X:List Value}{l n:Nat}{T:List Value}{Ps:List (List Value)}(hl:Ps.length=20)(h:Fn.Sr T Ps n=true)(hX:Fn.okB X l=true)(h9:l≤900000) :
  toR t X l n T (jq Ps)=some (0,⟨[],uw 66 (dG X (aK (Fn.tkW T Ps n))) (Nat.add l (aV (Fn.tkW T Ps n)))⟩):=by
 obtain ⟨hT,hP,h1,h2,hC⟩:=wS h
 have hp:=Xh (T:=T) (Ps:=Ps) n
 have q1:=(jc hX).1
 have hn:=tq (Vr (n:=n) (by omega))
 have hu:=Yv (z:=Fn.tkP T Ps n) (rH (by omega))
 have hall:=ah4 (aaj T n) (abq T n)
 have l1:=nums_length hn
 have l2:=jF hu
 have l3:=nums_length hall
 simp only [List.length_cons,List.length_nil] at l1 l2 l3
 have x1:=UU (s:=Fn.nums [Int.ofNat n]) hX (by omega)
 have e1:Nat.add l (aV (Fn.nums [Int.ofNat n]))=l+(Fn.nums [Int.ofNat n]).length:=by rw [aP];rfl
 have x2:=UU (s:=Fn.wds [Fn.tkP T Ps n]) x1 (by rw [e1];omega)
 have e2:Nat.add (Nat.add l (aV (Fn.nums [Int.ofNat n]))) (aV (Fn.wds [Fn.tkP T Ps n]))=l+(Fn.nums [Int.ofNat n]).length+(Fn.wds [Fn.tkP T Ps n]).length:=by rw [e1,aP];rfl
 rw [agu,lg hT (jA hP),uD hl,h,jB q1,q1,aH]
 rw [show (true&&(true&&(Nat.beq n n&&Nat.beq n n)))=true by simp,aH]
 unfold toT
 rw [TB hn hX (by simp only [List.length_cons,List.length_nil];omega),Za hu x1 (by rw [e1];simp only [List.length_cons,List.length_nil];omega),TB hall x2 (by rw [e2];simp only [List.length_cons,List.length_nil];omega)]
 have ex:dG (dG (dG X (aK (Fn.nums [Int.ofNat n]))) (aK (Fn.wds [Fn.tkP T Ps n]))) (aK (Fn.nums [Fn.tkA T n,Fn.tkB T n]))=dG X (aK (Fn.tkW T Ps n)):=by
  unfold Fn.tkW
  simp only [aX,←qw,List.append_assoc]
 have el:Nat.add (Nat.add (Nat.add l (aV (Fn.nums [Int.ofNat n]))) (aV (Fn.wds [Fn.tkP T Ps n]))) (aV (Fn.nums [Fn.tkA T n,Fn.tkB T n]))=Nat.add l (aV (Fn.tkW T Ps n)):=by
  unfold Fn.tkW
  rw [e2]
  simp only [aP,aX,List.length_append]
  show l+_+_+_=l+_
  omega
 rw [ex,el]
def gTo (o:bC):MT:=pL2 o.vals fun p v=>pPt 64 p (pSl 32 aA v fun n=>fO o.rows fun q1 r=>qTb q1 fun t=>pKr r fun T Ps r=>fO r fun q2 r=>fO r fun q3 r=>qBl q2 q3 fun X l=>Yx r (fF (Fn.Sr T Ps n&&(Fn.okB X l&&Nat.ble l 900000))
 (.leaf (0,⟨[],uw 66 (dG X (aK (Fn.tkW T Ps n))) (Nat.add l (aV (Fn.tkW T Ps n)))⟩))))
theorem SS:∀ (a b:List (Nat × Row)) (fa fb:List Bool),a.length=fa.length→(∀ b∈fa,b=true)→rG b fb→rG (a++b) (fa++fb)
 |[],b,[],fb,_,_,h=>h
 |p::a,b,x::fa,fb,hl,ht,h=>⟨fun e=>absurd (ht x List.mem_cons_self) (by rw [e];decide),SS a b fa fb (by simpa using hl) (fun b hb=>ht b (List.mem_cons_of_mem _ hb)) h⟩
theorem ajs:kZ Tryz.prog CP2 8 32 mTo gTo:=by
 rintro ⟨vals,rows⟩ q h
 obtain ⟨p,v,hv,z1⟩:=tY h
 obtain ⟨e1,z2⟩:=tC z1
 obtain ⟨n,e2,z3⟩:=mM z2
 obtain ⟨q1,r1,hr,z4⟩:=aT z3
 obtain ⟨t,e3,z5⟩:=OT z4
 obtain ⟨T,Ps,r2,e4,hl,z6⟩:=xg z5
 obtain ⟨q2,r3,e5,z7⟩:=aT z6
 obtain ⟨q3,r4,e6,z8⟩:=aT z7
 obtain ⟨X,l,e7,e8,z9⟩:=Nq z8
 obtain ⟨e9,z10⟩:=iQ z9
 obtain ⟨hg,z11⟩:=bI z10
 simp only [Bool.and_eq_true] at hg
 obtain ⟨g1,g2,g3⟩:=hg
 have g3:=Nat.le_of_ble_eq_true g3
 have hv:vals=_:=hv
 have hr:rows=_:=hr
 subst e9 e8 e7 e6 e5 e4 e3 e2 e1
 subst hv hr
 cases z11
 refine ⟨?_,fun spe h=>?_,?_⟩
 ·exact SS ((0,.row (Qz 20) t 0)::TL T (jq Ps)) _ (true::qB (fun _=>true) afb) [true,false] rfl (by decide) (aeD (i:=65) (n:=l) (jc g2).1 (sp:=eW1) rfl)
 ·have h:some eW1=some spe:=h
  cases h
  exact aeD (lV (jc g2).1 (jl _)) rfl
 ·exact jX (K:=KM) (by show (6:Nat)≤_;decide) dI bQ (akY hl g1 g2 g3)
variable [Lo]
def apn:List (Nat × Con):=(21,.tree (oI Tryz.prog [(mTi,gTi)]))::(32,.tree (oI Tryz.prog [(mTo,gTo)]))::YZ
theorem afC {C:Cfg}:fJ Tryz.prog C apn:=fJ.oI (D9 ajX ajd) (fJ.oI (D9 ak8 ajs) BH)
end
end Go.Ax
namespace Go.Ax
open Go Go.Proofs
noncomputable section
section
variable [Lo]
def ang:List (Nat × Con):=(4,.closed Gs)::apn
def CZ:Cfg:={ CB with ext:=dJ RH,insert:=dJ ang }
end
abbrev dD (r:Value)(t0 t1:Nat):OB:=(runK KM CZ 12).1 3 [r] (He (lI []) (gl t0 t1)) yes
def tw (n:Nat)(X:OB):OB:=sel (ltI 20 (Int.ofNat n)) (some true) X
def lkR (r:Value)(K:OB):OB:=lk (jG 4 r r) K
def lkB (l:List Bool):Bool:=List.rec true (fun b _ ih=>sel (false||(true&&(true&&b))) ih false) l
def lkL (l:List Bool)(K:OB):OB:=sel (lkB l&&true) K none
def qI (z:Int):Bool:=eqI z z
def qU (n:Nat):Bool:=eqI (Int.ofNat n) (Int.ofNat n)
def caT (iz:Nat→Int)(r:Value)(E:Int):OB:=okn [E] (aK sErr) 5 fun X n=>oks sAt X n fun X n=>okn [iz 1] X n fun X n=>fin X n fun S=>lkR r <| Zg E fun a=>lkI (iz 1) <| cat sErr a fun b=>cat b sAt fun c=>Zg (iz 1) fun d=>cat c d fun s=>eqK S s
def cbT (S:List UInt8)(r:Value)(E:Int):OB:=okn [E] (aK S) (aV S) fun X n=>fin X n fun A=>lkR r <| lkI E <| Zg E fun a=>cat S a fun s=>eqK A s
def plT (r:Value):OB:=lkR r (some true)
def crT (S:List UInt8)(iz:Nat→Int)(un:Nat→Nat)(r:Value):OB:=okn [iz 3] (aK S) (aV S) fun X n=>okw [un 4] X n fun X n=>fin X n fun A=>lkR r <| Zg (iz 3) fun a=>lkL [qU (un 4)] <| cat S a fun b=>Ia (un 4) fun c=>cat b c fun s=>eqK A s
def wdT (S:List UInt8)(w:Nat)(r:Value):OB:=okw [w] (aK S) (aV S) fun X n=>fin X n fun A=>lkR r <| Ia w fun c=>cat S c fun s=>eqK A s
def rdT (S:List UInt8)(iz:Nat→Int)(un:Nat→Nat)(r:Value):OB:=okn [iz 6,iz 7,iz 8,iz 9] (aK S) (aV S) fun X n=>okw [un 10,un 11] X n fun X n=>fin X n fun A=>lkR r <| Xu [iz 6,iz 7,iz 8,iz 9] fun a=>lkL [qU (un 11),qU (un 10)] <| cat S a fun b=>
 Ia (un 10) fun c=>lkL [qU (un 11)] <| cat b c fun d=>Ia (un 11) fun e=>cat d e fun s=>eqK A s
def al3 (iz:Nat→Int)(un:Nat→Nat)(K:List UInt8→OB):OB:=Xu [iz 87,iz 88,iz 89] fun a=>lkL [qI (iz 102),qI (iz 101),qU (un 100),qU (un 97),qU (un 96),qU (un 92)] <| Ia (un 92) fun b=>lkL [qI (iz 102),qI (iz 101),qU (un 100),qU (un 97),qU (un 96)] <| cat a b fun c=>
 Ia (un 96) fun d=>lkL [qI (iz 102),qI (iz 101),qU (un 100),qU (un 97)] <| cat c d fun e=>Ia (un 97) fun f=>lkL [qI (iz 102),qI (iz 101),qU (un 100)] <| cat e f fun g=>Ia (un 100) fun h=>lkL [qI (iz 102),qI (iz 101)] <| cat g h fun i=>Xu [iz 101,iz 102] fun j=>cat i j K
def al5 (iz:Nat→Int)(un:Nat→Nat)(X:List Value)(n:Nat)(K:List Value→Nat→OB):OB:=okn [iz 87,iz 88,iz 89] X n fun X n=>okw [un 92,un 96,un 97,un 100] X n fun X n=>okn [iz 101,iz 102] X n K
def evT (S:List UInt8)(iz:Nat→Int)(un:Nat→Nat)(r:Value):OB:=al5 iz un (aK S) (aV S) fun X n=>fin X n fun A=>lkR r <| al3 iz un fun a=>cat S a fun s=>eqK A s
def flT (S:List UInt8)(f:Int)(r:Value):OB:=okn [f] (aK S) (aV S) fun X n=>fin X n fun A=>lkR r <| Zg f fun a=>cat S a fun s=>eqK A s
def sEr:List UInt8:=[32,101,114,114,111,114]
def seT (S F SF:List UInt8)(iz:Nat→Int)(r:Value)(E:Int):OB:=okn [iz 85] (aK SF) (aV SF) fun X n=>oks sEr X n fun X n=>okn [E] X n fun X n=>fin X n fun A=>lkR r <| Zg (iz 85) fun a=>cat F a fun b=>cat b sEr fun c=>Zg E fun d=>cat c d fun e=>cat S e fun s=>eqK A s
def snT (S F SF:List UInt8)(iz:Nat→Int)(un:Nat→Nat)(r:Value):OB:=okn [iz 85] (aK SF) (aV SF) fun X n=>al5 iz un X n fun X n=>fin X n fun A=>lkR r <| Zg (iz 85) fun a=>cat F a fun b=>al3 iz un fun c=>cat b c fun d=>cat S d fun s=>eqK A s
end
end Go.Ax
namespace Go.Ax
open Go Go.Proofs
noncomputable section
def acr (T:List Value)(P:Nat→List Value):List (List Value × TypeId):=(T,tTk)::Nat.rec (motive:=fun _=>Nat→List (List Value × TypeId)) (fun _=>[]) (fun _ ih i=>(P i,tEn)::ih (Nat.succ i)) 20 0
abbrev ard (r:Value)(T:List Value)(P:Nat→List Value)(t0 t1:Nat):OB:=(runK KM CZ 12).1 3 [r] (He (lI (acr T P)) (gl t0 t1)) yes
def sTk:List UInt8:=[116,105,99,107,32,111,107]
def tkL (n:Nat)(r:Value)(T:List Value)(P:Nat→List Value):OB:=
 y7 T P (sel (Fn.Sr T (psL P) n&&(Fn.okB (aK sTk) 7&&Nat.ble 7 900000)) (fin (dG (aK sTk) (aK (Fn.tkW T (psL P) n))) (Nat.add 7 (aV (Fn.tkW T (psL P) n))) fun A=>lkR r <| y7 T P (sel (Fn.Sr T (psL P) n) (cat sTk (Fn.tkS T (psL P) n) fun s=>eqK A s) none)) none)
theorem amr (iz:Nat→Int)(un:Nat→Nat)(fl sl:Int)(v1 v2:Value)(t0 t1:Nat):dD (resp iz un 0 11 fl sl (.slice none 0 0) v1 v2) t0 t1=plT (resp iz un 0 11 fl sl (.slice none 0 0) v1 v2):=by kernel_rfl
theorem an3 (iz:Nat→Int)(un:Nat→Nat)(fl sl:Int)(v1 v2:Value)(t0 t1:Nat):dD (resp iz un 0 11 fl sl (.float .f64 0) v1 v2) t0 t1=plT (resp iz un 0 11 fl sl (.float .f64 0) v1 v2):=by kernel_rfl
theorem an1 (n:Nat)(iz:Nat→Int)(un:Nat→Nat)(fl sl:Int)(v1 v2:Value)(T:List Value)(P:Nat→List Value)(t0 t1:Nat):ard (resp iz un 0 11 fl sl (Ko n) v1 v2) T P t0 t1=tw n (tkL n (resp iz un 0 11 fl sl (Ko n) v1 v2) T P):=by kernel_rfl
theorem SL:∀ l:List UInt8,qY l l=true:=by
 intro l
 induction l with
 |nil=>rfl
 |cons a l ih=>
  show sel (Nat.beq a.toNat a.toNat) (qY l l) false=true
  rw [show Nat.beq a.toNat a.toNat=true by simp,ih]
  rfl
theorem qN {a b:List UInt8}(h:a=b):eqK a b=some true:=by
 subst h
 unfold eqK
 rw [SL]
 rfl
section
variable {R:Type}
theorem ac2 {L:List UInt8}(h1:1≤L.length)(h2:L.length≤1000000):Fn.okB (aK L) (aV L)=true:=aco h1 h2
theorem aew (L s:List UInt8):dG (aK L) (aK s)=aK (L++s):=qw L s
theorem acs (L s:List UInt8):Nat.add (aV L) (aV s)=aV (L++s):=by rw [aP,aP,aP,List.length_append];rfl
theorem I7 {zs:List Int}{L:List UInt8}{K:List Value→Nat→Option R}(h:iW okI zs=true)(h1:1≤L.length)(h2:L.length≤10000)(h4:zs.length≤4):okn zs (aK L) (aV L) K=K (aK (L++Fn.nums zs)) (aV (L++Fn.nums zs)):=by
 rw [TB h (ac2 h1 (by omega)) (by rw [aP];omega),aew,acs]
theorem aec {ws:List Nat}{L:List UInt8}{K:List Value→Nat→Option R}(h:iW okU ws=true)(h1:1≤L.length)(h2:L.length≤10000)(h4:ws.length≤4):okw ws (aK L) (aV L) K=K (aK (L++Fn.wds ws)) (aV (L++Fn.wds ws)):=by
 rw [Za h (ac2 h1 (by omega)) (by rw [aP];omega),aew,acs]
theorem akj {s L:List UInt8}{K:List Value→Nat→Option R}(hs:Fn.okS s=true)(h1:1≤L.length)(h2:L.length≤10000):oks s (aK L) (aV L) K=K (aK (L++s)) (aV (L++s)):=by
 rw [afv (ac2 h1 (by omega)) hs,aew,acs]
theorem Jt {L:List UInt8}{K:List UInt8→Option R}(h1:1≤L.length)(h2:L.length≤10000):fin (aK L) (aV L) K=K L:=by
 rw [agM (ac2 h1 (by omega)),G7]
end
theorem wJ {l:List Bool}{K:OB}(h:∀ b∈l,b=true):lkL l K=K:=by
 have key:∀ l:List Bool,(∀ b∈l,b=true)→lkB l=true:=by
  intro l
  induction l with
  |nil=>intro _;rfl
  |cons b l ih=>
   intro h
   have hb:=h b List.mem_cons_self
   subst hb
   exact ih fun b hb=>h b (List.mem_cons_of_mem _ hb)
 unfold lkL
 rw [key l h]
 rfl
theorem FT (z:Int):qI z=true:=Bv z
theorem vw (n:Nat):qU n=true:=Bv _
structure Fine (iz:Nat→Int) (un:Nat→Nat):Prop where
 i:∀ j,okI (iz j)=true
 u:∀ j,okU (un j)=true
theorem allI {zs:List Int}(h:∀ z∈zs,okI z=true):iW okI zs=true:=by
 induction zs with
 |nil=>rfl
 |cons z zs ih=>
  show sel (okI z) (iW okI zs) false=true
  rw [h z List.mem_cons_self,ih fun z hz=>h z (List.mem_cons_of_mem _ hz)]
  rfl
theorem aoG {zs:List Nat}(h:∀ z∈zs,okU z=true):iW okU zs=true:=by
 induction zs with
 |nil=>rfl
 |cons z zs ih=>
  show sel (okU z) (iW okU zs) false=true
  rw [h z List.mem_cons_self,ih fun z hz=>h z (List.mem_cons_of_mem _ hz)]
  rfl
theorem jL {zs:List Int}(h:iW okI zs=true):(Fn.nums zs).length≤22*zs.length:=nums_length h
theorem oU (z:Int)(zs:List Int):Fn.nums (z::zs)=32::(Fn.itoa z++Fn.nums zs):=by
 show 32::dG (Fn.itoa z) (Fn.nums zs)=_
 rw [aX]
theorem Fg (z:Nat)(zs:List Nat):Fn.wds (z::zs)=32::(Fn.dec z++Fn.wds zs):=by
 show 32::dG (Fn.dec z) (Fn.wds zs)=_
 rw [aX]
theorem sU:Fn.nums []=[]:=rfl
theorem OX:Fn.wds []=[]:=rfl
section
variable {iz:Nat→Int} {un:Nat→Nat} (hF:Fine iz un) {r:Value} (hr:jG 4 r r=true)
include hr
theorem oP {K:OB}:lkR r K=K:=akH hr
theorem fE:plT r=some true:=oP hr
include hF
theorem EN {E:Int}(hE:okI E=true):caT iz r E=some true:=by
 have l1:=jL (tq hE)
 have l2:=jL (tq (hF.i 1))
 have l3:=(jy hE).2
 have l4:=(jy (hF.i 1)).2
 simp only [List.length_cons,List.length_nil] at l1 l2
 unfold caT
 show okn [E] (aK sErr) (aV sErr) _=_
 rw [I7 (tq hE) (by decide) (by decide) (by simp),akj (by decide) (by simp [sErr]) (by simp [sErr];omega),I7 (tq (hF.i 1)) (by simp [sErr]) (by simp [sErr,sAt];omega) (by simp),Jt (by simp [sErr]) (by simp [sErr,sAt];omega),oP hr,nR hE,abH,
  dZ (by simp [sErr];omega),dZ (by simp [sErr,sAt,aX];omega),nR (hF.i 1),dZ (by simp [sErr,sAt,aX];omega)]
 exact qN (by simp [aX,oU,sU,List.append_assoc])
variable {S:List UInt8} (h1:1≤S.length) (h2:S.length≤100)
include h1 h2
omit hF in
theorem bf {E:Int}(hE:okI E=true):cbT S r E=some true:=by
 have l1:=jL (tq hE)
 have l3:=(jy hE).2
 simp only [List.length_cons,List.length_nil] at l1
 unfold cbT
 rw [I7 (tq hE) h1 (by omega) (by simp),Jt (by simp;omega) (by simp;omega),oP hr,abH,nR hE,dZ (by simp;omega)]
 exact qN (by simp [aX,oU,sU,List.append_assoc])
omit hF in
theorem qm {E:Int}(hE:okI E=true):flT S E r=some true:=by
 have l1:=jL (tq hE)
 have l3:=(jy hE).2
 simp only [List.length_cons,List.length_nil] at l1
 unfold flT
 rw [I7 (tq hE) h1 (by omega) (by simp),Jt (by simp;omega) (by simp;omega),oP hr,nR hE,dZ (by simp;omega)]
 exact qN (by simp [aX,oU,sU,List.append_assoc])
omit hF in
theorem wZ {w:Nat}(hw:okU w=true):wdT S w r=some true:=by
 have l1:=jF (Yv hw)
 have l3:=(kC w (by have:=Nat.le_of_ble_eq_true hw;omega)).2
 simp only [List.length_cons,List.length_nil] at l1
 unfold wdT
 rw [aec (Yv hw) h1 (by omega) (by simp),Jt (by simp;omega) (by simp;omega),oP hr,lq hw,dZ (by simp;omega)]
 exact qN (by simp [aX,Fg,OX,List.append_assoc])
omit h1 h2 hr in
theorem I5 (j:Nat):(Fn.dec (un j)).length≤20:=(kC (un j) (by have:=Nat.le_of_ble_eq_true (hF.u j);omega)).2
omit h1 h2 hr in
theorem TF (j:Nat):(Fn.itoa (iz j)).length≤21:=(jy (hF.i j)).2
theorem WZ:crT S iz un r=some true:=by
 have l1:=jL (tq (hF.i 3))
 have l2:=jF (Yv (hF.u 4))
 have l3:=TF hF 3
 have l4:=I5 hF 4
 simp only [List.length_cons,List.length_nil] at l1 l2
 unfold crT
 rw [I7 (tq (hF.i 3)) h1 (by omega) (by simp),aec (Yv (hF.u 4)) (by simp;omega) (by simp;omega) (by simp),Jt (by simp;omega) (by simp;omega),oP hr,nR (hF.i 3),wJ (by simp [vw]),dZ (by simp;omega),lq (hF.u 4),dZ (by simp [aX];omega)]
 exact qN (by simp [aX,oU,sU,Fg,OX,List.append_assoc])
theorem VN:rdT S iz un r=some true:=by
 have a4:iW okI [iz 6,iz 7,iz 8,iz 9]=true:=allI (by simp [hF.i])
 have a2:iW okU [un 10,un 11]=true:=aoG (by simp [hF.u])
 have l1:=jL a4
 have l2:=jF a2
 have l4:=I5 hF 10
 have l5:=I5 hF 11
 simp only [List.length_cons,List.length_nil] at l1 l2
 unfold rdT
 rw [I7 a4 h1 (by omega) (by simp),aec a2 (by simp;omega) (by simp;omega) (by simp),Jt (by simp;omega) (by simp;omega),oP hr,AX a4,wJ (by simp [vw]),dZ (by omega),lq (hF.u 10),wJ (by simp [vw]),dZ (by simp [aX];omega),lq (hF.u 11),dZ (by simp [aX];omega)]
 exact qN (by simp [aX,oU,sU,Fg,OX,List.append_assoc])
omit h1 h2 hr in
def ahX (iz:Nat→Int)(un:Nat→Nat):List UInt8:=Fn.nums [iz 87,iz 88,iz 89]++(Fn.wds [un 92,un 96,un 97,un 100]++Fn.nums [iz 101,iz 102])
omit h1 h2 hr in
theorem Zv:(ahX iz un).length≤200:=by
 have a3:iW okI [iz 87,iz 88,iz 89]=true:=allI (by simp [hF.i])
 have a4:iW okU [un 92,un 96,un 97,un 100]=true:=aoG (by simp [hF.u])
 have a2:iW okI [iz 101,iz 102]=true:=allI (by simp [hF.i])
 have l1:=jL a3
 have l2:=jF a4
 have l3:=jL a2
 simp only [List.length_cons,List.length_nil] at l1 l2 l3
 unfold ahX
 simp only [List.length_append]
 omega
omit h1 h2 hr in
theorem WX {L:List UInt8}{K:List Value→Nat→OB}(g1:1≤L.length)(g2:L.length≤5000):al5 iz un (aK L) (aV L) K=K (aK (L++ahX iz un)) (aV (L++ahX iz un)):=by
 have a3:iW okI [iz 87,iz 88,iz 89]=true:=allI (by simp [hF.i])
 have a4:iW okU [un 92,un 96,un 97,un 100]=true:=aoG (by simp [hF.u])
 have a2:iW okI [iz 101,iz 102]=true:=allI (by simp [hF.i])
 have l1:=jL a3
 have l2:=jF a4
 simp only [List.length_cons,List.length_nil] at l1 l2
 unfold al5 ahX
 rw [I7 a3 g1 (by omega) (by simp),aec a4 (by simp;omega) (by simp;omega) (by simp),I7 a2 (by simp;omega) (by simp;omega) (by simp)]
 simp only [List.append_assoc]
omit h1 h2 hr in
theorem Vx {K:List UInt8→OB}:al3 iz un K=K (ahX iz un):=by
 have a3:iW okI [iz 87,iz 88,iz 89]=true:=allI (by simp [hF.i])
 have a2:iW okI [iz 101,iz 102]=true:=allI (by simp [hF.i])
 have l1:=jL a3
 have l2:=jL a2
 have d1:=I5 hF 92
 have d2:=I5 hF 96
 have d3:=I5 hF 97
 have d4:=I5 hF 100
 simp only [List.length_cons,List.length_nil] at l1 l2
 unfold al3
 rw [AX a3,wJ (by simp [vw,FT]),lq (hF.u 92),wJ (by simp [vw,FT]),dZ (by simp;omega),lq (hF.u 96),wJ (by simp [vw,FT]),dZ (by simp [aX];omega),lq (hF.u 97),wJ (by simp [vw,FT]),dZ (by simp [aX];omega),
  lq (hF.u 100),wJ (by simp [vw,FT]),dZ (by simp [aX];omega),AX a2,dZ (by simp [aX];omega)]
 congr 1
 unfold ahX
 simp [aX,Fg,OX,List.append_assoc]
theorem VF:evT S iz un r=some true:=by
 have l1:=Zv hF
 unfold evT
 rw [WX hF h1 (by omega),Jt (by simp;omega) (by simp;omega),oP hr,Vx hF,dZ (by omega)]
 exact qN (by rw [aX])
variable {F SF:List UInt8} (hS:SF=S++F) (h3:F.length≤100)
include hS h3
theorem dP {E:Int}(hE:okI E=true):seT S F SF iz r E=some true:=by
 subst hS
 have l1:=jL (tq (hF.i 85))
 have l2:=jL (tq hE)
 have l3:=TF hF 85
 have l4:=(jy hE).2
 simp only [List.length_cons,List.length_nil] at l1 l2
 have le:sEr.length=6:=rfl
 unfold seT
 rw [I7 (tq (hF.i 85)) (by simp;omega) (by simp;omega) (by simp),akj (by decide) (by simp;omega) (by simp;omega),I7 (tq hE) (by simp;omega) (by simp;omega) (by simp),Jt (by simp;omega) (by simp;omega),oP hr,nR (hF.i 85),dZ (by simp;omega),
  dZ (by simp [aX];omega),nR hE,dZ (by simp [aX];omega),dZ (by simp [aX];omega)]
 exact qN (by simp [aX,oU,sU,List.append_assoc])
theorem jS:snT S F SF iz un r=some true:=by
 subst hS
 have l0:=Zv hF
 have l1:=jL (tq (hF.i 85))
 have l3:=TF hF 85
 simp only [List.length_cons,List.length_nil] at l1
 unfold snT
 rw [I7 (tq (hF.i 85)) (by simp;omega) (by simp;omega) (by simp),WX hF (by simp;omega) (by simp;omega),Jt (by simp;omega) (by simp;omega),oP hr,nR (hF.i 85),dZ (by simp;omega),Vx hF,dZ (by simp [aX];omega),dZ (by simp [aX];omega)]
 exact qN (by simp [aX,oU,sU,List.append_assoc])
end
theorem adn {n:Nat}{r:Value}{T:List Value}{Ps:List (List Value)}(hr:jG 4 r r=true)(hl:Ps.length=20)(h:Fn.Sr T Ps n=true):tkL n r T (jq Ps)=some true:=by
 obtain ⟨hT,hP,h1,h2,hC⟩:=wS h
 have hp:=Xh (T:=T) (Ps:=Ps) n
 have b1:=jL (tq (Vr (n:=n) (by omega)))
 have b2:=jF (Yv (z:=Fn.tkP T Ps n) (rH (by omega)))
 have b3:=jL (ah4 (aaj T n) (abq T n))
 simp only [List.length_cons,List.length_nil] at b1 b2 b3
 have lw:(Fn.tkW T Ps n).length≤100:=by
  unfold Fn.tkW
  simp only [aX,List.length_append]
  omega
 have e7:(7:Nat)=aV sTk:=rfl
 unfold tkL
 rw [lg hT (jA hP),uD hl,h]
 rw [show (true&&(Fn.okB (aK sTk) 7&&Nat.ble 7 900000))=true by decide,aH,aew,e7,acs,Jt (by simp [sTk]) (by simp [sTk];omega),oP hr,lg hT (jA hP),aH,dZ (by rw [abj];simp [sTk];omega)]
 exact qN (by rw [abj,aX])
theorem aZ {n:Nat}{X:OB}(h:X=some true):tw n X=some true:=by
 subst h
 unfold tw
 cases ltI 20 (Int.ofNat n) <;> rfl
end
end Go.Ax
namespace Go.Ax
open Go Go.Proofs
noncomputable section
theorem amO (n:Nat)(iz:Nat→Int)(un:Nat→Nat)(e:Nat)(fl sl:Int)(v1 v2:Value)(t0 t1:Nat):dD (resp iz un (Int.ofNat (Nat.succ e)) 0 fl sl (.slice none 0 0) v1 v2) t0 t1=caT iz (resp iz un (Int.ofNat (Nat.succ e)) 0 fl sl (.slice none 0 0) v1 v2) (Int.ofNat (Nat.succ e)):=by kernel_rfl
theorem ani (n:Nat)(iz:Nat→Int)(un:Nat→Nat)(e:Nat)(fl sl:Int)(v1 v2:Value)(t0 t1:Nat):dD (resp iz un (Int.ofNat (Nat.succ e)) 0 fl sl (.float .f64 n) v1 v2) t0 t1=tw n (caT iz (resp iz un (Int.ofNat (Nat.succ e)) 0 fl sl (.float .f64 n) v1 v2) (Int.ofNat (Nat.succ e))):=by kernel_rfl
theorem aoR (n:Nat)(iz:Nat→Int)(un:Nat→Nat)(e:Nat)(fl sl:Int)(v1 v2:Value)(t0 t1:Nat):dD (resp iz un (Int.negSucc e) 0 fl sl (.slice none 0 0) v1 v2) t0 t1=caT iz (resp iz un (Int.negSucc e) 0 fl sl (.slice none 0 0) v1 v2) (Int.negSucc e):=by kernel_rfl
theorem amf (n:Nat)(iz:Nat→Int)(un:Nat→Nat)(e:Nat)(fl sl:Int)(v1 v2:Value)(t0 t1:Nat):dD (resp iz un (Int.negSucc e) 0 fl sl (.float .f64 n) v1 v2) t0 t1=tw n (caT iz (resp iz un (Int.negSucc e) 0 fl sl (.float .f64 n) v1 v2) (Int.negSucc e)):=by kernel_rfl
theorem anE (n:Nat)(iz:Nat→Int)(un:Nat→Nat)(e:Nat)(fl sl:Int)(v1 v2:Value)(t0 t1:Nat):dD (resp iz un (Int.ofNat (Nat.succ e)) 1 fl sl (.slice none 0 0) v1 v2) t0 t1=cbT [116,114,97,110,115,102,101,114,32,101,114,114,111,114] (resp iz un (Int.ofNat (Nat.succ e)) 1 fl sl (.slice none 0 0) v1 v2) (Int.ofNat (Nat.succ e)):=by kernel_rfl
theorem am2 (n:Nat)(iz:Nat→Int)(un:Nat→Nat)(e:Nat)(fl sl:Int)(v1 v2:Value)(t0 t1:Nat):dD (resp iz un (Int.ofNat (Nat.succ e)) 1 fl sl (.float .f64 n) v1 v2) t0 t1=tw n (cbT [116,114,97,110,115,102,101,114,32,101,114,114,111,114] (resp iz un (Int.ofNat (Nat.succ e)) 1 fl sl (.float .f64 n) v1 v2) (Int.ofNat (Nat.succ e))):=by kernel_rfl
theorem an2 (n:Nat)(iz:Nat→Int)(un:Nat→Nat)(e:Nat)(fl sl:Int)(v1 v2:Value)(t0 t1:Nat):dD (resp iz un (Int.negSucc e) 1 fl sl (.slice none 0 0) v1 v2) t0 t1=cbT [116,114,97,110,115,102,101,114,32,101,114,114,111,114] (resp iz un (Int.negSucc e) 1 fl sl (.slice none 0 0) v1 v2) (Int.negSucc e):=by kernel_rfl
theorem ank (n:Nat)(iz:Nat→Int)(un:Nat→Nat)(e:Nat)(fl sl:Int)(v1 v2:Value)(t0 t1:Nat):dD (resp iz un (Int.negSucc e) 1 fl sl (.float .f64 n) v1 v2) t0 t1=tw n (cbT [116,114,97,110,115,102,101,114,32,101,114,114,111,114] (resp iz un (Int.negSucc e) 1 fl sl (.float .f64 n) v1 v2) (Int.negSucc e)):=by kernel_rfl
theorem anM (n:Nat)(iz:Nat→Int)(un:Nat→Nat)(e:Nat)(fl sl:Int)(v1 v2:Value)(t0 t1:Nat):dD (resp iz un (Int.ofNat (Nat.succ e)) 2 fl sl (.slice none 0 0) v1 v2) t0 t1=cbT [99,114,101,97,116,101,32,101,114,114,111,114] (resp iz un (Int.ofNat (Nat.succ e)) 2 fl sl (.slice none 0 0) v1 v2) (Int.ofNat (Nat.succ e)):=by kernel_rfl
theorem aom (n:Nat)(iz:Nat→Int)(un:Nat→Nat)(e:Nat)(fl sl:Int)(v1 v2:Value)(t0 t1:Nat):dD (resp iz un (Int.ofNat (Nat.succ e)) 2 fl sl (.float .f64 n) v1 v2) t0 t1=tw n (cbT [99,114,101,97,116,101,32,101,114,114,111,114] (resp iz un (Int.ofNat (Nat.succ e)) 2 fl sl (.float .f64 n) v1 v2) (Int.ofNat (Nat.succ e))):=by kernel_rfl
theorem anI (n:Nat)(iz:Nat→Int)(un:Nat→Nat)(e:Nat)(fl sl:Int)(v1 v2:Value)(t0 t1:Nat):dD (resp iz un (Int.negSucc e) 2 fl sl (.slice none 0 0) v1 v2) t0 t1=cbT [99,114,101,97,116,101,32,101,114,114,111,114] (resp iz un (Int.negSucc e) 2 fl sl (.slice none 0 0) v1 v2) (Int.negSucc e):=by kernel_rfl
theorem an9 (n:Nat)(iz:Nat→Int)(un:Nat→Nat)(e:Nat)(fl sl:Int)(v1 v2:Value)(t0 t1:Nat):dD (resp iz un (Int.negSucc e) 2 fl sl (.float .f64 n) v1 v2) t0 t1=tw n (cbT [99,114,101,97,116,101,32,101,114,114,111,114] (resp iz un (Int.negSucc e) 2 fl sl (.float .f64 n) v1 v2) (Int.negSucc e)):=by kernel_rfl
theorem aoe (n:Nat)(iz:Nat→Int)(un:Nat→Nat)(e:Nat)(fl sl:Int)(v1 v2:Value)(t0 t1:Nat):dD (resp iz un (Int.ofNat (Nat.succ e)) 3 fl sl (.slice none 0 0) v1 v2) t0 t1=cbT [100,101,108,101,103,97,116,101,32,101,114,114,111,114] (resp iz un (Int.ofNat (Nat.succ e)) 3 fl sl (.slice none 0 0) v1 v2) (Int.ofNat (Nat.succ e)):=by kernel_rfl
theorem anS (n:Nat)(iz:Nat→Int)(un:Nat→Nat)(e:Nat)(fl sl:Int)(v1 v2:Value)(t0 t1:Nat):dD (resp iz un (Int.ofNat (Nat.succ e)) 3 fl sl (.float .f64 n) v1 v2) t0 t1=tw n (cbT [100,101,108,101,103,97,116,101,32,101,114,114,111,114] (resp iz un (Int.ofNat (Nat.succ e)) 3 fl sl (.float .f64 n) v1 v2) (Int.ofNat (Nat.succ e))):=by kernel_rfl
theorem aoP (n:Nat)(iz:Nat→Int)(un:Nat→Nat)(e:Nat)(fl sl:Int)(v1 v2:Value)(t0 t1:Nat):dD (resp iz un (Int.negSucc e) 3 fl sl (.slice none 0 0) v1 v2) t0 t1=cbT [100,101,108,101,103,97,116,101,32,101,114,114,111,114] (resp iz un (Int.negSucc e) 3 fl sl (.slice none 0 0) v1 v2) (Int.negSucc e):=by kernel_rfl
theorem ao4 (n:Nat)(iz:Nat→Int)(un:Nat→Nat)(e:Nat)(fl sl:Int)(v1 v2:Value)(t0 t1:Nat):dD (resp iz un (Int.negSucc e) 3 fl sl (.float .f64 n) v1 v2) t0 t1=tw n (cbT [100,101,108,101,103,97,116,101,32,101,114,114,111,114] (resp iz un (Int.negSucc e) 3 fl sl (.float .f64 n) v1 v2) (Int.negSucc e)):=by kernel_rfl
theorem aof (n:Nat)(iz:Nat→Int)(un:Nat→Nat)(e:Nat)(fl sl:Int)(v1 v2:Value)(t0 t1:Nat):dD (resp iz un (Int.ofNat (Nat.succ e)) 4 fl sl (.slice none 0 0) v1 v2) t0 t1=cbT [117,110,100,101,108,101,103,97,116,101,32,101,114,114,111,114] (resp iz un (Int.ofNat (Nat.succ e)) 4 fl sl (.slice none 0 0) v1 v2) (Int.ofNat (Nat.succ e)):=by kernel_rfl
theorem amQ (n:Nat)(iz:Nat→Int)(un:Nat→Nat)(e:Nat)(fl sl:Int)(v1 v2:Value)(t0 t1:Nat):dD (resp iz un (Int.ofNat (Nat.succ e)) 4 fl sl (.float .f64 n) v1 v2) t0 t1=tw n (cbT [117,110,100,101,108,101,103,97,116,101,32,101,114,114,111,114] (resp iz un (Int.ofNat (Nat.succ e)) 4 fl sl (.float .f64 n) v1 v2) (Int.ofNat (Nat.succ e))):=by kernel_rfl
theorem amT (n:Nat)(iz:Nat→Int)(un:Nat→Nat)(e:Nat)(fl sl:Int)(v1 v2:Value)(t0 t1:Nat):dD (resp iz un (Int.negSucc e) 4 fl sl (.slice none 0 0) v1 v2) t0 t1=cbT [117,110,100,101,108,101,103,97,116,101,32,101,114,114,111,114] (resp iz un (Int.negSucc e) 4 fl sl (.slice none 0 0) v1 v2) (Int.negSucc e):=by kernel_rfl
theorem amS (n:Nat)(iz:Nat→Int)(un:Nat→Nat)(e:Nat)(fl sl:Int)(v1 v2:Value)(t0 t1:Nat):dD (resp iz un (Int.negSucc e) 4 fl sl (.float .f64 n) v1 v2) t0 t1=tw n (cbT [117,110,100,101,108,101,103,97,116,101,32,101,114,114,111,114] (resp iz un (Int.negSucc e) 4 fl sl (.float .f64 n) v1 v2) (Int.negSucc e)):=by kernel_rfl
theorem aoA (n:Nat)(iz:Nat→Int)(un:Nat→Nat)(e:Nat)(fl sl:Int)(v1 v2:Value)(t0 t1:Nat):dD (resp iz un (Int.ofNat (Nat.succ e)) 5 fl sl (.slice none 0 0) v1 v2) t0 t1=cbT [114,101,100,101,108,101,103,97,116,101,32,101,114,114,111,114] (resp iz un (Int.ofNat (Nat.succ e)) 5 fl sl (.slice none 0 0) v1 v2) (Int.ofNat (Nat.succ e)):=by kernel_rfl
theorem ame (n:Nat)(iz:Nat→Int)(un:Nat→Nat)(e:Nat)(fl sl:Int)(v1 v2:Value)(t0 t1:Nat):dD (resp iz un (Int.ofNat (Nat.succ e)) 5 fl sl (.float .f64 n) v1 v2) t0 t1=tw n (cbT [114,101,100,101,108,101,103,97,116,101,32,101,114,114,111,114] (resp iz un (Int.ofNat (Nat.succ e)) 5 fl sl (.float .f64 n) v1 v2) (Int.ofNat (Nat.succ e))):=by kernel_rfl
theorem aoj (n:Nat)(iz:Nat→Int)(un:Nat→Nat)(e:Nat)(fl sl:Int)(v1 v2:Value)(t0 t1:Nat):dD (resp iz un (Int.negSucc e) 5 fl sl (.slice none 0 0) v1 v2) t0 t1=cbT [114,101,100,101,108,101,103,97,116,101,32,101,114,114,111,114] (resp iz un (Int.negSucc e) 5 fl sl (.slice none 0 0) v1 v2) (Int.negSucc e):=by kernel_rfl
theorem anF (n:Nat)(iz:Nat→Int)(un:Nat→Nat)(e:Nat)(fl sl:Int)(v1 v2:Value)(t0 t1:Nat):dD (resp iz un (Int.negSucc e) 5 fl sl (.float .f64 n) v1 v2) t0 t1=tw n (cbT [114,101,100,101,108,101,103,97,116,101,32,101,114,114,111,114] (resp iz un (Int.negSucc e) 5 fl sl (.float .f64 n) v1 v2) (Int.negSucc e)):=by kernel_rfl
theorem aoT (n:Nat)(iz:Nat→Int)(un:Nat→Nat)(e:Nat)(fl sl:Int)(v1 v2:Value)(t0 t1:Nat):dD (resp iz un (Int.ofNat (Nat.succ e)) 6 fl sl (.slice none 0 0) v1 v2) t0 t1=cbT [97,116,116,101,115,116,32,101,114,114,111,114] (resp iz un (Int.ofNat (Nat.succ e)) 6 fl sl (.slice none 0 0) v1 v2) (Int.ofNat (Nat.succ e)):=by kernel_rfl
theorem am7 (n:Nat)(iz:Nat→Int)(un:Nat→Nat)(e:Nat)(fl sl:Int)(v1 v2:Value)(t0 t1:Nat):dD (resp iz un (Int.ofNat (Nat.succ e)) 6 fl sl (.float .f64 n) v1 v2) t0 t1=tw n (cbT [97,116,116,101,115,116,32,101,114,114,111,114] (resp iz un (Int.ofNat (Nat.succ e)) 6 fl sl (.float .f64 n) v1 v2) (Int.ofNat (Nat.succ e))):=by kernel_rfl
theorem amy (n:Nat)(iz:Nat→Int)(un:Nat→Nat)(e:Nat)(fl sl:Int)(v1 v2:Value)(t0 t1:Nat):dD (resp iz un (Int.negSucc e) 6 fl sl (.slice none 0 0) v1 v2) t0 t1=cbT [97,116,116,101,115,116,32,101,114,114,111,114] (resp iz un (Int.negSucc e) 6 fl sl (.slice none 0 0) v1 v2) (Int.negSucc e):=by kernel_rfl
theorem anQ (n:Nat)(iz:Nat→Int)(un:Nat→Nat)(e:Nat)(fl sl:Int)(v1 v2:Value)(t0 t1:Nat):dD (resp iz un (Int.negSucc e) 6 fl sl (.float .f64 n) v1 v2) t0 t1=tw n (cbT [97,116,116,101,115,116,32,101,114,114,111,114] (resp iz un (Int.negSucc e) 6 fl sl (.float .f64 n) v1 v2) (Int.negSucc e)):=by kernel_rfl
theorem anP (n:Nat)(iz:Nat→Int)(un:Nat→Nat)(e:Nat)(fl sl:Int)(v1 v2:Value)(t0 t1:Nat):dD (resp iz un (Int.ofNat (Nat.succ e)) 7 fl sl (.slice none 0 0) v1 v2) t0 t1=cbT [112,114,111,112,111,115,101,32,101,114,114,111,114] (resp iz un (Int.ofNat (Nat.succ e)) 7 fl sl (.slice none 0 0) v1 v2) (Int.ofNat (Nat.succ e)):=by kernel_rfl
theorem anj (n:Nat)(iz:Nat→Int)(un:Nat→Nat)(e:Nat)(fl sl:Int)(v1 v2:Value)(t0 t1:Nat):dD (resp iz un (Int.ofNat (Nat.succ e)) 7 fl sl (.float .f64 n) v1 v2) t0 t1=tw n (cbT [112,114,111,112,111,115,101,32,101,114,114,111,114] (resp iz un (Int.ofNat (Nat.succ e)) 7 fl sl (.float .f64 n) v1 v2) (Int.ofNat (Nat.succ e))):=by kernel_rfl
theorem amB (n:Nat)(iz:Nat→Int)(un:Nat→Nat)(e:Nat)(fl sl:Int)(v1 v2:Value)(t0 t1:Nat):dD (resp iz un (Int.negSucc e) 7 fl sl (.slice none 0 0) v1 v2) t0 t1=cbT [112,114,111,112,111,115,101,32,101,114,114,111,114] (resp iz un (Int.negSucc e) 7 fl sl (.slice none 0 0) v1 v2) (Int.negSucc e):=by kernel_rfl
theorem amF (n:Nat)(iz:Nat→Int)(un:Nat→Nat)(e:Nat)(fl sl:Int)(v1 v2:Value)(t0 t1:Nat):dD (resp iz un (Int.negSucc e) 7 fl sl (.float .f64 n) v1 v2) t0 t1=tw n (cbT [112,114,111,112,111,115,101,32,101,114,114,111,114] (resp iz un (Int.negSucc e) 7 fl sl (.float .f64 n) v1 v2) (Int.negSucc e)):=by kernel_rfl
theorem aot (n:Nat)(iz:Nat→Int)(un:Nat→Nat)(e:Nat)(fl sl:Int)(v1 v2:Value)(t0 t1:Nat):dD (resp iz un (Int.ofNat (Nat.succ e)) 8 fl sl (.slice none 0 0) v1 v2) t0 t1=cbT [101,118,105,100,101,110,99,101,32,101,114,114,111,114] (resp iz un (Int.ofNat (Nat.succ e)) 8 fl sl (.slice none 0 0) v1 v2) (Int.ofNat (Nat.succ e)):=by kernel_rfl
theorem amg (n:Nat)(iz:Nat→Int)(un:Nat→Nat)(e:Nat)(fl sl:Int)(v1 v2:Value)(t0 t1:Nat):dD (resp iz un (Int.ofNat (Nat.succ e)) 8 fl sl (.float .f64 n) v1 v2) t0 t1=tw n (cbT [101,118,105,100,101,110,99,101,32,101,114,114,111,114] (resp iz un (Int.ofNat (Nat.succ e)) 8 fl sl (.float .f64 n) v1 v2) (Int.ofNat (Nat.succ e))):=by kernel_rfl
theorem an7 (n:Nat)(iz:Nat→Int)(un:Nat→Nat)(e:Nat)(fl sl:Int)(v1 v2:Value)(t0 t1:Nat):dD (resp iz un (Int.negSucc e) 8 fl sl (.slice none 0 0) v1 v2) t0 t1=cbT [101,118,105,100,101,110,99,101,32,101,114,114,111,114] (resp iz un (Int.negSucc e) 8 fl sl (.slice none 0 0) v1 v2) (Int.negSucc e):=by kernel_rfl
theorem aoX (n:Nat)(iz:Nat→Int)(un:Nat→Nat)(e:Nat)(fl sl:Int)(v1 v2:Value)(t0 t1:Nat):dD (resp iz un (Int.negSucc e) 8 fl sl (.float .f64 n) v1 v2) t0 t1=tw n (cbT [101,118,105,100,101,110,99,101,32,101,114,114,111,114] (resp iz un (Int.negSucc e) 8 fl sl (.float .f64 n) v1 v2) (Int.negSucc e)):=by kernel_rfl
theorem anU (n:Nat)(iz:Nat→Int)(un:Nat→Nat)(e:Nat)(fl sl:Int)(v1 v2:Value)(t0 t1:Nat):dD (resp iz un (Int.ofNat (Nat.succ e)) 9 fl sl (.slice none 0 0) v1 v2) t0 t1=cbT [117,110,106,97,105,108,32,101,114,114,111,114] (resp iz un (Int.ofNat (Nat.succ e)) 9 fl sl (.slice none 0 0) v1 v2) (Int.ofNat (Nat.succ e)):=by kernel_rfl
theorem anW (n:Nat)(iz:Nat→Int)(un:Nat→Nat)(e:Nat)(fl sl:Int)(v1 v2:Value)(t0 t1:Nat):dD (resp iz un (Int.ofNat (Nat.succ e)) 9 fl sl (.float .f64 n) v1 v2) t0 t1=tw n (cbT [117,110,106,97,105,108,32,101,114,114,111,114] (resp iz un (Int.ofNat (Nat.succ e)) 9 fl sl (.float .f64 n) v1 v2) (Int.ofNat (Nat.succ e))):=by kernel_rfl
theorem anJ (n:Nat)(iz:Nat→Int)(un:Nat→Nat)(e:Nat)(fl sl:Int)(v1 v2:Value)(t0 t1:Nat):dD (resp iz un (Int.negSucc e) 9 fl sl (.slice none 0 0) v1 v2) t0 t1=cbT [117,110,106,97,105,108,32,101,114,114,111,114] (resp iz un (Int.negSucc e) 9 fl sl (.slice none 0 0) v1 v2) (Int.negSucc e):=by kernel_rfl
theorem aoB (n:Nat)(iz:Nat→Int)(un:Nat→Nat)(e:Nat)(fl sl:Int)(v1 v2:Value)(t0 t1:Nat):dD (resp iz un (Int.negSucc e) 9 fl sl (.float .f64 n) v1 v2) t0 t1=tw n (cbT [117,110,106,97,105,108,32,101,114,114,111,114] (resp iz un (Int.negSucc e) 9 fl sl (.float .f64 n) v1 v2) (Int.negSucc e)):=by kernel_rfl
theorem alF (n:Nat)(iz:Nat→Int)(un:Nat→Nat)(e:Nat)(fl sl:Int)(v1 v2:Value)(t0 t1:Nat):dD (resp iz un (Int.ofNat (Nat.succ e)) 10 fl sl (.slice none 0 0) v1 v2) t0 t1=cbT [99,108,97,105,109,32,101,114,114,111,114] (resp iz un (Int.ofNat (Nat.succ e)) 10 fl sl (.slice none 0 0) v1 v2) (Int.ofNat (Nat.succ e)):=by kernel_rfl
theorem ai5 (n:Nat)(iz:Nat→Int)(un:Nat→Nat)(e:Nat)(fl sl:Int)(v1 v2:Value)(t0 t1:Nat):dD (resp iz un (Int.ofNat (Nat.succ e)) 10 fl sl (.float .f64 n) v1 v2) t0 t1=tw n (cbT [99,108,97,105,109,32,101,114,114,111,114] (resp iz un (Int.ofNat (Nat.succ e)) 10 fl sl (.float .f64 n) v1 v2) (Int.ofNat (Nat.succ e))):=by kernel_rfl
theorem aiE (n:Nat)(iz:Nat→Int)(un:Nat→Nat)(e:Nat)(fl sl:Int)(v1 v2:Value)(t0 t1:Nat):dD (resp iz un (Int.negSucc e) 10 fl sl (.slice none 0 0) v1 v2) t0 t1=cbT [99,108,97,105,109,32,101,114,114,111,114] (resp iz un (Int.negSucc e) 10 fl sl (.slice none 0 0) v1 v2) (Int.negSucc e):=by kernel_rfl
theorem ake (n:Nat)(iz:Nat→Int)(un:Nat→Nat)(e:Nat)(fl sl:Int)(v1 v2:Value)(t0 t1:Nat):dD (resp iz un (Int.negSucc e) 10 fl sl (.float .f64 n) v1 v2) t0 t1=tw n (cbT [99,108,97,105,109,32,101,114,114,111,114] (resp iz un (Int.negSucc e) 10 fl sl (.float .f64 n) v1 v2) (Int.negSucc e)):=by kernel_rfl
theorem akw (n:Nat)(iz:Nat→Int)(un:Nat→Nat)(e:Nat)(fl sl:Int)(v1 v2:Value)(t0 t1:Nat):dD (resp iz un (Int.ofNat (Nat.succ e)) 11 fl sl (.slice none 0 0) v1 v2) t0 t1=cbT [116,105,99,107,32,101,114,114,111,114] (resp iz un (Int.ofNat (Nat.succ e)) 11 fl sl (.slice none 0 0) v1 v2) (Int.ofNat (Nat.succ e)):=by kernel_rfl
theorem ajW (n:Nat)(iz:Nat→Int)(un:Nat→Nat)(e:Nat)(fl sl:Int)(v1 v2:Value)(t0 t1:Nat):dD (resp iz un (Int.ofNat (Nat.succ e)) 11 fl sl (.float .f64 n) v1 v2) t0 t1=tw n (cbT [116,105,99,107,32,101,114,114,111,114] (resp iz un (Int.ofNat (Nat.succ e)) 11 fl sl (.float .f64 n) v1 v2) (Int.ofNat (Nat.succ e))):=by kernel_rfl
theorem ajw (n:Nat)(iz:Nat→Int)(un:Nat→Nat)(e:Nat)(fl sl:Int)(v1 v2:Value)(t0 t1:Nat):dD (resp iz un (Int.negSucc e) 11 fl sl (.slice none 0 0) v1 v2) t0 t1=cbT [116,105,99,107,32,101,114,114,111,114] (resp iz un (Int.negSucc e) 11 fl sl (.slice none 0 0) v1 v2) (Int.negSucc e):=by kernel_rfl
theorem aja (n:Nat)(iz:Nat→Int)(un:Nat→Nat)(e:Nat)(fl sl:Int)(v1 v2:Value)(t0 t1:Nat):dD (resp iz un (Int.negSucc e) 11 fl sl (.float .f64 n) v1 v2) t0 t1=tw n (cbT [116,105,99,107,32,101,114,114,111,114] (resp iz un (Int.negSucc e) 11 fl sl (.float .f64 n) v1 v2) (Int.negSucc e)):=by kernel_rfl
theorem aox (n:Nat)(iz:Nat→Int)(un:Nat→Nat)(e:Nat)(k:Nat)(fl sl:Int)(v1 v2:Value)(t0 t1:Nat):dD (resp iz un (Int.ofNat (Nat.succ e)) (Int.ofNat (Nat.add k 12)) fl sl (.slice none 0 0) v1 v2) t0 t1=cbT [110,111,110,101,32,101,114,114,111,114] (resp iz un (Int.ofNat (Nat.succ e)) (Int.ofNat (Nat.add k 12)) fl sl (.slice none 0 0) v1 v2) (Int.ofNat (Nat.succ e)):=by kernel_rfl
theorem aod (n:Nat)(iz:Nat→Int)(un:Nat→Nat)(e:Nat)(k:Nat)(fl sl:Int)(v1 v2:Value)(t0 t1:Nat):dD (resp iz un (Int.ofNat (Nat.succ e)) (Int.ofNat (Nat.add k 12)) fl sl (.float .f64 n) v1 v2) t0 t1=tw n (cbT [110,111,110,101,32,101,114,114,111,114] (resp iz un (Int.ofNat (Nat.succ e)) (Int.ofNat (Nat.add k 12)) fl sl (.float .f64 n) v1 v2) (Int.ofNat (Nat.succ e))):=by kernel_rfl
theorem am1 (n:Nat)(iz:Nat→Int)(un:Nat→Nat)(e:Nat)(k:Nat)(fl sl:Int)(v1 v2:Value)(t0 t1:Nat):dD (resp iz un (Int.negSucc e) (Int.ofNat (Nat.add k 12)) fl sl (.slice none 0 0) v1 v2) t0 t1=cbT [110,111,110,101,32,101,114,114,111,114] (resp iz un (Int.negSucc e) (Int.ofNat (Nat.add k 12)) fl sl (.slice none 0 0) v1 v2) (Int.negSucc e):=by kernel_rfl
theorem aos (n:Nat)(iz:Nat→Int)(un:Nat→Nat)(e:Nat)(k:Nat)(fl sl:Int)(v1 v2:Value)(t0 t1:Nat):dD (resp iz un (Int.negSucc e) (Int.ofNat (Nat.add k 12)) fl sl (.float .f64 n) v1 v2) t0 t1=tw n (cbT [110,111,110,101,32,101,114,114,111,114] (resp iz un (Int.negSucc e) (Int.ofNat (Nat.add k 12)) fl sl (.float .f64 n) v1 v2) (Int.negSucc e)):=by kernel_rfl
theorem al9 (n:Nat)(iz:Nat→Int)(un:Nat→Nat)(e:Nat)(k:Nat)(fl sl:Int)(v1 v2:Value)(t0 t1:Nat):dD (resp iz un (Int.ofNat (Nat.succ e)) (Int.negSucc k) fl sl (.slice none 0 0) v1 v2) t0 t1=cbT [110,111,110,101,32,101,114,114,111,114] (resp iz un (Int.ofNat (Nat.succ e)) (Int.negSucc k) fl sl (.slice none 0 0) v1 v2) (Int.ofNat (Nat.succ e)):=by kernel_rfl
theorem amW (n:Nat)(iz:Nat→Int)(un:Nat→Nat)(e:Nat)(k:Nat)(fl sl:Int)(v1 v2:Value)(t0 t1:Nat):dD (resp iz un (Int.ofNat (Nat.succ e)) (Int.negSucc k) fl sl (.float .f64 n) v1 v2) t0 t1=tw n (cbT [110,111,110,101,32,101,114,114,111,114] (resp iz un (Int.ofNat (Nat.succ e)) (Int.negSucc k) fl sl (.float .f64 n) v1 v2) (Int.ofNat (Nat.succ e))):=by kernel_rfl
theorem ama (n:Nat)(iz:Nat→Int)(un:Nat→Nat)(e:Nat)(k:Nat)(fl sl:Int)(v1 v2:Value)(t0 t1:Nat):dD (resp iz un (Int.negSucc e) (Int.negSucc k) fl sl (.slice none 0 0) v1 v2) t0 t1=cbT [110,111,110,101,32,101,114,114,111,114] (resp iz un (Int.negSucc e) (Int.negSucc k) fl sl (.slice none 0 0) v1 v2) (Int.negSucc e):=by kernel_rfl
theorem aow (n:Nat)(iz:Nat→Int)(un:Nat→Nat)(e:Nat)(k:Nat)(fl sl:Int)(v1 v2:Value)(t0 t1:Nat):dD (resp iz un (Int.negSucc e) (Int.negSucc k) fl sl (.float .f64 n) v1 v2) t0 t1=tw n (cbT [110,111,110,101,32,101,114,114,111,114] (resp iz un (Int.negSucc e) (Int.negSucc k) fl sl (.float .f64 n) v1 v2) (Int.negSucc e)):=by kernel_rfl
theorem apF (n:Nat)(iz:Nat→Int)(un:Nat→Nat)(fl sl:Int)(v1 v2:Value)(t0 t1:Nat):dD (resp iz un 0 1 fl sl (.slice none 0 0) v1 v2) t0 t1=plT (resp iz un 0 1 fl sl (.slice none 0 0) v1 v2):=by kernel_rfl
theorem aqF (n:Nat)(iz:Nat→Int)(un:Nat→Nat)(fl sl:Int)(v1 v2:Value)(t0 t1:Nat):dD (resp iz un 0 1 fl sl (.float .f64 n) v1 v2) t0 t1=tw n (plT (resp iz un 0 1 fl sl (.float .f64 n) v1 v2)):=by kernel_rfl
theorem ap8 (n:Nat)(iz:Nat→Int)(un:Nat→Nat)(fl sl:Int)(v1 v2:Value)(t0 t1:Nat):dD (resp iz un 0 9 fl sl (.slice none 0 0) v1 v2) t0 t1=plT (resp iz un 0 9 fl sl (.slice none 0 0) v1 v2):=by kernel_rfl
theorem aqS (n:Nat)(iz:Nat→Int)(un:Nat→Nat)(fl sl:Int)(v1 v2:Value)(t0 t1:Nat):dD (resp iz un 0 9 fl sl (.float .f64 n) v1 v2) t0 t1=tw n (plT (resp iz un 0 9 fl sl (.float .f64 n) v1 v2)):=by kernel_rfl
theorem aqH (n:Nat)(iz:Nat→Int)(un:Nat→Nat)(fl sl:Int)(v1 v2:Value)(t0 t1:Nat):dD (resp iz un 0 0 fl sl (.slice none 0 0) v1 v2) t0 t1=plT (resp iz un 0 0 fl sl (.slice none 0 0) v1 v2):=by kernel_rfl
theorem aqN (n:Nat)(iz:Nat→Int)(un:Nat→Nat)(fl sl:Int)(v1 v2:Value)(t0 t1:Nat):dD (resp iz un 0 0 fl sl (.float .f64 n) v1 v2) t0 t1=tw n (plT (resp iz un 0 0 fl sl (.float .f64 n) v1 v2)):=by kernel_rfl
theorem apL (n:Nat)(iz:Nat→Int)(un:Nat→Nat)(k:Nat)(fl sl:Int)(v1 v2:Value)(t0 t1:Nat):dD (resp iz un 0 (Int.ofNat (Nat.add k 12)) fl sl (.slice none 0 0) v1 v2) t0 t1=plT (resp iz un 0 (Int.ofNat (Nat.add k 12)) fl sl (.slice none 0 0) v1 v2):=by kernel_rfl
theorem aqh (n:Nat)(iz:Nat→Int)(un:Nat→Nat)(k:Nat)(fl sl:Int)(v1 v2:Value)(t0 t1:Nat):dD (resp iz un 0 (Int.ofNat (Nat.add k 12)) fl sl (.float .f64 n) v1 v2) t0 t1=tw n (plT (resp iz un 0 (Int.ofNat (Nat.add k 12)) fl sl (.float .f64 n) v1 v2)):=by kernel_rfl
theorem aqC (n:Nat)(iz:Nat→Int)(un:Nat→Nat)(k:Nat)(fl sl:Int)(v1 v2:Value)(t0 t1:Nat):dD (resp iz un 0 (Int.negSucc k) fl sl (.slice none 0 0) v1 v2) t0 t1=plT (resp iz un 0 (Int.negSucc k) fl sl (.slice none 0 0) v1 v2):=by kernel_rfl
theorem arl (n:Nat)(iz:Nat→Int)(un:Nat→Nat)(k:Nat)(fl sl:Int)(v1 v2:Value)(t0 t1:Nat):dD (resp iz un 0 (Int.negSucc k) fl sl (.float .f64 n) v1 v2) t0 t1=tw n (plT (resp iz un 0 (Int.negSucc k) fl sl (.float .f64 n) v1 v2)):=by kernel_rfl
theorem arj (n:Nat)(iz:Nat→Int)(un:Nat→Nat)(fl sl:Int)(v1 v2:Value)(t0 t1:Nat):dD (resp iz un 0 2 fl sl (.slice none 0 0) v1 v2) t0 t1=crT [99,114,101,97,116,101,32,111,107] iz un (resp iz un 0 2 fl sl (.slice none 0 0) v1 v2):=by kernel_rfl
theorem ap4 (n:Nat)(iz:Nat→Int)(un:Nat→Nat)(fl sl:Int)(v1 v2:Value)(t0 t1:Nat):dD (resp iz un 0 2 fl sl (.float .f64 n) v1 v2) t0 t1=tw n (crT [99,114,101,97,116,101,32,111,107] iz un (resp iz un 0 2 fl sl (.float .f64 n) v1 v2)):=by kernel_rfl
theorem aqO (n:Nat)(iz:Nat→Int)(un:Nat→Nat)(fl sl:Int)(v1 v2:Value)(t0 t1:Nat):dD (resp iz un 0 3 fl sl (.slice none 0 0) v1 v2) t0 t1=wdT [100,101,108,101,103,97,116,101,32,111,107] (un 4) (resp iz un 0 3 fl sl (.slice none 0 0) v1 v2):=by kernel_rfl
theorem aqW (n:Nat)(iz:Nat→Int)(un:Nat→Nat)(fl sl:Int)(v1 v2:Value)(t0 t1:Nat):dD (resp iz un 0 3 fl sl (.float .f64 n) v1 v2) t0 t1=tw n (wdT [100,101,108,101,103,97,116,101,32,111,107] (un 4) (resp iz un 0 3 fl sl (.float .f64 n) v1 v2)):=by kernel_rfl
theorem ark (n:Nat)(iz:Nat→Int)(un:Nat→Nat)(fl sl:Int)(v1 v2:Value)(t0 t1:Nat):dD (resp iz un 0 4 fl sl (.slice none 0 0) v1 v2) t0 t1=wdT [117,110,100,101,108,101,103,97,116,101,32,111,107] (un 5) (resp iz un 0 4 fl sl (.slice none 0 0) v1 v2):=by kernel_rfl
theorem apP (n:Nat)(iz:Nat→Int)(un:Nat→Nat)(fl sl:Int)(v1 v2:Value)(t0 t1:Nat):dD (resp iz un 0 4 fl sl (.float .f64 n) v1 v2) t0 t1=tw n (wdT [117,110,100,101,108,101,103,97,116,101,32,111,107] (un 5) (resp iz un 0 4 fl sl (.float .f64 n) v1 v2)):=by kernel_rfl
theorem aoy (n:Nat)(iz:Nat→Int)(un:Nat→Nat)(fl sl:Int)(v1 v2:Value)(t0 t1:Nat):dD (resp iz un 0 10 fl sl (.slice none 0 0) v1 v2) t0 t1=wdT [99,108,97,105,109,32,111,107] (un 5) (resp iz un 0 10 fl sl (.slice none 0 0) v1 v2):=by kernel_rfl
theorem am4 (n:Nat)(iz:Nat→Int)(un:Nat→Nat)(fl sl:Int)(v1 v2:Value)(t0 t1:Nat):dD (resp iz un 0 10 fl sl (.float .f64 n) v1 v2) t0 t1=tw n (wdT [99,108,97,105,109,32,111,107] (un 5) (resp iz un 0 10 fl sl (.float .f64 n) v1 v2)):=by kernel_rfl
theorem apO (n:Nat)(iz:Nat→Int)(un:Nat→Nat)(fl sl:Int)(v1 v2:Value)(t0 t1:Nat):dD (resp iz un 0 5 fl sl (.slice none 0 0) v1 v2) t0 t1=rdT [114,101,100,101,108,101,103,97,116,101,32,111,107] iz un (resp iz un 0 5 fl sl (.slice none 0 0) v1 v2):=by kernel_rfl
theorem aqe (n:Nat)(iz:Nat→Int)(un:Nat→Nat)(fl sl:Int)(v1 v2:Value)(t0 t1:Nat):dD (resp iz un 0 5 fl sl (.float .f64 n) v1 v2) t0 t1=tw n (rdT [114,101,100,101,108,101,103,97,116,101,32,111,107] iz un (resp iz un 0 5 fl sl (.float .f64 n) v1 v2)):=by kernel_rfl
theorem aqR (n:Nat)(iz:Nat→Int)(un:Nat→Nat)(fl sl:Int)(v1 v2:Value)(t0 t1:Nat):dD (resp iz un 0 8 fl sl (.slice none 0 0) v1 v2) t0 t1=evT [101,118,105,100,101,110,99,101,32,111,107] iz un (resp iz un 0 8 fl sl (.slice none 0 0) v1 v2):=by kernel_rfl
theorem aqM (n:Nat)(iz:Nat→Int)(un:Nat→Nat)(fl sl:Int)(v1 v2:Value)(t0 t1:Nat):dD (resp iz un 0 8 fl sl (.float .f64 n) v1 v2) t0 t1=tw n (evT [101,118,105,100,101,110,99,101,32,111,107] iz un (resp iz un 0 8 fl sl (.float .f64 n) v1 v2)):=by kernel_rfl
theorem akF (n:Nat)(iz:Nat→Int)(un:Nat→Nat)(sl:Int)(v1 v2:Value)(t0 t1:Nat):dD (resp iz un 0 6 0 sl (.slice none 0 0) v1 v2) t0 t1=plT (resp iz un 0 6 0 sl (.slice none 0 0) v1 v2):=by kernel_rfl
theorem ak0 (n:Nat)(iz:Nat→Int)(un:Nat→Nat)(sl:Int)(v1 v2:Value)(t0 t1:Nat):dD (resp iz un 0 6 0 sl (.float .f64 n) v1 v2) t0 t1=tw n (plT (resp iz un 0 6 0 sl (.float .f64 n) v1 v2)):=by kernel_rfl
theorem aks (n:Nat)(iz:Nat→Int)(un:Nat→Nat)(sl:Int)(v1 v2:Value)(t0 t1:Nat):dD (resp iz un 0 6 1 sl (.slice none 0 0) v1 v2) t0 t1=plT (resp iz un 0 6 1 sl (.slice none 0 0) v1 v2):=by kernel_rfl
theorem ajE (n:Nat)(iz:Nat→Int)(un:Nat→Nat)(sl:Int)(v1 v2:Value)(t0 t1:Nat):dD (resp iz un 0 6 1 sl (.float .f64 n) v1 v2) t0 t1=tw n (plT (resp iz un 0 6 1 sl (.float .f64 n) v1 v2)):=by kernel_rfl
theorem ajC (n:Nat)(iz:Nat→Int)(un:Nat→Nat)(f:Nat)(sl:Int)(v1 v2:Value)(t0 t1:Nat):dD (resp iz un 0 6 (Int.ofNat (Nat.add f 5)) sl (.slice none 0 0) v1 v2) t0 t1=flT [97,116,116,101,115,116,32,111,107] (Int.ofNat (Nat.add f 5)) (resp iz un 0 6 (Int.ofNat (Nat.add f 5)) sl (.slice none 0 0) v1 v2):=by kernel_rfl
theorem aiX (n:Nat)(iz:Nat→Int)(un:Nat→Nat)(f:Nat)(sl:Int)(v1 v2:Value)(t0 t1:Nat):dD (resp iz un 0 6 (Int.ofNat (Nat.add f 5)) sl (.float .f64 n) v1 v2) t0 t1=tw n (flT [97,116,116,101,115,116,32,111,107] (Int.ofNat (Nat.add f 5)) (resp iz un 0 6 (Int.ofNat (Nat.add f 5)) sl (.float .f64 n) v1 v2)):=by kernel_rfl
theorem alx (n:Nat)(iz:Nat→Int)(un:Nat→Nat)(f:Nat)(sl:Int)(v1 v2:Value)(t0 t1:Nat):dD (resp iz un 0 6 (Int.negSucc f) sl (.slice none 0 0) v1 v2) t0 t1=flT [97,116,116,101,115,116,32,111,107] (Int.negSucc f) (resp iz un 0 6 (Int.negSucc f) sl (.slice none 0 0) v1 v2):=by kernel_rfl
theorem aj7 (n:Nat)(iz:Nat→Int)(un:Nat→Nat)(f:Nat)(sl:Int)(v1 v2:Value)(t0 t1:Nat):dD (resp iz un 0 6 (Int.negSucc f) sl (.float .f64 n) v1 v2) t0 t1=tw n (flT [97,116,116,101,115,116,32,111,107] (Int.negSucc f) (resp iz un 0 6 (Int.negSucc f) sl (.float .f64 n) v1 v2)):=by kernel_rfl
theorem afE (n:Nat)(iz:Nat→Int)(un:Nat→Nat)(e:Nat)(v1 v2:Value)(t0 t1:Nat):dD (resp iz un 0 6 2 (Int.ofNat (Nat.succ e)) (.slice none 0 0) v1 v2) t0 t1=seT [97,116,116,101,115,116,32,111,107] [32,50] [97,116,116,101,115,116,32,111,107,32,50] iz (resp iz un 0 6 2 (Int.ofNat (Nat.succ e)) (.slice none 0 0) v1 v2) (Int.ofNat (Nat.succ e)):=by kernel_rfl
theorem ahd (n:Nat)(iz:Nat→Int)(un:Nat→Nat)(e:Nat)(v1 v2:Value)(t0 t1:Nat):dD (resp iz un 0 6 2 (Int.ofNat (Nat.succ e)) (.float .f64 n) v1 v2) t0 t1=tw n (seT [97,116,116,101,115,116,32,111,107] [32,50] [97,116,116,101,115,116,32,111,107,32,50] iz (resp iz un 0 6 2 (Int.ofNat (Nat.succ e)) (.float .f64 n) v1 v2) (Int.ofNat (Nat.succ e))):=by kernel_rfl
theorem afs (n:Nat)(iz:Nat→Int)(un:Nat→Nat)(e:Nat)(v1 v2:Value)(t0 t1:Nat):dD (resp iz un 0 6 2 (Int.negSucc e) (.slice none 0 0) v1 v2) t0 t1=seT [97,116,116,101,115,116,32,111,107] [32,50] [97,116,116,101,115,116,32,111,107,32,50] iz (resp iz un 0 6 2 (Int.negSucc e) (.slice none 0 0) v1 v2) (Int.negSucc e):=by kernel_rfl
theorem af8 (n:Nat)(iz:Nat→Int)(un:Nat→Nat)(e:Nat)(v1 v2:Value)(t0 t1:Nat):dD (resp iz un 0 6 2 (Int.negSucc e) (.float .f64 n) v1 v2) t0 t1=tw n (seT [97,116,116,101,115,116,32,111,107] [32,50] [97,116,116,101,115,116,32,111,107,32,50] iz (resp iz un 0 6 2 (Int.negSucc e) (.float .f64 n) v1 v2) (Int.negSucc e)):=by kernel_rfl
theorem agz (n:Nat)(iz:Nat→Int)(un:Nat→Nat)(v1 v2:Value)(t0 t1:Nat):dD (resp iz un 0 6 2 0 (.slice none 0 0) v1 v2) t0 t1=snT [97,116,116,101,115,116,32,111,107] [32,50] [97,116,116,101,115,116,32,111,107,32,50] iz un (resp iz un 0 6 2 0 (.slice none 0 0) v1 v2):=by kernel_rfl
theorem agh (n:Nat)(iz:Nat→Int)(un:Nat→Nat)(v1 v2:Value)(t0 t1:Nat):dD (resp iz un 0 6 2 0 (.float .f64 n) v1 v2) t0 t1=tw n (snT [97,116,116,101,115,116,32,111,107] [32,50] [97,116,116,101,115,116,32,111,107,32,50] iz un (resp iz un 0 6 2 0 (.float .f64 n) v1 v2)):=by kernel_rfl
theorem ahZ (n:Nat)(iz:Nat→Int)(un:Nat→Nat)(e:Nat)(v1 v2:Value)(t0 t1:Nat):dD (resp iz un 0 6 3 (Int.ofNat (Nat.succ e)) (.slice none 0 0) v1 v2) t0 t1=seT [97,116,116,101,115,116,32,111,107] [32,51] [97,116,116,101,115,116,32,111,107,32,51] iz (resp iz un 0 6 3 (Int.ofNat (Nat.succ e)) (.slice none 0 0) v1 v2) (Int.ofNat (Nat.succ e)):=by kernel_rfl
theorem agH (n:Nat)(iz:Nat→Int)(un:Nat→Nat)(e:Nat)(v1 v2:Value)(t0 t1:Nat):dD (resp iz un 0 6 3 (Int.ofNat (Nat.succ e)) (.float .f64 n) v1 v2) t0 t1=tw n (seT [97,116,116,101,115,116,32,111,107] [32,51] [97,116,116,101,115,116,32,111,107,32,51] iz (resp iz un 0 6 3 (Int.ofNat (Nat.succ e)) (.float .f64 n) v1 v2) (Int.ofNat (Nat.succ e))):=by kernel_rfl
theorem agc (n:Nat)(iz:Nat→Int)(un:Nat→Nat)(e:Nat)(v1 v2:Value)(t0 t1:Nat):dD (resp iz un 0 6 3 (Int.negSucc e) (.slice none 0 0) v1 v2) t0 t1=seT [97,116,116,101,115,116,32,111,107] [32,51] [97,116,116,101,115,116,32,111,107,32,51] iz (resp iz un 0 6 3 (Int.negSucc e) (.slice none 0 0) v1 v2) (Int.negSucc e):=by kernel_rfl
theorem ah0 (n:Nat)(iz:Nat→Int)(un:Nat→Nat)(e:Nat)(v1 v2:Value)(t0 t1:Nat):dD (resp iz un 0 6 3 (Int.negSucc e) (.float .f64 n) v1 v2) t0 t1=tw n (seT [97,116,116,101,115,116,32,111,107] [32,51] [97,116,116,101,115,116,32,111,107,32,51] iz (resp iz un 0 6 3 (Int.negSucc e) (.float .f64 n) v1 v2) (Int.negSucc e)):=by kernel_rfl
theorem ahm (n:Nat)(iz:Nat→Int)(un:Nat→Nat)(v1 v2:Value)(t0 t1:Nat):dD (resp iz un 0 6 3 0 (.slice none 0 0) v1 v2) t0 t1=snT [97,116,116,101,115,116,32,111,107] [32,51] [97,116,116,101,115,116,32,111,107,32,51] iz un (resp iz un 0 6 3 0 (.slice none 0 0) v1 v2):=by kernel_rfl
theorem ahy (n:Nat)(iz:Nat→Int)(un:Nat→Nat)(v1 v2:Value)(t0 t1:Nat):dD (resp iz un 0 6 3 0 (.float .f64 n) v1 v2) t0 t1=tw n (snT [97,116,116,101,115,116,32,111,107] [32,51] [97,116,116,101,115,116,32,111,107,32,51] iz un (resp iz un 0 6 3 0 (.float .f64 n) v1 v2)):=by kernel_rfl
theorem agQ (n:Nat)(iz:Nat→Int)(un:Nat→Nat)(e:Nat)(v1 v2:Value)(t0 t1:Nat):dD (resp iz un 0 6 4 (Int.ofNat (Nat.succ e)) (.slice none 0 0) v1 v2) t0 t1=seT [97,116,116,101,115,116,32,111,107] [32,52] [97,116,116,101,115,116,32,111,107,32,52] iz (resp iz un 0 6 4 (Int.ofNat (Nat.succ e)) (.slice none 0 0) v1 v2) (Int.ofNat (Nat.succ e)):=by kernel_rfl
theorem ag3 (n:Nat)(iz:Nat→Int)(un:Nat→Nat)(e:Nat)(v1 v2:Value)(t0 t1:Nat):dD (resp iz un 0 6 4 (Int.ofNat (Nat.succ e)) (.float .f64 n) v1 v2) t0 t1=tw n (seT [97,116,116,101,115,116,32,111,107] [32,52] [97,116,116,101,115,116,32,111,107,32,52] iz (resp iz un 0 6 4 (Int.ofNat (Nat.succ e)) (.float .f64 n) v1 v2) (Int.ofNat (Nat.succ e))):=by kernel_rfl
theorem ahj (n:Nat)(iz:Nat→Int)(un:Nat→Nat)(e:Nat)(v1 v2:Value)(t0 t1:Nat):dD (resp iz un 0 6 4 (Int.negSucc e) (.slice none 0 0) v1 v2) t0 t1=seT [97,116,116,101,115,116,32,111,107] [32,52] [97,116,116,101,115,116,32,111,107,32,52] iz (resp iz un 0 6 4 (Int.negSucc e) (.slice none 0 0) v1 v2) (Int.negSucc e):=by kernel_rfl
theorem afn (n:Nat)(iz:Nat→Int)(un:Nat→Nat)(e:Nat)(v1 v2:Value)(t0 t1:Nat):dD (resp iz un 0 6 4 (Int.negSucc e) (.float .f64 n) v1 v2) t0 t1=tw n (seT [97,116,116,101,115,116,32,111,107] [32,52] [97,116,116,101,115,116,32,111,107,32,52] iz (resp iz un 0 6 4 (Int.negSucc e) (.float .f64 n) v1 v2) (Int.negSucc e)):=by kernel_rfl
theorem af2 (n:Nat)(iz:Nat→Int)(un:Nat→Nat)(v1 v2:Value)(t0 t1:Nat):dD (resp iz un 0 6 4 0 (.slice none 0 0) v1 v2) t0 t1=snT [97,116,116,101,115,116,32,111,107] [32,52] [97,116,116,101,115,116,32,111,107,32,52] iz un (resp iz un 0 6 4 0 (.slice none 0 0) v1 v2):=by kernel_rfl
theorem agE (n:Nat)(iz:Nat→Int)(un:Nat→Nat)(v1 v2:Value)(t0 t1:Nat):dD (resp iz un 0 6 4 0 (.float .f64 n) v1 v2) t0 t1=tw n (snT [97,116,116,101,115,116,32,111,107] [32,52] [97,116,116,101,115,116,32,111,107,32,52] iz un (resp iz un 0 6 4 0 (.float .f64 n) v1 v2)):=by kernel_rfl
theorem akE (n:Nat)(iz:Nat→Int)(un:Nat→Nat)(sl:Int)(v1 v2:Value)(t0 t1:Nat):dD (resp iz un 0 7 0 sl (.slice none 0 0) v1 v2) t0 t1=plT (resp iz un 0 7 0 sl (.slice none 0 0) v1 v2):=by kernel_rfl
theorem akk (n:Nat)(iz:Nat→Int)(un:Nat→Nat)(sl:Int)(v1 v2:Value)(t0 t1:Nat):dD (resp iz un 0 7 0 sl (.float .f64 n) v1 v2) t0 t1=tw n (plT (resp iz un 0 7 0 sl (.float .f64 n) v1 v2)):=by kernel_rfl
theorem aiQ (n:Nat)(iz:Nat→Int)(un:Nat→Nat)(sl:Int)(v1 v2:Value)(t0 t1:Nat):dD (resp iz un 0 7 1 sl (.slice none 0 0) v1 v2) t0 t1=plT (resp iz un 0 7 1 sl (.slice none 0 0) v1 v2):=by kernel_rfl
theorem akB (n:Nat)(iz:Nat→Int)(un:Nat→Nat)(sl:Int)(v1 v2:Value)(t0 t1:Nat):dD (resp iz un 0 7 1 sl (.float .f64 n) v1 v2) t0 t1=tw n (plT (resp iz un 0 7 1 sl (.float .f64 n) v1 v2)):=by kernel_rfl
theorem ajZ (n:Nat)(iz:Nat→Int)(un:Nat→Nat)(f:Nat)(sl:Int)(v1 v2:Value)(t0 t1:Nat):dD (resp iz un 0 7 (Int.ofNat (Nat.add f 5)) sl (.slice none 0 0) v1 v2) t0 t1=flT [112,114,111,112,111,115,101,32,111,107] (Int.ofNat (Nat.add f 5)) (resp iz un 0 7 (Int.ofNat (Nat.add f 5)) sl (.slice none 0 0) v1 v2):=by kernel_rfl
theorem ajS (n:Nat)(iz:Nat→Int)(un:Nat→Nat)(f:Nat)(sl:Int)(v1 v2:Value)(t0 t1:Nat):dD (resp iz un 0 7 (Int.ofNat (Nat.add f 5)) sl (.float .f64 n) v1 v2) t0 t1=tw n (flT [112,114,111,112,111,115,101,32,111,107] (Int.ofNat (Nat.add f 5)) (resp iz un 0 7 (Int.ofNat (Nat.add f 5)) sl (.float .f64 n) v1 v2)):=by kernel_rfl
theorem ajt (n:Nat)(iz:Nat→Int)(un:Nat→Nat)(f:Nat)(sl:Int)(v1 v2:Value)(t0 t1:Nat):dD (resp iz un 0 7 (Int.negSucc f) sl (.slice none 0 0) v1 v2) t0 t1=flT [112,114,111,112,111,115,101,32,111,107] (Int.negSucc f) (resp iz un 0 7 (Int.negSucc f) sl (.slice none 0 0) v1 v2):=by kernel_rfl
theorem akT (n:Nat)(iz:Nat→Int)(un:Nat→Nat)(f:Nat)(sl:Int)(v1 v2:Value)(t0 t1:Nat):dD (resp iz un 0 7 (Int.negSucc f) sl (.float .f64 n) v1 v2) t0 t1=tw n (flT [112,114,111,112,111,115,101,32,111,107] (Int.negSucc f) (resp iz un 0 7 (Int.negSucc f) sl (.float .f64 n) v1 v2)):=by kernel_rfl
theorem af0 (n:Nat)(iz:Nat→Int)(un:Nat→Nat)(e:Nat)(v1 v2:Value)(t0 t1:Nat):dD (resp iz un 0 7 2 (Int.ofNat (Nat.succ e)) (.slice none 0 0) v1 v2) t0 t1=seT [112,114,111,112,111,115,101,32,111,107] [32,50] [112,114,111,112,111,115,101,32,111,107,32,50] iz (resp iz un 0 7 2 (Int.ofNat (Nat.succ e)) (.slice none 0 0) v1 v2) (Int.ofNat (Nat.succ e)):=by kernel_rfl
theorem aif (n:Nat)(iz:Nat→Int)(un:Nat→Nat)(e:Nat)(v1 v2:Value)(t0 t1:Nat):dD (resp iz un 0 7 2 (Int.ofNat (Nat.succ e)) (.float .f64 n) v1 v2) t0 t1=tw n (seT [112,114,111,112,111,115,101,32,111,107] [32,50] [112,114,111,112,111,115,101,32,111,107,32,50] iz (resp iz un 0 7 2 (Int.ofNat (Nat.succ e)) (.float .f64 n) v1 v2) (Int.ofNat (Nat.succ e))):=by kernel_rfl
theorem afz (n:Nat)(iz:Nat→Int)(un:Nat→Nat)(e:Nat)(v1 v2:Value)(t0 t1:Nat):dD (resp iz un 0 7 2 (Int.negSucc e) (.slice none 0 0) v1 v2) t0 t1=seT [112,114,111,112,111,115,101,32,111,107] [32,50] [112,114,111,112,111,115,101,32,111,107,32,50] iz (resp iz un 0 7 2 (Int.negSucc e) (.slice none 0 0) v1 v2) (Int.negSucc e):=by kernel_rfl
theorem ahN (n:Nat)(iz:Nat→Int)(un:Nat→Nat)(e:Nat)(v1 v2:Value)(t0 t1:Nat):dD (resp iz un 0 7 2 (Int.negSucc e) (.float .f64 n) v1 v2) t0 t1=tw n (seT [112,114,111,112,111,115,101,32,111,107] [32,50] [112,114,111,112,111,115,101,32,111,107,32,50] iz (resp iz un 0 7 2 (Int.negSucc e) (.float .f64 n) v1 v2) (Int.negSucc e)):=by kernel_rfl
theorem afF (n:Nat)(iz:Nat→Int)(un:Nat→Nat)(v1 v2:Value)(t0 t1:Nat):dD (resp iz un 0 7 2 0 (.slice none 0 0) v1 v2) t0 t1=snT [112,114,111,112,111,115,101,32,111,107] [32,50] [112,114,111,112,111,115,101,32,111,107,32,50] iz un (resp iz un 0 7 2 0 (.slice none 0 0) v1 v2):=by kernel_rfl
theorem agJ (n:Nat)(iz:Nat→Int)(un:Nat→Nat)(v1 v2:Value)(t0 t1:Nat):dD (resp iz un 0 7 2 0 (.float .f64 n) v1 v2) t0 t1=tw n (snT [112,114,111,112,111,115,101,32,111,107] [32,50] [112,114,111,112,111,115,101,32,111,107,32,50] iz un (resp iz un 0 7 2 0 (.float .f64 n) v1 v2)):=by kernel_rfl
theorem afG (n:Nat)(iz:Nat→Int)(un:Nat→Nat)(e:Nat)(v1 v2:Value)(t0 t1:Nat):dD (resp iz un 0 7 3 (Int.ofNat (Nat.succ e)) (.slice none 0 0) v1 v2) t0 t1=seT [112,114,111,112,111,115,101,32,111,107] [32,51] [112,114,111,112,111,115,101,32,111,107,32,51] iz (resp iz un 0 7 3 (Int.ofNat (Nat.succ e)) (.slice none 0 0) v1 v2) (Int.ofNat (Nat.succ e)):=by kernel_rfl
theorem ags (n:Nat)(iz:Nat→Int)(un:Nat→Nat)(e:Nat)(v1 v2:Value)(t0 t1:Nat):dD (resp iz un 0 7 3 (Int.ofNat (Nat.succ e)) (.float .f64 n) v1 v2) t0 t1=tw n (seT [112,114,111,112,111,115,101,32,111,107] [32,51] [112,114,111,112,111,115,101,32,111,107,32,51] iz (resp iz un 0 7 3 (Int.ofNat (Nat.succ e)) (.float .f64 n) v1 v2) (Int.ofNat (Nat.succ e))):=by kernel_rfl
theorem agV (n:Nat)(iz:Nat→Int)(un:Nat→Nat)(e:Nat)(v1 v2:Value)(t0 t1:Nat):dD (resp iz un 0 7 3 (Int.negSucc e) (.slice none 0 0) v1 v2) t0 t1=seT [112,114,111,112,111,115,101,32,111,107] [32,51] [112,114,111,112,111,115,101,32,111,107,32,51] iz (resp iz un 0 7 3 (Int.negSucc e) (.slice none 0 0) v1 v2) (Int.negSucc e):=by kernel_rfl
theorem ahD (n:Nat)(iz:Nat→Int)(un:Nat→Nat)(e:Nat)(v1 v2:Value)(t0 t1:Nat):dD (resp iz un 0 7 3 (Int.negSucc e) (.float .f64 n) v1 v2) t0 t1=tw n (seT [112,114,111,112,111,115,101,32,111,107] [32,51] [112,114,111,112,111,115,101,32,111,107,32,51] iz (resp iz un 0 7 3 (Int.negSucc e) (.float .f64 n) v1 v2) (Int.negSucc e)):=by kernel_rfl
theorem afJ (n:Nat)(iz:Nat→Int)(un:Nat→Nat)(v1 v2:Value)(t0 t1:Nat):dD (resp iz un 0 7 3 0 (.slice none 0 0) v1 v2) t0 t1=snT [112,114,111,112,111,115,101,32,111,107] [32,51] [112,114,111,112,111,115,101,32,111,107,32,51] iz un (resp iz un 0 7 3 0 (.slice none 0 0) v1 v2):=by kernel_rfl
theorem ahi (n:Nat)(iz:Nat→Int)(un:Nat→Nat)(v1 v2:Value)(t0 t1:Nat):dD (resp iz un 0 7 3 0 (.float .f64 n) v1 v2) t0 t1=tw n (snT [112,114,111,112,111,115,101,32,111,107] [32,51] [112,114,111,112,111,115,101,32,111,107,32,51] iz un (resp iz un 0 7 3 0 (.float .f64 n) v1 v2)):=by kernel_rfl
theorem agt (n:Nat)(iz:Nat→Int)(un:Nat→Nat)(e:Nat)(v1 v2:Value)(t0 t1:Nat):dD (resp iz un 0 7 4 (Int.ofNat (Nat.succ e)) (.slice none 0 0) v1 v2) t0 t1=seT [112,114,111,112,111,115,101,32,111,107] [32,52] [112,114,111,112,111,115,101,32,111,107,32,52] iz (resp iz un 0 7 4 (Int.ofNat (Nat.succ e)) (.slice none 0 0) v1 v2) (Int.ofNat (Nat.succ e)):=by kernel_rfl
theorem ahR (n:Nat)(iz:Nat→Int)(un:Nat→Nat)(e:Nat)(v1 v2:Value)(t0 t1:Nat):dD (resp iz un 0 7 4 (Int.ofNat (Nat.succ e)) (.float .f64 n) v1 v2) t0 t1=tw n (seT [112,114,111,112,111,115,101,32,111,107] [32,52] [112,114,111,112,111,115,101,32,111,107,32,52] iz (resp iz un 0 7 4 (Int.ofNat (Nat.succ e)) (.float .f64 n) v1 v2) (Int.ofNat (Nat.succ e))):=by kernel_rfl
theorem agS (n:Nat)(iz:Nat→Int)(un:Nat→Nat)(e:Nat)(v1 v2:Value)(t0 t1:Nat):dD (resp iz un 0 7 4 (Int.negSucc e) (.slice none 0 0) v1 v2) t0 t1=seT [112,114,111,112,111,115,101,32,111,107] [32,52] [112,114,111,112,111,115,101,32,111,107,32,52] iz (resp iz un 0 7 4 (Int.negSucc e) (.slice none 0 0) v1 v2) (Int.negSucc e):=by kernel_rfl
theorem afX (n:Nat)(iz:Nat→Int)(un:Nat→Nat)(e:Nat)(v1 v2:Value)(t0 t1:Nat):dD (resp iz un 0 7 4 (Int.negSucc e) (.float .f64 n) v1 v2) t0 t1=tw n (seT [112,114,111,112,111,115,101,32,111,107] [32,52] [112,114,111,112,111,115,101,32,111,107,32,52] iz (resp iz un 0 7 4 (Int.negSucc e) (.float .f64 n) v1 v2) (Int.negSucc e)):=by kernel_rfl
theorem ahT (n:Nat)(iz:Nat→Int)(un:Nat→Nat)(v1 v2:Value)(t0 t1:Nat):dD (resp iz un 0 7 4 0 (.slice none 0 0) v1 v2) t0 t1=snT [112,114,111,112,111,115,101,32,111,107] [32,52] [112,114,111,112,111,115,101,32,111,107,32,52] iz un (resp iz un 0 7 4 0 (.slice none 0 0) v1 v2):=by kernel_rfl
theorem ah8 (n:Nat)(iz:Nat→Int)(un:Nat→Nat)(v1 v2:Value)(t0 t1:Nat):dD (resp iz un 0 7 4 0 (.float .f64 n) v1 v2) t0 t1=tw n (snT [112,114,111,112,111,115,101,32,111,107] [32,52] [112,114,111,112,111,115,101,32,111,107,32,52] iz un (resp iz un 0 7 4 0 (.float .f64 n) v1 v2)):=by kernel_rfl
section
variable {iz:Nat→Int} {un:Nat→Nat} (hF:Fine iz un) (v1 v2:Value) (t0 t1:Nat) (hr:∀ e kd fl sl,jG 4 (resp iz un e kd fl sl (.slice none 0 0) v1 v2) (resp iz un e kd fl sl (.slice none 0 0) v1 v2)=true)
include hF hr
theorem aqv (e:Nat)(he:okI (Int.ofNat (Nat.succ e))=true)(kd fl sl:Int):dD (resp iz un (Int.ofNat (Nat.succ e)) kd fl sl (.slice none 0 0) v1 v2) t0 t1=some true:=by
 match kd with
 |.ofNat 0=>exact (amO 0 iz un e fl sl v1 v2 t0 t1).trans (EN hF (hr _ _ _ _) he)
 |.ofNat 1=>exact (anE 0 iz un e fl sl v1 v2 t0 t1).trans (bf (hr _ _ _ _) (by decide) (by decide) he)
 |.ofNat 2=>exact (anM 0 iz un e fl sl v1 v2 t0 t1).trans (bf (hr _ _ _ _) (by decide) (by decide) he)
 |.ofNat 3=>exact (aoe 0 iz un e fl sl v1 v2 t0 t1).trans (bf (hr _ _ _ _) (by decide) (by decide) he)
 |.ofNat 4=>exact (aof 0 iz un e fl sl v1 v2 t0 t1).trans (bf (hr _ _ _ _) (by decide) (by decide) he)
 |.ofNat 5=>exact (aoA 0 iz un e fl sl v1 v2 t0 t1).trans (bf (hr _ _ _ _) (by decide) (by decide) he)
 |.ofNat 6=>exact (aoT 0 iz un e fl sl v1 v2 t0 t1).trans (bf (hr _ _ _ _) (by decide) (by decide) he)
 |.ofNat 7=>exact (anP 0 iz un e fl sl v1 v2 t0 t1).trans (bf (hr _ _ _ _) (by decide) (by decide) he)
 |.ofNat 8=>exact (aot 0 iz un e fl sl v1 v2 t0 t1).trans (bf (hr _ _ _ _) (by decide) (by decide) he)
 |.ofNat 9=>exact (anU 0 iz un e fl sl v1 v2 t0 t1).trans (bf (hr _ _ _ _) (by decide) (by decide) he)
 |.ofNat 10=>exact (alF 0 iz un e fl sl v1 v2 t0 t1).trans (bf (hr _ _ _ _) (by decide) (by decide) he)
 |.ofNat 11=>exact (akw 0 iz un e fl sl v1 v2 t0 t1).trans (bf (hr _ _ _ _) (by decide) (by decide) he)
 |.ofNat (k+12)=>exact (aox 0 iz un e k fl sl v1 v2 t0 t1).trans (bf (hr _ _ _ _) (by decide) (by decide) he)
 |.negSucc k=>exact (al9 0 iz un e k fl sl v1 v2 t0 t1).trans (bf (hr _ _ _ _) (by decide) (by decide) he)
theorem aqt (e:Nat)(he:okI (Int.negSucc e)=true)(kd fl sl:Int):dD (resp iz un (Int.negSucc e) kd fl sl (.slice none 0 0) v1 v2) t0 t1=some true:=by
 match kd with
 |.ofNat 0=>exact (aoR 0 iz un e fl sl v1 v2 t0 t1).trans (EN hF (hr _ _ _ _) he)
 |.ofNat 1=>exact (an2 0 iz un e fl sl v1 v2 t0 t1).trans (bf (hr _ _ _ _) (by decide) (by decide) he)
 |.ofNat 2=>exact (anI 0 iz un e fl sl v1 v2 t0 t1).trans (bf (hr _ _ _ _) (by decide) (by decide) he)
 |.ofNat 3=>exact (aoP 0 iz un e fl sl v1 v2 t0 t1).trans (bf (hr _ _ _ _) (by decide) (by decide) he)
 |.ofNat 4=>exact (amT 0 iz un e fl sl v1 v2 t0 t1).trans (bf (hr _ _ _ _) (by decide) (by decide) he)
 |.ofNat 5=>exact (aoj 0 iz un e fl sl v1 v2 t0 t1).trans (bf (hr _ _ _ _) (by decide) (by decide) he)
 |.ofNat 6=>exact (amy 0 iz un e fl sl v1 v2 t0 t1).trans (bf (hr _ _ _ _) (by decide) (by decide) he)
 |.ofNat 7=>exact (amB 0 iz un e fl sl v1 v2 t0 t1).trans (bf (hr _ _ _ _) (by decide) (by decide) he)
 |.ofNat 8=>exact (an7 0 iz un e fl sl v1 v2 t0 t1).trans (bf (hr _ _ _ _) (by decide) (by decide) he)
 |.ofNat 9=>exact (anJ 0 iz un e fl sl v1 v2 t0 t1).trans (bf (hr _ _ _ _) (by decide) (by decide) he)
 |.ofNat 10=>exact (aiE 0 iz un e fl sl v1 v2 t0 t1).trans (bf (hr _ _ _ _) (by decide) (by decide) he)
 |.ofNat 11=>exact (ajw 0 iz un e fl sl v1 v2 t0 t1).trans (bf (hr _ _ _ _) (by decide) (by decide) he)
 |.ofNat (k+12)=>exact (am1 0 iz un e k fl sl v1 v2 t0 t1).trans (bf (hr _ _ _ _) (by decide) (by decide) he)
 |.negSucc k=>exact (ama 0 iz un e k fl sl v1 v2 t0 t1).trans (bf (hr _ _ _ _) (by decide) (by decide) he)
theorem arb (fl sl:Int)(hf:okI fl=true)(hs:okI sl=true):dD (resp iz un 0 6 fl sl (.slice none 0 0) v1 v2) t0 t1=some true:=by
 match fl,hf with
 |.ofNat 0,_=>exact (akF 0 iz un sl v1 v2 t0 t1).trans (fE (hr _ _ _ _))
 |.ofNat 1,_=>exact (aks 0 iz un sl v1 v2 t0 t1).trans (fE (hr _ _ _ _))
 |.ofNat 2,_=>
  match sl,hs with
  |.ofNat 0,_=>exact (agz 0 iz un  v1 v2 t0 t1).trans (jS hF (hr _ _ _ _) (by decide) (by decide) (by rfl) (by decide))
  |.ofNat (e+1),hs=>exact (afE 0 iz un e v1 v2 t0 t1).trans (dP hF (hr _ _ _ _) (by decide) (by decide) (by rfl) (by decide) hs)
  |.negSucc e,hs=>exact (afs 0 iz un e v1 v2 t0 t1).trans (dP hF (hr _ _ _ _) (by decide) (by decide) (by rfl) (by decide) hs)
 |.ofNat 3,_=>
  match sl,hs with
  |.ofNat 0,_=>exact (ahm 0 iz un  v1 v2 t0 t1).trans (jS hF (hr _ _ _ _) (by decide) (by decide) (by rfl) (by decide))
  |.ofNat (e+1),hs=>exact (ahZ 0 iz un e v1 v2 t0 t1).trans (dP hF (hr _ _ _ _) (by decide) (by decide) (by rfl) (by decide) hs)
  |.negSucc e,hs=>exact (agc 0 iz un e v1 v2 t0 t1).trans (dP hF (hr _ _ _ _) (by decide) (by decide) (by rfl) (by decide) hs)
 |.ofNat 4,_=>
  match sl,hs with
  |.ofNat 0,_=>exact (af2 0 iz un  v1 v2 t0 t1).trans (jS hF (hr _ _ _ _) (by decide) (by decide) (by rfl) (by decide))
  |.ofNat (e+1),hs=>exact (agQ 0 iz un e v1 v2 t0 t1).trans (dP hF (hr _ _ _ _) (by decide) (by decide) (by rfl) (by decide) hs)
  |.negSucc e,hs=>exact (ahj 0 iz un e v1 v2 t0 t1).trans (dP hF (hr _ _ _ _) (by decide) (by decide) (by rfl) (by decide) hs)
 |.ofNat (f+5),hf=>exact (ajC 0 iz un f sl v1 v2 t0 t1).trans (qm (hr _ _ _ _) (by decide) (by decide) hf)
 |.negSucc f,hf=>exact (alx 0 iz un f sl v1 v2 t0 t1).trans (qm (hr _ _ _ _) (by decide) (by decide) hf)
theorem ap1 (fl sl:Int)(hf:okI fl=true)(hs:okI sl=true):dD (resp iz un 0 7 fl sl (.slice none 0 0) v1 v2) t0 t1=some true:=by
 match fl,hf with
 |.ofNat 0,_=>exact (akE 0 iz un sl v1 v2 t0 t1).trans (fE (hr _ _ _ _))
 |.ofNat 1,_=>exact (aiQ 0 iz un sl v1 v2 t0 t1).trans (fE (hr _ _ _ _))
 |.ofNat 2,_=>
  match sl,hs with
  |.ofNat 0,_=>exact (afF 0 iz un  v1 v2 t0 t1).trans (jS hF (hr _ _ _ _) (by decide) (by decide) (by rfl) (by decide))
  |.ofNat (e+1),hs=>exact (af0 0 iz un e v1 v2 t0 t1).trans (dP hF (hr _ _ _ _) (by decide) (by decide) (by rfl) (by decide) hs)
  |.negSucc e,hs=>exact (afz 0 iz un e v1 v2 t0 t1).trans (dP hF (hr _ _ _ _) (by decide) (by decide) (by rfl) (by decide) hs)
 |.ofNat 3,_=>
  match sl,hs with
  |.ofNat 0,_=>exact (afJ 0 iz un  v1 v2 t0 t1).trans (jS hF (hr _ _ _ _) (by decide) (by decide) (by rfl) (by decide))
  |.ofNat (e+1),hs=>exact (afG 0 iz un e v1 v2 t0 t1).trans (dP hF (hr _ _ _ _) (by decide) (by decide) (by rfl) (by decide) hs)
  |.negSucc e,hs=>exact (agV 0 iz un e v1 v2 t0 t1).trans (dP hF (hr _ _ _ _) (by decide) (by decide) (by rfl) (by decide) hs)
 |.ofNat 4,_=>
  match sl,hs with
  |.ofNat 0,_=>exact (ahT 0 iz un  v1 v2 t0 t1).trans (jS hF (hr _ _ _ _) (by decide) (by decide) (by rfl) (by decide))
  |.ofNat (e+1),hs=>exact (agt 0 iz un e v1 v2 t0 t1).trans (dP hF (hr _ _ _ _) (by decide) (by decide) (by rfl) (by decide) hs)
  |.negSucc e,hs=>exact (agS 0 iz un e v1 v2 t0 t1).trans (dP hF (hr _ _ _ _) (by decide) (by decide) (by rfl) (by decide) hs)
 |.ofNat (f+5),hf=>exact (ajZ 0 iz un f sl v1 v2 t0 t1).trans (qm (hr _ _ _ _) (by decide) (by decide) hf)
 |.negSucc f,hf=>exact (ajt 0 iz un f sl v1 v2 t0 t1).trans (qm (hr _ _ _ _) (by decide) (by decide) hf)
theorem ok0 (kd fl sl:Int)(hf:okI fl=true)(hs:okI sl=true):dD (resp iz un 0 kd fl sl (.slice none 0 0) v1 v2) t0 t1=some true:=by
 match kd with
 |.ofNat 0=>exact (aqH 0 iz un fl sl v1 v2 t0 t1).trans (fE (hr _ _ _ _))
 |.ofNat 1=>exact (apF 0 iz un fl sl v1 v2 t0 t1).trans (fE (hr _ _ _ _))
 |.ofNat 2=>exact (arj 0 iz un fl sl v1 v2 t0 t1).trans (WZ hF (hr _ _ _ _) (by decide) (by decide))
 |.ofNat 3=>exact (aqO 0 iz un fl sl v1 v2 t0 t1).trans (wZ (hr _ _ _ _) (by decide) (by decide) (hF.u _))
 |.ofNat 4=>exact (ark 0 iz un fl sl v1 v2 t0 t1).trans (wZ (hr _ _ _ _) (by decide) (by decide) (hF.u _))
 |.ofNat 5=>exact (apO 0 iz un fl sl v1 v2 t0 t1).trans (VN hF (hr _ _ _ _) (by decide) (by decide))
 |.ofNat 6=>exact arb hF v1 v2 t0 t1 hr fl sl hf hs
 |.ofNat 7=>exact ap1 hF v1 v2 t0 t1 hr fl sl hf hs
 |.ofNat 8=>exact (aqR 0 iz un fl sl v1 v2 t0 t1).trans (VF hF (hr _ _ _ _) (by decide) (by decide))
 |.ofNat 9=>exact (ap8 0 iz un fl sl v1 v2 t0 t1).trans (fE (hr _ _ _ _))
 |.ofNat 10=>exact (aoy 0 iz un fl sl v1 v2 t0 t1).trans (wZ (hr _ _ _ _) (by decide) (by decide) (hF.u _))
 |.ofNat 11=>exact (amr iz un fl sl v1 v2 t0 t1).trans (fE (hr _ _ _ _))
 |.ofNat (k+12)=>exact (apL 0 iz un k fl sl v1 v2 t0 t1).trans (fE (hr _ _ _ _))
 |.negSucc k=>exact (aqC 0 iz un k fl sl v1 v2 t0 t1).trans (fE (hr _ _ _ _))
theorem an8 (e kd fl sl:Int)(he:okI e=true)(hf:okI fl=true)(hs:okI sl=true):dD (resp iz un e kd fl sl (.slice none 0 0) v1 v2) t0 t1=some true:=by
 match e,he with
 |.ofNat 0,_=>exact ok0 hF v1 v2 t0 t1 hr kd fl sl hf hs
 |.ofNat (e+1),he=>exact aqv hF v1 v2 t0 t1 hr e he kd fl sl
 |.negSucc e,he=>exact aqt hF v1 v2 t0 t1 hr e he kd fl sl
end
section
variable {iz:Nat→Int} {un:Nat→Nat} (hF:Fine iz un) (n:Nat) (v1 v2:Value) (t0 t1:Nat) (hr:∀ e kd fl sl,jG 4 (resp iz un e kd fl sl (.float .f64 n) v1 v2) (resp iz un e kd fl sl (.float .f64 n) v1 v2)=true)
include hF hr
theorem aqZ (e:Nat)(he:okI (Int.ofNat (Nat.succ e))=true)(kd fl sl:Int):dD (resp iz un (Int.ofNat (Nat.succ e)) kd fl sl (.float .f64 n) v1 v2) t0 t1=some true:=by
 match kd with
 |.ofNat 0=>exact (ani n iz un e fl sl v1 v2 t0 t1).trans (aZ (EN hF (hr _ _ _ _) he))
 |.ofNat 1=>exact (am2 n iz un e fl sl v1 v2 t0 t1).trans (aZ (bf (hr _ _ _ _) (by decide) (by decide) he))
 |.ofNat 2=>exact (aom n iz un e fl sl v1 v2 t0 t1).trans (aZ (bf (hr _ _ _ _) (by decide) (by decide) he))
 |.ofNat 3=>exact (anS n iz un e fl sl v1 v2 t0 t1).trans (aZ (bf (hr _ _ _ _) (by decide) (by decide) he))
 |.ofNat 4=>exact (amQ n iz un e fl sl v1 v2 t0 t1).trans (aZ (bf (hr _ _ _ _) (by decide) (by decide) he))
 |.ofNat 5=>exact (ame n iz un e fl sl v1 v2 t0 t1).trans (aZ (bf (hr _ _ _ _) (by decide) (by decide) he))
 |.ofNat 6=>exact (am7 n iz un e fl sl v1 v2 t0 t1).trans (aZ (bf (hr _ _ _ _) (by decide) (by decide) he))
 |.ofNat 7=>exact (anj n iz un e fl sl v1 v2 t0 t1).trans (aZ (bf (hr _ _ _ _) (by decide) (by decide) he))
 |.ofNat 8=>exact (amg n iz un e fl sl v1 v2 t0 t1).trans (aZ (bf (hr _ _ _ _) (by decide) (by decide) he))
 |.ofNat 9=>exact (anW n iz un e fl sl v1 v2 t0 t1).trans (aZ (bf (hr _ _ _ _) (by decide) (by decide) he))
 |.ofNat 10=>exact (ai5 n iz un e fl sl v1 v2 t0 t1).trans (aZ (bf (hr _ _ _ _) (by decide) (by decide) he))
 |.ofNat 11=>exact (ajW n iz un e fl sl v1 v2 t0 t1).trans (aZ (bf (hr _ _ _ _) (by decide) (by decide) he))
 |.ofNat (k+12)=>exact (aod n iz un e k fl sl v1 v2 t0 t1).trans (aZ (bf (hr _ _ _ _) (by decide) (by decide) he))
 |.negSucc k=>exact (amW n iz un e k fl sl v1 v2 t0 t1).trans (aZ (bf (hr _ _ _ _) (by decide) (by decide) he))
theorem aqQ (e:Nat)(he:okI (Int.negSucc e)=true)(kd fl sl:Int):dD (resp iz un (Int.negSucc e) kd fl sl (.float .f64 n) v1 v2) t0 t1=some true:=by
 match kd with
 |.ofNat 0=>exact (amf n iz un e fl sl v1 v2 t0 t1).trans (aZ (EN hF (hr _ _ _ _) he))
 |.ofNat 1=>exact (ank n iz un e fl sl v1 v2 t0 t1).trans (aZ (bf (hr _ _ _ _) (by decide) (by decide) he))
 |.ofNat 2=>exact (an9 n iz un e fl sl v1 v2 t0 t1).trans (aZ (bf (hr _ _ _ _) (by decide) (by decide) he))
 |.ofNat 3=>exact (ao4 n iz un e fl sl v1 v2 t0 t1).trans (aZ (bf (hr _ _ _ _) (by decide) (by decide) he))
 |.ofNat 4=>exact (amS n iz un e fl sl v1 v2 t0 t1).trans (aZ (bf (hr _ _ _ _) (by decide) (by decide) he))
 |.ofNat 5=>exact (anF n iz un e fl sl v1 v2 t0 t1).trans (aZ (bf (hr _ _ _ _) (by decide) (by decide) he))
 |.ofNat 6=>exact (anQ n iz un e fl sl v1 v2 t0 t1).trans (aZ (bf (hr _ _ _ _) (by decide) (by decide) he))
 |.ofNat 7=>exact (amF n iz un e fl sl v1 v2 t0 t1).trans (aZ (bf (hr _ _ _ _) (by decide) (by decide) he))
 |.ofNat 8=>exact (aoX n iz un e fl sl v1 v2 t0 t1).trans (aZ (bf (hr _ _ _ _) (by decide) (by decide) he))
 |.ofNat 9=>exact (aoB n iz un e fl sl v1 v2 t0 t1).trans (aZ (bf (hr _ _ _ _) (by decide) (by decide) he))
 |.ofNat 10=>exact (ake n iz un e fl sl v1 v2 t0 t1).trans (aZ (bf (hr _ _ _ _) (by decide) (by decide) he))
 |.ofNat 11=>exact (aja n iz un e fl sl v1 v2 t0 t1).trans (aZ (bf (hr _ _ _ _) (by decide) (by decide) he))
 |.ofNat (k+12)=>exact (aos n iz un e k fl sl v1 v2 t0 t1).trans (aZ (bf (hr _ _ _ _) (by decide) (by decide) he))
 |.negSucc k=>exact (aow n iz un e k fl sl v1 v2 t0 t1).trans (aZ (bf (hr _ _ _ _) (by decide) (by decide) he))
theorem aqf (fl sl:Int)(hf:okI fl=true)(hs:okI sl=true):dD (resp iz un 0 6 fl sl (.float .f64 n) v1 v2) t0 t1=some true:=by
 match fl,hf with
 |.ofNat 0,_=>exact (ak0 n iz un sl v1 v2 t0 t1).trans (aZ (fE (hr _ _ _ _)))
 |.ofNat 1,_=>exact (ajE n iz un sl v1 v2 t0 t1).trans (aZ (fE (hr _ _ _ _)))
 |.ofNat 2,_=>
  match sl,hs with
  |.ofNat 0,_=>exact (agh n iz un  v1 v2 t0 t1).trans (aZ (jS hF (hr _ _ _ _) (by decide) (by decide) (by rfl) (by decide)))
  |.ofNat (e+1),hs=>exact (ahd n iz un e v1 v2 t0 t1).trans (aZ (dP hF (hr _ _ _ _) (by decide) (by decide) (by rfl) (by decide) hs))
  |.negSucc e,hs=>exact (af8 n iz un e v1 v2 t0 t1).trans (aZ (dP hF (hr _ _ _ _) (by decide) (by decide) (by rfl) (by decide) hs))
 |.ofNat 3,_=>
  match sl,hs with
  |.ofNat 0,_=>exact (ahy n iz un  v1 v2 t0 t1).trans (aZ (jS hF (hr _ _ _ _) (by decide) (by decide) (by rfl) (by decide)))
  |.ofNat (e+1),hs=>exact (agH n iz un e v1 v2 t0 t1).trans (aZ (dP hF (hr _ _ _ _) (by decide) (by decide) (by rfl) (by decide) hs))
  |.negSucc e,hs=>exact (ah0 n iz un e v1 v2 t0 t1).trans (aZ (dP hF (hr _ _ _ _) (by decide) (by decide) (by rfl) (by decide) hs))
 |.ofNat 4,_=>
  match sl,hs with
  |.ofNat 0,_=>exact (agE n iz un  v1 v2 t0 t1).trans (aZ (jS hF (hr _ _ _ _) (by decide) (by decide) (by rfl) (by decide)))
  |.ofNat (e+1),hs=>exact (ag3 n iz un e v1 v2 t0 t1).trans (aZ (dP hF (hr _ _ _ _) (by decide) (by decide) (by rfl) (by decide) hs))
  |.negSucc e,hs=>exact (afn n iz un e v1 v2 t0 t1).trans (aZ (dP hF (hr _ _ _ _) (by decide) (by decide) (by rfl) (by decide) hs))
 |.ofNat (f+5),hf=>exact (aiX n iz un f sl v1 v2 t0 t1).trans (aZ (qm (hr _ _ _ _) (by decide) (by decide) hf))
 |.negSucc f,hf=>exact (aj7 n iz un f sl v1 v2 t0 t1).trans (aZ (qm (hr _ _ _ _) (by decide) (by decide) hf))
theorem apY (fl sl:Int)(hf:okI fl=true)(hs:okI sl=true):dD (resp iz un 0 7 fl sl (.float .f64 n) v1 v2) t0 t1=some true:=by
 match fl,hf with
 |.ofNat 0,_=>exact (akk n iz un sl v1 v2 t0 t1).trans (aZ (fE (hr _ _ _ _)))
 |.ofNat 1,_=>exact (akB n iz un sl v1 v2 t0 t1).trans (aZ (fE (hr _ _ _ _)))
 |.ofNat 2,_=>
  match sl,hs with
  |.ofNat 0,_=>exact (agJ n iz un  v1 v2 t0 t1).trans (aZ (jS hF (hr _ _ _ _) (by decide) (by decide) (by rfl) (by decide)))
  |.ofNat (e+1),hs=>exact (aif n iz un e v1 v2 t0 t1).trans (aZ (dP hF (hr _ _ _ _) (by decide) (by decide) (by rfl) (by decide) hs))
  |.negSucc e,hs=>exact (ahN n iz un e v1 v2 t0 t1).trans (aZ (dP hF (hr _ _ _ _) (by decide) (by decide) (by rfl) (by decide) hs))
 |.ofNat 3,_=>
  match sl,hs with
  |.ofNat 0,_=>exact (ahi n iz un  v1 v2 t0 t1).trans (aZ (jS hF (hr _ _ _ _) (by decide) (by decide) (by rfl) (by decide)))
  |.ofNat (e+1),hs=>exact (ags n iz un e v1 v2 t0 t1).trans (aZ (dP hF (hr _ _ _ _) (by decide) (by decide) (by rfl) (by decide) hs))
  |.negSucc e,hs=>exact (ahD n iz un e v1 v2 t0 t1).trans (aZ (dP hF (hr _ _ _ _) (by decide) (by decide) (by rfl) (by decide) hs))
 |.ofNat 4,_=>
  match sl,hs with
  |.ofNat 0,_=>exact (ah8 n iz un  v1 v2 t0 t1).trans (aZ (jS hF (hr _ _ _ _) (by decide) (by decide) (by rfl) (by decide)))
  |.ofNat (e+1),hs=>exact (ahR n iz un e v1 v2 t0 t1).trans (aZ (dP hF (hr _ _ _ _) (by decide) (by decide) (by rfl) (by decide) hs))
  |.negSucc e,hs=>exact (afX n iz un e v1 v2 t0 t1).trans (aZ (dP hF (hr _ _ _ _) (by decide) (by decide) (by rfl) (by decide) hs))
 |.ofNat (f+5),hf=>exact (ajS n iz un f sl v1 v2 t0 t1).trans (aZ (qm (hr _ _ _ _) (by decide) (by decide) hf))
 |.negSucc f,hf=>exact (akT n iz un f sl v1 v2 t0 t1).trans (aZ (qm (hr _ _ _ _) (by decide) (by decide) hf))
theorem ok1 (kd fl sl:Int)(hf:okI fl=true)(hs:okI sl=true)(hk:kd≠11):dD (resp iz un 0 kd fl sl (.float .f64 n) v1 v2) t0 t1=some true:=by
 match kd,hk with
 |.ofNat 0,_=>exact (aqN n iz un fl sl v1 v2 t0 t1).trans (aZ (fE (hr _ _ _ _)))
 |.ofNat 1,_=>exact (aqF n iz un fl sl v1 v2 t0 t1).trans (aZ (fE (hr _ _ _ _)))
 |.ofNat 2,_=>exact (ap4 n iz un fl sl v1 v2 t0 t1).trans (aZ (WZ hF (hr _ _ _ _) (by decide) (by decide)))
 |.ofNat 3,_=>exact (aqW n iz un fl sl v1 v2 t0 t1).trans (aZ (wZ (hr _ _ _ _) (by decide) (by decide) (hF.u _)))
 |.ofNat 4,_=>exact (apP n iz un fl sl v1 v2 t0 t1).trans (aZ (wZ (hr _ _ _ _) (by decide) (by decide) (hF.u _)))
 |.ofNat 5,_=>exact (aqe n iz un fl sl v1 v2 t0 t1).trans (aZ (VN hF (hr _ _ _ _) (by decide) (by decide)))
 |.ofNat 6,_=>exact aqf hF n v1 v2 t0 t1 hr fl sl hf hs
 |.ofNat 7,_=>exact apY hF n v1 v2 t0 t1 hr fl sl hf hs
 |.ofNat 8,_=>exact (aqM n iz un fl sl v1 v2 t0 t1).trans (aZ (VF hF (hr _ _ _ _) (by decide) (by decide)))
 |.ofNat 9,_=>exact (aqS n iz un fl sl v1 v2 t0 t1).trans (aZ (fE (hr _ _ _ _)))
 |.ofNat 10,_=>exact (am4 n iz un fl sl v1 v2 t0 t1).trans (aZ (wZ (hr _ _ _ _) (by decide) (by decide) (hF.u _)))
 |.ofNat 11,_=>exact absurd rfl ‹_›
 |.ofNat (k+12),_=>exact (aqh n iz un k fl sl v1 v2 t0 t1).trans (aZ (fE (hr _ _ _ _)))
 |.negSucc k,_=>exact (arl n iz un k fl sl v1 v2 t0 t1).trans (aZ (fE (hr _ _ _ _)))
theorem amj (e kd fl sl:Int)(he:okI e=true)(hf:okI fl=true)(hs:okI sl=true)(hk:¬(e=0∧kd=11)):dD (resp iz un e kd fl sl (.float .f64 n) v1 v2) t0 t1=some true:=by
 match e,he,hk with
 |.ofNat 0,_,hk=>exact ok1 hF n v1 v2 t0 t1 hr kd fl sl hf hs (fun h=>hk ⟨rfl,h⟩)
 |.ofNat (e+1),he,_=>exact aqZ hF n v1 v2 t0 t1 hr e he kd fl sl
 |.negSucc e,he,_=>exact aqQ hF n v1 v2 t0 t1 hr e he kd fl sl
end
end
end Go.Ax
