import Derived.Test.YtaplfdajjdbomaaGreatDoorDf
import Derived.Test.YtaplfdajjdbomaaGreatDoorDd
open Int renaming ofNat→qaa,ofNat_eq_natCast→qae
open Nat renaming succ→qab,add→qac,eq_of_beq_eq_true→qad,beq→qaf,le_of_ble_eq_true→qag,mod_eq_of_lt→qah,zero_le→qai,ble→qak,ble_eq_true_of_le→qal,sub→qam,mul→qao
open Bool renaming and_eq_true→qaj,not_eq_true→qan
open List renaming mem_cons_self→qap
set_option maxRecDepth 1000000
set_option maxHeartbeats 0
set_option linter.unusedSectionVars false
set_option linter.unusedSimpArgs false
set_option linter.unusedVariables false
namespace Go.Ax
open Go Go.Proofs
noncomputable section
def zZ (k a v c h:Int):cO:=⟨[.one (.sl 0 (aQ (Fn.qL k a v c h))),.one (.flat (.int .i64 0))],[(Fn.qL k a v c h,5)]⟩
def adP (e:Nat):cO:=⟨[.one (.flat (.slice none 0 0)),.one (.flat (.int .i64 (qaa e)))],[]⟩
theorem Iy (k n:Nat)(hk:k≤9)(h1:k≠0→128 ^ k≤n)(h2:n<128 ^ (k+1)):Fn.eu n=O7 k n:=TW k 9 n hk h1 h2
theorem bG {n:Nat}(h:n<128):Fn.eu n=[qb8 n]:=yw h
theorem CZ {a:Int}(h:0≤a):∃ n:Nat,a=qaa n:=⟨a.toNat,by simp only [qae];omega⟩
theorem nG {n:Nat}(h:n<18446744073709551616):Nat.mod n 18446744073709551616=n:=qah h
theorem kU {n:Nat}(h:n<256):Nat.mod n 256=n:=qah h
theorem nH {a b:Nat}(h:a<b):ltN a b=true:=qal h
theorem Vh {a b:Nat}(h:¬a<b):ltN a b=false:=by
 rw [←qan];exact fun e=>h (bF e)
theorem XL {a b:Nat}(h:a≤b):qak a b=true:=qal h
theorem ar8 (a v c h:Int)(he:Fn.qE 1 a v c h=0):∃ w,(runK (iL true) (C4 w) 40).1 6 [qv 1 a v c h] (aP []) (dJ Tryz.prog)=some (zZ 1 a v c h):=by
 have hf:0≤a∧a≤63∧v=0∧c=0∧h=0:=by
  unfold Fn.qE at he
  repeat' split at he
  all_goals omega
 obtain ⟨la,ua,rfl,rfl,rfl⟩:=hf
 obtain ⟨a,rfl⟩:=CZ (show 0≤a by omega)
 simp only [qae] at la ua
 have e1:qaf (Fn.qE (qaa 1) (qaa a) (qaa 0) (qaa 0) (qaa 0)) 0=true:=by
  rw [show Fn.qE (qaa 1) (qaa a) (qaa 0) (qaa 0) (qaa 0)=0 from he]
  rfl
 refine ⟨1,?_⟩
 rw [au4 a];unfold aio anp Qi Qk PI QJ dh Qe amw;rw [e1,aN,nG (show a<18446744073709551616 by omega)]
 rw [nH (show a<128 by omega),aN,kU (show a<256 by omega)]
 unfold zZ
 have hq:Fn.qL 1 (qaa a) 0 0 0=qb8 1::(qb8 a::[]):=by
  show Fn.eu 1++(Fn.eu a++[])=_
  rw [bG (show 1<128 by omega),bG (show a<128 by omega)]
  rfl
 rw [hq]
 rfl
theorem atf (a v c h:Int)(he:Fn.qE 2 a v c h=0):∃ w,(runK (iL true) (C4 w) 40).1 6 [qv 2 a v c h] (aP []) (dJ Tryz.prog)=some (zZ 2 a v c h):=by
 have hf:0≤a∧a≤63∧v=0∧c=0∧h=0:=by
  unfold Fn.qE at he
  repeat' split at he
  all_goals omega
 obtain ⟨la,ua,rfl,rfl,rfl⟩:=hf
 obtain ⟨a,rfl⟩:=CZ (show 0≤a by omega)
 simp only [qae] at la ua
 have e1:qaf (Fn.qE (qaa 2) (qaa a) (qaa 0) (qaa 0) (qaa 0)) 0=true:=by
  rw [show Fn.qE (qaa 2) (qaa a) (qaa 0) (qaa 0) (qaa 0)=0 from he]
  rfl
 refine ⟨1,?_⟩
 rw [avu a];unfold ae1 amW Qi Qk PI QJ dh Qe ang;rw [e1,aN,nG (show a<18446744073709551616 by omega)]
 rw [nH (show a<128 by omega),aN,kU (show a<256 by omega)]
 unfold zZ
 have hq:Fn.qL 2 (qaa a) 0 0 0=qb8 2::(qb8 a::[]):=by
  show Fn.eu 2++(Fn.eu a++[])=_
  rw [bG (show 2<128 by omega),bG (show a<128 by omega)]
  rfl
 rw [hq]
 rfl
theorem arp (a v c h:Int)(he:Fn.qE 3 a v c h=0):∃ w,(runK (iL true) (C4 w) 40).1 6 [qv 3 a v c h] (aP []) (dJ Tryz.prog)=some (zZ 3 a v c h):=by
 have hf:0≤a∧a≤63∧v=0∧c=0∧h=0:=by
  unfold Fn.qE at he
  repeat' split at he
  all_goals omega
 obtain ⟨la,ua,rfl,rfl,rfl⟩:=hf
 obtain ⟨a,rfl⟩:=CZ (show 0≤a by omega)
 simp only [qae] at la ua
 have e1:qaf (Fn.qE (qaa 3) (qaa a) (qaa 0) (qaa 0) (qaa 0)) 0=true:=by
  rw [show Fn.qE (qaa 3) (qaa a) (qaa 0) (qaa 0) (qaa 0)=0 from he]
  rfl
 refine ⟨1,?_⟩
 rw [avq a];unfold aeO agx Qi Qk PI QJ dh Qe ahY;rw [e1,aN,nG (show a<18446744073709551616 by omega)]
 rw [nH (show a<128 by omega),aN,kU (show a<256 by omega)]
 unfold zZ
 have hq:Fn.qL 3 (qaa a) 0 0 0=qb8 3::(qb8 a::[]):=by
  show Fn.eu 3++(Fn.eu a++[])=_
  rw [bG (show 3<128 by omega),bG (show a<128 by omega)]
  rfl
 rw [hq]
 rfl
theorem aqO (a v c h:Int)(he:Fn.qE 4 a v c h=0):∃ w,(runK (iL true) (C4 w) 40).1 6 [qv 4 a v c h] (aP []) (dJ Tryz.prog)=some (zZ 4 a v c h):=by
 have hf:0≤v∧v≤31∧a=0∧c=0∧h=0:=by
  unfold Fn.qE at he
  repeat' split at he
  all_goals omega
 obtain ⟨lv,uv,rfl,rfl,rfl⟩:=hf
 obtain ⟨v,rfl⟩:=CZ (show 0≤v by omega)
 simp only [qae] at lv uv
 have e1:qaf (Fn.qE (qaa 4) (qaa 0) (qaa v) (qaa 0) (qaa 0)) 0=true:=by
  rw [show Fn.qE (qaa 4) (qaa 0) (qaa v) (qaa 0) (qaa 0)=0 from he]
  rfl
 refine ⟨1,?_⟩
 rw [awl v];unfold ail afh nR mF dO wF fG dh jl aiB;rw [e1,aN,nG (show v<18446744073709551616 by omega)]
 rw [nH (show v<128 by omega),aN,kU (show v<256 by omega)]
 unfold zZ
 have hq:Fn.qL 4 0 (qaa v) 0 0=qb8 4::(qb8 v::[]):=by
  show Fn.eu 4++(Fn.eu v++[])=_
  rw [bG (show 4<128 by omega),bG (show v<128 by omega)]
  rfl
 rw [hq]
 rfl
theorem asD (a v c h:Int)(he:Fn.qE 5 a v c h=0):∃ w,(runK (iL true) (C4 w) 40).1 6 [qv 5 a v c h] (aP []) (dJ Tryz.prog)=some (zZ 5 a v c h):=by
 have hf:0≤v∧v≤31∧1≤h∧h≤4294967296∧a=0∧c=0:=by
  unfold Fn.qE at he
  repeat' split at he
  all_goals omega
 obtain ⟨lv,uv,lh,uh,rfl,rfl⟩:=hf
 obtain ⟨v,rfl⟩:=CZ (show 0≤v by omega)
 obtain ⟨h,rfl⟩:=CZ (show 0≤h by omega)
 simp only [qae] at lv uv
 simp only [qae] at lh uh
 have e1:qaf (Fn.qE (qaa 5) (qaa 0) (qaa v) (qaa 0) (qaa h)) 0=true:=by
  rw [show Fn.qE (qaa 5) (qaa 0) (qaa v) (qaa 0) (qaa h)=0 from he]
  rfl
 by_cases h1:h<128
 ·refine ⟨1,?_⟩
  rw [aik v h];unfold YN ZN nR mF dO wF vV pq eX wo yB gV fG dh eY jl yL;rw [e1,aN,nG (show v<18446744073709551616 by omega),nG (show h<18446744073709551616 by omega)]
  rw [nH (show v<128 by omega),aN,kU (show v<256 by omega)]
  rw [nH (show h<128 by omega),aN,kU (show h<256 by omega)]
  unfold zZ
  have hq:Fn.qL 5 0 (qaa v) 0 (qaa h)=qb8 5::(qb8 v::(qb8 h::[])):=by
   show Fn.eu 5++(Fn.eu v++(Fn.eu h++[]))=_
   rw [bG (show 5<128 by omega),bG (show v<128 by omega),bG (show h<128 by omega)]
   rfl
  rw [hq]
  rfl
 by_cases h2:h<16384
 ·refine ⟨1,?_⟩
  rw [aik v h];unfold YN ZN nR mF dO wF vV pq eX wo yB gV fG dh eY jl yL;rw [e1,aN,nG (show v<18446744073709551616 by omega),nG (show h<18446744073709551616 by omega)]
  rw [nH (show v<128 by omega),aN,kU (show v<256 by omega)]
  rw [Vh (show ¬h<128 by omega),aO,XL (show 128≤h by omega),nH (show h<16384 by omega)]
  unfold zZ
  have hq:Fn.qL 5 0 (qaa v) 0 (qaa h)=qb8 5::(qb8 v::(O7 1 h++[])):=by
   show Fn.eu 5++(Fn.eu v++(Fn.eu h++[]))=_
   rw [bG (show 5<128 by omega),bG (show v<128 by omega),Iy 1 h (by omega) (fun _=>by show 128≤h;omega) (by show h<16384;omega)]
   rfl
  rw [hq]
  rfl
 by_cases h3:h<2097152
 ·refine ⟨2,?_⟩
  rw [aov v h];unfold ait afS AA yQ iT mF dO Uc zM yJ iV pq eX Bf yB gV fG dh eY jl yL;rw [e1,aN,nG (show v<18446744073709551616 by omega),nG (show h<18446744073709551616 by omega)]
  rw [nH (show v<128 by omega),aN,kU (show v<256 by omega)]
  rw [Vh (show ¬h<128 by omega),aO,XL (show 16384≤h by omega),nH (show h<2097152 by omega)]
  unfold zZ
  have hq:Fn.qL 5 0 (qaa v) 0 (qaa h)=qb8 5::(qb8 v::(O7 2 h++[])):=by
   show Fn.eu 5++(Fn.eu v++(Fn.eu h++[]))=_
   rw [bG (show 5<128 by omega),bG (show v<128 by omega),Iy 2 h (by omega) (fun _=>by show 16384≤h;omega) (by show h<2097152;omega)]
   rfl
  rw [hq]
  rfl
 by_cases h4:h<268435456
 ·refine ⟨3,?_⟩
  rw [apM v h];unfold aiq ai9 zH Es kZ yQ iT mF dO Ux zy DK lg yJ iV pq eX zC yB gV fG dh eY jl yL;rw [e1,aN,nG (show v<18446744073709551616 by omega),nG (show h<18446744073709551616 by omega)]
  rw [nH (show v<128 by omega),aN,kU (show v<256 by omega)]
  rw [Vh (show ¬h<128 by omega),aO,XL (show 2097152≤h by omega),nH (show h<268435456 by omega)]
  unfold zZ
  have hq:Fn.qL 5 0 (qaa v) 0 (qaa h)=qb8 5::(qb8 v::(O7 3 h++[])):=by
   show Fn.eu 5++(Fn.eu v++(Fn.eu h++[]))=_
   rw [bG (show 5<128 by omega),bG (show v<128 by omega),Iy 3 h (by omega) (fun _=>by show 2097152≤h;omega) (by show h<268435456;omega)]
   rfl
  rw [hq]
  rfl
 refine ⟨4,?_⟩
 rw [apq v h];unfold aiS aht zO Ai Es kZ yQ iT mF dO RX AP Aq DK lg yJ iV pq eX Am yB gV fG dh eY jl yL;rw [e1,aN,nG (show v<18446744073709551616 by omega),nG (show h<18446744073709551616 by omega)]
 rw [nH (show v<128 by omega),aN,kU (show v<256 by omega)]
 rw [Vh (show ¬h<128 by omega),aO,XL (show 268435456≤h by omega),nH (show h<34359738368 by omega)]
 unfold zZ
 have hq:Fn.qL 5 0 (qaa v) 0 (qaa h)=qb8 5::(qb8 v::(O7 4 h++[])):=by
  show Fn.eu 5++(Fn.eu v++(Fn.eu h++[]))=_
  rw [bG (show 5<128 by omega),bG (show v<128 by omega),Iy 4 h (by omega) (fun _=>by show 268435456≤h;omega) (by show h<34359738368;omega)]
  rfl
 rw [hq]
 rfl
theorem asV (a v c h:Int)(he:Fn.qE 6 a v c h=0):∃ w,(runK (iL true) (C4 w) 40).1 6 [qv 6 a v c h] (aP []) (dJ Tryz.prog)=some (zZ 6 a v c h):=by
 have hf:0≤v∧v≤31∧1≤c∧c≤2∧1≤h∧h≤4294967296∧a=0:=by
  unfold Fn.qE at he
  repeat' split at he
  all_goals omega
 obtain ⟨lv,uv,lc,uc,lh,uh,rfl⟩:=hf
 obtain ⟨v,rfl⟩:=CZ (show 0≤v by omega)
 obtain ⟨c,rfl⟩:=CZ (show 0≤c by omega)
 obtain ⟨h,rfl⟩:=CZ (show 0≤h by omega)
 simp only [qae] at lv uv
 simp only [qae] at lc uc
 simp only [qae] at lh uh
 have e1:qaf (Fn.qE (qaa 6) (qaa 0) (qaa v) (qaa c) (qaa h)) 0=true:=by
  rw [show Fn.qE (qaa 6) (qaa 0) (qaa v) (qaa c) (qaa h)=0 from he]
  rfl
 by_cases h1:h<128
 ·refine ⟨1,?_⟩
  rw [agr v c h];unfold Z8 aaf nR mF dO wF Ik Ar jy Tz vV pq eX wo yY gV jW fG dh eY pK jl yg;rw [e1,aN,nG (show v<18446744073709551616 by omega),nG (show c<18446744073709551616 by omega),nG (show h<18446744073709551616 by omega)]
  rw [nH (show v<128 by omega),aN,kU (show v<256 by omega)]
  rw [nH (show c<128 by omega),aN,kU (show c<256 by omega)]
  rw [nH (show h<128 by omega),aN,kU (show h<256 by omega)]
  unfold zZ
  have hq:Fn.qL 6 0 (qaa v) (qaa c) (qaa h)=qb8 6::(qb8 v::(qb8 c::(qb8 h::[]))):=by
   show Fn.eu 6++(Fn.eu v++(Fn.eu c++(Fn.eu h++[])))=_
   rw [bG (show 6<128 by omega),bG (show v<128 by omega),bG (show c<128 by omega),bG (show h<128 by omega)]
   rfl
  rw [hq]
  rfl
 by_cases h2:h<16384
 ·refine ⟨1,?_⟩
  rw [agr v c h];unfold Z8 aaf nR mF dO wF Ik Ar jy Tz vV pq eX wo yY gV jW fG dh eY pK jl yg;rw [e1,aN,nG (show v<18446744073709551616 by omega),nG (show c<18446744073709551616 by omega),nG (show h<18446744073709551616 by omega)]
  rw [nH (show v<128 by omega),aN,kU (show v<256 by omega)]
  rw [nH (show c<128 by omega),aN,kU (show c<256 by omega)]
  rw [Vh (show ¬h<128 by omega),aO,XL (show 128≤h by omega),nH (show h<16384 by omega)]
  unfold zZ
  have hq:Fn.qL 6 0 (qaa v) (qaa c) (qaa h)=qb8 6::(qb8 v::(qb8 c::(O7 1 h++[]))):=by
   show Fn.eu 6++(Fn.eu v++(Fn.eu c++(Fn.eu h++[])))=_
   rw [bG (show 6<128 by omega),bG (show v<128 by omega),bG (show c<128 by omega),Iy 1 h (by omega) (fun _=>by show 128≤h;omega) (by show h<16384;omega)]
   rfl
  rw [hq]
  rfl
 by_cases h3:h<2097152
 ·refine ⟨2,?_⟩
  rw [aql v c h];unfold aja ajt AA yQ iT mF dO Uc NG Ib lZ Ar jy YV zM yJ iV pq eX Bf yY gV jW fG dh eY pK jl yg;rw [e1,aN,nG (show v<18446744073709551616 by omega),nG (show c<18446744073709551616 by omega),nG (show h<18446744073709551616 by omega)]
  rw [nH (show v<128 by omega),aN,kU (show v<256 by omega)]
  rw [nH (show c<128 by omega),aN,kU (show c<256 by omega)]
  rw [Vh (show ¬h<128 by omega),aO,XL (show 16384≤h by omega),nH (show h<2097152 by omega)]
  unfold zZ
  have hq:Fn.qL 6 0 (qaa v) (qaa c) (qaa h)=qb8 6::(qb8 v::(qb8 c::(O7 2 h++[]))):=by
   show Fn.eu 6++(Fn.eu v++(Fn.eu c++(Fn.eu h++[])))=_
   rw [bG (show 6<128 by omega),bG (show v<128 by omega),bG (show c<128 by omega),Iy 2 h (by omega) (fun _=>by show 16384≤h;omega) (by show h<2097152;omega)]
   rfl
  rw [hq]
  rfl
 by_cases h4:h<268435456
 ·refine ⟨3,?_⟩
  rw [aqk v c h];unfold abS aib zH Es kZ yQ iT mF dO Ux KC NR vS Ib lZ Ar jy aau zy DK lg yJ iV pq eX zC yY gV jW fG dh eY pK jl yg;rw [e1,aN,nG (show v<18446744073709551616 by omega),nG (show c<18446744073709551616 by omega),nG (show h<18446744073709551616 by omega)]
  rw [nH (show v<128 by omega),aN,kU (show v<256 by omega)]
  rw [nH (show c<128 by omega),aN,kU (show c<256 by omega)]
  rw [Vh (show ¬h<128 by omega),aO,XL (show 2097152≤h by omega),nH (show h<268435456 by omega)]
  unfold zZ
  have hq:Fn.qL 6 0 (qaa v) (qaa c) (qaa h)=qb8 6::(qb8 v::(qb8 c::(O7 3 h++[]))):=by
   show Fn.eu 6++(Fn.eu v++(Fn.eu c++(Fn.eu h++[])))=_
   rw [bG (show 6<128 by omega),bG (show v<128 by omega),bG (show c<128 by omega),Iy 3 h (by omega) (fun _=>by show 2097152≤h;omega) (by show h<268435456;omega)]
   rfl
  rw [hq]
  rfl
 refine ⟨4,?_⟩
 rw [anN v c h];unfold acK ahC zO Ai Es kZ yQ iT mF dO RX KD OH NR vS Ib lZ Ar jy Y6 AP Aq DK lg yJ iV pq eX Am yY gV jW fG dh eY pK jl yg;rw [e1,aN,nG (show v<18446744073709551616 by omega),nG (show c<18446744073709551616 by omega),nG (show h<18446744073709551616 by omega)]
 rw [nH (show v<128 by omega),aN,kU (show v<256 by omega)]
 rw [nH (show c<128 by omega),aN,kU (show c<256 by omega)]
 rw [Vh (show ¬h<128 by omega),aO,XL (show 268435456≤h by omega),nH (show h<34359738368 by omega)]
 unfold zZ
 have hq:Fn.qL 6 0 (qaa v) (qaa c) (qaa h)=qb8 6::(qb8 v::(qb8 c::(O7 4 h++[]))):=by
  show Fn.eu 6++(Fn.eu v++(Fn.eu c++(Fn.eu h++[])))=_
  rw [bG (show 6<128 by omega),bG (show v<128 by omega),bG (show c<128 by omega),Iy 4 h (by omega) (fun _=>by show 268435456≤h;omega) (by show h<34359738368;omega)]
  rfl
 rw [hq]
 rfl
theorem as2 (a v c h:Int)(he:Fn.qE 7 a v c h=0):∃ w,(runK (iL true) (C4 w) 40).1 6 [qv 7 a v c h] (aP []) (dJ Tryz.prog)=some (zZ 7 a v c h):=by
 have hf:0≤v∧v≤31∧a=0∧c=0∧h=0:=by
  unfold Fn.qE at he
  repeat' split at he
  all_goals omega
 obtain ⟨lv,uv,rfl,rfl,rfl⟩:=hf
 obtain ⟨v,rfl⟩:=CZ (show 0≤v by omega)
 simp only [qae] at lv uv
 have e1:qaf (Fn.qE (qaa 7) (qaa 0) (qaa v) (qaa 0) (qaa 0)) 0=true:=by
  rw [show Fn.qE (qaa 7) (qaa 0) (qaa v) (qaa 0) (qaa 0)=0 from he]
  rfl
 refine ⟨1,?_⟩
 rw [auI v];unfold acO ajm nR mF dO wF fG dh jl afI;rw [e1,aN,nG (show v<18446744073709551616 by omega)]
 rw [nH (show v<128 by omega),aN,kU (show v<256 by omega)]
 unfold zZ
 have hq:Fn.qL 7 0 (qaa v) 0 0=qb8 7::(qb8 v::[]):=by
  show Fn.eu 7++(Fn.eu v++[])=_
  rw [bG (show 7<128 by omega),bG (show v<128 by omega)]
  rfl
 rw [hq]
 rfl
theorem arb (a v c h:Int)(he:Fn.qE 8 a v c h=0):∃ w,(runK (iL true) (C4 w) 40).1 6 [qv 8 a v c h] (aP []) (dJ Tryz.prog)=some (zZ 8 a v c h):=by
 have hf:a=0∧v=0∧c=0∧h=0:=by
  unfold Fn.qE at he
  repeat' split at he
  all_goals omega
 obtain ⟨rfl,rfl,rfl,rfl⟩:=hf
 have e1:qaf (Fn.qE (qaa 8) (qaa 0) (qaa 0) (qaa 0) (qaa 0)) 0=true:=by
  rw [show Fn.qE (qaa 8) (qaa 0) (qaa 0) (qaa 0) (qaa 0)=0 from he]
  rfl
 refine ⟨1,?_⟩
 rw [alL true]
 unfold zZ
 have hq:Fn.qL 8 0 0 0 0=qb8 8::[]:=by
  show Fn.eu 8++[]=_
  rw [bG (show 8<128 by omega)]
  rfl
 rw [hq]
 rfl
theorem asi (a v c h:Int)(he:Fn.qE 9 a v c h=0):∃ w,(runK (iL true) (C4 w) 40).1 6 [qv 9 a v c h] (aP []) (dJ Tryz.prog)=some (zZ 9 a v c h):=by
 have hf:a=0∧v=0∧c=0∧h=0:=by
  unfold Fn.qE at he
  repeat' split at he
  all_goals omega
 obtain ⟨rfl,rfl,rfl,rfl⟩:=hf
 have e1:qaf (Fn.qE (qaa 9) (qaa 0) (qaa 0) (qaa 0) (qaa 0)) 0=true:=by
  rw [show Fn.qE (qaa 9) (qaa 0) (qaa 0) (qaa 0) (qaa 0)=0 from he]
  rfl
 refine ⟨1,?_⟩
 rw [alN true]
 unfold zZ
 have hq:Fn.qL 9 0 0 0 0=qb8 9::[]:=by
  show Fn.eu 9++[]=_
  rw [bG (show 9<128 by omega)]
  rfl
 rw [hq]
 rfl
theorem aoY (a v c h:Int)(he:Fn.qE 10 a v c h=0):∃ w,(runK (iL true) (C4 w) 40).1 6 [qv 10 a v c h] (aP []) (dJ Tryz.prog)=some (zZ 10 a v c h):=by
 have hf:a=0∧v=0∧c=0∧h=0:=by
  unfold Fn.qE at he
  repeat' split at he
  all_goals omega
 obtain ⟨rfl,rfl,rfl,rfl⟩:=hf
 have e1:qaf (Fn.qE (qaa 10) (qaa 0) (qaa 0) (qaa 0) (qaa 0)) 0=true:=by
  rw [show Fn.qE (qaa 10) (qaa 0) (qaa 0) (qaa 0) (qaa 0)=0 from he]
  rfl
 refine ⟨1,?_⟩
 rw [aiT true]
 unfold zZ
 have hq:Fn.qL 10 0 0 0 0=qb8 10::[]:=by
  show Fn.eu 10++[]=_
  rw [bG (show 10<128 by omega)]
  rfl
 rw [hq]
 rfl
theorem avK (k a v c h:Int)(he:Fn.qE k a v c h=0):∃ w,(runK (iL true) (C4 w) 40).1 6 [qv k a v c h] (aP []) (dJ Tryz.prog)=some (zZ k a v c h):=by
 have hc:k=1∨k=2∨k=3∨k=4∨k=5∨k=6∨k=7∨k=8∨k=9∨k=10:=by
  unfold Fn.qE at he
  repeat' split at he
  all_goals omega
 rcases hc with rfl|rfl|rfl|rfl|rfl|rfl|rfl|rfl|rfl|rfl
 ·exact ar8 a v c h he
 ·exact atf a v c h he
 ·exact arp a v c h he
 ·exact aqO a v c h he
 ·exact asD a v c h he
 ·exact asV a v c h he
 ·exact as2 a v c h he
 ·exact arb a v c h he
 ·exact asi a v c h he
 ·exact aoY a v c h he
theorem avO (k a v c h:Int)(he:Fn.qE k a v c h≠0):(runK (iL true) (C3 false) 40).1 6 [qv k a v c h] (aP []) (dJ Tryz.prog)=some (adP (Fn.qE k a v c h)):=by
 rw [awW];unfold abB agi aiK TL
 rcases RH k a v c h with e|e|e|e
 ·exact absurd e he
 ·rw [e];rfl
 ·rw [e];rfl
 ·rw [e];rfl
theorem jJ:∀ {l:List Value},allB l=true→flatAll l=true
 |[],_=>rfl
 |v::l,h=>by
  obtain ⟨h1,h2⟩:=dn (show sel (isB v) (allB l) false=true from h)
  obtain ⟨x,rfl,_⟩:=abU h1
  show sel true (flatAll l) false=true
  rw [aN]
  exact jJ h2
def ag4 (l:List fM):Tree cO:=
 match l with
 |[.agg [.raw (.int .i64 k),.raw (.int .i64 a),.raw (.int .i64 v),.raw (.int .i64 c),.raw (.int .i64 h)]]=>bY (qaf (Fn.qE k a v c h) 0) (.leaf (zZ k a v c h))
 |_=>.fail
def ajw (l:List fM):Tree cO:=
 match l with
 |[.agg [.raw (.int .i64 k),.raw (.int .i64 a),.raw (.int .i64 v),.raw (.int .i64 c),.raw (.int .i64 h)]]=>
  .test (qaf (Fn.qE k a v c h) 2) (.leaf (adP 2)) (.test (qaf (Fn.qE k a v c h) 3) (.leaf (adP 3)) (bY (qaf (Fn.qE k a v c h) 5) (.leaf (adP 5))))
 |_=>.fail
theorem afR (k a v c h:Int):flatAll (Fn.qL k a v c h)=true:=jJ (mV _)
theorem aaw {f:FuncId}(hf:∀ k a v c h:Int,Fn.qE k a v c h=0→∃ w,(runK (iL true) (C4 w) 40).1 f [qv k a v c h] (aP []) (dJ Tryz.prog)=some (zZ k a v c h)):aag Tryz.prog f ag4:=by
 intro comps r kE hr
 clear kE
 unfold ag4 at hr
 split at hr
 ·rename_i k a v c h
  obtain ⟨hg,h2⟩:=aJ hr
  cases h2
  obtain ⟨w,hw⟩:=hf k a v c h (qad hg)
  refine ⟨C4 w,40,fun lo=>@auV lo w,fun p hp=>?_,bT (K:=iL true) (by decide) bI aY hw⟩
  obtain rfl:p=(Fn.qL k a v c h,5):=by simpa [zZ] using hp
  exact afR k a v c h
 ·cases hr
theorem YH {f:FuncId}(hf:∀ k a v c h:Int,Fn.qE k a v c h≠0→(runK (iL true) (C3 false) 40).1 f [qv k a v c h] (aP []) (dJ Tryz.prog)=some (adP (Fn.qE k a v c h))):aag Tryz.prog f ajw:=by
 intro comps r kE hr
 clear kE
 unfold ajw at hr
 split at hr
 ·rename_i k a v c h
  have hr:sel (qaf (Fn.qE k a v c h) 2) (some (adP 2)) (sel (qaf (Fn.qE k a v c h) 3) (some (adP 3)) (bY (qaf (Fn.qE k a v c h) 5) (.leaf (adP 5))).run)=some r:=hr
  have key:Fn.qE k a v c h≠0∧r=adP (Fn.qE k a v c h):=by
   rcases RH k a v c h with e|e|e|e
   ·rw [e] at hr;cases hr
   ·rw [e] at hr ⊢;cases hr;exact ⟨by omega,rfl⟩
   ·rw [e] at hr ⊢;cases hr;exact ⟨by omega,rfl⟩
   ·rw [e] at hr ⊢;cases hr;exact ⟨by omega,rfl⟩
  obtain ⟨h1,rfl⟩:=key
  exact ⟨C3 false,40,fun lo=>@awe lo false,(fun p hp=>by cases hp),bT (K:=iL true) (by decide) bI aY (hf k a v c h h1)⟩
 ·cases hr
namespace Fn
def nV (cs:List Value)(a:Nat):Nat:=(kJ cs a cs.length 10 0).1
def nK (cs:List Value)(a:Nat):Nat:=(kJ cs a cs.length 10 0).2.1
def nE (cs:List Value)(a:Nat):Nat:=(kJ cs a cs.length 10 0).2.2
end Fn
theorem ahn (cs:List Value)(a:Nat):Fn.nE cs a=0∨(Fn.nE cs a=5∧Fn.nV cs a=0∧Fn.nK cs a=0)∨(Fn.nE cs a=6∧Fn.nV cs a=0∧Fn.nK cs a=0):=by
 unfold Fn.nE Fn.nV Fn.nK
 rcases Gn cs a cs.length 10 0 with h|h|h
 ·exact .inl h
 ·rw [h];exact .inr (.inl ⟨rfl,rfl,rfl⟩)
 ·rw [h];exact .inr (.inr ⟨rfl,rfl,rfl⟩)
def awC (cs:List Value)(a:Nat):Tree cO:=.test (qaf (Fn.nE cs a) 0) (.leaf (xW (Fn.nV cs a) (qac a (Fn.nK cs a)) 0 0)) (.test (qaf (Fn.nE cs a) 5) (.leaf (xW 0 0 5 a)) (.leaf (xW 0 0 6 a)))
def axk (l:List fM):Tree cO:=
 match l with
 |[.one (.sl cs e n),.one (.raw (.int .i64 z))]=>Int.casesOn (motive:=fun _=>Tree cO) z (fun a=>bY (qaf e 5&&(fZ cs&&(qak a n&&qak n 4611686018427387904))) (awC cs a)) (fun _=>.fail)
 |[.one (.raw (.slice _ n _)),.one (.raw (.int .i64 z))]=>Int.casesOn (motive:=fun _=>Tree cO) z (fun a=>bY (qaf n 0&&qaf a 0) (.leaf (xW 0 0 6 0))) (fun _=>.fail)
 |_=>.fail
theorem aaQ (cs:List Value)(a:Nat):some (afg a (kJ cs a cs.length 10 0))=(awC cs a).run:=by
 have e:afg a (kJ cs a cs.length 10 0)=if Fn.nE cs a=0 then xW (Fn.nV cs a) (a+Fn.nK cs a) 0 0 else xW 0 0 (Fn.nE cs a) a:=rfl
 show _=sel (qaf (Fn.nE cs a) 0) (some (xW (Fn.nV cs a) (qac a (Fn.nK cs a)) 0 0)) (sel (qaf (Fn.nE cs a) 5) (some (xW 0 0 5 a)) (some (xW 0 0 6 a)))
 rw [e]
 rcases ahn cs a with h|⟨h,_⟩|⟨h,_⟩
 ·rw [h];rfl
 ·rw [h];rfl
 ·rw [h];rfl
theorem get_nil (c:Nat):(runK (iL true) C1 16).1 78 [.slice none 0 c,.int .i64 (qaa 0)] (aP []) (dJ Tryz.prog)=some (xW 0 0 6 0):=by kernel_rfl
theorem ak5:(runK (iL true) C1 16).1 78 [dB,.int .i64 (qaa 0)] (aP []) (dJ Tryz.prog)=some (xW 0 0 6 0):=by kernel_rfl
theorem apj:y8 Tryz.prog C1 16 78 axk:=by
 intro comps r kE hr
 unfold axk at hr
 split at hr
 ·rename_i cs e n z
  cases z with
  |negSucc a=>cases hr
  |ofNat a=>
   obtain ⟨hg,h2⟩:=aJ (show (bY (qaf e 5&&(fZ cs&&(qak a n&&qak n 4611686018427387904))) (awC cs a)).run=some r from hr)
   simp only [qaj] at hg
   obtain ⟨g1,g2,g3,g4⟩:=hg
   have he:e=5:=qad g1
   subst he
   have hf:je.fine Tryz.prog (.sl cs 5 n):=kE (.one (.sl cs 5 n)) qap
   obtain ⟨_,sz,h3,_,h5⟩:=hf
   have hsz:sz=1:=by
    have:size Tryz.prog 5=some 1:=by kernel_rfl
    rw [this] at h3;cases h3;rfl
   subst hsz
   have hn:n=cs.length:=by omega
   have key:=akK n a cs hn g2 (qag g3) (qag g4)
   have key2:acg cs a n 10 0=some r:=by
    rw [←h2,←aaQ,hn]
    rfl
   refine ⟨?_,bT (K:=iL true) (by decide) bI aY (key.trans key2)⟩
   have h6:some (afg a (kJ cs a cs.length 10 0))=some r:=(aaQ cs a).trans h2
   cases h6
   unfold afg
   intro p hp
   split at hp <;> cases hp
 ·rename_i a n c z
  cases z with
  |negSucc a=>cases hr
  |ofNat x=>
   obtain ⟨hg,h2⟩:=aJ (show (bY (qaf n 0&&qaf x 0) (.leaf (xW 0 0 6 0))).run=some r from hr)
   simp only [qaj] at hg
   cases h2
   have hn:n=0:=qad hg.1
   have hx:x=0:=qad hg.2
   subst hn hx
   have hf:oU (.slice a 0 c)=true:=kE (.one (.raw (.slice a 0 c))) qap
   refine ⟨(fun p hp=>by cases hp),?_⟩
   cases a with
   |none=>exact bT (K:=iL true) (by decide) bI aY (get_nil c)
   |some a=>
    obtain ⟨b,o,sp⟩:=a
    have hf:(sp.isNone&&(qaf b fF&&(qaf o 0&&(qaf 0 0&&qaf c aF))))=true:=hf
    simp only [qaj] at hf
    obtain ⟨f1,f2,f3,_,f5⟩:=hf
    have f2:=qad f2
    have f3:=qad f3
    have f5:=qad f5
    subst f2 f3 f5
    cases sp with
    |some x=>cases f1
    |none=>exact bT (K:=iL true) (by decide) bI aY ak5
 ·cases hr
def auy:List (Nat × Con):=(78,.tree (zo Tryz.prog axk))::as8
def C5:Cfg:={ CB with ext:=eH [],insert:=eH auy }
variable [Lo]
theorem anm:dI Tryz.prog C5 auy:=dI.zo (fun lo=>@ara lo) apj.gives (dI.to abO rfl)
theorem aoP:dS C5 Tryz.prog:=xq (ext:=eH []) (ins:=eH auy) rfl (fun f t h=>anm f t h) (fun f e h=>by cases h)
end
end Go.Ax
namespace Go.Ax
open Go Go.Proofs
noncomputable section
def KM:KP:={ L:=12,B:=some true }
def pRd:bM:={ N:=64,need:=[],low:=[],keep:=[],new:=[⟨.var 0 0,false,true⟩,⟨.row 0 0,true,false⟩] }
def pRf:bM:={ N:=64,need:=[],low:=[],keep:=[],new:=[⟨.var 0 0,false,true⟩,⟨.row 0 0,true,false⟩,⟨.row 0 3,false,true⟩] }
def eRd:bM:={ N:=66,need:=[],low:=[],keep:=[(64,false,true),(65,true,false)],new:=[] }
def eRn:bM:={ N:=66,need:=[],low:=[],keep:=[(64,false,true),(65,true,false)],new:=[⟨.old 64 3,false,true⟩] }
def eRf:bM:={ N:=67,need:=[],low:=[],keep:=[(64,false,true),(65,true,false),(66,false,true)],new:=[] }
def mRd:wS:={ pre:=pRd,ends:=[eRn,eRd] }
def mRf:wS:={ pre:=pRf,ends:=[eRf] }
def mRr:wS:={ pre:=pRd,ends:=[eRd] }
abbrev tRd:TypeId:=153
abbrev tFa:TypeId:=38
abbrev tRr:TypeId:=108
abbrev tB:TypeId:=5
def mQ (X:List Value)(n to:Nat):List (Nat × Row):=[(64,.row [.slice (some ⟨65,0,none⟩) n aF,.int .i64 (qaa to),.bool true,.pointer none] tRd 0),(65,.row X tB 65)]
def oV (X:List Value)(n to:Nat)(e a:Int):List (Nat × Row):=[(64,.row [.slice (some ⟨65,0,none⟩) n aF,.int .i64 (qaa to),.bool true,.pointer (some ⟨66,0,none⟩)] tRd 0),(65,.row X tB 65),(66,.row [.int .i64 e,.int .i64 a] tFa 0)]
def jT (X:List Value)(n to:Nat)(e a:Int):List (Nat × Row):=[(64,.row [.slice (some ⟨65,0,none⟩) n aF,.int .i64 (qaa to),.int .i64 e,.int .i64 a] tRr 0),(65,.row X tB 65)]
def gY:Value:=.pointer (some ⟨64,0,none⟩)
def iN (n:Nat):Value:=.int .i64 (qaa n)
def abG (n to:Nat):=to.ble n&&n.ble 18446744073709551616&&true
def acy (X:List Value)(n to:Nat):=true&&(false||qak 9223372036854775808 (qam 18446744073709551616 to))&&(qac 0 (n.mul 1)).ble (aQ X)
def abP (X:List Value)(n to:Nat):=false||ltN to n||ltN (qac 0 (to.mul 1)) (aQ X)||to.beq 0
def abz (to:Nat):=(qam 18446744073709551616 (qam 18446744073709551616 to)).mul 1
def abq (X:List Value)(n to:Nat):=true&&(qaf 0 (abz to)&&(qak 9223372036854775808 (qam 18446744073709551616 to)&&true)&&(((n.sub to).mul 1).beq (aQ X)&&flatAll X))
def YB (hi:Nat):=qaa (hi.mod 18446744073709551616)
def ahA (X:List Value):=qak 9223372036854775808 (Fn.ai5 X)
def uH (n to:Nat):Nat × Row:=(64,.row [.slice (some ⟨65,0,none⟩) n 18446744073709551616,.int .i64 (qaa to),.bool true,.pointer (some ⟨66,0,none⟩)] 153 0)
def WC (X:List Value)(n to:Nat):Option (Nat × bg):=some (0,{ vals:=[.int .i64 0],rows:=[(uH n to),(65,.row X 5 65),(66,.row [.int .i64 3,.int .i64 (qaa to)] 38 0)] })
def agK (X:List Value)(n to:Nat):Option (Nat × bg):=sel (ahA X) (WC X n to) (WC X n to)
def ML (lo:Nat):=qaa (lo.mod 18446744073709551616)
def Ob (X:List Value)(to:Nat):=(to.add (Fn.apd X)).ble 9223372036854775807
def NQ (X:List Value)(n to:Nat):Nat × Row:=(64,.row [.slice (some ⟨65,0,none⟩) n 18446744073709551616,.int .i64 (qaa (to.add (Fn.apd X))),.bool true,.pointer none] 153 0)
def YL (X:List Value)(n to:Nat):Option (Nat × bg):=sel (ahA X) (sel (Ob X to) (some (1,{ vals:=[.int .i64 (wrap .i64 (qaa (Fn.ai5 X)))],rows:=[(NQ X n to),(65,.row X 5 65)] })) none) (sel (Ob X to) (some (1,{ vals:=[.int .i64 (qaa (Fn.ai5 X))],rows:=[(NQ X n to),(65,.row X 5 65)] })) none)
def RY (to:Nat):Nat × Row:=(66,.row [.int .i64 (qaa 5),.int .i64 (qaa to)] 38 0)
def ZF (X:List Value)(n to:Nat):Option (Nat × bg):=some (0,{ vals:=[.int .i64 0],rows:=[(uH n to),(65,.row X 5 65),(RY to)] })
def Rj (to:Nat):Nat × Row:=(66,.row [.int .i64 (qaa 6),.int .i64 (qaa to)] 38 0)
def Sv (X:List Value)(n to:Nat):Option (Nat × bg):=some (0,{ vals:=[.int .i64 0],rows:=[(uH n to),(65,.row X 5 65),(Rj to)] })
def TU (X:List Value)(n to:Nat):=true&&((qac 0 (to.mul 1)).beq (abz to)&&(qak 9223372036854775808 (qam 18446744073709551616 to)&&(qac 0 (to.mul 1)).ble (aQ X))&&(((n.sub to).mul 1).beq (aQ (bJ (qac 0 (to.mul 1)) X))&&flatAll (bJ (qac 0 (to.mul 1)) X)))
def Uo (X:List Value)(to:Nat):=true&&fZ (bJ (qac 0 (to.mul 1)) X)
def RI (X:List Value)(to:Nat):=Fn.ajL (bJ (qac 0 (to.mul 1)) X)
def RP (X:List Value)(to:Nat):=(RI X to).beq 0
def Uh (X:List Value)(to:Nat):=Fn.ai5 (bJ (qac 0 (to.mul 1)) X)
def Et (X:List Value)(to:Nat):=qaa (Uh X to)
def Zf (X:List Value)(to:Nat):=qak 9223372036854775808 (Uh X to)
def Zw (X:List Value)(n to:Nat):Option (Nat × bg):=sel (Zf X to) (WC X n to) (WC X n to)
def UQ (X:List Value)(to:Nat):=to.add (Fn.apd (bJ (qac 0 (to.mul 1)) X))
def Lc (X:List Value)(to:Nat):=(UQ X to).ble 9223372036854775807
def Nl (X:List Value)(n to:Nat):Nat × Row:=(64,.row [.slice (some ⟨65,0,none⟩) n 18446744073709551616,.int .i64 (qaa (UQ X to)),.bool true,.pointer none] 153 0)
def Y5 (X:List Value)(n to:Nat):Option (Nat × bg):=sel (Zf X to) (sel (Lc X to) (some (1,{ vals:=[.int .i64 (wrap .i64 (Et X to))],rows:=[(Nl X n to),(65,.row X 5 65)] })) none) (sel (Lc X to) (some (1,{ vals:=[.int .i64 (Et X to)],rows:=[(Nl X n to),(65,.row X 5 65)] })) none)
def Tq (X:List Value)(to:Nat):=(RI X to).beq 5
theorem arA (X:List Value)(n to lo hi:Nat):(runK KM C5 30).1 39 [gY,iN lo,iN hi] (lF mRd.pre.next ⟨[gY,iN lo,iN hi],mQ X n to⟩) (fun r=>(dY Tryz.prog mRd.ends 0 r).uV some)=sel (abG n to) (sel (acy X n to) (sel (abP X n to) (sel (qaf 18446744073709551616 to) (sel (abq X n to) (sel (true&&fZ X) (sel ((Fn.ajL X).beq 0) (sel (ltI (YB hi) (qaa (Fn.ai5 X))) (agK X n to) (sel (ltI 0 (qaa lo)) (sel (ltI (qaa (Fn.ai5 X)) (ML lo)) (agK X n to) (YL X n to)) (YL X n to))) (sel ((Fn.ajL X).beq 5) (ZF X n to) (Sv X n to))) none) none) (sel (TU X n to) (sel (Uo X to) (sel (RP X to) (sel (ltI (YB hi) (Et X to)) (Zw X n to) (sel (ltI 0 (qaa lo)) (sel (ltI (Et X to) (ML lo)) (Zw X n to) (Y5 X n to)) (Y5 X n to))) (sel (Tq X to) (ZF X n to) (Sv X n to))) none) none)) (Sv X n to)) none) none:=by kernel_rfl
def AZ (a e:Int):Nat × Row:=(66,.row [.int .i64 e,.int .i64 a] 38 0)
theorem ane (X:List Value)(n to lo hi:Nat)(e a:Int):(runK KM C5 30).1 39 [gY,iN lo,iN hi] (lF mRf.pre.next ⟨[gY,iN lo,iN hi],oV X n to e a⟩) (fun r=>(dY Tryz.prog mRf.ends 0 r).uV some)=some (0,{ vals:=[.int .i64 0],rows:=[(uH n to),(65,.row X 5 65),(AZ a e)] }):=by kernel_rfl
theorem afv (X:List Value)(n to lo hi:Nat)(e a:Int):type_of% (by have h_:=ane X n to lo hi e a;unfold AZ uH at h_;exact h_):=ane X n to lo hi e a
def ZH (X:List Value)(n to:Nat):Option (Nat × bg):=some (0,{ vals:=[.int .u64 0],rows:=[(uH n to),(65,.row X 5 65),(RY to)] })
def Td (X:List Value)(n to:Nat):Option (Nat × bg):=some (0,{ vals:=[.int .u64 0],rows:=[(uH n to),(65,.row X 5 65),(Rj to)] })
theorem asn (X:List Value)(n to:Nat):(runK KM C5 30).1 44 [gY] (lF mRd.pre.next ⟨[gY],mQ X n to⟩) (fun r=>(dY Tryz.prog mRd.ends 0 r).uV some)=sel (abG n to) (sel (acy X n to) (sel (abP X n to) (sel (qaf 18446744073709551616 to) (sel (abq X n to) (sel (true&&fZ X) (sel ((Fn.ajL X).beq 0) (sel (Ob X to) (some (1,{ vals:=[.int .u64 (qaa (Fn.ai5 X))],rows:=[(NQ X n to),(65,.row X 5 65)] })) none) (sel ((Fn.ajL X).beq 5) (ZH X n to) (Td X n to))) none) none) (sel (TU X n to) (sel (Uo X to) (sel (RP X to) (sel (Lc X to) (some (1,{ vals:=[.int .u64 (Et X to)],rows:=[(Nl X n to),(65,.row X 5 65)] })) none) (sel (Tq X to) (ZH X n to) (Td X n to))) none) none)) (Td X n to)) none) none:=by kernel_rfl
theorem anh (X:List Value)(n to:Nat)(e a:Int):(runK KM C5 30).1 44 [gY] (lF mRf.pre.next ⟨[gY],oV X n to e a⟩) (fun r=>(dY Tryz.prog mRf.ends 0 r).uV some)=some (0,{ vals:=[.int .u64 0],rows:=[(uH n to),(65,.row X 5 65),(AZ a e)] }):=by kernel_rfl
theorem agI (X:List Value)(n to:Nat)(e a:Int):type_of% (by have h_:=anh X n to e a;unfold AZ uH at h_;exact h_):=anh X n to e a
def TA (n to:Nat):=ltI (qaa to) (qaa n)
def GL (n to:Nat):Nat × Row:=(64,.row [.slice (some ⟨65,0,none⟩) n 18446744073709551616,.int .i64 (qaa to),.bool true,.pointer none] 153 0)
theorem amH (X:List Value)(n to:Nat):(runK KM C5 30).1 40 [gY] (lF mRd.pre.next ⟨[gY],mQ X n to⟩) (fun r=>(dY Tryz.prog mRd.ends 0 r).uV some)=sel (TA n to) (some (1,{ vals:=[.agg { toList:=[.int .i64 4,.int .i64 (qaa to)] }],rows:=[(GL n to),(65,.row X 5 65)] })) (some (1,{ vals:=[.agg { toList:=[.int .i64 0,.int .i64 0] }],rows:=[(GL n to),(65,.row X 5 65)] })):=by kernel_rfl
theorem ae6 (X:List Value)(n to:Nat):type_of% (by have h_:=amH X n to;unfold GL TA at h_;exact h_):=amH X n to
theorem am7 (X:List Value)(n to:Nat)(e a:Int):(runK KM C5 30).1 40 [gY] (lF mRf.pre.next ⟨[gY],oV X n to e a⟩) (fun r=>(dY Tryz.prog mRf.ends 0 r).uV some)=some (0,{ vals:=[.agg { toList:=[.int .i64 e,.int .i64 a] }],rows:=[(uH n to),(65,.row X 5 65),(AZ a e)] }):=by kernel_rfl
theorem aiI (X:List Value)(n to:Nat)(e a:Int):type_of% (by have h_:=am7 X n to e a;unfold AZ uH at h_;exact h_):=am7 X n to e a
theorem amF (X:List Value)(n to:Nat):(runK KM C5 30).1 45 [gY] (lF mRd.pre.next ⟨[gY],mQ X n to⟩) (fun r=>(dY Tryz.prog mRd.ends 0 r).uV some)=sel (to.ble n) (sel ((n.sub to).ble 9223372036854775807) (some (1,{ vals:=[.int .i64 (qaa (n.sub to))],rows:=[(GL n to),(65,.row X 5 65)] })) none) (sel ((to.sub n).ble 9223372036854775808) (some (1,{ vals:=[.int .i64 (Int.negSucc ((to.sub n).sub 1))],rows:=[(GL n to),(65,.row X 5 65)] })) none):=by kernel_rfl
theorem aiY (X:List Value)(n to:Nat):type_of% (by have h_:=amF X n to;unfold GL at h_;exact h_):=amF X n to
theorem am2 (X:List Value)(n to:Nat)(e a:Int):(runK KM C5 30).1 45 [gY] (lF mRf.pre.next ⟨[gY],oV X n to e a⟩) (fun r=>(dY Tryz.prog mRf.ends 0 r).uV some)=some (0,{ vals:=[.int .i64 0],rows:=[(uH n to),(65,.row X 5 65),(AZ a e)] }):=by kernel_rfl
theorem afX (X:List Value)(n to:Nat)(e a:Int):type_of% (by have h_:=am2 X n to e a;unfold AZ uH at h_;exact h_):=am2 X n to e a
def Ti (X:List Value)(n:Nat):=true&&(true&&((n.mul 1).beq (aQ X)&&flatAll X))
def TY (X:List Value)(n to:Nat):=true&&(fZ X&&(to.ble n&&n.ble 4611686018427387904))
def Z5 (X:List Value)(n to:Nat):Option (Nat × bg):=some (0,{ vals:=[.int .i64 0],rows:=[(64,.row [.slice (some ⟨65,0,none⟩) n 18446744073709551616,.int .i64 (qaa (to.add (Fn.nK X to))),.int .i64 3,.int .i64 (qaa to)] 108 0),(65,.row X 5 65)] })
def KN (X:List Value)(a:Int)(n to:Nat):Nat × Row:=(64,.row [.slice (some ⟨65,0,none⟩) n 18446744073709551616,.int .i64 (qaa (to.add (Fn.nK X to))),.int .i64 0,.int .i64 a] 108 0)
def ZW (X:List Value)(a:Int)(n to:Nat):Option (Nat × bg):=sel (qak 9223372036854775808 (Fn.nV X to)) (some (0,{ vals:=[.int .i64 (wrap .i64 (qaa (Fn.nV X to)))],rows:=[(KN X a n to),(65,.row X 5 65)] })) (some (0,{ vals:=[.int .i64 (qaa (Fn.nV X to))],rows:=[(KN X a n to),(65,.row X 5 65)] }))
def Uk (n to:Nat):Nat × Row:=(64,.row [.slice (some ⟨65,0,none⟩) n 18446744073709551616,.int .i64 (qaa to),.int .i64 (qaa 5),.int .i64 (qaa to)] 108 0)
def UZ (n to:Nat):Nat × Row:=(64,.row [.slice (some ⟨65,0,none⟩) n 18446744073709551616,.int .i64 (qaa to),.int .i64 (qaa 6),.int .i64 (qaa to)] 108 0)
theorem asK (X:List Value)(n to lo hi e:Nat)(a:Int):(runK KM C5 30).1 42 [gY,iN lo,iN hi] (lF mRr.pre.next ⟨[gY,iN lo,iN hi],jT X n to 0 a⟩) (fun r=>(dY Tryz.prog mRr.ends 0 r).uV some)=sel (Ti X n) (sel (TY X n to) (sel ((Fn.nE X to).beq 0) (sel (ltI (YB hi) (qaa (Fn.nV X to))) (Z5 X n to) (sel (ltI 0 (qaa lo)) (sel (ltI (qaa (Fn.nV X to)) (ML lo)) (Z5 X n to) (ZW X a n to)) (ZW X a n to))) (sel ((Fn.nE X to).beq 5) (some (0,{ vals:=[.int .i64 0],rows:=[(Uk n to),(65,.row X 5 65)] })) (some (0,{ vals:=[.int .i64 0],rows:=[(UZ n to),(65,.row X 5 65)] })))) none) none:=by kernel_rfl
theorem aue (X:List Value)(n to e:Nat)(a:Int):(runK KM C5 30).1 46 [gY] (lF mRr.pre.next ⟨[gY],jT X n to 0 a⟩) (fun r=>(dY Tryz.prog mRr.ends 0 r).uV some)=sel (Ti X n) (sel (TY X n to) (sel ((Fn.nE X to).beq 0) (some (0,{ vals:=[.int .u64 (qaa (Fn.nV X to))],rows:=[(KN X a n to),(65,.row X 5 65)] })) (sel ((Fn.nE X to).beq 5) (some (0,{ vals:=[.int .u64 0],rows:=[(Uk n to),(65,.row X 5 65)] })) (some (0,{ vals:=[.int .u64 0],rows:=[(UZ n to),(65,.row X 5 65)] })))) none) none:=by kernel_rfl
def Y8 (a:Int)(n to:Nat):Nat × Row:=(64,.row [.slice (some ⟨65,0,none⟩) n 18446744073709551616,.int .i64 (qaa to),.int .i64 0,.int .i64 a] 108 0)
theorem amP (X:List Value)(n to e:Nat)(a:Int):(runK KM C5 30).1 43 [gY] (lF mRr.pre.next ⟨[gY],jT X n to 0 a⟩) (fun r=>(dY Tryz.prog mRr.ends 0 r).uV some)=sel (TA n to) (some (0,{ vals:=[.agg { toList:=[.int .i64 4,.int .i64 (qaa to)] }],rows:=[(Y8 a n to),(65,.row X 5 65)] })) (some (0,{ vals:=[.agg { toList:=[.int .i64 (qaa 0),.int .i64 a] }],rows:=[(Y8 a n to),(65,.row X 5 65)] })):=by kernel_rfl
theorem afq (X:List Value)(n to e:Nat)(a:Int):type_of% (by have h_:=amP X n to e a;unfold Y8 TA at h_;exact h_):=amP X n to e a
def Hl (a:Int)(e n to:Nat):Nat × Row:=(64,.row [.slice (some ⟨65,0,none⟩) n 18446744073709551616,.int .i64 (qaa to),.int .i64 (qaa e.succ),.int .i64 a] 108 0)
theorem amK (X:List Value)(n to lo hi e:Nat)(a:Int):(runK KM C5 30).1 42 [gY,iN lo,iN hi] (lF mRr.pre.next ⟨[gY,iN lo,iN hi],jT X n to (qaa (qab e)) a⟩) (fun r=>(dY Tryz.prog mRr.ends 0 r).uV some)=some (0,{ vals:=[.int .i64 0],rows:=[(Hl a e n to),(65,.row X 5 65)] }):=by kernel_rfl
theorem aiw (X:List Value)(n to lo hi e:Nat)(a:Int):type_of% (by have h_:=amK X n to lo hi e a;unfold Hl at h_;exact h_):=amK X n to lo hi e a
theorem am3 (X:List Value)(n to e:Nat)(a:Int):(runK KM C5 30).1 46 [gY] (lF mRr.pre.next ⟨[gY],jT X n to (qaa (qab e)) a⟩) (fun r=>(dY Tryz.prog mRr.ends 0 r).uV some)=some (0,{ vals:=[.int .u64 0],rows:=[(Hl a e n to),(65,.row X 5 65)] }):=by kernel_rfl
theorem ag6 (X:List Value)(n to e:Nat)(a:Int):type_of% (by have h_:=am3 X n to e a;unfold Hl at h_;exact h_):=am3 X n to e a
theorem amL (X:List Value)(n to e:Nat)(a:Int):(runK KM C5 30).1 43 [gY] (lF mRr.pre.next ⟨[gY],jT X n to (qaa (qab e)) a⟩) (fun r=>(dY Tryz.prog mRr.ends 0 r).uV some)=some (0,{ vals:=[.agg { toList:=[.int .i64 (qaa e.succ),.int .i64 a] }],rows:=[(Hl a e n to),(65,.row X 5 65)] }):=by kernel_rfl
theorem ajl (X:List Value)(n to e:Nat)(a:Int):type_of% (by have h_:=amL X n to e a;unfold Hl at h_;exact h_):=amL X n to e a
theorem qV {N:Nat}:∀ {cs:List Value},allB cs=true→lq N cs=true
 |[],_=>rfl
 |v::cs,h=>by
  obtain ⟨h1,h2⟩:=dn (show sel (isB v) (allB cs) false=true from h)
  obtain ⟨x,rfl,_⟩:=abU h1
  show sel true (lq N cs) false=true
  rw [aN]
  exact qV h2
namespace Fn
def okX (X:List Value):Bool:=allB X
def rN (X:List Value)(lo hi to:Nat):Nat:=(rdN X lo hi (to,0)).1
def rP (X:List Value)(lo hi to:Nat):Nat:=(rdN X lo hi (to,0)).2.1
def rF (X:List Value)(lo hi to:Nat):Nat:=(rdN X lo hi (to,0)).2.2
def rG (X:List Value)(lo hi to:Nat):Nat:=rF X lo hi to-1
def rT (X:List Value)(lo hi to:Nat):Nat:=if nE X to=0 then to+nK X to else to
def okR (X:List Value)(n to:Nat):Bool:=allB X&&(qaf n (aQ X)&&(qak n 4611686018427387904&&qak to n))
end Fn
theorem BG (X:List Value)(lo hi to:Nat) :
  (Fn.nE X to=0∧lo≤Fn.nV X to∧Fn.nV X to≤hi∧Fn.rF X lo hi to=0∧Fn.rN X lo hi to=Fn.nV X to∧Fn.rP X lo hi to=to+Fn.nK X to)∨(Fn.nE X to=0∧hi<Fn.nV X to∧Fn.rF X lo hi to=3)∨
  (Fn.nE X to=0∧Fn.nV X to≤hi∧Fn.nV X to<lo∧Fn.rF X lo hi to=3)∨(Fn.nE X to=5∧Fn.rF X lo hi to=5)∨(Fn.nE X to=6∧Fn.rF X lo hi to=6):=by
 have e1:rdN X lo hi (to,0)=if Fn.nE X to≠0 then (0,(to,Fn.nE X to)) else if Fn.nV X to<lo∨hi<Fn.nV X to then (0,(to,3)) else (Fn.nV X to,(to+Fn.nK X to,0)):=by
  unfold rdN
  rw [if_neg (show ¬(to,0).2≠0 from fun h=>h rfl)]
  rfl
 unfold Fn.rF Fn.rN Fn.rP
 rw [e1]
 rcases ahn X to with h|⟨h,_⟩|⟨h,_⟩
 ·rw [h,if_neg (by omega)]
  by_cases h1:hi<Fn.nV X to
  ·rw [if_pos (.inr h1)];exact .inr (.inl ⟨rfl,h1,rfl⟩)
  ·by_cases h2:Fn.nV X to<lo
   ·rw [if_pos (.inl h2)];exact .inr (.inr (.inl ⟨rfl,by omega,h2,rfl⟩))
   ·rw [if_neg (by omega)];exact .inl ⟨rfl,by omega,by omega,rfl,rfl,rfl⟩
 ·rw [h,if_pos (by omega)];exact .inr (.inr (.inr (.inl ⟨rfl,rfl⟩)))
 ·rw [h,if_pos (by omega)];exact .inr (.inr (.inr (.inr ⟨rfl,rfl⟩)))
theorem qC {X:List Value}{n to:Nat}(h:Fn.okR X n to=true):allB X=true∧n=X.length∧n≤4611686018427387904∧to≤n:=by
 unfold Fn.okR at h
 simp only [qaj] at h
 obtain ⟨h1,h2,h3,h4⟩:=h
 exact ⟨h1,by rw [←aU];exact qad h2,qag h3,qag h4⟩
theorem acV (X:List Value)(to:Nat):Fn.ajL (X.drop to)=Fn.nE X to∧Fn.ai5 (X.drop to)=Fn.nV X to∧Fn.apd (X.drop to)=Fn.nK X to:=by
 have e:=Yr X to X.length 10 0
 have el:(X.drop to).length=X.length-to:=by simp
 refine ⟨?_,?_,?_⟩
 ·show (kJ (X.drop to) 0 (X.drop to).length 10 0).2.2=_;rw [el,e];rfl
 ·show (kJ (X.drop to) 0 (X.drop to).length 10 0).1=_;rw [el,e];rfl
 ·show (kJ (X.drop to) 0 (X.drop to).length 10 0).2.1=_;rw [el,e];rfl
theorem atP {X:List Value}{to:Nat}(hX:allB X=true)(h:Fn.nE X to=0):to+Fn.nK X to≤X.length:=by
 have e:kJ X to X.length 10 0=(Fn.nV X to,Fn.nK X to,0):=L9 (kJ X to X.length 10 0) h
 exact (SY hX e).2.2.2
theorem gU {a b:Nat}(h:a≤b):qak a b=true:=qal h
theorem FW {a b:Nat}(h:b<a):qak a b=false:=by rw [←qan];exact fun e=>absurd (qag e) (by omega)
theorem jG {a b:Nat}(h:a=b):qaf a b=true:=by simp [h]
theorem sQ {a b:Nat}(h:a≠b):qaf a b=false:=by rw [←qan];exact fun e=>h (qad e)
theorem YD {a b:Nat}(h:a<b):ltI (qaa a) (qaa b)=true:=(vT a b).trans (by simpa using h)
theorem Sz {a b:Nat}(h:b≤a):ltI (qaa a) (qaa b)=false:=(vT a b).trans (by simpa using h)
theorem alU {X:List Value}{n to lo hi:Nat}(h:Fn.okR X n to=true)(hlo:lo≤hi)(hhi:hi≤9223372036854775807) :
  (runK KM C5 30).1 39 [gY,iN lo,iN hi] (lF mRd.pre.next ⟨[gY,iN lo,iN hi],mQ X n to⟩) (fun r=>(dY Tryz.prog mRd.ends 0 r).uV some) =
   if Fn.rF X lo hi to=0 then some (1,⟨[iN (Fn.rN X lo hi to)],mQ X n (Fn.rP X lo hi to)⟩) else some (0,⟨[iN 0],oV X n to (qaa (Fn.rF X lo hi to)) (qaa to)⟩):=by
 obtain ⟨hX,hn,hbig,hto⟩:=qC h
 have e0:qac 0 (to.mul 1)=to:=by show 0+to*1=to;omega
 have e1:qac 0 (n.mul 1)=n:=by show 0+n*1=n;omega
 have e2:(qam 18446744073709551616 (qam 18446744073709551616 to)).mul 1=to:=by
  show (18446744073709551616-(18446744073709551616-to))*1=to;omega
 have e3:(n.sub to).mul 1=X.length-to:=by show (n-to)*1=_;omega
 have f1:=gU hto
 have f2:n.ble 18446744073709551616=true:=gU (by omega)
 have f3:qak 9223372036854775808 (qam 18446744073709551616 to)=true:=gU (by show _≤18446744073709551616-to;omega)
 have f4:n.ble (aQ X)=true:=gU (by rw [aU];omega)
 have f5:qaf 18446744073709551616 to=false:=sQ (by omega)
 have f6:to.beq to=true:=jG rfl
 have f7:to.ble (aQ X)=true:=gU (by rw [aU];omega)
 have f8:(X.length-to).beq (aQ (bJ to X))=true:=jG (by rw [aU,gu];simp)
 have f9:flatAll (bJ to X)=true:=by rw [gu];exact jJ (xG to hX)
 have f10:fZ (bJ to X)=true:=by rw [gu];exact Ia (xG to hX)
 have g:=acV X to
 rw [←gu] at g
 have m1:hi.mod 18446744073709551616=hi:=qah (by omega)
 have m2:lo.mod 18446744073709551616=lo:=qah (by omega)
 rw [arA];unfold Tq Y5 Nl Lc UQ Zw Zf Et Uh RP RI Uo TU Sv Rj ZF RY YL NQ Ob ML agK WC uH ahA YB abq abz abP acy abG;rw [e0,e1,e2,e3,f1,f2,f3,f4,f5,f6,f7,f8,f9,f10,g.1,g.2.1,g.2.2,m1,m2]
 by_cases ht:to<n∨to=0
 ·have f11:(false||ltN to n||ltN to (aQ X)||to.beq 0)=true:=by
   rcases ht with ht|ht
   ·rw [show ltN to n=true from gU ht];rfl
   ·subst ht;simp
  rw [f11]
  rcases BG X lo hi to with ⟨h1,h2,h3,h4,h5,h6⟩|⟨h1,h2,h3⟩|⟨h1,h2,h3,h4⟩|⟨h1,h2⟩|⟨h1,h2⟩
  ·have hk:=atP hX h1
   rw [h4,h5,h6,h1,Sz h3,Sz h2,if_pos rfl,FW (show Fn.nV X to<9223372036854775808 by omega),show (to.add (Fn.nK X to)).ble 9223372036854775807=true from gU (by show to+Fn.nK X to≤_;omega)]
   cases ltI 0 (qaa lo) <;> rfl
  ·rw [h3,h1,YD h2,if_neg (by omega)]
   cases qak 9223372036854775808 (Fn.nV X to) <;> rfl
  ·rw [h4,h1,Sz h2,YD h3,show ltI 0 (qaa lo)=true from YD (a:=0) (by omega),if_neg (by omega)]
   cases qak 9223372036854775808 (Fn.nV X to) <;> rfl
  ·rw [h2,h1,if_neg (by omega)];rfl
  ·rw [h2,h1,if_neg (by omega)];rfl
 ·have e:to=X.length:=by omega
  have f11:(false||ltN to n||ltN to (aQ X)||to.beq 0)=false:=by
   rw [show ltN to n=false from FW (by omega),show ltN to (aQ X)=false from FW (by rw [aU];omega),sQ (show to≠0 by omega)];rfl
  rw [f11]
  have h6:Fn.nE X to=6:=by
   unfold Fn.nE
   rw [ou,if_neg (by omega)]
  rcases BG X lo hi to with ⟨h1,_⟩|⟨h1,_⟩|⟨h1,_⟩|⟨h1,_⟩|⟨h1,h2⟩
  ·omega
  ·omega
  ·omega
  ·omega
  ·rw [h2,if_neg (by omega)];rfl
theorem aqL {X:List Value}{to:Nat}(hX:allB X=true)(h:Fn.nE X to=0):Fn.nV X to<18446744073709551616:=by
 have e:kJ X to X.length 10 0=(Fn.nV X to,Fn.nK X to,0):=L9 (kJ X to X.length 10 0) h
 exact (SY hX e).1
def uN (n:Nat):Value:=.int .u64 (qaa n)
theorem aj6 {X:List Value}{n to:Nat}(h:Fn.okR X n to=true) :
  (runK KM C5 30).1 44 [gY] (lF mRd.pre.next ⟨[gY],mQ X n to⟩) (fun r=>(dY Tryz.prog mRd.ends 0 r).uV some) =
   if Fn.rF X 0 18446744073709551615 to=0 then some (1,⟨[uN (Fn.rN X 0 18446744073709551615 to)],mQ X n (Fn.rP X 0 18446744073709551615 to)⟩) else some (0,⟨[uN 0],oV X n to (qaa (Fn.rF X 0 18446744073709551615 to)) (qaa to)⟩):=by
 obtain ⟨hX,hn,hbig,hto⟩:=qC h
 have e0:qac 0 (to.mul 1)=to:=by show 0+to*1=to;omega
 have e1:qac 0 (n.mul 1)=n:=by show 0+n*1=n;omega
 have e2:(qam 18446744073709551616 (qam 18446744073709551616 to)).mul 1=to:=by
  show (18446744073709551616-(18446744073709551616-to))*1=to;omega
 have e3:(n.sub to).mul 1=X.length-to:=by show (n-to)*1=_;omega
 have f1:=gU hto
 have f2:n.ble 18446744073709551616=true:=gU (by omega)
 have f3:qak 9223372036854775808 (qam 18446744073709551616 to)=true:=gU (by show _≤18446744073709551616-to;omega)
 have f4:n.ble (aQ X)=true:=gU (by rw [aU];omega)
 have f5:qaf 18446744073709551616 to=false:=sQ (by omega)
 have f6:to.beq to=true:=jG rfl
 have f7:to.ble (aQ X)=true:=gU (by rw [aU];omega)
 have f8:(X.length-to).beq (aQ (bJ to X))=true:=jG (by rw [aU,gu];simp)
 have f9:flatAll (bJ to X)=true:=by rw [gu];exact jJ (xG to hX)
 have f10:fZ (bJ to X)=true:=by rw [gu];exact Ia (xG to hX)
 have g:=acV X to
 rw [←gu] at g
 rw [asn];unfold Tq Nl Et Uh Lc UQ RP RI Uo TU Td Rj ZH RY uH NQ Ob abq abz abP acy abG;rw [e0,e1,e2,e3,f1,f2,f3,f4,f5,f6,f7,f8,f9,f10,g.1,g.2.1,g.2.2]
 by_cases ht:to<n∨to=0
 ·have f11:(false||ltN to n||ltN to (aQ X)||to.beq 0)=true:=by
   rcases ht with ht|ht
   ·rw [show ltN to n=true from gU ht];rfl
   ·subst ht;simp
  rw [f11]
  rcases BG X 0 18446744073709551615 to with ⟨h1,h2,h3,h4,h5,h6⟩|⟨h1,h2,h3⟩|⟨h1,h2,h3,h4⟩|⟨h1,h2⟩|⟨h1,h2⟩
  ·have hk:=atP hX h1
   rw [h4,h5,h6,h1,if_pos rfl,show (to.add (Fn.nK X to)).ble 9223372036854775807=true from gU (by show to+Fn.nK X to≤_;omega)]
   rfl
  ·exact absurd h2 (by have:=aqL hX h1;omega)
  ·omega
  ·rw [h2,h1,if_neg (by omega)];rfl
  ·rw [h2,h1,if_neg (by omega)];rfl
 ·have e:to=X.length:=by omega
  have f11:(false||ltN to n||ltN to (aQ X)||to.beq 0)=false:=by
   rw [show ltN to n=false from FW (by omega),show ltN to (aQ X)=false from FW (by rw [aU];omega),sQ (show to≠0 by omega)];rfl
  rw [f11]
  have h6:Fn.nE X to=6:=by
   unfold Fn.nE
   rw [ou,if_neg (by omega)]
  rcases BG X 0 18446744073709551615 to with ⟨h1,_⟩|⟨h1,_⟩|⟨h1,_⟩|⟨h1,_⟩|⟨h1,h2⟩
  ·omega
  ·omega
  ·omega
  ·omega
  ·rw [h2,if_neg (by omega)];rfl
theorem ak4 {X:List Value}{n to lo hi:Nat}{a:Int}(h:Fn.okR X n to=true)(hlo:lo≤hi)(hhi:hi≤9223372036854775807) :
  (runK KM C5 30).1 42 [gY,iN lo,iN hi] (lF mRr.pre.next ⟨[gY,iN lo,iN hi],jT X n to 0 a⟩) (fun r=>(dY Tryz.prog mRr.ends 0 r).uV some) =
   if Fn.rF X lo hi to=0 then some (0,⟨[iN (Fn.rN X lo hi to)],jT X n (Fn.rP X lo hi to) 0 a⟩) else some (0,⟨[iN 0],jT X n (Fn.rT X lo hi to) (qaa (Fn.rF X lo hi to)) (qaa to)⟩):=by
 obtain ⟨hX,hn,hbig,hto⟩:=qC h
 have f1:=gU hto
 have f2:n.ble 4611686018427387904=true:=gU hbig
 have f4:(n.mul 1).beq (aQ X)=true:=jG (by rw [aU];show n*1=_;omega)
 have f9:flatAll X=true:=jJ hX
 have f10:fZ X=true:=Ia hX
 have m1:hi.mod 18446744073709551616=hi:=qah (by omega)
 have m2:lo.mod 18446744073709551616=lo:=qah (by omega)
 rw [asK (e:=0)];unfold UZ Uk ZW KN ML Z5 YB TY Ti;rw [f1,f2,f4,f9,f10,m1,m2]
 unfold Fn.rT
 rcases BG X lo hi to with ⟨h1,h2,h3,h4,h5,h6⟩|⟨h1,h2,h3⟩|⟨h1,h2,h3,h4⟩|⟨h1,h2⟩|⟨h1,h2⟩
 ·rw [h4,h5,h6,h1,Sz h3,Sz h2,if_pos rfl,FW (show Fn.nV X to<9223372036854775808 by omega)]
  cases ltI 0 (qaa lo) <;> rfl
 ·rw [h3,h1,YD h2,if_neg (by omega),if_pos rfl]
  rfl
 ·rw [h4,h1,Sz h2,YD h3,show ltI 0 (qaa lo)=true from YD (a:=0) (by omega),if_neg (by omega),if_pos rfl]
  rfl
 ·rw [h2,h1,if_neg (by omega),if_neg (by omega)];rfl
 ·rw [h2,h1,if_neg (by omega),if_neg (by omega)];rfl
theorem alR {X:List Value}{n to:Nat}{a:Int}(h:Fn.okR X n to=true) :
  (runK KM C5 30).1 46 [gY] (lF mRr.pre.next ⟨[gY],jT X n to 0 a⟩) (fun r=>(dY Tryz.prog mRr.ends 0 r).uV some) =
   if Fn.rF X 0 18446744073709551615 to=0 then some (0,⟨[uN (Fn.rN X 0 18446744073709551615 to)],jT X n (Fn.rP X 0 18446744073709551615 to) 0 a⟩) else some (0,⟨[uN 0],jT X n (Fn.rT X 0 18446744073709551615 to) (qaa (Fn.rF X 0 18446744073709551615 to)) (qaa to)⟩):=by
 obtain ⟨hX,hn,hbig,hto⟩:=qC h
 have f1:=gU hto
 have f2:n.ble 4611686018427387904=true:=gU hbig
 have f4:(n.mul 1).beq (aQ X)=true:=jG (by rw [aU];show n*1=_;omega)
 have f9:flatAll X=true:=jJ hX
 have f10:fZ X=true:=Ia hX
 rw [aue (e:=0)];unfold UZ Uk KN TY Ti;rw [f1,f2,f4,f9,f10]
 unfold Fn.rT
 rcases BG X 0 18446744073709551615 to with ⟨h1,h2,h3,h4,h5,h6⟩|⟨h1,h2,h3⟩|⟨h1,h2,h3,h4⟩|⟨h1,h2⟩|⟨h1,h2⟩
 ·rw [h4,h5,h6,h1,if_pos rfl]
  rfl
 ·exact absurd h2 (by have:=aqL hX h1;omega)
 ·omega
 ·rw [h2,h1,if_neg (by omega),if_neg (by omega)];rfl
 ·rw [h2,h1,if_neg (by omega),if_neg (by omega)];rfl
def ad2 {R:Type}(b:Nat)(v:Value)(k:Tree R):Tree R:=
 match v with
 |.pointer (some a)=>sel (a.spot.isNone&&(qaf a.block b&&qaf a.off 0)) k .fail
 |_=>.fail
def akk {R:Type}(v:Value)(k:Tree R):Tree R:=
 match v with
 |.pointer none=>k
 |_=>.fail
def pTrue {R:Type}(v:Value)(k:Tree R):Tree R:=
 match v with
 |.bool b=>sel b k .fail
 |_=>.fail
theorem kP {R:Type}{b:Nat}{v:Value}{k:Tree R}{r:R}(h:(ad2 b v k).run=some r):v = .pointer (some ⟨b,0,none⟩)∧k.run=some r:=by
 unfold ad2 at h
 split at h
 ·rename_i a
  obtain ⟨b',o,sp⟩:=a
  obtain ⟨h1,h9⟩:=dR h
  clear h
  simp only [qaj] at h1
  obtain ⟨h1,h2,h3⟩:=h1
  have h2:b'=b:=qad h2
  have h3:o=0:=qad h3
  subst h2 h3
  cases sp with
  |some x=>cases h1
  |none=>exact ⟨rfl,h9⟩
 ·cases h
theorem QI {R:Type}{v:Value}{k:Tree R}{r:R}(h:(akk v k).run=some r):v = .pointer none∧k.run=some r:=by
 unfold akk at h
 split at h
 ·exact ⟨rfl,h⟩
 ·cases h
theorem sW {R:Type}{v:Value}{k:Tree R}{r:R}(h:(pTrue v k).run=some r):v = .bool true∧k.run=some r:=by
 unfold pTrue at h
 split at h
 ·rename_i b
  obtain ⟨rfl,h9⟩:=dR h
  exact ⟨rfl,h9⟩
 ·cases h
abbrev MT:=Tree (Nat × bg)
def aud (l:List (Nat × Row))(k:List Value→Nat→Nat→MT):MT:=
 bZ l fun q1 l=>Cm 64 tRd 0 q1 fun rd=>bZ l fun q2 l=>Cm 65 tB 65 q2 fun X=>zn l (bZ rd fun a1 l=>pSl 65 aF a1 fun n=>bZ l fun a2 l=>DJ .i64 a2 fun to=>bZ l fun a3 l=>pTrue a3 (bZ l fun a4 l=>akk a4 (zn l (k X n to))))
theorem EI {l:List (Nat × Row)}{k:List Value→Nat→Nat→MT}{r:Nat × bg}(w0:(aud l k).run=some r):∃ X n to,l=mQ X n to∧(k X n to).run=some r:=by
 obtain ⟨q1,l1,rfl,w1⟩:=aB w0
 obtain ⟨rd,rfl,w2⟩:=dA (p:=q1) w1
 obtain ⟨q2,l2,rfl,w3⟩:=aB (l:=l1) w2
 obtain ⟨X,rfl,w4⟩:=dA (p:=q2) w3
 obtain ⟨rfl,w5⟩:=bV w4
 obtain ⟨a1,m1,rfl,w6⟩:=aB w5
 obtain ⟨n,rfl,w7⟩:=jQ w6
 obtain ⟨a2,m2,rfl,w8⟩:=aB w7
 obtain ⟨to,rfl,w9⟩:=dG w8
 obtain ⟨a3,m3,rfl,w10⟩:=aB w9
 obtain ⟨rfl,w11⟩:=sW w10
 obtain ⟨a4,m4,rfl,w12⟩:=aB w11
 obtain ⟨rfl,w13⟩:=QI w12
 obtain ⟨rfl,w14⟩:=bV w13
 exact ⟨X,n,to,rfl,w14⟩
def atT (l:List (Nat × Row))(k:List Value→Nat→Nat→Int→Int→MT):MT:=
 bZ l fun q1 l=>Cm 64 tRd 0 q1 fun rd=>bZ l fun q2 l=>Cm 65 tB 65 q2 fun X=>bZ l fun q3 l=>Cm 66 tFa 0 q3 fun fa=>zn l (bZ rd fun a1 l=>pSl 65 aF a1 fun n=>bZ l fun a2 l=>DJ .i64 a2 fun to=>bZ l fun a3 l=>pTrue a3 (bZ l fun a4 l=>ad2 66 a4 (zn l (
  bZ fa fun b1 l=>aoq .i64 b1 fun e=>bZ l fun b2 l=>aoq .i64 b2 fun a=>zn l (k X n to e a)))))
theorem FT {l:List (Nat × Row)}{k:List Value→Nat→Nat→Int→Int→MT}{r:Nat × bg}(w0:(atT l k).run=some r):∃ X n to e a,l=oV X n to e a∧(k X n to e a).run=some r:=by
 obtain ⟨q1,l1,rfl,w1⟩:=aB w0
 obtain ⟨rd,rfl,w2⟩:=dA (p:=q1) w1
 obtain ⟨q2,l2,rfl,w3⟩:=aB (l:=l1) w2
 obtain ⟨X,rfl,w4⟩:=dA (p:=q2) w3
 obtain ⟨q3,l3,rfl,w5⟩:=aB (l:=l2) w4
 obtain ⟨fa,rfl,w6⟩:=dA (p:=q3) w5
 obtain ⟨rfl,w7⟩:=bV w6
 obtain ⟨a1,m1,rfl,w8⟩:=aB w7
 obtain ⟨n,rfl,w9⟩:=jQ w8
 obtain ⟨a2,m2,rfl,w10⟩:=aB w9
 obtain ⟨to,rfl,w11⟩:=dG w10
 obtain ⟨a3,m3,rfl,w12⟩:=aB w11
 obtain ⟨rfl,w13⟩:=sW w12
 obtain ⟨a4,m4,rfl,w14⟩:=aB w13
 obtain ⟨rfl,w15⟩:=kP w14
 obtain ⟨rfl,w16⟩:=bV w15
 obtain ⟨b1,k1,rfl,w17⟩:=aB w16
 obtain ⟨e,rfl,w18⟩:=AQ w17
 obtain ⟨b2,k2,rfl,w19⟩:=aB w18
 obtain ⟨a,rfl,w20⟩:=AQ w19
 obtain ⟨rfl,w21⟩:=bV w20
 exact ⟨X,n,to,e,a,rfl,w21⟩
def auw (l:List (Nat × Row))(k:List Value→Nat→Nat→Nat→Int→MT):MT:=
 bZ l fun q1 l=>Cm 64 tRr 0 q1 fun rd=>bZ l fun q2 l=>Cm 65 tB 65 q2 fun X=>zn l (bZ rd fun a1 l=>pSl 65 aF a1 fun n=>bZ l fun a2 l=>DJ .i64 a2 fun to=>bZ l fun a3 l=>DJ .i64 a3 fun e=>bZ l fun a4 l=>aoq .i64 a4 fun a=>zn l (k X n to e a))
theorem LD {l:List (Nat × Row)}{k:List Value→Nat→Nat→Nat→Int→MT}{r:Nat × bg}(w0:(auw l k).run=some r):∃ X n to e a,l=jT X n to (qaa e) a∧(k X n to e a).run=some r:=by
 obtain ⟨q1,l1,rfl,w1⟩:=aB w0
 obtain ⟨rd,rfl,w2⟩:=dA (p:=q1) w1
 obtain ⟨q2,l2,rfl,w3⟩:=aB (l:=l1) w2
 obtain ⟨X,rfl,w4⟩:=dA (p:=q2) w3
 obtain ⟨rfl,w5⟩:=bV w4
 obtain ⟨a1,m1,rfl,w6⟩:=aB w5
 obtain ⟨n,rfl,w7⟩:=jQ w6
 obtain ⟨a2,m2,rfl,w8⟩:=aB w7
 obtain ⟨to,rfl,w9⟩:=dG w8
 obtain ⟨a3,m3,rfl,w10⟩:=aB w9
 obtain ⟨e,rfl,w11⟩:=dG w10
 obtain ⟨a4,m4,rfl,w12⟩:=aB w11
 obtain ⟨a,rfl,w13⟩:=AQ w12
 obtain ⟨rfl,w14⟩:=bV w13
 exact ⟨X,n,to,e,a,rfl,w14⟩
def afk (e:Nat)(z:MT)(s:Nat→MT):MT:=Nat.casesOn (motive:=fun _=>MT) e z s
def Xe (X:List Value)(lo hi to:Nat)(x y:Nat × bg):MT:=.test (qaf (Fn.rF X lo hi to) 0) (.leaf x) (.leaf y)
theorem yX {X:List Value}{lo hi to:Nat}{x y r:Nat × bg}(h:(Xe X lo hi to x y).run=some r):r=if Fn.rF X lo hi to=0 then x else y:=by
 have h:sel (qaf (Fn.rF X lo hi to) 0) (some x) (some y)=some r:=h
 rw [aG] at h
 split at h
 ·rename_i e;rw [if_pos (qad e)];cases h;rfl
 ·rename_i e;rw [if_neg (fun h=>e (jG h))];cases h;rfl
def fE (X:List Value)(lo hi to:Nat):Int:=qaa (qab (Fn.rG X lo hi to))
theorem amm {X:List Value}{lo hi to:Nat}(h:Fn.rF X lo hi to≠0):fE X lo hi to=qaa (Fn.rF X lo hi to):=by
 unfold fE Fn.rG
 rw [show qab (Fn.rF X lo hi to-1)=Fn.rF X lo hi to by omega]
def pN3 (o:bg)(k:Nat→Nat→MT):MT:=bZ o.vals fun u l=>ad2 64 u (bZ l fun a l=>DJ .i64 a fun lo=>bZ l fun b l=>DJ .i64 b fun hi=>zn l (k lo hi))
theorem Sj {o:bg}{k:Nat→Nat→MT}{r:Nat × bg}(h:(pN3 o k).run=some r):∃ lo hi,o.vals=[gY,iN lo,iN hi]∧(k lo hi).run=some r:=by
 obtain ⟨u,l1,hv,h⟩:=aB h
 obtain ⟨rfl,h⟩:=kP h
 obtain ⟨c,l2,rfl,h⟩:=aB h
 obtain ⟨lo,rfl,h⟩:=dG h
 obtain ⟨d,l3,rfl,h⟩:=aB h
 obtain ⟨hi,rfl,h⟩:=dG h
 obtain ⟨rfl,h⟩:=bV h
 exact ⟨lo,hi,hv,h⟩
def p1 (o:bg)(k:MT):MT:=bZ o.vals fun u l=>ad2 64 u (zn l k)
theorem vP {o:bg}{k:MT}{r:Nat × bg}(h:(p1 o k).run=some r):o.vals=[gY]∧k.run=some r:=by
 obtain ⟨u,l1,hv,h⟩:=aB h
 obtain ⟨rfl,h⟩:=kP h
 obtain ⟨rfl,h⟩:=bV h
 exact ⟨hv,h⟩
def okN (lo hi:Nat):Bool:=qak lo hi&&qak hi 9223372036854775807
theorem Kv {lo hi:Nat}(h:okN lo hi=true):lo≤hi∧hi≤9223372036854775807:=by
 unfold okN at h
 simp only [qaj] at h
 exact ⟨qag h.1,qag h.2⟩
def gN0 (o:bg):MT:=pN3 o fun lo hi=>aud o.rows fun X n to=>JM (okN lo hi) (bY (Fn.okR X n to) (Xe X lo hi to (1,⟨[iN (Fn.rN X lo hi to)],mQ X n (Fn.rP X lo hi to)⟩) (0,⟨[iN 0],oV X n to (fE X lo hi to) (qaa to)⟩)))
def gN1 (o:bg):MT:=pN3 o fun lo hi=>atT o.rows fun X n to e a=>bY (Fn.okX X) (.leaf (0,⟨[iN 0],oV X n to e a⟩))
def gU0 (o:bg):MT:=p1 o (aud o.rows fun X n to=>bY (Fn.okR X n to) (Xe X 0 18446744073709551615 to (1,⟨[uN (Fn.rN X 0 18446744073709551615 to)],mQ X n (Fn.rP X 0 18446744073709551615 to)⟩) (0,⟨[uN 0],oV X n to (fE X 0 18446744073709551615 to) (qaa to)⟩)))
def gU1 (o:bg):MT:=p1 o (atT o.rows fun X n to e a=>bY (Fn.okX X) (.leaf (0,⟨[uN 0],oV X n to e a⟩)))
def gE0 (o:bg):MT:=p1 o (aud o.rows fun X n to=>bY (Fn.okX X) (.test (ltN to n) (.leaf (1,⟨[.agg ⟨[.int .i64 4,iN to]⟩],mQ X n to⟩)) (.leaf (1,⟨[.agg ⟨[.int .i64 0,.int .i64 0]⟩],mQ X n to⟩))))
def gE1 (o:bg):MT:=p1 o (atT o.rows fun X n to e a=>bY (Fn.okX X) (.leaf (0,⟨[.agg ⟨[.int .i64 e,.int .i64 a]⟩],oV X n to e a⟩)))
def gL0 (o:bg):MT:=p1 o (aud o.rows fun X n to=>bY (Fn.okR X n to) (.leaf (1,⟨[iN (qam n to)],mQ X n to⟩)))
def gL1 (o:bg):MT:=p1 o (atT o.rows fun X n to e a=>bY (Fn.okX X) (.leaf (0,⟨[iN 0],oV X n to e a⟩)))
def gRN (o:bg):MT:=pN3 o fun lo hi=>auw o.rows fun X n to e a=>afk e
 (JM (okN lo hi) (bY (Fn.okR X n to) (Xe X lo hi to (0,⟨[iN (Fn.rN X lo hi to)],jT X n (Fn.rP X lo hi to) 0 a⟩) (0,⟨[iN 0],jT X n (Fn.rT X lo hi to) (fE X lo hi to) (qaa to)⟩))))
 fun e=>bY (Fn.okX X) (.leaf (0,⟨[iN 0],jT X n to (qaa (qab e)) a⟩))
def gRU (o:bg):MT:=p1 o (auw o.rows fun X n to e a=>afk e
 (bY (Fn.okR X n to) (Xe X 0 18446744073709551615 to (0,⟨[uN (Fn.rN X 0 18446744073709551615 to)],jT X n (Fn.rP X 0 18446744073709551615 to) 0 a⟩) (0,⟨[uN 0],jT X n (Fn.rT X 0 18446744073709551615 to) (fE X 0 18446744073709551615 to) (qaa to)⟩)))
 fun e=>bY (Fn.okX X) (.leaf (0,⟨[uN 0],jT X n to (qaa (qab e)) a⟩)))
def gRE (o:bg):MT:=p1 o (auw o.rows fun X n to e a=>bY (Fn.okX X) (afk e
 (.test (ltN to n) (.leaf (0,⟨[.agg ⟨[.int .i64 4,iN to]⟩],jT X n to 0 a⟩)) (.leaf (0,⟨[.agg ⟨[.int .i64 0,.int .i64 a]⟩],jT X n to 0 a⟩)))
 fun e=>(.leaf (0,⟨[.agg ⟨[.int .i64 (qaa (qab e)),.int .i64 a]⟩],jT X n to (qaa (qab e)) a⟩))))
theorem agH {X:List Value}{n to:Nat}(hX:allB X=true){sp:bM}(h:flagsOf sp=[true,false]):uS (mQ X n to) (flagsOf sp):=by
 rw [h];exact ⟨fun e=>(by cases e),fun _ cs e f h=>(by cases h;exact qV hX),trivial⟩
theorem aaq {X:List Value}{n to:Nat}{e a:Int}(hX:allB X=true){sp:bM}(h:flagsOf sp=[true,false]):uS (jT X n to e a) (flagsOf sp):=by
 rw [h];exact ⟨fun e=>(by cases e),fun _ cs e f h=>(by cases h;exact qV hX),trivial⟩
theorem ady {X:List Value}{n to:Nat}{e a:Int}(hX:allB X=true){sp:bM}(h:flagsOf sp=[true,false,true]):uS (oV X n to e a) (flagsOf sp):=by
 rw [h];exact ⟨fun e=>(by cases e),fun _ cs e f h=>(by cases h;exact qV hX),(fun e=>by cases e),trivial⟩
theorem VZ {X:List Value}{n to:Nat}{e a:Int}{v:List Value}(hX:allB X=true):∀ spe,nth mRd.ends (0,(⟨v,oV X n to e a⟩:bg)).1=some spe→uS (0,(⟨v,oV X n to e a⟩:bg)).2.rows (flagsOf spe):=fun spe h=>by
 have h:some eRn=some spe:=h
 cases h
 exact ady hX rfl
theorem Ag {X:List Value}{n to:Nat}{v:List Value}(hX:allB X=true):∀ spe,nth mRd.ends (1,(⟨v,mQ X n to⟩:bg)).1=some spe→uS (1,(⟨v,mQ X n to⟩:bg)).2.rows (flagsOf spe):=fun spe h=>by
 have h:some eRd=some spe:=h
 cases h
 exact agH hX rfl
theorem Kw {X:List Value}{n to:Nat}{e a:Int}{v:List Value}(hX:allB X=true):∀ spe,nth mRf.ends (0,(⟨v,oV X n to e a⟩:bg)).1=some spe→uS (0,(⟨v,oV X n to e a⟩:bg)).2.rows (flagsOf spe):=fun spe h=>by
 have h:some eRf=some spe:=h
 cases h
 exact ady hX rfl
theorem rY {X:List Value}{n to:Nat}{e a:Int}{v:List Value}(hX:allB X=true):∀ spe,nth mRr.ends (0,(⟨v,jT X n to e a⟩:bg)).1=some spe→uS (0,(⟨v,jT X n to e a⟩:bg)).2.rows (flagsOf spe):=fun spe h=>by
 have h:some eRd=some spe:=h
 cases h
 exact aaq hX rfl
theorem byK {f:FuncId}{args:List Value}{s:St}{l:List bM}{q:Nat × bg}(h:(runK KM C5 30).1 f args s (fun r=>(dY Tryz.prog l 0 r).uV some)=some q) :
  aj ((runN C5 30).1 f args s) (fun r=>(dY Tryz.prog l 0 r).run)=some q:=LC (K:=KM) (by decide) bI aY h
theorem atr:jh Tryz.prog C5 30 39 mRd gN0:=by
 rintro ⟨vals,rows⟩ q h
 obtain ⟨lo,hi,hv,z0⟩:=Sj h
 obtain ⟨X,n,to,hr,z1⟩:=EI z0
 obtain ⟨h1,z2⟩:=fP z1
 obtain ⟨h2,z3⟩:=aJ z2
 have z4:=yX z3
 have hv:vals=_:=hv
 have hr:rows=_:=hr
 subst hv hr
 obtain ⟨hX,_⟩:=qC h2
 refine ⟨agH hX rfl,?_,byK ?_⟩
 ·rw [z4];split
  ·exact Ag hX
  ·exact VZ hX
 ·rw [show (⟨[gY,iN lo,iN hi],mQ X n to⟩:bg).vals=[gY,iN lo,iN hi] from rfl,alU h2 (Kv h1).1 (Kv h1).2,z4]
  split
  ·rfl
  ·rename_i hne;rw [amm hne]
theorem asZ:jh Tryz.prog C5 30 39 mRf gN1:=by
 rintro ⟨vals,rows⟩ q h
 obtain ⟨lo,hi,hv,z0⟩:=Sj h
 obtain ⟨X,n,to,e,a,hr,z1⟩:=FT z0
 obtain ⟨hX,z2⟩:=aJ z1
 have hv:vals=_:=hv
 have hr:rows=_:=hr
 subst hv hr
 cases z2
 exact ⟨ady hX rfl,Kw hX,byK (afv ..)⟩
theorem aqW:jh Tryz.prog C5 30 44 mRd gU0:=by
 rintro ⟨vals,rows⟩ q h
 obtain ⟨hv,z0⟩:=vP h
 obtain ⟨X,n,to,hr,z1⟩:=EI z0
 obtain ⟨h2,z2⟩:=aJ z1
 have z3:=yX z2
 have hv:vals=_:=hv
 have hr:rows=_:=hr
 subst hv hr
 obtain ⟨hX,_⟩:=qC h2
 refine ⟨agH hX rfl,?_,byK ?_⟩
 ·rw [z3];split
  ·exact Ag hX
  ·exact VZ hX
 ·rw [show (⟨[gY],mQ X n to⟩:bg).vals=[gY] from rfl,aj6 h2,z3]
  split
  ·rfl
  ·rename_i hne;rw [amm hne]
theorem arG:jh Tryz.prog C5 30 44 mRf gU1:=by
 rintro ⟨vals,rows⟩ q h
 obtain ⟨hv,z0⟩:=vP h
 obtain ⟨X,n,to,e,a,hr,z1⟩:=FT z0
 obtain ⟨hX,z2⟩:=aJ z1
 have hv:vals=_:=hv
 have hr:rows=_:=hr
 subst hv hr
 cases z2
 exact ⟨ady hX rfl,Kw hX,byK (agI ..)⟩
theorem arl:jh Tryz.prog C5 30 40 mRd gE0:=by
 rintro ⟨vals,rows⟩ q h
 obtain ⟨hv,z0⟩:=vP h
 obtain ⟨X,n,to,hr,z1⟩:=EI z0
 obtain ⟨hX,z2⟩:=aJ z1
 have hv:vals=_:=hv
 have hr:rows=_:=hr
 subst hv hr
 have z3:sel (ltN to n) _ _=some q:=z2
 refine ⟨agH hX rfl,?_,byK ((ae6 ..).trans z3)⟩
 rw [aG] at z3
 split at z3
 ·cases z3;exact Ag hX
 ·cases z3;exact Ag hX
theorem aqU:jh Tryz.prog C5 30 40 mRf gE1:=by
 rintro ⟨vals,rows⟩ q h
 obtain ⟨hv,z0⟩:=vP h
 obtain ⟨X,n,to,e,a,hr,z1⟩:=FT z0
 obtain ⟨hX,z2⟩:=aJ z1
 have hv:vals=_:=hv
 have hr:rows=_:=hr
 subst hv hr
 cases z2
 exact ⟨ady hX rfl,Kw hX,byK (aiI ..)⟩
theorem auc:jh Tryz.prog C5 30 45 mRd gL0:=by
 rintro ⟨vals,rows⟩ q h
 obtain ⟨hv,z0⟩:=vP h
 obtain ⟨X,n,to,hr,z1⟩:=EI z0
 obtain ⟨h2,z2⟩:=aJ z1
 have hv:vals=_:=hv
 have hr:rows=_:=hr
 subst hv hr
 obtain ⟨hX,hn,hbig,hto⟩:=qC h2
 cases z2
 refine ⟨agH hX rfl,Ag hX,byK ?_⟩
 rw [show (⟨[gY],mQ X n to⟩:bg).vals=[gY] from rfl,aiY,gU hto,gU (show n.sub to≤9223372036854775807 by show n-to≤_;omega)]
 rfl
theorem arw:jh Tryz.prog C5 30 45 mRf gL1:=by
 rintro ⟨vals,rows⟩ q h
 obtain ⟨hv,z0⟩:=vP h
 obtain ⟨X,n,to,e,a,hr,z1⟩:=FT z0
 obtain ⟨hX,z2⟩:=aJ z1
 have hv:vals=_:=hv
 have hr:rows=_:=hr
 subst hv hr
 cases z2
 exact ⟨ady hX rfl,Kw hX,byK (afX ..)⟩
theorem aru:jh Tryz.prog C5 30 42 mRr gRN:=by
 rintro ⟨vals,rows⟩ q h
 obtain ⟨lo,hi,hv,z0⟩:=Sj h
 obtain ⟨X,n,to,e,a,hr,z1⟩:=LD z0
 have hv:vals=_:=hv
 have hr:rows=_:=hr
 subst hv hr
 cases e with
 |zero=>
  obtain ⟨h1,z2⟩:=fP z1
  obtain ⟨h2,z3⟩:=aJ z2
  have z4:=yX z3
  obtain ⟨hX,_⟩:=qC h2
  refine ⟨aaq hX rfl,?_,byK ?_⟩
  ·rw [z4];split
   ·exact rY hX
   ·exact rY hX
  ·refine (ak4 h2 (Kv h1).1 (Kv h1).2).trans ?_
   rw [z4]
   split
   ·rfl
   ·rename_i hne;rw [amm hne]
 |succ e=>
  obtain ⟨hX,z5⟩:=aJ z1
  cases z5
  exact ⟨aaq hX rfl,rY hX,byK (aiw (e:=e) (lo:=lo) (hi:=hi) ..)⟩
theorem ar9:jh Tryz.prog C5 30 46 mRr gRU:=by
 rintro ⟨vals,rows⟩ q h
 obtain ⟨hv,z0⟩:=vP h
 obtain ⟨X,n,to,e,a,hr,z1⟩:=LD z0
 have hv:vals=_:=hv
 have hr:rows=_:=hr
 subst hv hr
 cases e with
 |zero=>
  obtain ⟨h2,z2⟩:=aJ z1
  have z3:=yX z2
  obtain ⟨hX,_⟩:=qC h2
  refine ⟨aaq hX rfl,?_,byK ?_⟩
  ·rw [z3];split
   ·exact rY hX
   ·exact rY hX
  ·refine (alR h2).trans ?_
   rw [z3]
   split
   ·rfl
   ·rename_i hne;rw [amm hne]
 |succ e=>
  obtain ⟨hX,z5⟩:=aJ z1
  cases z5
  exact ⟨aaq hX rfl,rY hX,byK (ag6 (e:=e) ..)⟩
theorem ato:jh Tryz.prog C5 30 43 mRr gRE:=by
 rintro ⟨vals,rows⟩ q h
 obtain ⟨hv,z0⟩:=vP h
 obtain ⟨X,n,to,e,a,hr,z1⟩:=LD z0
 obtain ⟨hX,z2⟩:=aJ z1
 have hv:vals=_:=hv
 have hr:rows=_:=hr
 subst hv hr
 cases e with
 |zero=>
  have z3:sel (ltN to n) _ _=some q:=z2
  refine ⟨aaq hX rfl,?_,byK ((afq (e:=0) ..).trans z3)⟩
  rw [aG] at z3
  split at z3
  ·cases z3;exact rY hX
  ·cases z3;exact rY hX
 |succ e=>
  cases z2
  exact ⟨aaq hX rfl,rY hX,byK (ajl (e:=e) ..)⟩
variable [Lo]
theorem aaX {f:FuncId}{m1 m2:wS}{g1 g2:bg→MT}(h1:jh Tryz.prog C5 30 f m1 g1)(h2:jh Tryz.prog C5 30 f m2 g2):∀ p∈[(m1,g1),(m2,g2)],∃ C n,dS C Tryz.prog∧jh Tryz.prog C n f p.1 p.2:=by
 intro p hp
 rcases List.mem_cons.1 hp with rfl|hp
 ·exact ⟨C5,30,aoP,h1⟩
 ·rcases List.mem_cons.1 hp with rfl|hp
  ·exact ⟨C5,30,aoP,h2⟩
  ·cases hp
theorem aeU {f:FuncId}{m1:wS}{g1:bg→MT}(h1:jh Tryz.prog C5 30 f m1 g1):∀ p∈[(m1,g1)],∃ C n,dS C Tryz.prog∧jh Tryz.prog C n f p.1 p.2:=by
 intro p hp
 rcases List.mem_cons.1 hp with rfl|hp
 ·exact ⟨C5,30,aoP,h1⟩
 ·cases hp
def aqJ:List (Nat × Con):=
 (39,.tree (pG Tryz.prog [(mRd,gN0),(mRf,gN1)]))::(44,.tree (pG Tryz.prog [(mRd,gU0),(mRf,gU1)]))::(40,.tree (pG Tryz.prog [(mRd,gE0),(mRf,gE1)])) ::
 (45,.tree (pG Tryz.prog [(mRd,gL0),(mRf,gL1)]))::(42,.tree (pG Tryz.prog [(mRr,gRN)]))::(46,.tree (pG Tryz.prog [(mRr,gRU)]))::(43,.tree (pG Tryz.prog [(mRr,gRE)]))::auy
def C7:Cfg:={ CB with ext:=eH [],insert:=eH aqJ }
theorem ahT:dI Tryz.prog C7 aqJ:=
 dI.pG (aaX atr asZ) (dI.pG (aaX aqW arG) (dI.pG (aaX arl aqU) (dI.pG (aaX auc arw) (dI.pG (aeU aru) (dI.pG (aeU ar9) (dI.pG (aeU ato) (dI.to anm rfl)))))))
theorem Rw:dS C7 Tryz.prog:=xq (ext:=eH []) (ins:=eH aqJ) rfl (fun f t h=>ahT f t h) (fun f e h=>by cases h)
end
end Go.Ax
namespace Go.Ax
open Go Go.Proofs
noncomputable section
def auP (c:Int)(f:FuncId)(args:List Value):List Int:=
 sel (qaf f 39||qaf f 42) (jg args [] fun _ l=>jg l [] fun a l=>jg l [] fun b _=>match a with
  |.int _ x=>match b with
   |.int _ y=>sel (eqI x 1&&eqI y 10) [c,0] []
   |_=>[]
  |_=>[]) []
def KPk (c:Int):KP:={ L:=12,B:=some true,post:=auP c }
abbrev tAn:TypeId:=27
abbrev tW:TypeId:=45
def kG:List (Nat × Bool × Bool):=[(64,false,true),(65,false,true),(67,true,false),(68,false,true),(69,false,true)]
def kF:List (Nat × Bool × Bool):=[(64,false,true),(65,false,true),(67,true,false),(68,false,true)]
def sG0:bM:={ N:=70,need:=[2,3,4,5,16,17],low:=[],keep:=kG,new:=[] }
def sG1:bM:={ N:=70,need:=[2,3,4,5,16,17],low:=[],keep:=kG,new:=[⟨.old 69 1,true,false⟩] }
def eG0:bM:={ N:=70,need:=[2,3,4,5],low:=[],keep:=kG,new:=[] }
def eG1:bM:={ N:=70,need:=[2,3,4,5],low:=[],keep:=kG,new:=[⟨.old 69 1,true,false⟩] }
def eGF:bM:={ N:=70,need:=[2,3,4],low:=[],keep:=kF,new:=[⟨.old 68 3,false,true⟩] }
def eRF:bM:={ N:=70,need:=[2,3,4],low:=[],keep:=kF,new:=[] }
def tG0:bM:={ N:=70,need:=[2,3,4,5,6,7],low:=[],keep:=kG,new:=[] }
def tG1:bM:={ N:=70,need:=[2,3,4,5,6,7],low:=[],keep:=kG,new:=[⟨.old 69 1,true,false⟩] }
def pt (b:Nat):Value:=.pointer (some ⟨b,0,none⟩)
def aie (X:List Value)(n to:Nat)(q:Value)(a:List Value):List (Nat × Row):=
 [(64,.row [.int .i64 0,.slice none 0 0] tAn 0),(65,.row [.int .i64 0,.int .i64 0] tFa 0),(67,.row X tB 67),(68,.row [.slice (some ⟨67,0,none⟩) n aF,iN to,.bool true,q] tRd 0)]
def ahW (X:List Value)(n to:Nat)(e:Nat)(a:Int):List (Nat × Row):=
 [(64,.row [.int .i64 0,.slice none 0 0] tAn 0),(65,.row [.int .i64 0,.int .i64 0] tFa 0),(67,.row X tB 67),(68,.row [.slice (some ⟨67,0,none⟩) n aF,iN to,iN e,.int .i64 a] tRr 0)]
def aki (e0:Int):List (Nat × Row):=[(69,.row [.int .i64 e0,.slice none 0 0] tAn 0)]
def akM (e0:Int)(L:List Value)(k:Nat):List (Nat × Row):=[(69,.row [.int .i64 e0,.slice (some ⟨70,0,none⟩) k aF] tAn 0),(70,.row L tW 70)]
def hG0 (X:List Value)(n to:Nat)(e0:Int)(c i:Nat):bg:=⟨[pt 64,pt 65,pt 68,pt 69,iN c,iN i],aI (aie X n to (.pointer none) []) (aki e0)⟩
def hG1 (X:List Value)(n to:Nat)(e0:Int)(L:List Value)(k:Nat)(c i:Nat):bg:=⟨[pt 64,pt 65,pt 68,pt 69,iN c,iN i],aI (aie X n to (.pointer none) []) (akM e0 L k)⟩
def jG0 (X:List Value)(n to:Nat)(e:Nat)(a e0:Int)(c i:Nat):bg:=⟨[pt 64,pt 65,pt 68,pt 69,iN c,iN i],aI (ahW X n to e a) (aki e0)⟩
def jG1 (X:List Value)(n to:Nat)(e:Nat)(a e0:Int)(L:List Value)(k:Nat)(c i:Nat):bg:=⟨[pt 64,pt 65,pt 68,pt 69,iN c,iN i],aI (ahW X n to e a) (akM e0 L k)⟩
def lK (X:List Value)(to:Nat):=(Fn.rF X 0 18446744073709551615 to).beq 0
def oZ (X:List Value)(to:Nat):=Fn.rP X 0 18446744073709551615 to
def wR (X:List Value)(n to:Nat):=Fn.okR X n (oZ X to)
def wQ (X:List Value)(n to:Nat):=eqI (qaa (n.sub (oZ X to))) 0
def xK (X:List Value)(n to:Nat):=ltN (oZ X to) n
def iC:Nat × Row:=(64,.row [.int .i64 0,.slice none 0 0] 27 0)
def iw:Nat × Row:=(65,.row [.int .i64 0,.int .i64 0] 38 0)
def rV (X:List Value)(to:Nat):=qaa (oZ X to)
def xu (X:List Value)(n to:Nat):Nat × Row:=(68,.row [.slice (some ⟨67,0,none⟩) n 18446744073709551616,.int .i64 (rV X to),.bool true,.pointer none] 153 0)
def Df (e0:Int):Nat × Row:=(69,.row [.int .i64 e0,.slice (some ⟨70,0,none⟩) 1 18446744073709551616] 27 0)
def fJ (X:List Value)(to:Nat):=qaa (Fn.rN X 0 18446744073709551615 to)
def yP (X:List Value)(to:Nat):Nat × Row:=(70,.row [.int .u64 (fJ X to)] 45 70)
def Em (X:List Value)(c:Nat)(e0:Int)(n to:Nat):Option (Ex × bg):=some (.normal,{ vals:=[.pointer (some ⟨64,0,none⟩),.pointer (some ⟨65,0,none⟩),.pointer (some ⟨68,0,none⟩),.pointer (some ⟨69,0,none⟩),.int .i64 (qaa c.succ),.int .i64 (qaa 1)],rows:=[iC,iw,(67,.row X 5 67),(xu X n to),(Df e0),(yP X to)] })
def pR (X:List Value)(to:Nat):=qaa (Fn.rG X 0 18446744073709551615 to).succ
def Ep (X:List Value)(n to:Nat):Option (Ex × bg):=some (.exit 0,{ vals:=[.pointer (some ⟨64,0,none⟩),.pointer (some ⟨65,0,none⟩),.pointer (some ⟨68,0,none⟩)],rows:=[iC,iw,(67,.row X 5 67),(68,.row [.slice (some ⟨67,0,none⟩) n 18446744073709551616,.int .i64 (qaa to),.bool true,.pointer (some ⟨70,0,none⟩)] 153 0),(70,.row [.int .i64 (pR X to),.int .i64 (qaa to)] 38 0)] })
theorem at1 (X:List Value)(n to c:Nat)(e0:Int):jC KM.plain C7 (runK KM C7 20).1 (runK KM C7 20).2 (C7.vars 16) 16 false (fH C7 16 5) (fV Tryz.prog (C7.vars 16) sG1 eGF) (Cc sG0.need (hG0 X n to e0 (qab c) 0)) (lF sG0.next (hG0 X n to e0 (qab c) 0))=sel (Fn.okR X n to) (sel (lK X to) (sel (wR X n to) (sel (wQ X n to) (sel (Fn.okX X) (sel (xK X n to) none (sel (List.rec true (fun v x ih=>sel (aX sG1.N v) ih false) X) (Em X c e0 n to) none)) none) (sel (List.rec true (fun v x ih=>sel (aX sG1.N v) ih false) X) (Em X c e0 n to) none)) none) (sel (Fn.okX X) (sel (Fn.okX X) (sel (List.rec true (fun v x ih=>sel (aX eGF.N v) ih false) X) (Ep X n to) none) none) none)) none:=by kernel_rfl
theorem avo (X:List Value)(n to c:Nat)(e0:Int):jC KM.plain C7 (runK KM C7 20).1 (runK KM C7 20).2 (C7.vars 16) 16 false (fH C7 16 5) (fV Tryz.prog (C7.vars 16) sG1 eG1) (Cc sG0.need (hG0 X n to e0 (qab c) 0)) (lF sG0.next (hG0 X n to e0 (qab c) 0))=sel (Fn.okR X n to) (sel (lK X to) (sel (wR X n to) (sel (wQ X n to) (sel (Fn.okX X) (sel (xK X n to) (sel (List.rec true (fun v x ih=>sel (aX eG1.N v) ih false) X) (some (.exit 0,{ vals:=[.pointer (some ⟨64,0,none⟩),.pointer (some ⟨65,0,none⟩),.pointer (some ⟨68,0,none⟩),.pointer (some ⟨69,0,none⟩)],rows:=[iC,iw,(67,.row X 5 67),(xu X n to),(Df e0),(yP X to)] })) none) (sel (List.rec true (fun v x ih=>sel (aX sG1.N v) ih false) X) (Em X c e0 n to) none)) none) (sel (List.rec true (fun v x ih=>sel (aX sG1.N v) ih false) X) (Em X c e0 n to) none)) none) (sel (Fn.okX X) (sel (Fn.okX X) (sel (List.rec true (fun v x ih=>sel (aX eG1.N v) ih false) X) none none) none) none)) none:=by kernel_rfl
def KE (n to:Nat):Nat × Row:=(68,.row [.slice (some ⟨67,0,none⟩) n 18446744073709551616,.int .i64 (qaa to),.bool true,.pointer none] 153 0)
def TV (e0:Int):Nat × Row:=(69,.row [.int .i64 e0,.slice none 0 0] 27 0)
theorem axc (X:List Value)(n to c:Nat)(e0:Int):jC KM.plain C7 (runK KM C7 20).1 (runK KM C7 20).2 (C7.vars 16) 16 false (fH C7 16 5) (fV Tryz.prog (C7.vars 16) sG1 eG0) (Cc sG0.need (hG0 X n to e0 0 0)) (lF sG0.next (hG0 X n to e0 0 0))=sel (List.rec true (fun v x ih=>sel (aX eG0.N v) ih false) X) (some (.exit 0,{ vals:=[.pointer (some ⟨64,0,none⟩),.pointer (some ⟨65,0,none⟩),.pointer (some ⟨68,0,none⟩),.pointer (some ⟨69,0,none⟩)],rows:=[iC,iw,(67,.row X 5 67),(KE n to),(TV e0)] })) none:=by kernel_rfl
def lD (k:Nat):=sel (false||true&&(true&&k.beq k&&true)) true false&&true
def lG (L:List Value)(k:Nat):=(k.add 1).ble 18446744073709551616&&((qac 0 (k.mul 1)).add 1).ble (aQ L)
def kY (L:List Value)(k:Nat):=((qac 0 (k.mul 1)).add 1).ble (aQ L)
def iU (i:Nat):=(i.add 1).ble 9223372036854775807
def lu (e0:Int)(k:Nat):Nat × Row:=(69,.row [.int .i64 e0,.slice (some ⟨70,0,none⟩) (k.add 1) 18446744073709551616] 27 0)
def uw (L X:List Value)(k to:Nat):Nat × Row:=(70,.row (xU [.int .u64 (fJ X to)] (qac 0 (k.mul 1)) L) 45 70)
def zW (L X:List Value)(c:Nat)(e0:Int)(i k n to:Nat):Option (Ex × bg):=some (.normal,{ vals:=[.pointer (some ⟨64,0,none⟩),.pointer (some ⟨65,0,none⟩),.pointer (some ⟨68,0,none⟩),.pointer (some ⟨69,0,none⟩),.int .i64 (qaa c),.int .i64 (qaa (i.add 1))],rows:=[iC,iw,(67,.row X 5 67),(xu X n to),(lu e0 k),(uw L X k to)] })
def kW (k:Nat):=(k.add 1).ble 281474976710656&&(((qao 2 (k.add 1)).add 768).mul 8).ble 281474976710656&&true&&true
def lC (L:List Value)(k:Nat):=(qac 0 (k.mul 1)).beq (aQ L)&&true&&true
def uK (L X:List Value)(k to:Nat):Nat × Row:=(70,.row (aI (aA (k.mul 1) L) [.int .u64 (fJ X to)]) 45 70)
def zx (L X:List Value)(c:Nat)(e0:Int)(i k n to:Nat):Option (Ex × bg):=some (.normal,{ vals:=[.pointer (some ⟨64,0,none⟩),.pointer (some ⟨65,0,none⟩),.pointer (some ⟨68,0,none⟩),.pointer (some ⟨69,0,none⟩),.int .i64 (qaa c),.int .i64 (qaa (i.add 1))],rows:=[iC,iw,(67,.row X 5 67),(xu X n to),(lu e0 k),(uK L X k to)] })
theorem aq9 (X L:List Value)(n to k c i:Nat)(e0:Int):jC KM.plain C7 (runK KM C7 20).1 (runK KM C7 20).2 (C7.vars 16) 16 false (fH C7 16 5) (fV Tryz.prog (C7.vars 16) sG1 eGF) (Cc sG1.need (hG1 X n to e0 L k c i)) (lF sG1.next (hG1 X n to e0 L k c i))=sel (ltI (qaa i) (qaa c)) (sel (Fn.okR X n to) (sel (lK X to) (sel (lD k) (sel (lG L k) (sel (kY L k) (sel (wR X n to) (sel (wQ X n to) (sel (Fn.okX X) (sel (xK X n to) none (sel (iU i) (sel (List.rec true (fun v x ih=>sel (aX sG1.N v) ih false) X) (sel (List.rec true (fun v x ih=>sel (aX sG1.N v) ih false) (xU [.int .u64 (fJ X to)] (qac 0 (k.mul 1)) L)) (zW L X c e0 i k n to) none) none) none)) none) (sel (iU i) (sel (List.rec true (fun v x ih=>sel (aX sG1.N v) ih false) X) (sel (List.rec true (fun v x ih=>sel (aX sG1.N v) ih false) (xU [.int .u64 (fJ X to)] (qac 0 (k.mul 1)) L)) (zW L X c e0 i k n to) none) none) none)) none) none) (sel (kW k) (sel ((k.mul 1).ble (aQ L)) (sel (lC L k) (sel (wR X n to) (sel (wQ X n to) (sel (Fn.okX X) (sel (xK X n to) none (sel (iU i) (sel (List.rec true (fun v x ih=>sel (aX sG1.N v) ih false) X) (sel (List.rec true (fun v x ih=>sel (aX sG1.N v) ih false) (aI (aA (k.mul 1) L) [.int .u64 (fJ X to)])) (zx L X c e0 i k n to) none) none) none)) none) (sel (iU i) (sel (List.rec true (fun v x ih=>sel (aX sG1.N v) ih false) X) (sel (List.rec true (fun v x ih=>sel (aX sG1.N v) ih false) (aI (aA (k.mul 1) L) [.int .u64 (fJ X to)])) (zx L X c e0 i k n to) none) none) none)) none) none) none) none)) none) (sel (lD k) (sel (lG L k) (sel (kY L k) (sel (Fn.okX X) (sel (Fn.okX X) (sel (List.rec true (fun v x ih=>sel (aX eGF.N v) ih false) X) (Ep X n to) none) none) none) none) (sel (kW k) (sel ((k.mul 1).ble (aQ L)) (sel (lC L k) (sel (Fn.okX X) (sel (Fn.okX X) (sel (List.rec true (fun v x ih=>sel (aX eGF.N v) ih false) X) (Ep X n to) none) none) none) none) none) none)) none)) none) none:=by kernel_rfl
def Ij (e0:Int)(k:Nat):Nat × Row:=(69,.row [.int .i64 e0,.slice (some ⟨70,0,none⟩) k 18446744073709551616] 27 0)
theorem asz (X L:List Value)(n to k c i:Nat)(e0:Int):jC KM.plain C7 (runK KM C7 20).1 (runK KM C7 20).2 (C7.vars 16) 16 false (fH C7 16 5) (fV Tryz.prog (C7.vars 16) sG1 eG1) (Cc sG1.need (hG1 X n to e0 L k c i)) (lF sG1.next (hG1 X n to e0 L k c i))=sel (ltI (qaa i) (qaa c)) (sel (Fn.okR X n to) (sel (lK X to) (sel (lD k) (sel (lG L k) (sel (kY L k) (sel (wR X n to) (sel (wQ X n to) (sel (Fn.okX X) (sel (xK X n to) (sel (List.rec true (fun v x ih=>sel (aX eG1.N v) ih false) X) (sel (List.rec true (fun v x ih=>sel (aX eG1.N v) ih false) (xU [.int .u64 (fJ X to)] (qac 0 (k.mul 1)) L)) (some (.exit 0,{ vals:=[.pointer (some ⟨64,0,none⟩),.pointer (some ⟨65,0,none⟩),.pointer (some ⟨68,0,none⟩),.pointer (some ⟨69,0,none⟩)],rows:=[iC,iw,(67,.row X 5 67),(xu X n to),(lu e0 k),(uw L X k to)] })) none) none) (sel (iU i) (sel (List.rec true (fun v x ih=>sel (aX sG1.N v) ih false) X) (sel (List.rec true (fun v x ih=>sel (aX sG1.N v) ih false) (xU [.int .u64 (fJ X to)] (qac 0 (k.mul 1)) L)) (zW L X c e0 i k n to) none) none) none)) none) (sel (iU i) (sel (List.rec true (fun v x ih=>sel (aX sG1.N v) ih false) X) (sel (List.rec true (fun v x ih=>sel (aX sG1.N v) ih false) (xU [.int .u64 (fJ X to)] (qac 0 (k.mul 1)) L)) (zW L X c e0 i k n to) none) none) none)) none) none) (sel (kW k) (sel ((k.mul 1).ble (aQ L)) (sel (lC L k) (sel (wR X n to) (sel (wQ X n to) (sel (Fn.okX X) (sel (xK X n to) (sel (List.rec true (fun v x ih=>sel (aX eG1.N v) ih false) X) (sel (List.rec true (fun v x ih=>sel (aX eG1.N v) ih false) (aI (aA (k.mul 1) L) [.int .u64 (fJ X to)])) (some (.exit 0,{ vals:=[.pointer (some ⟨64,0,none⟩),.pointer (some ⟨65,0,none⟩),.pointer (some ⟨68,0,none⟩),.pointer (some ⟨69,0,none⟩)],rows:=[iC,iw,(67,.row X 5 67),(xu X n to),(lu e0 k),(uK L X k to)] })) none) none) (sel (iU i) (sel (List.rec true (fun v x ih=>sel (aX sG1.N v) ih false) X) (sel (List.rec true (fun v x ih=>sel (aX sG1.N v) ih false) (aI (aA (k.mul 1) L) [.int .u64 (fJ X to)])) (zx L X c e0 i k n to) none) none) none)) none) (sel (iU i) (sel (List.rec true (fun v x ih=>sel (aX sG1.N v) ih false) X) (sel (List.rec true (fun v x ih=>sel (aX sG1.N v) ih false) (aI (aA (k.mul 1) L) [.int .u64 (fJ X to)])) (zx L X c e0 i k n to) none) none) none)) none) none) none) none)) none) (sel (lD k) (sel (lG L k) (sel (kY L k) (sel (Fn.okX X) (sel (Fn.okX X) (sel (List.rec true (fun v x ih=>sel (aX eG1.N v) ih false) X) none none) none) none) none) (sel (kW k) (sel ((k.mul 1).ble (aQ L)) (sel (lC L k) (sel (Fn.okX X) (sel (Fn.okX X) (sel (List.rec true (fun v x ih=>sel (aX eG1.N v) ih false) X) none none) none) none) none) none) none)) none)) none) (sel (List.rec true (fun v x ih=>sel (aX eG1.N v) ih false) X) (sel (List.rec true (fun v x ih=>sel (aX eG1.N v) ih false) L) (some (.exit 0,{ vals:=[.pointer (some ⟨64,0,none⟩),.pointer (some ⟨65,0,none⟩),.pointer (some ⟨68,0,none⟩),.pointer (some ⟨69,0,none⟩)],rows:=[iC,iw,(67,.row X 5 67),(KE n to),(Ij e0 k),(70,.row L 45 70)] })) none) none):=by kernel_rfl
def wz (X:List Value)(a:Int)(n to:Nat):Nat × Row:=(68,.row [.slice (some ⟨67,0,none⟩) n 18446744073709551616,.int .i64 (rV X to),.int .i64 0,.int .i64 a] 108 0)
def Uf (X:List Value)(a:Int)(c:Nat)(e0:Int)(n to:Nat):Option (Ex × bg):=some (.normal,{ vals:=[.pointer (some ⟨64,0,none⟩),.pointer (some ⟨65,0,none⟩),.pointer (some ⟨68,0,none⟩),.pointer (some ⟨69,0,none⟩),.int .i64 (qaa c.succ),.int .i64 (qaa 1)],rows:=[iC,iw,(67,.row X 5 67),(wz X a n to),(Df e0),(yP X to)] })
def wB (X:List Value)(n to:Nat):Nat × Row:=(68,.row [.slice (some ⟨67,0,none⟩) n 18446744073709551616,.int .i64 (qaa (Fn.rT X 0 18446744073709551615 to)),.int .i64 (pR X to),.int .i64 (qaa to)] 108 0)
def TS (X:List Value)(c:Nat)(e0:Int)(n to:Nat):Option (Ex × bg):=some (.normal,{ vals:=[.pointer (some ⟨64,0,none⟩),.pointer (some ⟨65,0,none⟩),.pointer (some ⟨68,0,none⟩),.pointer (some ⟨69,0,none⟩),.int .i64 (qaa c.succ),.int .i64 (qaa 1)],rows:=[iC,iw,(67,.row X 5 67),(wB X n to),(Df e0),(70,.row [.int .u64 (qaa 0)] 45 70)] })
def MG (X:List Value)(n to c:Nat)(a e0:Int):Option (Ex × bg):=sel (Fn.okR X n to) (sel (lK X to) (sel (List.rec true (fun v x ih=>sel (aX tG1.N v) ih false) X) (Uf X a c e0 n to) none) (sel (List.rec true (fun v x ih=>sel (aX tG1.N v) ih false) X) (TS X c e0 n to) none)) none
theorem arN (X:List Value)(n to c:Nat)(a e0:Int):jC KM.plain C7 (runK KM C7 20).1 (runK KM C7 20).2 (C7.vars 17) 17 false (fH C7 17 6) (fV Tryz.prog (C7.vars 17) tG1 eRF) (Cc tG0.need (jG0 X n to 0 a e0 (qab c) 0)) (lF tG0.next (jG0 X n to 0 a e0 (qab c) 0))=MG X n to c a e0:=by kernel_rfl
theorem axl (X:List Value)(n to c:Nat)(a e0:Int):jC KM.plain C7 (runK KM C7 20).1 (runK KM C7 20).2 (C7.vars 17) 17 false (fH C7 17 6) (fV Tryz.prog (C7.vars 17) tG1 eG1) (Cc tG0.need (jG0 X n to 0 a e0 (qab c) 0)) (lF tG0.next (jG0 X n to 0 a e0 (qab c) 0))=MG X n to c a e0:=by kernel_rfl
def Ah (a:Int)(n to:Nat):Nat × Row:=(68,.row [.slice (some ⟨67,0,none⟩) n 18446744073709551616,.int .i64 (qaa to),.int .i64 (qaa 0),.int .i64 a] 108 0)
theorem awz (X:List Value)(n to c:Nat)(a e0:Int):jC KM.plain C7 (runK KM C7 20).1 (runK KM C7 20).2 (C7.vars 17) 17 false (fH C7 17 6) (fV Tryz.prog (C7.vars 17) tG1 eG0) (Cc tG0.need (jG0 X n to 0 a e0 0 0)) (lF tG0.next (jG0 X n to 0 a e0 0 0))=sel (List.rec true (fun v x ih=>sel (aX eG0.N v) ih false) X) (some (.exit 0,{ vals:=[.pointer (some ⟨64,0,none⟩),.pointer (some ⟨65,0,none⟩),.pointer (some ⟨68,0,none⟩),.pointer (some ⟨69,0,none⟩)],rows:=[iC,iw,(67,.row X 5 67),(Ah a n to),(TV e0)] })) none:=by kernel_rfl
def Gp (X:List Value)(a:Int)(e n to:Nat):Option (Ex × bg):=some (.exit 0,{ vals:=[.pointer (some ⟨64,0,none⟩),.pointer (some ⟨65,0,none⟩),.pointer (some ⟨68,0,none⟩)],rows:=[iC,iw,(67,.row X 5 67),(68,.row [.slice (some ⟨67,0,none⟩) n 18446744073709551616,.int .i64 (qaa to),.int .i64 (qaa e.succ),.int .i64 a] 108 0)] })
theorem axj (X:List Value)(n to e c i:Nat)(a e0:Int):jC KM.plain C7 (runK KM C7 20).1 (runK KM C7 20).2 (C7.vars 17) 17 false (fH C7 17 6) (fV Tryz.prog (C7.vars 17) tG1 eRF) (Cc tG0.need (jG0 X n to (qab e) a e0 c i)) (lF tG0.next (jG0 X n to (qab e) a e0 c i))=sel (ltI (qaa i) (qaa c)) (sel (List.rec true (fun v x ih=>sel (aX eRF.N v) ih false) X) (Gp X a e n to) none) (sel (List.rec true (fun v x ih=>sel (aX eRF.N v) ih false) X) (Gp X a e n to) none):=by kernel_rfl
def Ht (L X:List Value)(a:Int)(c:Nat)(e0:Int)(i k n to:Nat):Option (Ex × bg):=some (.normal,{ vals:=[.pointer (some ⟨64,0,none⟩),.pointer (some ⟨65,0,none⟩),.pointer (some ⟨68,0,none⟩),.pointer (some ⟨69,0,none⟩),.int .i64 (qaa c),.int .i64 (qaa (i.add 1))],rows:=[iC,iw,(67,.row X 5 67),(wz X a n to),(lu e0 k),(uw L X k to)] })
def Ii (L X:List Value)(a:Int)(c:Nat)(e0:Int)(i k n to:Nat):Option (Ex × bg):=some (.normal,{ vals:=[.pointer (some ⟨64,0,none⟩),.pointer (some ⟨65,0,none⟩),.pointer (some ⟨68,0,none⟩),.pointer (some ⟨69,0,none⟩),.int .i64 (qaa c),.int .i64 (qaa (i.add 1))],rows:=[iC,iw,(67,.row X 5 67),(wz X a n to),(lu e0 k),(uK L X k to)] })
def G8 (L X:List Value)(c:Nat)(e0:Int)(i k n to:Nat):Option (Ex × bg):=some (.normal,{ vals:=[.pointer (some ⟨64,0,none⟩),.pointer (some ⟨65,0,none⟩),.pointer (some ⟨68,0,none⟩),.pointer (some ⟨69,0,none⟩),.int .i64 (qaa c),.int .i64 (qaa (i.add 1))],rows:=[iC,iw,(67,.row X 5 67),(wB X n to),(lu e0 k),(70,.row (xU [.int .u64 (qaa 0)] (qac 0 (k.mul 1)) L) 45 70)] })
def Hg (L X:List Value)(c:Nat)(e0:Int)(i k n to:Nat):Option (Ex × bg):=some (.normal,{ vals:=[.pointer (some ⟨64,0,none⟩),.pointer (some ⟨65,0,none⟩),.pointer (some ⟨68,0,none⟩),.pointer (some ⟨69,0,none⟩),.int .i64 (qaa c),.int .i64 (qaa (i.add 1))],rows:=[iC,iw,(67,.row X 5 67),(wB X n to),(lu e0 k),(70,.row (aI (aA (k.mul 1) L) [.int .u64 (qaa 0)]) 45 70)] })
theorem atd (X L:List Value)(n to k c i:Nat)(a e0:Int):jC KM.plain C7 (runK KM C7 20).1 (runK KM C7 20).2 (C7.vars 17) 17 false (fH C7 17 6) (fV Tryz.prog (C7.vars 17) tG1 eRF) (Cc tG1.need (jG1 X n to 0 a e0 L k c i)) (lF tG1.next (jG1 X n to 0 a e0 L k c i))=sel (ltI (qaa i) (qaa c)) (sel (Fn.okR X n to) (sel (lK X to) (sel (lD k) (sel (lG L k) (sel (kY L k) (sel (iU i) (sel (List.rec true (fun v x ih=>sel (aX tG1.N v) ih false) X) (sel (List.rec true (fun v x ih=>sel (aX tG1.N v) ih false) (xU [.int .u64 (fJ X to)] (qac 0 (k.mul 1)) L)) (Ht L X a c e0 i k n to) none) none) none) none) (sel (kW k) (sel ((k.mul 1).ble (aQ L)) (sel (lC L k) (sel (iU i) (sel (List.rec true (fun v x ih=>sel (aX tG1.N v) ih false) X) (sel (List.rec true (fun v x ih=>sel (aX tG1.N v) ih false) (aI (aA (k.mul 1) L) [.int .u64 (fJ X to)])) (Ii L X a c e0 i k n to) none) none) none) none) none) none)) none) (sel (lD k) (sel (lG L k) (sel (kY L k) (sel (iU i) (sel (List.rec true (fun v x ih=>sel (aX tG1.N v) ih false) X) (sel (List.rec true (fun v x ih=>sel (aX tG1.N v) ih false) (xU [.int .u64 (qaa 0)] (qac 0 (k.mul 1)) L)) (G8 L X c e0 i k n to) none) none) none) none) (sel (kW k) (sel ((k.mul 1).ble (aQ L)) (sel (lC L k) (sel (iU i) (sel (List.rec true (fun v x ih=>sel (aX tG1.N v) ih false) X) (sel (List.rec true (fun v x ih=>sel (aX tG1.N v) ih false) (aI (aA (k.mul 1) L) [.int .u64 (qaa 0)])) (Hg L X c e0 i k n to) none) none) none) none) none) none)) none)) none) (sel (List.rec true (fun v x ih=>sel (aX eRF.N v) ih false) X) (some (.exit 0,{ vals:=[.pointer (some ⟨64,0,none⟩),.pointer (some ⟨65,0,none⟩),.pointer (some ⟨68,0,none⟩)],rows:=[iC,iw,(67,.row X 5 67),(Ah a n to)] })) none):=by kernel_rfl
theorem atj (X L:List Value)(n to k c i:Nat)(a e0:Int):jC KM.plain C7 (runK KM C7 20).1 (runK KM C7 20).2 (C7.vars 17) 17 false (fH C7 17 6) (fV Tryz.prog (C7.vars 17) tG1 eG1) (Cc tG1.need (jG1 X n to 0 a e0 L k c i)) (lF tG1.next (jG1 X n to 0 a e0 L k c i))=sel (ltI (qaa i) (qaa c)) (sel (Fn.okR X n to) (sel (lK X to) (sel (lD k) (sel (lG L k) (sel (kY L k) (sel (iU i) (sel (List.rec true (fun v x ih=>sel (aX tG1.N v) ih false) X) (sel (List.rec true (fun v x ih=>sel (aX tG1.N v) ih false) (xU [.int .u64 (fJ X to)] (qac 0 (k.mul 1)) L)) (Ht L X a c e0 i k n to) none) none) none) none) (sel (kW k) (sel ((k.mul 1).ble (aQ L)) (sel (lC L k) (sel (iU i) (sel (List.rec true (fun v x ih=>sel (aX tG1.N v) ih false) X) (sel (List.rec true (fun v x ih=>sel (aX tG1.N v) ih false) (aI (aA (k.mul 1) L) [.int .u64 (fJ X to)])) (Ii L X a c e0 i k n to) none) none) none) none) none) none)) none) (sel (lD k) (sel (lG L k) (sel (kY L k) (sel (iU i) (sel (List.rec true (fun v x ih=>sel (aX tG1.N v) ih false) X) (sel (List.rec true (fun v x ih=>sel (aX tG1.N v) ih false) (xU [.int .u64 (qaa 0)] (qac 0 (k.mul 1)) L)) (G8 L X c e0 i k n to) none) none) none) none) (sel (kW k) (sel ((k.mul 1).ble (aQ L)) (sel (lC L k) (sel (iU i) (sel (List.rec true (fun v x ih=>sel (aX tG1.N v) ih false) X) (sel (List.rec true (fun v x ih=>sel (aX tG1.N v) ih false) (aI (aA (k.mul 1) L) [.int .u64 (qaa 0)])) (Hg L X c e0 i k n to) none) none) none) none) none) none)) none)) none) (sel (List.rec true (fun v x ih=>sel (aX eG1.N v) ih false) X) (sel (List.rec true (fun v x ih=>sel (aX eG1.N v) ih false) L) (some (.exit 0,{ vals:=[.pointer (some ⟨64,0,none⟩),.pointer (some ⟨65,0,none⟩),.pointer (some ⟨68,0,none⟩),.pointer (some ⟨69,0,none⟩)],rows:=[iC,iw,(67,.row X 5 67),(Ah a n to),(Ij e0 k),(70,.row L 45 70)] })) none) none):=by kernel_rfl
theorem aws (X L:List Value)(n to k c i e:Nat)(a e0:Int):jC KM.plain C7 (runK KM C7 20).1 (runK KM C7 20).2 (C7.vars 17) 17 false (fH C7 17 6) (fV Tryz.prog (C7.vars 17) tG1 eRF) (Cc tG1.need (jG1 X n to (qab e) a e0 L k c i)) (lF tG1.next (jG1 X n to (qab e) a e0 L k c i))=sel (ltI (qaa i) (qaa c)) (sel (List.rec true (fun v x ih=>sel (aX eRF.N v) ih false) X) (Gp X a e n to) none) (sel (List.rec true (fun v x ih=>sel (aX eRF.N v) ih false) X) (Gp X a e n to) none):=by kernel_rfl
def mW (m:Nat):=(qac 0 m.succ).ble 281474976710656&&(((qao 2 (qac 0 m.succ)).add 768).mul 1).ble 281474976710656&&true&&true
def rX:Value:=.int .i64 (qaa 4)
def QY (X:List Value)(m:Nat):Option cO:=sel (sel (false||true&&sel (true&&eqI (qaa (Fn.rP (aI [] (aA (m.succ.mul 1) X)) 0 63 (Fn.rP (aI [] (aA (m.succ.mul 1) X)) 1 10 0))) (qaa (Fn.rP (aI [] (aA (m.succ.mul 1) X)) 0 63 (Fn.rP (aI [] (aA (m.succ.mul 1) X)) 1 10 0)))) true false) true false&&true) (some { val:=[.agg [.flat (.int .i64 0),.flat (.int .i64 0),.flat (.int .i64 0),.flat (.int .i64 0),.flat (.int .i64 0)],.agg [.flat rX,.flat (.int .i64 (qaa (Fn.rP (aI [] (aA (m.succ.mul 1) X)) 0 63 (Fn.rP (aI [] (aA (m.succ.mul 1) X)) 1 10 0))))]],rows:=[] }) none
def Po (X:List Value)(m:Nat):Value:=.int .i64 (qaa (Fn.rN (aI [] (aA (m.succ.mul 1) X)) 0 63 (Fn.rP (aI [] (aA (m.succ.mul 1) X)) 1 10 0)))
def eU:Value:=.int .i64 (qaa 0)
def xw (X:List Value)(m:Nat):Value:=.int .i64 (qaa (Fn.rP (aI [] (aA (m.succ.mul 1) X)) 1 10 0))
def P5 (X:List Value)(m:Nat):Option cO:=sel (Fn.okX (aI [] (aA (m.succ.mul 1) X))) (sel (sel (false||true&&sel (true&&eqI (qaa (Fn.rG (aI [] (aA (m.succ.mul 1) X)) 0 63 (Fn.rP (aI [] (aA (m.succ.mul 1) X)) 1 10 0)).succ) (qaa (Fn.rG (aI [] (aA (m.succ.mul 1) X)) 0 63 (Fn.rP (aI [] (aA (m.succ.mul 1) X)) 1 10 0)).succ)) (sel (true&&eqI (qaa (Fn.rP (aI [] (aA (m.succ.mul 1) X)) 1 10 0)) (qaa (Fn.rP (aI [] (aA (m.succ.mul 1) X)) 1 10 0))) true false) false) true false&&true) (some { val:=[.agg [.flat (.int .i64 0),.flat (.int .i64 0),.flat (.int .i64 0),.flat (.int .i64 0),.flat (.int .i64 0)],.agg [.flat (.int .i64 (qaa (Fn.rG (aI [] (aA (m.succ.mul 1) X)) 0 63 (Fn.rP (aI [] (aA (m.succ.mul 1) X)) 1 10 0)).succ)),.flat (xw X m)]],rows:=[] }) none) none
def vg (X:List Value)(m:Nat):Option cO:=sel (sel (false||true&&sel (true&&eqI (qaa (Fn.rP (aI [] (aA (m.succ.mul 1) X)) 1 10 0)) (qaa (Fn.rP (aI [] (aA (m.succ.mul 1) X)) 1 10 0))) true false) true false&&true) (some { val:=[.agg [.flat (.int .i64 0),.flat (.int .i64 0),.flat (.int .i64 0),.flat (.int .i64 0),.flat (.int .i64 0)],.agg [.flat rX,.flat (xw X m)]],rows:=[] }) none
def mO (X:List Value)(m:Nat):Option cO:=sel (eqI (qaa (Fn.rN (aI [] (aA (m.succ.mul 1) X)) 1 10 0)) 0) (sel (Fn.okX (aI [] (aA (m.succ.mul 1) X))) (sel (ltN (Fn.rP (aI [] (aA (m.succ.mul 1) X)) 1 10 0) (qac 0 m.succ)) (vg X m) (some { val:=[.agg [.flat eU,.flat eU,.flat eU,.flat eU,.flat eU],.agg [.flat (.int .i64 0),.flat (.int .i64 0)]],rows:=[] })) none) none
def mZ (X:List Value)(m:Nat):Option cO:=sel (Fn.okX (aI [] (aA (m.succ.mul 1) X))) (sel (sel (false||true&&sel (true&&eqI (qaa (Fn.rG (aI [] (aA (m.succ.mul 1) X)) 1 10 0).succ) (qaa (Fn.rG (aI [] (aA (m.succ.mul 1) X)) 1 10 0).succ)) true false) true false&&true) (some { val:=[.agg [.flat (.int .i64 0),.flat (.int .i64 0),.flat (.int .i64 0),.flat (.int .i64 0),.flat (.int .i64 0)],.agg [.flat (.int .i64 (qaa (Fn.rG (aI [] (aA (m.succ.mul 1) X)) 1 10 0).succ)),.flat eU]],rows:=[] }) none) none
def aiD (X:List Value)(m:Nat):Option cO:=sel (mW m) (sel (Fn.okR (aI [] (aA (m.succ.mul 1) X)) (qac 0 m.succ) 0) (sel ((Fn.rF (aI [] (aA (m.succ.mul 1) X)) 1 10 0).beq 0) (sel (eqI (qaa (Fn.rN (aI [] (aA (m.succ.mul 1) X)) 1 10 0)) 1) (sel (Fn.okR (aI [] (aA (m.succ.mul 1) X)) (qac 0 m.succ) (Fn.rP (aI [] (aA (m.succ.mul 1) X)) 1 10 0)) (sel ((Fn.rF (aI [] (aA (m.succ.mul 1) X)) 0 63 (Fn.rP (aI [] (aA (m.succ.mul 1) X)) 1 10 0)).beq 0) (sel (Fn.okX (aI [] (aA (m.succ.mul 1) X))) (sel (ltN (Fn.rP (aI [] (aA (m.succ.mul 1) X)) 0 63 (Fn.rP (aI [] (aA (m.succ.mul 1) X)) 1 10 0)) (qac 0 m.succ)) (QY X m) (some { val:=[.agg [.flat (.int .i64 (qaa 1)),.flat (Po X m),.flat eU,.flat eU,.flat eU],.agg [.flat (.int .i64 0),.flat (.int .i64 0)]],rows:=[] })) none) (P5 X m)) none) (mO X m)) (mZ X m)) none) none
def aiG (X:List Value)(m:Nat):Option cO:=sel ((m.succ.mul 1).ble (aQ X)) (aiD X m) none
theorem aw1 (X:List Value)(m:Nat):(runK (KPk 1) C7 40).1 14 [.slice (some ⟨32,0,none⟩) (qab m) aF] (aP [.one (.sl X 5 (qab m))]) (dJ Tryz.prog)=aiG X m:=by kernel_rfl
def ahx (X:List Value)(m:Nat):Option cO:=sel (mW m) (sel (Fn.okR (aI [] (aA (m.succ.mul 1) X)) (qac 0 m.succ) 0) (sel ((Fn.rF (aI [] (aA (m.succ.mul 1) X)) 1 10 0).beq 0) (sel (eqI (qaa (Fn.rN (aI [] (aA (m.succ.mul 1) X)) 1 10 0)) 2) (sel (Fn.okR (aI [] (aA (m.succ.mul 1) X)) (qac 0 m.succ) (Fn.rP (aI [] (aA (m.succ.mul 1) X)) 1 10 0)) (sel ((Fn.rF (aI [] (aA (m.succ.mul 1) X)) 0 63 (Fn.rP (aI [] (aA (m.succ.mul 1) X)) 1 10 0)).beq 0) (sel (Fn.okX (aI [] (aA (m.succ.mul 1) X))) (sel (ltN (Fn.rP (aI [] (aA (m.succ.mul 1) X)) 0 63 (Fn.rP (aI [] (aA (m.succ.mul 1) X)) 1 10 0)) (qac 0 m.succ)) (QY X m) (some { val:=[.agg [.flat (.int .i64 (qaa 2)),.flat (Po X m),.flat eU,.flat eU,.flat eU],.agg [.flat (.int .i64 0),.flat (.int .i64 0)]],rows:=[] })) none) (P5 X m)) none) (mO X m)) (mZ X m)) none) none
def aeT (X:List Value)(m:Nat):Option cO:=sel ((m.succ.mul 1).ble (aQ X)) (ahx X m) none
theorem avY (X:List Value)(m:Nat):(runK (KPk 2) C7 40).1 14 [.slice (some ⟨32,0,none⟩) (qab m) aF] (aP [.one (.sl X 5 (qab m))]) (dJ Tryz.prog)=aeT X m:=by kernel_rfl
def ai0 (X:List Value)(m:Nat):Option cO:=sel (mW m) (sel (Fn.okR (aI [] (aA (m.succ.mul 1) X)) (qac 0 m.succ) 0) (sel ((Fn.rF (aI [] (aA (m.succ.mul 1) X)) 1 10 0).beq 0) (sel (eqI (qaa (Fn.rN (aI [] (aA (m.succ.mul 1) X)) 1 10 0)) 3) (sel (Fn.okR (aI [] (aA (m.succ.mul 1) X)) (qac 0 m.succ) (Fn.rP (aI [] (aA (m.succ.mul 1) X)) 1 10 0)) (sel ((Fn.rF (aI [] (aA (m.succ.mul 1) X)) 0 63 (Fn.rP (aI [] (aA (m.succ.mul 1) X)) 1 10 0)).beq 0) (sel (Fn.okX (aI [] (aA (m.succ.mul 1) X))) (sel (ltN (Fn.rP (aI [] (aA (m.succ.mul 1) X)) 0 63 (Fn.rP (aI [] (aA (m.succ.mul 1) X)) 1 10 0)) (qac 0 m.succ)) (QY X m) (some { val:=[.agg [.flat (.int .i64 (qaa 3)),.flat (Po X m),.flat eU,.flat eU,.flat eU],.agg [.flat (.int .i64 0),.flat (.int .i64 0)]],rows:=[] })) none) (P5 X m)) none) (mO X m)) (mZ X m)) none) none
def ag0 (X:List Value)(m:Nat):Option cO:=sel ((m.succ.mul 1).ble (aQ X)) (ai0 X m) none
theorem avN (X:List Value)(m:Nat):(runK (KPk 3) C7 40).1 14 [.slice (some ⟨32,0,none⟩) (qab m) aF] (aP [.one (.sl X 5 (qab m))]) (dJ Tryz.prog)=ag0 X m:=by kernel_rfl
def agz (X:List Value)(m:Nat):Option cO:=sel (mW m) (sel (Fn.okR (aI [] (aA (m.succ.mul 1) X)) (qac 0 m.succ) 0) (sel ((Fn.rF (aI [] (aA (m.succ.mul 1) X)) 1 10 0).beq 0) (sel (eqI (qaa (Fn.rN (aI [] (aA (m.succ.mul 1) X)) 1 10 0)) 8) (sel (Fn.okX (aI [] (aA (m.succ.mul 1) X))) (sel (ltN (Fn.rP (aI [] (aA (m.succ.mul 1) X)) 1 10 0) (qac 0 m.succ)) (vg X m) (some { val:=[.agg [.flat (.int .i64 (qaa 8)),.flat eU,.flat eU,.flat eU,.flat eU],.agg [.flat (.int .i64 0),.flat (.int .i64 0)]],rows:=[] })) none) (mO X m)) (mZ X m)) none) none
def ajk (X:List Value)(m:Nat):Option cO:=sel ((m.succ.mul 1).ble (aQ X)) (agz X m) none
theorem au2 (X:List Value)(m:Nat):(runK (KPk 8) C7 40).1 14 [.slice (some ⟨32,0,none⟩) (qab m) aF] (aP [.one (.sl X 5 (qab m))]) (dJ Tryz.prog)=ajk X m:=by kernel_rfl
def DU (X:List Value)(m:Nat):Value:=.int .i64 (qaa (Fn.rP (aI [] (aA (m.succ.mul 1) X)) 0 31 (Fn.rP (aI [] (aA (m.succ.mul 1) X)) 1 10 0)))
def UD (X:List Value)(m:Nat):Option cO:=sel (sel (false||true&&sel (true&&eqI (qaa (Fn.rP (aI [] (aA (m.succ.mul 1) X)) 0 31 (Fn.rP (aI [] (aA (m.succ.mul 1) X)) 1 10 0))) (qaa (Fn.rP (aI [] (aA (m.succ.mul 1) X)) 0 31 (Fn.rP (aI [] (aA (m.succ.mul 1) X)) 1 10 0)))) true false) true false&&true) (some { val:=[.agg [.flat (.int .i64 0),.flat (.int .i64 0),.flat (.int .i64 0),.flat (.int .i64 0),.flat (.int .i64 0)],.agg [.flat rX,.flat (DU X m)]],rows:=[] }) none
def AX (X:List Value)(m:Nat):Value:=.int .i64 (qaa (Fn.rN (aI [] (aA (m.succ.mul 1) X)) 0 31 (Fn.rP (aI [] (aA (m.succ.mul 1) X)) 1 10 0)))
def Ee (X:List Value)(m:Nat):Option cO:=sel (Fn.okX (aI [] (aA (m.succ.mul 1) X))) (sel (sel (false||true&&sel (true&&eqI (qaa (Fn.rG (aI [] (aA (m.succ.mul 1) X)) 0 31 (Fn.rP (aI [] (aA (m.succ.mul 1) X)) 1 10 0)).succ) (qaa (Fn.rG (aI [] (aA (m.succ.mul 1) X)) 0 31 (Fn.rP (aI [] (aA (m.succ.mul 1) X)) 1 10 0)).succ)) (sel (true&&eqI (qaa (Fn.rP (aI [] (aA (m.succ.mul 1) X)) 1 10 0)) (qaa (Fn.rP (aI [] (aA (m.succ.mul 1) X)) 1 10 0))) true false) false) true false&&true) (some { val:=[.agg [.flat (.int .i64 0),.flat (.int .i64 0),.flat (.int .i64 0),.flat (.int .i64 0),.flat (.int .i64 0)],.agg [.flat (.int .i64 (qaa (Fn.rG (aI [] (aA (m.succ.mul 1) X)) 0 31 (Fn.rP (aI [] (aA (m.succ.mul 1) X)) 1 10 0)).succ)),.flat (xw X m)]],rows:=[] }) none) none
def aeM (X:List Value)(m:Nat):Option cO:=sel (mW m) (sel (Fn.okR (aI [] (aA (m.succ.mul 1) X)) (qac 0 m.succ) 0) (sel ((Fn.rF (aI [] (aA (m.succ.mul 1) X)) 1 10 0).beq 0) (sel (eqI (qaa (Fn.rN (aI [] (aA (m.succ.mul 1) X)) 1 10 0)) 4) (sel (Fn.okR (aI [] (aA (m.succ.mul 1) X)) (qac 0 m.succ) (Fn.rP (aI [] (aA (m.succ.mul 1) X)) 1 10 0)) (sel ((Fn.rF (aI [] (aA (m.succ.mul 1) X)) 0 31 (Fn.rP (aI [] (aA (m.succ.mul 1) X)) 1 10 0)).beq 0) (sel (Fn.okX (aI [] (aA (m.succ.mul 1) X))) (sel (ltN (Fn.rP (aI [] (aA (m.succ.mul 1) X)) 0 31 (Fn.rP (aI [] (aA (m.succ.mul 1) X)) 1 10 0)) (qac 0 m.succ)) (UD X m) (some { val:=[.agg [.flat rX,.flat eU,.flat (AX X m),.flat eU,.flat eU],.agg [.flat (.int .i64 0),.flat (.int .i64 0)]],rows:=[] })) none) (Ee X m)) none) (mO X m)) (mZ X m)) none) none
def ae9 (X:List Value)(m:Nat):Option cO:=sel ((m.succ.mul 1).ble (aQ X)) (aeM X m) none
theorem awR (X:List Value)(m:Nat):(runK (KPk 4) C7 40).1 14 [.slice (some ⟨32,0,none⟩) (qab m) aF] (aP [.one (.sl X 5 (qab m))]) (dJ Tryz.prog)=ae9 X m:=by kernel_rfl
def TK (X:List Value)(m:Nat):Option cO:=sel (Fn.okX (aI [] (aA (m.succ.mul 1) X))) (Ee X m) none
def agn (X:List Value)(m:Nat):Option cO:=sel (mW m) (sel (Fn.okR (aI [] (aA (m.succ.mul 1) X)) (qac 0 m.succ) 0) (sel ((Fn.rF (aI [] (aA (m.succ.mul 1) X)) 1 10 0).beq 0) (sel (eqI (qaa (Fn.rN (aI [] (aA (m.succ.mul 1) X)) 1 10 0)) 5) (sel (Fn.okR (aI [] (aA (m.succ.mul 1) X)) (qac 0 m.succ) (Fn.rP (aI [] (aA (m.succ.mul 1) X)) 1 10 0)) (sel ((Fn.rF (aI [] (aA (m.succ.mul 1) X)) 0 31 (Fn.rP (aI [] (aA (m.succ.mul 1) X)) 1 10 0)).beq 0) (sel (Fn.okR (aI [] (aA (m.succ.mul 1) X)) (qac 0 m.succ) (Fn.rP (aI [] (aA (m.succ.mul 1) X)) 0 31 (Fn.rP (aI [] (aA (m.succ.mul 1) X)) 1 10 0))) (sel ((Fn.rF (aI [] (aA (m.succ.mul 1) X)) 1 4294967296 (Fn.rP (aI [] (aA (m.succ.mul 1) X)) 0 31 (Fn.rP (aI [] (aA (m.succ.mul 1) X)) 1 10 0))).beq 0) (sel (Fn.okX (aI [] (aA (m.succ.mul 1) X))) (sel (ltN (Fn.rP (aI [] (aA (m.succ.mul 1) X)) 1 4294967296 (Fn.rP (aI [] (aA (m.succ.mul 1) X)) 0 31 (Fn.rP (aI [] (aA (m.succ.mul 1) X)) 1 10 0))) (qac 0 m.succ)) (sel (sel (false||true&&sel (true&&eqI (qaa (Fn.rP (aI [] (aA (m.succ.mul 1) X)) 1 4294967296 (Fn.rP (aI [] (aA (m.succ.mul 1) X)) 0 31 (Fn.rP (aI [] (aA (m.succ.mul 1) X)) 1 10 0)))) (qaa (Fn.rP (aI [] (aA (m.succ.mul 1) X)) 1 4294967296 (Fn.rP (aI [] (aA (m.succ.mul 1) X)) 0 31 (Fn.rP (aI [] (aA (m.succ.mul 1) X)) 1 10 0))))) true false) true false&&true) (some { val:=[.agg [.flat (.int .i64 0),.flat (.int .i64 0),.flat (.int .i64 0),.flat (.int .i64 0),.flat (.int .i64 0)],.agg [.flat rX,.flat (.int .i64 (qaa (Fn.rP (aI [] (aA (m.succ.mul 1) X)) 1 4294967296 (Fn.rP (aI [] (aA (m.succ.mul 1) X)) 0 31 (Fn.rP (aI [] (aA (m.succ.mul 1) X)) 1 10 0)))))]],rows:=[] }) none) (some { val:=[.agg [.flat (.int .i64 (qaa 5)),.flat eU,.flat (AX X m),.flat eU,.flat (.int .i64 (qaa (Fn.rN (aI [] (aA (m.succ.mul 1) X)) 1 4294967296 (Fn.rP (aI [] (aA (m.succ.mul 1) X)) 0 31 (Fn.rP (aI [] (aA (m.succ.mul 1) X)) 1 10 0)))))],.agg [.flat (.int .i64 0),.flat (.int .i64 0)]],rows:=[] })) none) (sel (Fn.okX (aI [] (aA (m.succ.mul 1) X))) (sel (sel (false||true&&sel (true&&eqI (qaa (Fn.rG (aI [] (aA (m.succ.mul 1) X)) 1 4294967296 (Fn.rP (aI [] (aA (m.succ.mul 1) X)) 0 31 (Fn.rP (aI [] (aA (m.succ.mul 1) X)) 1 10 0))).succ) (qaa (Fn.rG (aI [] (aA (m.succ.mul 1) X)) 1 4294967296 (Fn.rP (aI [] (aA (m.succ.mul 1) X)) 0 31 (Fn.rP (aI [] (aA (m.succ.mul 1) X)) 1 10 0))).succ)) (sel (true&&eqI (qaa (Fn.rP (aI [] (aA (m.succ.mul 1) X)) 0 31 (Fn.rP (aI [] (aA (m.succ.mul 1) X)) 1 10 0))) (qaa (Fn.rP (aI [] (aA (m.succ.mul 1) X)) 0 31 (Fn.rP (aI [] (aA (m.succ.mul 1) X)) 1 10 0)))) true false) false) true false&&true) (some { val:=[.agg [.flat (.int .i64 0),.flat (.int .i64 0),.flat (.int .i64 0),.flat (.int .i64 0),.flat (.int .i64 0)],.agg [.flat (.int .i64 (qaa (Fn.rG (aI [] (aA (m.succ.mul 1) X)) 1 4294967296 (Fn.rP (aI [] (aA (m.succ.mul 1) X)) 0 31 (Fn.rP (aI [] (aA (m.succ.mul 1) X)) 1 10 0))).succ)),.flat (DU X m)]],rows:=[] }) none) none)) none) (TK X m)) none) (mO X m)) (mZ X m)) none) none
def agA (X:List Value)(m:Nat):Option cO:=sel ((m.succ.mul 1).ble (aQ X)) (agn X m) none
theorem axe (X:List Value)(m:Nat):(runK (KPk 5) C7 40).1 14 [.slice (some ⟨32,0,none⟩) (qab m) aF] (aP [.one (.sl X 5 (qab m))]) (dJ Tryz.prog)=agA X m:=by kernel_rfl
def agJ (X:List Value)(m:Nat):Option cO:=sel (mW m) (sel (Fn.okR (aI [] (aA (m.succ.mul 1) X)) (qac 0 m.succ) 0) (sel ((Fn.rF (aI [] (aA (m.succ.mul 1) X)) 1 10 0).beq 0) (sel (eqI (qaa (Fn.rN (aI [] (aA (m.succ.mul 1) X)) 1 10 0)) 9) (sel (Fn.okX (aI [] (aA (m.succ.mul 1) X))) (sel (ltN (Fn.rP (aI [] (aA (m.succ.mul 1) X)) 1 10 0) (qac 0 m.succ)) (vg X m) (some { val:=[.agg [.flat (.int .i64 (qaa 9)),.flat eU,.flat eU,.flat eU,.flat eU],.agg [.flat (.int .i64 0),.flat (.int .i64 0)]],rows:=[] })) none) (mO X m)) (mZ X m)) none) none
def afz (X:List Value)(m:Nat):Option cO:=sel ((m.succ.mul 1).ble (aQ X)) (agJ X m) none
theorem aww (X:List Value)(m:Nat):(runK (KPk 9) C7 40).1 14 [.slice (some ⟨32,0,none⟩) (qab m) aF] (aP [.one (.sl X 5 (qab m))]) (dJ Tryz.prog)=afz X m:=by kernel_rfl
def ahL (X:List Value)(m:Nat):Option cO:=sel (mW m) (sel (Fn.okR (aI [] (aA (m.succ.mul 1) X)) (qac 0 m.succ) 0) (sel ((Fn.rF (aI [] (aA (m.succ.mul 1) X)) 1 10 0).beq 0) (sel (eqI (qaa (Fn.rN (aI [] (aA (m.succ.mul 1) X)) 1 10 0)) 10) (sel (Fn.okX (aI [] (aA (m.succ.mul 1) X))) (sel (ltN (Fn.rP (aI [] (aA (m.succ.mul 1) X)) 1 10 0) (qac 0 m.succ)) (vg X m) (some { val:=[.agg [.flat (.int .i64 (qaa 10)),.flat eU,.flat eU,.flat eU,.flat eU],.agg [.flat (.int .i64 0),.flat (.int .i64 0)]],rows:=[] })) none) (mO X m)) (mZ X m)) none) none
def af2 (X:List Value)(m:Nat):Option cO:=sel ((m.succ.mul 1).ble (aQ X)) (ahL X m) none
theorem asc (X:List Value)(m:Nat):(runK (KPk 10) C7 40).1 14 [.slice (some ⟨32,0,none⟩) (qab m) aF] (aP [.one (.sl X 5 (qab m))]) (dJ Tryz.prog)=af2 X m:=by kernel_rfl
def ah4 (X:List Value)(m:Nat):Option cO:=sel (mW m) (sel (Fn.okR (aI [] (aA (m.succ.mul 1) X)) (qac 0 m.succ) 0) (sel ((Fn.rF (aI [] (aA (m.succ.mul 1) X)) 1 10 0).beq 0) (sel (eqI (qaa (Fn.rN (aI [] (aA (m.succ.mul 1) X)) 1 10 0)) 6) (sel (Fn.okR (aI [] (aA (m.succ.mul 1) X)) (qac 0 m.succ) (Fn.rP (aI [] (aA (m.succ.mul 1) X)) 1 10 0)) (sel ((Fn.rF (aI [] (aA (m.succ.mul 1) X)) 0 31 (Fn.rP (aI [] (aA (m.succ.mul 1) X)) 1 10 0)).beq 0) (sel (Fn.okR (aI [] (aA (m.succ.mul 1) X)) (qac 0 m.succ) (Fn.rP (aI [] (aA (m.succ.mul 1) X)) 0 31 (Fn.rP (aI [] (aA (m.succ.mul 1) X)) 1 10 0))) (sel ((Fn.rF (aI [] (aA (m.succ.mul 1) X)) 1 2 (Fn.rP (aI [] (aA (m.succ.mul 1) X)) 0 31 (Fn.rP (aI [] (aA (m.succ.mul 1) X)) 1 10 0))).beq 0) (sel (Fn.okR (aI [] (aA (m.succ.mul 1) X)) (qac 0 m.succ) (Fn.rP (aI [] (aA (m.succ.mul 1) X)) 1 2 (Fn.rP (aI [] (aA (m.succ.mul 1) X)) 0 31 (Fn.rP (aI [] (aA (m.succ.mul 1) X)) 1 10 0)))) (sel ((Fn.rF (aI [] (aA (m.succ.mul 1) X)) 1 4294967296 (Fn.rP (aI [] (aA (m.succ.mul 1) X)) 1 2 (Fn.rP (aI [] (aA (m.succ.mul 1) X)) 0 31 (Fn.rP (aI [] (aA (m.succ.mul 1) X)) 1 10 0)))).beq 0) (sel (Fn.okX (aI [] (aA (m.succ.mul 1) X))) (sel (ltN (Fn.rP (aI [] (aA (m.succ.mul 1) X)) 1 4294967296 (Fn.rP (aI [] (aA (m.succ.mul 1) X)) 1 2 (Fn.rP (aI [] (aA (m.succ.mul 1) X)) 0 31 (Fn.rP (aI [] (aA (m.succ.mul 1) X)) 1 10 0)))) (qac 0 m.succ)) (sel (sel (false||true&&sel (true&&eqI (qaa (Fn.rP (aI [] (aA (m.succ.mul 1) X)) 1 4294967296 (Fn.rP (aI [] (aA (m.succ.mul 1) X)) 1 2 (Fn.rP (aI [] (aA (m.succ.mul 1) X)) 0 31 (Fn.rP (aI [] (aA (m.succ.mul 1) X)) 1 10 0))))) (qaa (Fn.rP (aI [] (aA (m.succ.mul 1) X)) 1 4294967296 (Fn.rP (aI [] (aA (m.succ.mul 1) X)) 1 2 (Fn.rP (aI [] (aA (m.succ.mul 1) X)) 0 31 (Fn.rP (aI [] (aA (m.succ.mul 1) X)) 1 10 0)))))) true false) true false&&true) (some { val:=[.agg [.flat (.int .i64 0),.flat (.int .i64 0),.flat (.int .i64 0),.flat (.int .i64 0),.flat (.int .i64 0)],.agg [.flat rX,.flat (.int .i64 (qaa (Fn.rP (aI [] (aA (m.succ.mul 1) X)) 1 4294967296 (Fn.rP (aI [] (aA (m.succ.mul 1) X)) 1 2 (Fn.rP (aI [] (aA (m.succ.mul 1) X)) 0 31 (Fn.rP (aI [] (aA (m.succ.mul 1) X)) 1 10 0))))))]],rows:=[] }) none) (some { val:=[.agg [.flat (.int .i64 (qaa 6)),.flat eU,.flat (AX X m),.flat (.int .i64 (qaa (Fn.rN (aI [] (aA (m.succ.mul 1) X)) 1 2 (Fn.rP (aI [] (aA (m.succ.mul 1) X)) 0 31 (Fn.rP (aI [] (aA (m.succ.mul 1) X)) 1 10 0))))),.flat (.int .i64 (qaa (Fn.rN (aI [] (aA (m.succ.mul 1) X)) 1 4294967296 (Fn.rP (aI [] (aA (m.succ.mul 1) X)) 1 2 (Fn.rP (aI [] (aA (m.succ.mul 1) X)) 0 31 (Fn.rP (aI [] (aA (m.succ.mul 1) X)) 1 10 0))))))],.agg [.flat (.int .i64 0),.flat (.int .i64 0)]],rows:=[] })) none) (sel (Fn.okX (aI [] (aA (m.succ.mul 1) X))) (sel (sel (false||true&&sel (true&&eqI (qaa (Fn.rG (aI [] (aA (m.succ.mul 1) X)) 1 4294967296 (Fn.rP (aI [] (aA (m.succ.mul 1) X)) 1 2 (Fn.rP (aI [] (aA (m.succ.mul 1) X)) 0 31 (Fn.rP (aI [] (aA (m.succ.mul 1) X)) 1 10 0)))).succ) (qaa (Fn.rG (aI [] (aA (m.succ.mul 1) X)) 1 4294967296 (Fn.rP (aI [] (aA (m.succ.mul 1) X)) 1 2 (Fn.rP (aI [] (aA (m.succ.mul 1) X)) 0 31 (Fn.rP (aI [] (aA (m.succ.mul 1) X)) 1 10 0)))).succ)) (sel (true&&eqI (qaa (Fn.rP (aI [] (aA (m.succ.mul 1) X)) 1 2 (Fn.rP (aI [] (aA (m.succ.mul 1) X)) 0 31 (Fn.rP (aI [] (aA (m.succ.mul 1) X)) 1 10 0)))) (qaa (Fn.rP (aI [] (aA (m.succ.mul 1) X)) 1 2 (Fn.rP (aI [] (aA (m.succ.mul 1) X)) 0 31 (Fn.rP (aI [] (aA (m.succ.mul 1) X)) 1 10 0))))) true false) false) true false&&true) (some { val:=[.agg [.flat (.int .i64 0),.flat (.int .i64 0),.flat (.int .i64 0),.flat (.int .i64 0),.flat (.int .i64 0)],.agg [.flat (.int .i64 (qaa (Fn.rG (aI [] (aA (m.succ.mul 1) X)) 1 4294967296 (Fn.rP (aI [] (aA (m.succ.mul 1) X)) 1 2 (Fn.rP (aI [] (aA (m.succ.mul 1) X)) 0 31 (Fn.rP (aI [] (aA (m.succ.mul 1) X)) 1 10 0)))).succ)),.flat (.int .i64 (qaa (Fn.rP (aI [] (aA (m.succ.mul 1) X)) 1 2 (Fn.rP (aI [] (aA (m.succ.mul 1) X)) 0 31 (Fn.rP (aI [] (aA (m.succ.mul 1) X)) 1 10 0)))))]],rows:=[] }) none) none)) none) (sel (Fn.okX (aI [] (aA (m.succ.mul 1) X))) (sel (Fn.okX (aI [] (aA (m.succ.mul 1) X))) (sel (sel (false||true&&sel (true&&eqI (qaa (Fn.rG (aI [] (aA (m.succ.mul 1) X)) 1 2 (Fn.rP (aI [] (aA (m.succ.mul 1) X)) 0 31 (Fn.rP (aI [] (aA (m.succ.mul 1) X)) 1 10 0))).succ) (qaa (Fn.rG (aI [] (aA (m.succ.mul 1) X)) 1 2 (Fn.rP (aI [] (aA (m.succ.mul 1) X)) 0 31 (Fn.rP (aI [] (aA (m.succ.mul 1) X)) 1 10 0))).succ)) (sel (true&&eqI (qaa (Fn.rP (aI [] (aA (m.succ.mul 1) X)) 0 31 (Fn.rP (aI [] (aA (m.succ.mul 1) X)) 1 10 0))) (qaa (Fn.rP (aI [] (aA (m.succ.mul 1) X)) 0 31 (Fn.rP (aI [] (aA (m.succ.mul 1) X)) 1 10 0)))) true false) false) true false&&true) (some { val:=[.agg [.flat (.int .i64 0),.flat (.int .i64 0),.flat (.int .i64 0),.flat (.int .i64 0),.flat (.int .i64 0)],.agg [.flat (.int .i64 (qaa (Fn.rG (aI [] (aA (m.succ.mul 1) X)) 1 2 (Fn.rP (aI [] (aA (m.succ.mul 1) X)) 0 31 (Fn.rP (aI [] (aA (m.succ.mul 1) X)) 1 10 0))).succ)),.flat (DU X m)]],rows:=[] }) none) none) none)) none) (sel (Fn.okX (aI [] (aA (m.succ.mul 1) X))) (TK X m) none)) none) (mO X m)) (mZ X m)) none) none
def afP (X:List Value)(m:Nat):Option cO:=sel ((m.succ.mul 1).ble (aQ X)) (ah4 X m) none
theorem awX (X:List Value)(m:Nat):(runK (KPk 6) C7 40).1 14 [.slice (some ⟨32,0,none⟩) (qab m) aF] (aP [.one (.sl X 5 (qab m))]) (dJ Tryz.prog)=afP X m:=by kernel_rfl
def ajn (X:List Value)(m:Nat):Option cO:=sel (mW m) (sel (Fn.okR (aI [] (aA (m.succ.mul 1) X)) (qac 0 m.succ) 0) (sel ((Fn.rF (aI [] (aA (m.succ.mul 1) X)) 1 10 0).beq 0) (sel (eqI (qaa (Fn.rN (aI [] (aA (m.succ.mul 1) X)) 1 10 0)) 7) (sel (Fn.okR (aI [] (aA (m.succ.mul 1) X)) (qac 0 m.succ) (Fn.rP (aI [] (aA (m.succ.mul 1) X)) 1 10 0)) (sel ((Fn.rF (aI [] (aA (m.succ.mul 1) X)) 0 31 (Fn.rP (aI [] (aA (m.succ.mul 1) X)) 1 10 0)).beq 0) (sel (Fn.okX (aI [] (aA (m.succ.mul 1) X))) (sel (ltN (Fn.rP (aI [] (aA (m.succ.mul 1) X)) 0 31 (Fn.rP (aI [] (aA (m.succ.mul 1) X)) 1 10 0)) (qac 0 m.succ)) (UD X m) (some { val:=[.agg [.flat (.int .i64 (qaa 7)),.flat eU,.flat (AX X m),.flat eU,.flat eU],.agg [.flat (.int .i64 0),.flat (.int .i64 0)]],rows:=[] })) none) (Ee X m)) none) (mO X m)) (mZ X m)) none) none
def ai3 (X:List Value)(m:Nat):Option cO:=sel ((m.succ.mul 1).ble (aQ X)) (ajn X m) none
theorem au3 (X:List Value)(m:Nat):(runK (KPk 7) C7 40).1 14 [.slice (some ⟨32,0,none⟩) (qab m) aF] (aP [.one (.sl X 5 (qab m))]) (dJ Tryz.prog)=ai3 X m:=by kernel_rfl
namespace Fn
def ru (X:List Value):cO:=⟨[.agg [.flat (iN (qQ X).1),.flat (iN (qQ X).2.1),.flat (iN (qQ X).2.2.1),.flat (iN (qQ X).2.2.2.1),.flat (iN (qQ X).2.2.2.2)],.agg [.flat (iN (qT X).1),.flat (iN (qT X).2)]],[]⟩
end Fn
theorem dV (n:Nat):eqI (qaa n) (qaa n)=true:=by show qaf n n=true;simp
theorem iO {X:List Value}{to:Nat}(hX:allB X=true)(hb:X.length≤4096)(h:to≤X.length):Fn.okR X X.length to=true:=by
 unfold Fn.okR
 rw [hX,jG (aU X).symm,gU (show X.length≤4611686018427387904 by omega),gU h]
 rfl
theorem CG {X:List Value}{lo hi p:Nat}(h:Fn.rF X lo hi p=0):rdN X lo hi (p,0)=(Fn.rN X lo hi p,(Fn.rP X lo hi p,0)):=by
 have:rdN X lo hi (p,0)=(Fn.rN X lo hi p,(Fn.rP X lo hi p,Fn.rF X lo hi p)):=rfl
 rw [this,h]
theorem wZ {X:List Value}{lo hi p:Nat}(h:Fn.rF X lo hi p≠0):rdN X lo hi (p,0)=(0,(p,Fn.rF X lo hi p)):=by
 have e1:rdN X lo hi (p,0)=if Fn.nE X p≠0 then (0,(p,Fn.nE X p)) else if Fn.nV X p<lo∨hi<Fn.nV X p then (0,(p,3)) else (Fn.nV X p,(p+Fn.nK X p,0)):=by
  unfold rdN
  rw [if_neg (show ¬(p,0).2≠0 from fun h=>h rfl)]
  rfl
 have e2:(rdN X lo hi (p,0)).2.2=Fn.rF X lo hi p:=rfl
 rw [e1] at e2 ⊢
 by_cases h1:Fn.nE X p≠0
 ·rw [if_pos h1] at e2 ⊢;rw [←e2]
 ·rw [if_neg h1] at e2 ⊢
  by_cases h2:Fn.nV X p<lo∨hi<Fn.nV X p
  ·rw [if_pos h2] at e2 ⊢;rw [←e2]
  ·rw [if_neg h2] at e2;exact absurd e2.symm h
theorem lT {X:List Value}{lo hi p:Nat}(hX:allB X=true)(h:Fn.rF X lo hi p=0):Fn.rP X lo hi p≤X.length:=(xX hX (CG h)).2.2.2.2.1
theorem iP {X:List Value}{lo hi p:Nat}(h:Fn.rF X lo hi p≠0):(Fn.rG X lo hi p).succ=Fn.rF X lo hi p:=by unfold Fn.rG;omega
theorem uj {X:List Value}{lo hi p:Nat}{l:List (Nat × Nat)}(h:Fn.rF X lo hi p=0):sJ X ((lo,hi)::l) (p,0)=(Fn.rN X lo hi p::(sJ X l (Fn.rP X lo hi p,0)).1,(sJ X l (Fn.rP X lo hi p,0)).2):=by
 show ((rdN X lo hi (p,0)).1::(sJ X l (rdN X lo hi (p,0)).2).1,(sJ X l (rdN X lo hi (p,0)).2).2)=_
 rw [CG h]
theorem tu {X:List Value}{lo hi p:Nat}{l:List (Nat × Nat)}(h:Fn.rF X lo hi p≠0):(sJ X ((lo,hi)::l) (p,0)).2=(p,Fn.rF X lo hi p):=by
 show (sJ X l (rdN X lo hi (p,0)).2).2=_
 rw [wZ h]
 exact Fp (show (p,Fn.rF X lo hi p).2≠0 from h)
theorem nM {X:List Value}{p e:Nat}(h:(Fn.qF X).2=(p,e)):Fn.qT X=if e≠0 then (e,p) else if p<X.length then (4,p) else (0,0):=by
 unfold Fn.qT ND
 rw [h]
theorem amJ {X:List Value}(h:(Fn.qT X).1≠0):Fn.qQ X=(0,0,0,0,0):=by
 unfold Fn.qQ
 rw [if_neg h]
theorem O0 {X:List Value}(h:(Fn.qT X).1=0):Fn.qQ X=((Fn.qK X).1,qOf (Fn.qK X).1 (Fn.qF X).1):=by
 unfold Fn.qQ
 rw [if_pos h]
theorem bU {X:List Value}{e p:Nat}(h:Fn.qT X=(e,p))(he:e≠0):Fn.ru X=⟨[.agg [.flat (iN 0),.flat (iN 0),.flat (iN 0),.flat (iN 0),.flat (iN 0)],.agg [.flat (iN e),.flat (iN p)]],[]⟩:=by
 unfold Fn.ru
 rw [amJ (by rw [h];exact he),h]
theorem lI {X:List Value}{k a v c g:Nat}(h:Fn.qT X=(0,0))(hq:Fn.qQ X=(k,a,v,c,g)):Fn.ru X=⟨[.agg [.flat (iN k),.flat (iN a),.flat (iN v),.flat (iN c),.flat (iN g)],.agg [.flat (iN 0),.flat (iN 0)]],[]⟩:=by
 unfold Fn.ru
 rw [hq,h]
theorem Og {X:List Value}{m:Nat}(hn:m+1=X.length):aI [] (aA (m.succ.mul 1) X)=X:=by
 show aA (m.succ.mul 1) X=X
 rw [show m.succ.mul 1=aQ X by rw [aU];show (m+1)*1=_;omega]
 exact KL X
theorem CX {X:List Value}{m:Nat}(hX:allB X=true)(hn:m+1=X.length)(hb:X.length≤4096):qac 0 m.succ=X.length∧(m.succ.mul 1).ble (aQ X)=true∧X.length.ble 281474976710656=true∧(((qao 2 X.length).add 768).mul 1).ble 281474976710656=true∧Fn.okX X=true∧Fn.qK X=rdN X 1 10 (0,0):=
 ⟨by show 0+(m+1)=_;omega,gU (by rw [aU];show (m+1)*1≤_;omega),gU (by omega),gU (by show (2*X.length+768)*1≤_;omega),hX,rfl⟩
theorem apU {X:List Value}{m:Nat}(hX:allB X=true)(hn:m+1=X.length)(hb:X.length≤4096)(hk:Fn.rF X 1 10 0=0→Fn.rN X 1 10 0=1) :
  (runK (KPk 1) C7 40).1 14 [.slice (some ⟨32,0,none⟩) (qab m) aF] (aP [.one (.sl X 5 (qab m))]) (dJ Tryz.prog)=some (Fn.ru X):=by
 obtain ⟨e1,e2,e3,e4,ex,hK0⟩:=CX hX hn hb
 rw [aw1];unfold aiG aiD mZ mO vg P5 xw eU Po QY rX mW;rw [Og hn,e1,e2,e3,e4,iO hX hb (qai _),ex]
 by_cases h0:Fn.rF X 1 10 0=0
 ·have hp0:=lT hX h0
  have hK:Fn.qK X=(1,(Fn.rP X 1 10 0,0)):=by rw [hK0,CG h0,hk h0]
  have hF:Fn.qF X=sJ X (qBs 1) (Fn.rP X 1 10 0,0):=by unfold Fn.qF;rw [hK]
  have hF:Fn.qF X=sJ X [(0,63)] (Fn.rP X 1 10 0,0):=hF
  rw [jG h0,hk h0,iO hX hb hp0]
  by_cases h1:Fn.rF X 0 63 (Fn.rP X 1 10 0)=0
  ·have hp1:=lT hX h1
   rw [uj h1] at hF
   rw [jG h1]
   have hF2:(Fn.qF X).2=(Fn.rP X 0 63 (Fn.rP X 1 10 0),0):=by rw [hF];rfl
   have hT:=nM hF2
   rw [if_neg (by omega)] at hT
   by_cases ht:Fn.rP X 0 63 (Fn.rP X 1 10 0)<X.length
   ·rw [if_pos ht] at hT
    rw [show ltN (Fn.rP X 0 63 (Fn.rP X 1 10 0)) X.length=true from gU ht,dV (Fn.rP X 0 63 (Fn.rP X 1 10 0)),bU hT (by omega)];rfl
   ·rw [if_neg ht] at hT
    have hQ:Fn.qQ X=(1,Fn.rN X 0 63 (Fn.rP X 1 10 0),0,0,0):=by rw [O0 (by rw [hT]),hF,hK];rfl
    rw [show ltN (Fn.rP X 0 63 (Fn.rP X 1 10 0)) X.length=false from FW (by omega),lI hT hQ];rfl
  ·have hF2:(Fn.qF X).2=(Fn.rP X 1 10 0,Fn.rF X 0 63 (Fn.rP X 1 10 0)):=by rw [hF];exact tu h1
   have hT:=nM hF2
   rw [if_pos h1] at hT
   rw [sQ h1,iP h1,dV (Fn.rF X 0 63 (Fn.rP X 1 10 0)),dV (Fn.rP X 1 10 0),bU hT h1];rfl
 ·have hK:Fn.qK X=(0,(0,Fn.rF X 1 10 0)):=by rw [hK0,wZ h0]
  have hF2:(Fn.qF X).2=(0,Fn.rF X 1 10 0):=by unfold Fn.qF;rw [hK];rfl
  have hT:=nM hF2
  rw [if_pos h0] at hT
  rw [sQ h0,iP h0,dV (Fn.rF X 1 10 0),bU hT h0];rfl
theorem aqf {X:List Value}{m:Nat}(hX:allB X=true)(hn:m+1=X.length)(hb:X.length≤4096)(hk:Fn.rF X 1 10 0=0→Fn.rN X 1 10 0=2) :
  (runK (KPk 2) C7 40).1 14 [.slice (some ⟨32,0,none⟩) (qab m) aF] (aP [.one (.sl X 5 (qab m))]) (dJ Tryz.prog)=some (Fn.ru X):=by
 obtain ⟨e1,e2,e3,e4,ex,hK0⟩:=CX hX hn hb
 rw [avY];unfold aeT ahx mZ mO vg P5 xw eU Po QY rX mW;rw [Og hn,e1,e2,e3,e4,iO hX hb (qai _),ex]
 by_cases h0:Fn.rF X 1 10 0=0
 ·have hp0:=lT hX h0
  have hK:Fn.qK X=(2,(Fn.rP X 1 10 0,0)):=by rw [hK0,CG h0,hk h0]
  have hF:Fn.qF X=sJ X (qBs 2) (Fn.rP X 1 10 0,0):=by unfold Fn.qF;rw [hK]
  have hF:Fn.qF X=sJ X [(0,63)] (Fn.rP X 1 10 0,0):=hF
  rw [jG h0,hk h0,iO hX hb hp0]
  by_cases h1:Fn.rF X 0 63 (Fn.rP X 1 10 0)=0
  ·have hp1:=lT hX h1
   rw [uj h1] at hF
   rw [jG h1]
   have hF2:(Fn.qF X).2=(Fn.rP X 0 63 (Fn.rP X 1 10 0),0):=by rw [hF];rfl
   have hT:=nM hF2
   rw [if_neg (by omega)] at hT
   by_cases ht:Fn.rP X 0 63 (Fn.rP X 1 10 0)<X.length
   ·rw [if_pos ht] at hT
    rw [show ltN (Fn.rP X 0 63 (Fn.rP X 1 10 0)) X.length=true from gU ht,dV (Fn.rP X 0 63 (Fn.rP X 1 10 0)),bU hT (by omega)];rfl
   ·rw [if_neg ht] at hT
    have hQ:Fn.qQ X=(2,Fn.rN X 0 63 (Fn.rP X 1 10 0),0,0,0):=by rw [O0 (by rw [hT]),hF,hK];rfl
    rw [show ltN (Fn.rP X 0 63 (Fn.rP X 1 10 0)) X.length=false from FW (by omega),lI hT hQ];rfl
  ·have hF2:(Fn.qF X).2=(Fn.rP X 1 10 0,Fn.rF X 0 63 (Fn.rP X 1 10 0)):=by rw [hF];exact tu h1
   have hT:=nM hF2
   rw [if_pos h1] at hT
   rw [sQ h1,iP h1,dV (Fn.rF X 0 63 (Fn.rP X 1 10 0)),dV (Fn.rP X 1 10 0),bU hT h1];rfl
 ·have hK:Fn.qK X=(0,(0,Fn.rF X 1 10 0)):=by rw [hK0,wZ h0]
  have hF2:(Fn.qF X).2=(0,Fn.rF X 1 10 0):=by unfold Fn.qF;rw [hK];rfl
  have hT:=nM hF2
  rw [if_pos h0] at hT
  rw [sQ h0,iP h0,dV (Fn.rF X 1 10 0),bU hT h0];rfl
theorem apt {X:List Value}{m:Nat}(hX:allB X=true)(hn:m+1=X.length)(hb:X.length≤4096)(hk:Fn.rF X 1 10 0=0→Fn.rN X 1 10 0=3) :
  (runK (KPk 3) C7 40).1 14 [.slice (some ⟨32,0,none⟩) (qab m) aF] (aP [.one (.sl X 5 (qab m))]) (dJ Tryz.prog)=some (Fn.ru X):=by
 obtain ⟨e1,e2,e3,e4,ex,hK0⟩:=CX hX hn hb
 rw [avN];unfold ag0 ai0 mZ mO vg P5 xw eU Po QY rX mW;rw [Og hn,e1,e2,e3,e4,iO hX hb (qai _),ex]
 by_cases h0:Fn.rF X 1 10 0=0
 ·have hp0:=lT hX h0
  have hK:Fn.qK X=(3,(Fn.rP X 1 10 0,0)):=by rw [hK0,CG h0,hk h0]
  have hF:Fn.qF X=sJ X (qBs 3) (Fn.rP X 1 10 0,0):=by unfold Fn.qF;rw [hK]
  have hF:Fn.qF X=sJ X [(0,63)] (Fn.rP X 1 10 0,0):=hF
  rw [jG h0,hk h0,iO hX hb hp0]
  by_cases h1:Fn.rF X 0 63 (Fn.rP X 1 10 0)=0
  ·have hp1:=lT hX h1
   rw [uj h1] at hF
   rw [jG h1]
   have hF2:(Fn.qF X).2=(Fn.rP X 0 63 (Fn.rP X 1 10 0),0):=by rw [hF];rfl
   have hT:=nM hF2
   rw [if_neg (by omega)] at hT
   by_cases ht:Fn.rP X 0 63 (Fn.rP X 1 10 0)<X.length
   ·rw [if_pos ht] at hT
    rw [show ltN (Fn.rP X 0 63 (Fn.rP X 1 10 0)) X.length=true from gU ht,dV (Fn.rP X 0 63 (Fn.rP X 1 10 0)),bU hT (by omega)];rfl
   ·rw [if_neg ht] at hT
    have hQ:Fn.qQ X=(3,Fn.rN X 0 63 (Fn.rP X 1 10 0),0,0,0):=by rw [O0 (by rw [hT]),hF,hK];rfl
    rw [show ltN (Fn.rP X 0 63 (Fn.rP X 1 10 0)) X.length=false from FW (by omega),lI hT hQ];rfl
  ·have hF2:(Fn.qF X).2=(Fn.rP X 1 10 0,Fn.rF X 0 63 (Fn.rP X 1 10 0)):=by rw [hF];exact tu h1
   have hT:=nM hF2
   rw [if_pos h1] at hT
   rw [sQ h1,iP h1,dV (Fn.rF X 0 63 (Fn.rP X 1 10 0)),dV (Fn.rP X 1 10 0),bU hT h1];rfl
 ·have hK:Fn.qK X=(0,(0,Fn.rF X 1 10 0)):=by rw [hK0,wZ h0]
  have hF2:(Fn.qF X).2=(0,Fn.rF X 1 10 0):=by unfold Fn.qF;rw [hK];rfl
  have hT:=nM hF2
  rw [if_pos h0] at hT
  rw [sQ h0,iP h0,dV (Fn.rF X 1 10 0),bU hT h0];rfl
theorem aof {X:List Value}{m:Nat}(hX:allB X=true)(hn:m+1=X.length)(hb:X.length≤4096)(hk:Fn.rF X 1 10 0=0→Fn.rN X 1 10 0=4) :
  (runK (KPk 4) C7 40).1 14 [.slice (some ⟨32,0,none⟩) (qab m) aF] (aP [.one (.sl X 5 (qab m))]) (dJ Tryz.prog)=some (Fn.ru X):=by
 obtain ⟨e1,e2,e3,e4,ex,hK0⟩:=CX hX hn hb
 rw [awR];unfold ae9 aeM mZ mO vg Ee xw AX eU UD DU rX mW;rw [Og hn,e1,e2,e3,e4,iO hX hb (qai _),ex]
 by_cases h0:Fn.rF X 1 10 0=0
 ·have hp0:=lT hX h0
  have hK:Fn.qK X=(4,(Fn.rP X 1 10 0,0)):=by rw [hK0,CG h0,hk h0]
  have hF:Fn.qF X=sJ X (qBs 4) (Fn.rP X 1 10 0,0):=by unfold Fn.qF;rw [hK]
  have hF:Fn.qF X=sJ X [(0,31)] (Fn.rP X 1 10 0,0):=hF
  rw [jG h0,hk h0,iO hX hb hp0]
  by_cases h1:Fn.rF X 0 31 (Fn.rP X 1 10 0)=0
  ·have hp1:=lT hX h1
   rw [uj h1] at hF
   rw [jG h1]
   have hF2:(Fn.qF X).2=(Fn.rP X 0 31 (Fn.rP X 1 10 0),0):=by rw [hF];rfl
   have hT:=nM hF2
   rw [if_neg (by omega)] at hT
   by_cases ht:Fn.rP X 0 31 (Fn.rP X 1 10 0)<X.length
   ·rw [if_pos ht] at hT
    rw [show ltN (Fn.rP X 0 31 (Fn.rP X 1 10 0)) X.length=true from gU ht,dV (Fn.rP X 0 31 (Fn.rP X 1 10 0)),bU hT (by omega)];rfl
   ·rw [if_neg ht] at hT
    have hQ:Fn.qQ X=(4,0,Fn.rN X 0 31 (Fn.rP X 1 10 0),0,0):=by rw [O0 (by rw [hT]),hF,hK];rfl
    rw [show ltN (Fn.rP X 0 31 (Fn.rP X 1 10 0)) X.length=false from FW (by omega),lI hT hQ];rfl
  ·have hF2:(Fn.qF X).2=(Fn.rP X 1 10 0,Fn.rF X 0 31 (Fn.rP X 1 10 0)):=by rw [hF];exact tu h1
   have hT:=nM hF2
   rw [if_pos h1] at hT
   rw [sQ h1,iP h1,dV (Fn.rF X 0 31 (Fn.rP X 1 10 0)),dV (Fn.rP X 1 10 0),bU hT h1];rfl
 ·have hK:Fn.qK X=(0,(0,Fn.rF X 1 10 0)):=by rw [hK0,wZ h0]
  have hF2:(Fn.qF X).2=(0,Fn.rF X 1 10 0):=by unfold Fn.qF;rw [hK];rfl
  have hT:=nM hF2
  rw [if_pos h0] at hT
  rw [sQ h0,iP h0,dV (Fn.rF X 1 10 0),bU hT h0];rfl
theorem apT {X:List Value}{m:Nat}(hX:allB X=true)(hn:m+1=X.length)(hb:X.length≤4096)(hk:Fn.rF X 1 10 0=0→Fn.rN X 1 10 0=5) :
  (runK (KPk 5) C7 40).1 14 [.slice (some ⟨32,0,none⟩) (qab m) aF] (aP [.one (.sl X 5 (qab m))]) (dJ Tryz.prog)=some (Fn.ru X):=by
 obtain ⟨e1,e2,e3,e4,ex,hK0⟩:=CX hX hn hb
 rw [axe];unfold agA agn mZ mO vg TK Ee xw DU AX eU rX mW;rw [Og hn,e1,e2,e3,e4,iO hX hb (qai _),ex]
 by_cases h0:Fn.rF X 1 10 0=0
 ·have hp0:=lT hX h0
  have hK:Fn.qK X=(5,(Fn.rP X 1 10 0,0)):=by rw [hK0,CG h0,hk h0]
  have hF:Fn.qF X=sJ X (qBs 5) (Fn.rP X 1 10 0,0):=by unfold Fn.qF;rw [hK]
  have hF:Fn.qF X=sJ X [(0,31),(1,4294967296)] (Fn.rP X 1 10 0,0):=hF
  rw [jG h0,hk h0,iO hX hb hp0]
  by_cases h1:Fn.rF X 0 31 (Fn.rP X 1 10 0)=0
  ·have hp1:=lT hX h1
   rw [uj h1] at hF
   rw [jG h1,iO hX hb hp1]
   by_cases h2:Fn.rF X 1 4294967296 (Fn.rP X 0 31 (Fn.rP X 1 10 0))=0
   ·have hp2:=lT hX h2
    rw [uj h2] at hF
    rw [jG h2]
    have hF2:(Fn.qF X).2=(Fn.rP X 1 4294967296 (Fn.rP X 0 31 (Fn.rP X 1 10 0)),0):=by rw [hF];rfl
    have hT:=nM hF2
    rw [if_neg (by omega)] at hT
    by_cases ht:Fn.rP X 1 4294967296 (Fn.rP X 0 31 (Fn.rP X 1 10 0))<X.length
    ·rw [if_pos ht] at hT
     rw [show ltN (Fn.rP X 1 4294967296 (Fn.rP X 0 31 (Fn.rP X 1 10 0))) X.length=true from gU ht,dV (Fn.rP X 1 4294967296 (Fn.rP X 0 31 (Fn.rP X 1 10 0))),bU hT (by omega)];rfl
    ·rw [if_neg ht] at hT
     have hQ:Fn.qQ X=(5,0,Fn.rN X 0 31 (Fn.rP X 1 10 0),0,Fn.rN X 1 4294967296 (Fn.rP X 0 31 (Fn.rP X 1 10 0))):=by rw [O0 (by rw [hT]),hF,hK];rfl
     rw [show ltN (Fn.rP X 1 4294967296 (Fn.rP X 0 31 (Fn.rP X 1 10 0))) X.length=false from FW (by omega),lI hT hQ];rfl
   ·have hF2:(Fn.qF X).2=(Fn.rP X 0 31 (Fn.rP X 1 10 0),Fn.rF X 1 4294967296 (Fn.rP X 0 31 (Fn.rP X 1 10 0))):=by rw [hF];exact tu h2
    have hT:=nM hF2
    rw [if_pos h2] at hT
    rw [sQ h2,iP h2,dV (Fn.rF X 1 4294967296 (Fn.rP X 0 31 (Fn.rP X 1 10 0))),dV (Fn.rP X 0 31 (Fn.rP X 1 10 0)),bU hT h2];rfl
  ·have hF2:(Fn.qF X).2=(Fn.rP X 1 10 0,Fn.rF X 0 31 (Fn.rP X 1 10 0)):=by rw [hF];exact tu h1
   have hT:=nM hF2
   rw [if_pos h1] at hT
   rw [sQ h1,iP h1,dV (Fn.rF X 0 31 (Fn.rP X 1 10 0)),dV (Fn.rP X 1 10 0),bU hT h1];rfl
 ·have hK:Fn.qK X=(0,(0,Fn.rF X 1 10 0)):=by rw [hK0,wZ h0]
  have hF2:(Fn.qF X).2=(0,Fn.rF X 1 10 0):=by unfold Fn.qF;rw [hK];rfl
  have hT:=nM hF2
  rw [if_pos h0] at hT
  rw [sQ h0,iP h0,dV (Fn.rF X 1 10 0),bU hT h0];rfl
theorem anQ {X:List Value}{m:Nat}(hX:allB X=true)(hn:m+1=X.length)(hb:X.length≤4096)(hk:Fn.rF X 1 10 0=0→Fn.rN X 1 10 0=6) :
  (runK (KPk 6) C7 40).1 14 [.slice (some ⟨32,0,none⟩) (qab m) aF] (aP [.one (.sl X 5 (qab m))]) (dJ Tryz.prog)=some (Fn.ru X):=by
 obtain ⟨e1,e2,e3,e4,ex,hK0⟩:=CX hX hn hb
 rw [awX];unfold afP ah4 mZ mO vg TK Ee xw DU AX eU rX mW;rw [Og hn,e1,e2,e3,e4,iO hX hb (qai _),ex]
 by_cases h0:Fn.rF X 1 10 0=0
 ·have hp0:=lT hX h0
  have hK:Fn.qK X=(6,(Fn.rP X 1 10 0,0)):=by rw [hK0,CG h0,hk h0]
  have hF:Fn.qF X=sJ X (qBs 6) (Fn.rP X 1 10 0,0):=by unfold Fn.qF;rw [hK]
  have hF:Fn.qF X=sJ X [(0,31),(1,2),(1,4294967296)] (Fn.rP X 1 10 0,0):=hF
  rw [jG h0,hk h0,iO hX hb hp0]
  by_cases h1:Fn.rF X 0 31 (Fn.rP X 1 10 0)=0
  ·have hp1:=lT hX h1
   rw [uj h1] at hF
   rw [jG h1,iO hX hb hp1]
   by_cases h2:Fn.rF X 1 2 (Fn.rP X 0 31 (Fn.rP X 1 10 0))=0
   ·have hp2:=lT hX h2
    rw [uj h2] at hF
    rw [jG h2,iO hX hb hp2]
    by_cases h3:Fn.rF X 1 4294967296 (Fn.rP X 1 2 (Fn.rP X 0 31 (Fn.rP X 1 10 0)))=0
    ·have hp3:=lT hX h3
     rw [uj h3] at hF
     rw [jG h3]
     have hF2:(Fn.qF X).2=(Fn.rP X 1 4294967296 (Fn.rP X 1 2 (Fn.rP X 0 31 (Fn.rP X 1 10 0))),0):=by rw [hF];rfl
     have hT:=nM hF2
     rw [if_neg (by omega)] at hT
     by_cases ht:Fn.rP X 1 4294967296 (Fn.rP X 1 2 (Fn.rP X 0 31 (Fn.rP X 1 10 0)))<X.length
     ·rw [if_pos ht] at hT
      rw [show ltN (Fn.rP X 1 4294967296 (Fn.rP X 1 2 (Fn.rP X 0 31 (Fn.rP X 1 10 0)))) X.length=true from gU ht,dV (Fn.rP X 1 4294967296 (Fn.rP X 1 2 (Fn.rP X 0 31 (Fn.rP X 1 10 0)))),bU hT (by omega)];rfl
     ·rw [if_neg ht] at hT
      have hQ:Fn.qQ X=(6,0,Fn.rN X 0 31 (Fn.rP X 1 10 0),Fn.rN X 1 2 (Fn.rP X 0 31 (Fn.rP X 1 10 0)),Fn.rN X 1 4294967296 (Fn.rP X 1 2 (Fn.rP X 0 31 (Fn.rP X 1 10 0)))):=by rw [O0 (by rw [hT]),hF,hK];rfl
      rw [show ltN (Fn.rP X 1 4294967296 (Fn.rP X 1 2 (Fn.rP X 0 31 (Fn.rP X 1 10 0)))) X.length=false from FW (by omega),lI hT hQ];rfl
    ·have hF2:(Fn.qF X).2=(Fn.rP X 1 2 (Fn.rP X 0 31 (Fn.rP X 1 10 0)),Fn.rF X 1 4294967296 (Fn.rP X 1 2 (Fn.rP X 0 31 (Fn.rP X 1 10 0)))):=by rw [hF];exact tu h3
     have hT:=nM hF2
     rw [if_pos h3] at hT
     rw [sQ h3,iP h3,dV (Fn.rF X 1 4294967296 (Fn.rP X 1 2 (Fn.rP X 0 31 (Fn.rP X 1 10 0)))),dV (Fn.rP X 1 2 (Fn.rP X 0 31 (Fn.rP X 1 10 0))),bU hT h3];rfl
   ·have hF2:(Fn.qF X).2=(Fn.rP X 0 31 (Fn.rP X 1 10 0),Fn.rF X 1 2 (Fn.rP X 0 31 (Fn.rP X 1 10 0))):=by rw [hF];exact tu h2
    have hT:=nM hF2
    rw [if_pos h2] at hT
    rw [sQ h2,iP h2,dV (Fn.rF X 1 2 (Fn.rP X 0 31 (Fn.rP X 1 10 0))),dV (Fn.rP X 0 31 (Fn.rP X 1 10 0)),bU hT h2];rfl
  ·have hF2:(Fn.qF X).2=(Fn.rP X 1 10 0,Fn.rF X 0 31 (Fn.rP X 1 10 0)):=by rw [hF];exact tu h1
   have hT:=nM hF2
   rw [if_pos h1] at hT
   rw [sQ h1,iP h1,dV (Fn.rF X 0 31 (Fn.rP X 1 10 0)),dV (Fn.rP X 1 10 0),bU hT h1];rfl
 ·have hK:Fn.qK X=(0,(0,Fn.rF X 1 10 0)):=by rw [hK0,wZ h0]
  have hF2:(Fn.qF X).2=(0,Fn.rF X 1 10 0):=by unfold Fn.qF;rw [hK];rfl
  have hT:=nM hF2
  rw [if_pos h0] at hT
  rw [sQ h0,iP h0,dV (Fn.rF X 1 10 0),bU hT h0];rfl
theorem aoo {X:List Value}{m:Nat}(hX:allB X=true)(hn:m+1=X.length)(hb:X.length≤4096)(hk:Fn.rF X 1 10 0=0→Fn.rN X 1 10 0=7) :
  (runK (KPk 7) C7 40).1 14 [.slice (some ⟨32,0,none⟩) (qab m) aF] (aP [.one (.sl X 5 (qab m))]) (dJ Tryz.prog)=some (Fn.ru X):=by
 obtain ⟨e1,e2,e3,e4,ex,hK0⟩:=CX hX hn hb
 rw [au3];unfold ai3 ajn mZ mO vg Ee xw AX eU UD DU rX mW;rw [Og hn,e1,e2,e3,e4,iO hX hb (qai _),ex]
 by_cases h0:Fn.rF X 1 10 0=0
 ·have hp0:=lT hX h0
  have hK:Fn.qK X=(7,(Fn.rP X 1 10 0,0)):=by rw [hK0,CG h0,hk h0]
  have hF:Fn.qF X=sJ X (qBs 7) (Fn.rP X 1 10 0,0):=by unfold Fn.qF;rw [hK]
  have hF:Fn.qF X=sJ X [(0,31)] (Fn.rP X 1 10 0,0):=hF
  rw [jG h0,hk h0,iO hX hb hp0]
  by_cases h1:Fn.rF X 0 31 (Fn.rP X 1 10 0)=0
  ·have hp1:=lT hX h1
   rw [uj h1] at hF
   rw [jG h1]
   have hF2:(Fn.qF X).2=(Fn.rP X 0 31 (Fn.rP X 1 10 0),0):=by rw [hF];rfl
   have hT:=nM hF2
   rw [if_neg (by omega)] at hT
   by_cases ht:Fn.rP X 0 31 (Fn.rP X 1 10 0)<X.length
   ·rw [if_pos ht] at hT
    rw [show ltN (Fn.rP X 0 31 (Fn.rP X 1 10 0)) X.length=true from gU ht,dV (Fn.rP X 0 31 (Fn.rP X 1 10 0)),bU hT (by omega)];rfl
   ·rw [if_neg ht] at hT
    have hQ:Fn.qQ X=(7,0,Fn.rN X 0 31 (Fn.rP X 1 10 0),0,0):=by rw [O0 (by rw [hT]),hF,hK];rfl
    rw [show ltN (Fn.rP X 0 31 (Fn.rP X 1 10 0)) X.length=false from FW (by omega),lI hT hQ];rfl
  ·have hF2:(Fn.qF X).2=(Fn.rP X 1 10 0,Fn.rF X 0 31 (Fn.rP X 1 10 0)):=by rw [hF];exact tu h1
   have hT:=nM hF2
   rw [if_pos h1] at hT
   rw [sQ h1,iP h1,dV (Fn.rF X 0 31 (Fn.rP X 1 10 0)),dV (Fn.rP X 1 10 0),bU hT h1];rfl
 ·have hK:Fn.qK X=(0,(0,Fn.rF X 1 10 0)):=by rw [hK0,wZ h0]
  have hF2:(Fn.qF X).2=(0,Fn.rF X 1 10 0):=by unfold Fn.qF;rw [hK];rfl
  have hT:=nM hF2
  rw [if_pos h0] at hT
  rw [sQ h0,iP h0,dV (Fn.rF X 1 10 0),bU hT h0];rfl
theorem ao3 {X:List Value}{m:Nat}(hX:allB X=true)(hn:m+1=X.length)(hb:X.length≤4096)(hk:Fn.rF X 1 10 0=0→Fn.rN X 1 10 0=8) :
  (runK (KPk 8) C7 40).1 14 [.slice (some ⟨32,0,none⟩) (qab m) aF] (aP [.one (.sl X 5 (qab m))]) (dJ Tryz.prog)=some (Fn.ru X):=by
 obtain ⟨e1,e2,e3,e4,ex,hK0⟩:=CX hX hn hb
 rw [au2];unfold ajk agz mZ mO eU vg xw rX mW;rw [Og hn,e1,e2,e3,e4,iO hX hb (qai _),ex]
 by_cases h0:Fn.rF X 1 10 0=0
 ·have hp0:=lT hX h0
  have hK:Fn.qK X=(8,(Fn.rP X 1 10 0,0)):=by rw [hK0,CG h0,hk h0]
  have hF:Fn.qF X=sJ X (qBs 8) (Fn.rP X 1 10 0,0):=by unfold Fn.qF;rw [hK]
  have hF:Fn.qF X=sJ X [] (Fn.rP X 1 10 0,0):=hF
  rw [jG h0,hk h0]
  have hF2:(Fn.qF X).2=(Fn.rP X 1 10 0,0):=by rw [hF];rfl
  have hT:=nM hF2
  rw [if_neg (by omega)] at hT
  by_cases ht:Fn.rP X 1 10 0<X.length
  ·rw [if_pos ht] at hT
   rw [show ltN (Fn.rP X 1 10 0) X.length=true from gU ht,dV (Fn.rP X 1 10 0),bU hT (by omega)];rfl
  ·rw [if_neg ht] at hT
   have hQ:Fn.qQ X=(8,0,0,0,0):=by rw [O0 (by rw [hT]),hF,hK];rfl
   rw [show ltN (Fn.rP X 1 10 0) X.length=false from FW (by omega),lI hT hQ];rfl
 ·have hK:Fn.qK X=(0,(0,Fn.rF X 1 10 0)):=by rw [hK0,wZ h0]
  have hF2:(Fn.qF X).2=(0,Fn.rF X 1 10 0):=by unfold Fn.qF;rw [hK];rfl
  have hT:=nM hF2
  rw [if_pos h0] at hT
  rw [sQ h0,iP h0,dV (Fn.rF X 1 10 0),bU hT h0];rfl
theorem aoJ {X:List Value}{m:Nat}(hX:allB X=true)(hn:m+1=X.length)(hb:X.length≤4096)(hk:Fn.rF X 1 10 0=0→Fn.rN X 1 10 0=9) :
  (runK (KPk 9) C7 40).1 14 [.slice (some ⟨32,0,none⟩) (qab m) aF] (aP [.one (.sl X 5 (qab m))]) (dJ Tryz.prog)=some (Fn.ru X):=by
 obtain ⟨e1,e2,e3,e4,ex,hK0⟩:=CX hX hn hb
 rw [aww];unfold afz agJ mZ mO eU vg xw rX mW;rw [Og hn,e1,e2,e3,e4,iO hX hb (qai _),ex]
 by_cases h0:Fn.rF X 1 10 0=0
 ·have hp0:=lT hX h0
  have hK:Fn.qK X=(9,(Fn.rP X 1 10 0,0)):=by rw [hK0,CG h0,hk h0]
  have hF:Fn.qF X=sJ X (qBs 9) (Fn.rP X 1 10 0,0):=by unfold Fn.qF;rw [hK]
  have hF:Fn.qF X=sJ X [] (Fn.rP X 1 10 0,0):=hF
  rw [jG h0,hk h0]
  have hF2:(Fn.qF X).2=(Fn.rP X 1 10 0,0):=by rw [hF];rfl
  have hT:=nM hF2
  rw [if_neg (by omega)] at hT
  by_cases ht:Fn.rP X 1 10 0<X.length
  ·rw [if_pos ht] at hT
   rw [show ltN (Fn.rP X 1 10 0) X.length=true from gU ht,dV (Fn.rP X 1 10 0),bU hT (by omega)];rfl
  ·rw [if_neg ht] at hT
   have hQ:Fn.qQ X=(9,0,0,0,0):=by rw [O0 (by rw [hT]),hF,hK];rfl
   rw [show ltN (Fn.rP X 1 10 0) X.length=false from FW (by omega),lI hT hQ];rfl
 ·have hK:Fn.qK X=(0,(0,Fn.rF X 1 10 0)):=by rw [hK0,wZ h0]
  have hF2:(Fn.qF X).2=(0,Fn.rF X 1 10 0):=by unfold Fn.qF;rw [hK];rfl
  have hT:=nM hF2
  rw [if_pos h0] at hT
  rw [sQ h0,iP h0,dV (Fn.rF X 1 10 0),bU hT h0];rfl
theorem akU {X:List Value}{m:Nat}(hX:allB X=true)(hn:m+1=X.length)(hb:X.length≤4096)(hk:Fn.rF X 1 10 0=0→Fn.rN X 1 10 0=10) :
  (runK (KPk 10) C7 40).1 14 [.slice (some ⟨32,0,none⟩) (qab m) aF] (aP [.one (.sl X 5 (qab m))]) (dJ Tryz.prog)=some (Fn.ru X):=by
 obtain ⟨e1,e2,e3,e4,ex,hK0⟩:=CX hX hn hb
 rw [asc];unfold af2 ahL mZ mO eU vg xw rX mW;rw [Og hn,e1,e2,e3,e4,iO hX hb (qai _),ex]
 by_cases h0:Fn.rF X 1 10 0=0
 ·have hp0:=lT hX h0
  have hK:Fn.qK X=(10,(Fn.rP X 1 10 0,0)):=by rw [hK0,CG h0,hk h0]
  have hF:Fn.qF X=sJ X (qBs 10) (Fn.rP X 1 10 0,0):=by unfold Fn.qF;rw [hK]
  have hF:Fn.qF X=sJ X [] (Fn.rP X 1 10 0,0):=hF
  rw [jG h0,hk h0]
  have hF2:(Fn.qF X).2=(Fn.rP X 1 10 0,0):=by rw [hF];rfl
  have hT:=nM hF2
  rw [if_neg (by omega)] at hT
  by_cases ht:Fn.rP X 1 10 0<X.length
  ·rw [if_pos ht] at hT
   rw [show ltN (Fn.rP X 1 10 0) X.length=true from gU ht,dV (Fn.rP X 1 10 0),bU hT (by omega)];rfl
  ·rw [if_neg ht] at hT
   have hQ:Fn.qQ X=(10,0,0,0,0):=by rw [O0 (by rw [hT]),hF,hK];rfl
   rw [show ltN (Fn.rP X 1 10 0) X.length=false from FW (by omega),lI hT hQ];rfl
 ·have hK:Fn.qK X=(0,(0,Fn.rF X 1 10 0)):=by rw [hK0,wZ h0]
  have hF2:(Fn.qF X).2=(0,Fn.rF X 1 10 0):=by unfold Fn.qF;rw [hK];rfl
  have hT:=nM hF2
  rw [if_pos h0] at hT
  rw [sQ h0,iP h0,dV (Fn.rF X 1 10 0),bU hT h0];rfl
theorem oN {X:List Value}{N:Nat}(h:allB X=true):(List.rec true (fun v x ih=>sel (aX N v) ih false) X:Bool)=true:=qV h
def wL (ns:List Nat):List Value:=ns.map uN
theorem V3 {N:Nat}:∀ (ns:List Nat),(List.rec true (fun v x ih=>sel (aX N v) ih false) (wL ns):Bool)=true
 |[]=>rfl
 |n::ns=>V3 (N:=N) ns
theorem rU (ns:List Nat):aQ (wL ns)=ns.length:=by rw [aU];unfold wL;simp
theorem Yb (ns:List Nat)(v:Nat):aI (aA (qao ns.length 1) (wL ns)) [.int .u64 (qaa v)]=wL (ns++[v]):=by
 rw [show qao ns.length 1=aQ (wL ns) by rw [rU];exact Nat.mul_one _,KL,gW]
 unfold wL
 simp
 rfl
namespace Fn
def gS (X:List Value)(c to:Nat):List Nat × (Nat × Nat):=sJ X (List.replicate c (0,18446744073709551615)) (to,0)
def gEr (X:List Value)(c to:Nat):Nat:=(gS X c to).2.2
def gEg (X:List Value)(c to:Nat):Nat:=gEr X c to-1
def gPl (X:List Value)(c to:Nat):Nat:=(gS X c to).2.1
def gWs (X:List Value)(c to:Nat):List Value:=wL (gS X c to).1
end Fn
theorem XD {X:List Value}{r to:Nat}(h:Fn.rF X 0 18446744073709551615 to=0):Fn.gS X (r+1) to=(Fn.rN X 0 18446744073709551615 to::(Fn.gS X r (Fn.rP X 0 18446744073709551615 to)).1,(Fn.gS X r (Fn.rP X 0 18446744073709551615 to)).2):=uj h
theorem Vb {X:List Value}{r to:Nat}(h:Fn.rF X 0 18446744073709551615 to≠0):(Fn.gS X (r+1) to).2=(to,Fn.rF X 0 18446744073709551615 to):=tu h
theorem asT (X:List Value):∀ (r to:Nat),(Fn.gS X r to).1.length=r:=by
 have:∀ (l:List (Nat × Nat)) (p:Nat × Nat),(sJ X l p).1.length=l.length:=by
  intro l
  induction l with
  |nil=>intro p;rfl
  |cons b l ih=>intro p;show (_::(sJ X l _).1).length=_;rw [List.length_cons,ih];rfl
 intro r to
 unfold Fn.gS
 rw [this]
 simp
def fE2 (e:Nat):Int:=qaa (qab e)
def exG (sp spe:bM)(y:bg):Option (Ex × bg):=
 jC KM.plain C7 (runK KM C7 20).1 (runK KM C7 20).2 (C7.vars 16) 16 false (fH C7 16 5) (fV Tryz.prog (C7.vars 16) sG1 spe) (Cc sp.need y) (lF sp.next y)
def exJ (sp spe:bM)(y:bg):Option (Ex × bg):=
 jC KM.plain C7 (runK KM C7 20).1 (runK KM C7 20).2 (C7.vars 17) 17 false (fH C7 17 6) (fV Tryz.prog (C7.vars 17) tG1 spe) (Cc sp.need y) (lF sp.next y)
def oGF (X:List Value)(n to:Nat)(e:Int):bg:=⟨[pt 64,pt 65,pt 68],aI (aie X n to (pt 70) []) [(70,.row [.int .i64 e,iN to] tFa 0)]⟩
def oGK (X:List Value)(n to:Nat)(e0:Int)(L:List Value)(k:Nat):bg:=⟨[pt 64,pt 65,pt 68,pt 69],aI (aie X n to (.pointer none) []) (akM e0 L k)⟩
def oG0 (X:List Value)(n to:Nat)(e0:Int):bg:=⟨[pt 64,pt 65,pt 68,pt 69],aI (aie X n to (.pointer none) []) (aki e0)⟩
def oJF (X:List Value)(n to:Nat)(e:Nat)(a:Int):bg:=⟨[pt 64,pt 65,pt 68],ahW X n to e a⟩
def oJK (X:List Value)(n to:Nat)(a e0:Int)(L:List Value)(k:Nat):bg:=⟨[pt 64,pt 65,pt 68,pt 69],aI (ahW X n to 0 a) (akM e0 L k)⟩
def oJ0 (X:List Value)(n to:Nat)(a e0:Int):bg:=⟨[pt 64,pt 65,pt 68,pt 69],aI (ahW X n to 0 a) (aki e0)⟩
section
variable {X:List Value} {n to:Nat} {e0 a:Int} {c i:Nat} {ns:List Nat} (hX:allB X=true) (hn:n=X.length) (hb:X.length≤4096) (hto:to≤n) (hc:c≤100000)
include hX hn hb hto hc
theorem asl {spe:bM}(hs:spe=eGF∨spe=eG1)(h:Fn.rF X 0 18446744073709551615 to=0) :
  exG sG0 spe (hG0 X n to e0 (qab c) 0)=some (.normal,hG1 X n (Fn.rP X 0 18446744073709551615 to) e0 (wL [Fn.rN X 0 18446744073709551615 to]) 1 (qab c) 1):=by
 have hp:=lT hX h
 subst hn
 have a2:=iO hX hb hto
 have a3:=iO hX hb hp
 have ex:Fn.okX X=true:=hX
 unfold exG
 rcases hs with rfl|rfl
 ·rw [at1];unfold Ep pR Em yP fJ Df xu rV iw iC xK wQ wR oZ lK;rw [a2,jG h,a3,ex,oN hX]
  by_cases ht:Fn.rP X 0 18446744073709551615 to<X.length
  ·rw [show eqI (qaa (X.length.sub (Fn.rP X 0 18446744073709551615 to))) 0=false from sQ (by show X.length-_≠0;omega)];rfl
  ·rw [show eqI (qaa (X.length.sub (Fn.rP X 0 18446744073709551615 to))) 0=true from jG (by show X.length-_=0;omega),show ltN (Fn.rP X 0 18446744073709551615 to) X.length=false from FW (by omega)];rfl
 ·rw [avo];unfold Em yP fJ Df xu rV iw iC xK wQ wR oZ lK;rw [a2,jG h,a3,ex,oN (N:=sG1.N) hX]
  by_cases ht:Fn.rP X 0 18446744073709551615 to<X.length
  ·rw [show eqI (qaa (X.length.sub (Fn.rP X 0 18446744073709551615 to))) 0=false from sQ (by show X.length-_≠0;omega)];rfl
  ·rw [show eqI (qaa (X.length.sub (Fn.rP X 0 18446744073709551615 to))) 0=true from jG (by show X.length-_=0;omega),show ltN (Fn.rP X 0 18446744073709551615 to) X.length=false from FW (by omega)];rfl
theorem asI (h:Fn.rF X 0 18446744073709551615 to≠0):exG sG0 eGF (hG0 X n to e0 (qab c) 0)=some (.exit 0,oGF X n to (qaa (Fn.rF X 0 18446744073709551615 to))):=by
 subst hn
 have ex:Fn.okX X=true:=hX
 unfold exG
 rw [at1];unfold Ep pR Em yP fJ Df xu rV iw iC xK wQ wR oZ lK;rw [iO hX hb hto,sQ h,ex,oN (N:=eGF.N) hX,iP h]
 rfl
theorem atq:exG sG0 eG0 (hG0 X n to e0 0 0)=some (.exit 0,oG0 X n to e0):=by
 unfold exG
 rw [axc (c:=0)];unfold TV KE iw iC;rw [oN hX]
 rfl
theorem aua {spe:bM}(hs:spe=eGF∨spe=eG1)(h:Fn.rF X 0 18446744073709551615 to=0)(hi:ns.length<c) :
  exG sG1 spe (hG1 X n to e0 (wL ns) ns.length c ns.length)=some (.normal,hG1 X n (Fn.rP X 0 18446744073709551615 to) e0 (wL (ns++[Fn.rN X 0 18446744073709551615 to])) (ns.length+1) c (ns.length+1)):=by
 have hp:=lT hX h
 subst hn
 have a1:=YD hi
 have a2:=iO hX hb hto
 have a3:=iO hX hb hp
 have a4:ns.length.beq ns.length=true:=jG rfl
 have a5:((qac 0 (ns.length.mul 1)).add 1).ble (aQ (wL ns))=false:=FW (by rw [rU];show _<0+ns.length*1+1;omega)
 have a6:(ns.length.add 1).ble 18446744073709551616=true:=gU (by show ns.length+1≤_;omega)
 have a7:(ns.length.add 1).ble 281474976710656=true:=gU (by show ns.length+1≤_;omega)
 have a8:(((qao 2 (ns.length.add 1)).add 768).mul 8).ble 281474976710656=true:=gU (by show (2*(ns.length+1)+768)*8≤_;omega)
 have a9:(ns.length.mul 1).ble (aQ (wL ns))=true:=gU (by rw [rU];show ns.length*1≤_;omega)
 have a10:(qac 0 (ns.length.mul 1)).beq (aQ (wL ns))=true:=jG (by rw [rU];show 0+ns.length*1=_;omega)
 have a12:(ns.length.add 1).ble 9223372036854775807=true:=gU (by show ns.length+1≤_;omega)
 have ex:Fn.okX X=true:=hX
 unfold exG
 rcases hs with rfl|rfl
 ·rw [aq9];unfold Ep pR zx uK lC kW zW uw lu xu rV iw iC fJ iU xK wQ wR oZ kY lG lD lK;rw [a1,a2,jG h,a4,a5,a6,a7,a8,a9,a10,a3,a12,ex,oN (N:=sG1.N) hX,Yb,V3 (N:=sG1.N) (ns++[Fn.rN X 0 18446744073709551615 to])]
  by_cases ht:Fn.rP X 0 18446744073709551615 to<X.length
  ·rw [show eqI (qaa (X.length.sub (Fn.rP X 0 18446744073709551615 to))) 0=false from sQ (by show X.length-_≠0;omega)];rfl
  ·rw [show eqI (qaa (X.length.sub (Fn.rP X 0 18446744073709551615 to))) 0=true from jG (by show X.length-_=0;omega),show ltN (Fn.rP X 0 18446744073709551615 to) X.length=false from FW (by omega)];rfl
 ·rw [asz];unfold Ij KE zx uK lC kW zW iU uw lu xu rV iw iC fJ xK wQ wR oZ kY lG lD lK;rw [a1,a2,jG h,a4,a5,a6,a7,a8,a9,a10,a3,a12,ex,oN (N:=sG1.N) hX,Yb,V3 (N:=sG1.N) (ns++[Fn.rN X 0 18446744073709551615 to])]
  by_cases ht:Fn.rP X 0 18446744073709551615 to<X.length
  ·rw [show eqI (qaa (X.length.sub (Fn.rP X 0 18446744073709551615 to))) 0=false from sQ (by show X.length-_≠0;omega)];rfl
  ·rw [show eqI (qaa (X.length.sub (Fn.rP X 0 18446744073709551615 to))) 0=true from jG (by show X.length-_=0;omega),show ltN (Fn.rP X 0 18446744073709551615 to) X.length=false from FW (by omega)];rfl
theorem ar2 (h:Fn.rF X 0 18446744073709551615 to≠0)(hi:ns.length<c):exG sG1 eGF (hG1 X n to e0 (wL ns) ns.length c ns.length)=some (.exit 0,oGF X n to (qaa (Fn.rF X 0 18446744073709551615 to))):=by
 subst hn
 have a1:=YD hi
 have a4:ns.length.beq ns.length=true:=jG rfl
 have a5:((qac 0 (ns.length.mul 1)).add 1).ble (aQ (wL ns))=false:=FW (by rw [rU];show _<0+ns.length*1+1;omega)
 have a6:(ns.length.add 1).ble 18446744073709551616=true:=gU (by show ns.length+1≤_;omega)
 have a7:(ns.length.add 1).ble 281474976710656=true:=gU (by show ns.length+1≤_;omega)
 have a8:(((qao 2 (ns.length.add 1)).add 768).mul 8).ble 281474976710656=true:=gU (by show (2*(ns.length+1)+768)*8≤_;omega)
 have a9:(ns.length.mul 1).ble (aQ (wL ns))=true:=gU (by rw [rU];show ns.length*1≤_;omega)
 have a10:(qac 0 (ns.length.mul 1)).beq (aQ (wL ns))=true:=jG (by rw [rU];show 0+ns.length*1=_;omega)
 have ex:Fn.okX X=true:=hX
 unfold exG
 rw [aq9];unfold Ep pR zx uK lC kW zW uw lu xu rV iw iC fJ iU xK wQ wR oZ kY lG lD lK;rw [a1,iO hX hb hto,sQ h,a4,a5,a6,a7,a8,a9,a10,ex,oN (N:=eGF.N) hX,iP h]
 rfl
theorem ard (hi:ns.length=c):exG sG1 eG1 (hG1 X n to e0 (wL ns) ns.length c ns.length)=some (.exit 0,oGK X n to e0 (wL ns) c):=by
 have a1:ltI (qaa ns.length) (qaa c)=false:=Sz (by omega)
 unfold exG
 rw [asz];unfold Ij KE zx uK lC kW zW iU uw lu xu rV iw iC fJ xK wQ wR oZ kY lG lD lK;rw [a1,oN (N:=eG1.N) hX,V3 (N:=eG1.N),←hi]
 rfl
theorem ati {spe:bM}(hs:spe=eRF∨spe=eG1)(h:Fn.rF X 0 18446744073709551615 to=0) :
  exJ tG0 spe (jG0 X n to 0 a e0 (qab c) 0)=some (.normal,jG1 X n (Fn.rP X 0 18446744073709551615 to) 0 a e0 (wL [Fn.rN X 0 18446744073709551615 to]) 1 (qab c) 1):=by
 subst hn
 have a2:=iO hX hb hto
 unfold exJ
 rcases hs with rfl|rfl
 ·rw [arN];unfold MG TS wB pR Uf yP fJ Df wz rV oZ iw iC lK;rw [a2,jG h,oN (N:=tG1.N) hX];rfl
 ·rw [axl];unfold MG TS wB pR Uf yP fJ Df wz rV oZ iw iC lK;rw [a2,jG h,oN (N:=tG1.N) hX];rfl
theorem arL (h:Fn.rF X 0 18446744073709551615 to≠0):exJ tG0 eRF (jG0 X n to 0 a e0 (qab c) 0)=some (.normal,jG1 X n (Fn.rT X 0 18446744073709551615 to) (qab (Fn.rG X 0 18446744073709551615 to)) (qaa to) e0 (wL [0]) 1 (qab c) 1):=by
 subst hn
 unfold exJ
 rw [arN];unfold MG TS wB pR Uf yP fJ Df wz rV oZ iw iC lK;rw [iO hX hb hto,sQ h,oN (N:=tG1.N) hX]
 rfl
theorem aq8:exJ tG0 eG0 (jG0 X n to 0 a e0 0 0)=some (.exit 0,oJ0 X n to a e0):=by
 unfold exJ
 rw [awz (c:=0)];unfold TV Ah iw iC;rw [oN hX]
 rfl
theorem aug {spe:bM}(hs:spe=eRF∨spe=eG1)(h:Fn.rF X 0 18446744073709551615 to=0)(hi:ns.length<c) :
  exJ tG1 spe (jG1 X n to 0 a e0 (wL ns) ns.length c ns.length)=some (.normal,jG1 X n (Fn.rP X 0 18446744073709551615 to) 0 a e0 (wL (ns++[Fn.rN X 0 18446744073709551615 to])) (ns.length+1) c (ns.length+1)):=by
 subst hn
 have a1:=YD hi
 have a2:=iO hX hb hto
 have a4:ns.length.beq ns.length=true:=jG rfl
 have a5:((qac 0 (ns.length.mul 1)).add 1).ble (aQ (wL ns))=false:=FW (by rw [rU];show _<0+ns.length*1+1;omega)
 have a6:(ns.length.add 1).ble 18446744073709551616=true:=gU (by show ns.length+1≤_;omega)
 have a7:(ns.length.add 1).ble 281474976710656=true:=gU (by show ns.length+1≤_;omega)
 have a8:(((qao 2 (ns.length.add 1)).add 768).mul 8).ble 281474976710656=true:=gU (by show (2*(ns.length+1)+768)*8≤_;omega)
 have a9:(ns.length.mul 1).ble (aQ (wL ns))=true:=gU (by rw [rU];show ns.length*1≤_;omega)
 have a10:(qac 0 (ns.length.mul 1)).beq (aQ (wL ns))=true:=jG (by rw [rU];show 0+ns.length*1=_;omega)
 have a12:(ns.length.add 1).ble 9223372036854775807=true:=gU (by show ns.length+1≤_;omega)
 unfold exJ
 rcases hs with rfl|rfl
 ·rw [atd];unfold Ah Hg G8 wB pR Ii uK lC kW Ht uw lu wz rV oZ iw iC fJ iU kY lG lD lK;rw [a1,a2,jG h,a4,a5,a6,a7,a8,a9,a10,a12,oN (N:=tG1.N) hX,Yb,V3 (N:=tG1.N) (ns++[Fn.rN X 0 18446744073709551615 to])];rfl
 ·rw [atj];unfold Ij Ah Hg G8 wB pR Ii uK lC kW Ht uw lu wz rV oZ iw iC fJ iU kY lG lD lK;rw [a1,a2,jG h,a4,a5,a6,a7,a8,a9,a10,a12,oN (N:=tG1.N) hX,Yb,V3 (N:=tG1.N) (ns++[Fn.rN X 0 18446744073709551615 to])];rfl
theorem atM (h:Fn.rF X 0 18446744073709551615 to≠0)(hi:ns.length<c) :
  exJ tG1 eRF (jG1 X n to 0 a e0 (wL ns) ns.length c ns.length)=some (.normal,jG1 X n (Fn.rT X 0 18446744073709551615 to) (qab (Fn.rG X 0 18446744073709551615 to)) (qaa to) e0 (wL (ns++[0])) (ns.length+1) c (ns.length+1)):=by
 subst hn
 have a1:=YD hi
 have a4:ns.length.beq ns.length=true:=jG rfl
 have a5:((qac 0 (ns.length.mul 1)).add 1).ble (aQ (wL ns))=false:=FW (by rw [rU];show _<0+ns.length*1+1;omega)
 have a6:(ns.length.add 1).ble 18446744073709551616=true:=gU (by show ns.length+1≤_;omega)
 have a7:(ns.length.add 1).ble 281474976710656=true:=gU (by show ns.length+1≤_;omega)
 have a8:(((qao 2 (ns.length.add 1)).add 768).mul 8).ble 281474976710656=true:=gU (by show (2*(ns.length+1)+768)*8≤_;omega)
 have a9:(ns.length.mul 1).ble (aQ (wL ns))=true:=gU (by rw [rU];show ns.length*1≤_;omega)
 have a10:(qac 0 (ns.length.mul 1)).beq (aQ (wL ns))=true:=jG (by rw [rU];show 0+ns.length*1=_;omega)
 have a12:(ns.length.add 1).ble 9223372036854775807=true:=gU (by show ns.length+1≤_;omega)
 unfold exJ
 rw [atd];unfold Ah Hg G8 wB pR Ii uK lC kW Ht uw lu wz rV oZ iw iC fJ iU kY lG lD lK;rw [a1,iO hX hb hto,sQ h,a4,a5,a6,a7,a8,a9,a10,a12,oN (N:=tG1.N) hX,Yb ns 0,V3 (N:=tG1.N) (ns++[0])]
 rfl
theorem atg (hi:ns.length=c):exJ tG1 eG1 (jG1 X n to 0 a e0 (wL ns) ns.length c ns.length)=some (.exit 0,oJK X n to a e0 (wL ns) c):=by
 have a1:ltI (qaa ns.length) (qaa c)=false:=Sz (by omega)
 unfold exJ
 rw [atj];unfold Ij Ah Hg G8 wB pR Ii uK lC kW Ht uw lu wz rV oZ iw iC fJ iU kY lG lD lK;rw [a1,oN (N:=eG1.N) hX,V3 (N:=eG1.N),←hi]
 rfl
omit hn hb hto hc in
theorem ayp {e:Nat}{L:List Value}{k i:Nat}:exJ tG1 eRF (jG1 X n to (qab e) a e0 L k c i)=some (.exit 0,oJF X n to (qab e) a):=by
 unfold exJ
 rw [aws];unfold Gp iw iC;rw [oN hX]
 cases ltI (qaa i) (qaa c) <;> rfl
omit hn hb hto hc in
theorem ayz {e i:Nat}:exJ tG0 eRF (jG0 X n to (qab e) a e0 c i)=some (.exit 0,oJF X n to (qab e) a):=by
 unfold exJ
 rw [axj];unfold Gp iw iC;rw [oN hX]
 cases ltI (qaa i) (qaa c) <;> rfl
end
end
end Go.Ax
