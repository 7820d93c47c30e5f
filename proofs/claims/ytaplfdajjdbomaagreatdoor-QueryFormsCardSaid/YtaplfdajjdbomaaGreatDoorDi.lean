import Derived.Test.YtaplfdajjdbomaaGreatDoorDe
open Int renaming ofNat→qaa
open List renaming not_mem_nil→qab
set_option maxRecDepth 1000000
namespace Go.Ax
open Go Go.Proofs
noncomputable def atG (args:List Value):Option Value:=
 match args with
 |[.int .i64 x,.int .i64 y]=>some (.int .i64 (wrap .i64 (ape (ali x 5) (wrap .i64 (anX 5 (ali y 5))))))
 |_=>none
noncomputable def iR (x k:Nat):Nat:=Nat.lor (Nat.mod (Nat.mod (Nat.mul x (Nat.pow 2 k)) 18446744073709551616) 18446744073709551616) (Nat.mod (Nat.div x (Nat.pow 2 (Nat.sub 64 k))) 18446744073709551616)
noncomputable def arI:List Nat:=[0,1,2,3,6,8,10,14,15,18,20,21,25,27,28,36,39,41,43,44,45,55,56,61,62]
noncomputable def axw (args:List Value):Option Value:=
 match args with
 |[.int .u64 x,.int .i64 k]=>Int.casesOn x (fun x=>Int.casesOn k (fun k=>guard (avG arI k) (some (.int .u64 (qaa (iR x k))))) (fun _=>none)) (fun _=>none)
 |_=>none
noncomputable def BK (r:Option (Value × St)):Option Value:=aj r fun q=>some q.1
noncomputable def wW (r:Option (Value × St)):Option (Value × List Value × TypeId × Nat):=aj r fun q=>aj (q.2.cells 64) fun c=>some (q.1,c)
theorem rY {r:Option (Value × St)}{v:Value}(h:BK r=some v):∃ s,r=some (v,s):=by
 obtain ⟨⟨v',s⟩,hr,h⟩:=ah.1 h
 cases h
 exact ⟨s,hr⟩
theorem fF {r:Option (Value × St)}{v:Value}{cs:List Value}{t:TypeId}(h:wW r=some (v,cs,t,0)):∃ s,r=some (v,s)∧s.cells 64=some (cs,t,0):=by
 obtain ⟨⟨v',s⟩,hr,h⟩:=ah.1 h
 obtain ⟨c,hc,h⟩:=ah.1 h
 cases h
 exact ⟨s,hr,hc⟩
theorem awo (x y:Int):BK ((runN CB 3).1 575 [.int .i64 x,.int .i64 y] dJ)=atG [.int .i64 x,.int .i64 y]:=by kernel_rfl
theorem ag2:∀ args v,yX args=true→atG args=some v→∃ s1,(runN CB 3).1 575 args dJ=some (v,s1):=by
 intro args v hfr h
 unfold atG at h
 split at h
 ·rename_i x y
  exact rY ((awo x y).trans h)
 ·cases h
theorem ayl (x:Nat):BK ((runN CB 3).1 576 [.int .u64 (qaa x),.int .i64 (qaa 0)] dJ)=some (.int .u64 (qaa (iR x 0))):=by kernel_rfl
theorem azH (x:Nat):BK ((runN CB 3).1 576 [.int .u64 (qaa x),.int .i64 (qaa 1)] dJ)=some (.int .u64 (qaa (iR x 1))):=by kernel_rfl
theorem ayx (x:Nat):BK ((runN CB 3).1 576 [.int .u64 (qaa x),.int .i64 (qaa 2)] dJ)=some (.int .u64 (qaa (iR x 2))):=by kernel_rfl
theorem az3 (x:Nat):BK ((runN CB 3).1 576 [.int .u64 (qaa x),.int .i64 (qaa 3)] dJ)=some (.int .u64 (qaa (iR x 3))):=by kernel_rfl
theorem ayi (x:Nat):BK ((runN CB 3).1 576 [.int .u64 (qaa x),.int .i64 (qaa 6)] dJ)=some (.int .u64 (qaa (iR x 6))):=by kernel_rfl
theorem ay2 (x:Nat):BK ((runN CB 3).1 576 [.int .u64 (qaa x),.int .i64 (qaa 8)] dJ)=some (.int .u64 (qaa (iR x 8))):=by kernel_rfl
theorem au1 (x:Nat):BK ((runN CB 3).1 576 [.int .u64 (qaa x),.int .i64 (qaa 10)] dJ)=some (.int .u64 (qaa (iR x 10))):=by kernel_rfl
theorem atH (x:Nat):BK ((runN CB 3).1 576 [.int .u64 (qaa x),.int .i64 (qaa 14)] dJ)=some (.int .u64 (qaa (iR x 14))):=by kernel_rfl
theorem avj (x:Nat):BK ((runN CB 3).1 576 [.int .u64 (qaa x),.int .i64 (qaa 15)] dJ)=some (.int .u64 (qaa (iR x 15))):=by kernel_rfl
theorem aw6 (x:Nat):BK ((runN CB 3).1 576 [.int .u64 (qaa x),.int .i64 (qaa 18)] dJ)=some (.int .u64 (qaa (iR x 18))):=by kernel_rfl
theorem awn (x:Nat):BK ((runN CB 3).1 576 [.int .u64 (qaa x),.int .i64 (qaa 20)] dJ)=some (.int .u64 (qaa (iR x 20))):=by kernel_rfl
theorem awR (x:Nat):BK ((runN CB 3).1 576 [.int .u64 (qaa x),.int .i64 (qaa 21)] dJ)=some (.int .u64 (qaa (iR x 21))):=by kernel_rfl
theorem auH (x:Nat):BK ((runN CB 3).1 576 [.int .u64 (qaa x),.int .i64 (qaa 25)] dJ)=some (.int .u64 (qaa (iR x 25))):=by kernel_rfl
theorem avX (x:Nat):BK ((runN CB 3).1 576 [.int .u64 (qaa x),.int .i64 (qaa 27)] dJ)=some (.int .u64 (qaa (iR x 27))):=by kernel_rfl
theorem awH (x:Nat):BK ((runN CB 3).1 576 [.int .u64 (qaa x),.int .i64 (qaa 28)] dJ)=some (.int .u64 (qaa (iR x 28))):=by kernel_rfl
theorem awK (x:Nat):BK ((runN CB 3).1 576 [.int .u64 (qaa x),.int .i64 (qaa 36)] dJ)=some (.int .u64 (qaa (iR x 36))):=by kernel_rfl
theorem atD (x:Nat):BK ((runN CB 3).1 576 [.int .u64 (qaa x),.int .i64 (qaa 39)] dJ)=some (.int .u64 (qaa (iR x 39))):=by kernel_rfl
theorem auY (x:Nat):BK ((runN CB 3).1 576 [.int .u64 (qaa x),.int .i64 (qaa 41)] dJ)=some (.int .u64 (qaa (iR x 41))):=by kernel_rfl
theorem atX (x:Nat):BK ((runN CB 3).1 576 [.int .u64 (qaa x),.int .i64 (qaa 43)] dJ)=some (.int .u64 (qaa (iR x 43))):=by kernel_rfl
theorem awi (x:Nat):BK ((runN CB 3).1 576 [.int .u64 (qaa x),.int .i64 (qaa 44)] dJ)=some (.int .u64 (qaa (iR x 44))):=by kernel_rfl
theorem avJ (x:Nat):BK ((runN CB 3).1 576 [.int .u64 (qaa x),.int .i64 (qaa 45)] dJ)=some (.int .u64 (qaa (iR x 45))):=by kernel_rfl
theorem atW (x:Nat):BK ((runN CB 3).1 576 [.int .u64 (qaa x),.int .i64 (qaa 55)] dJ)=some (.int .u64 (qaa (iR x 55))):=by kernel_rfl
theorem awI (x:Nat):BK ((runN CB 3).1 576 [.int .u64 (qaa x),.int .i64 (qaa 56)] dJ)=some (.int .u64 (qaa (iR x 56))):=by kernel_rfl
theorem aw8 (x:Nat):BK ((runN CB 3).1 576 [.int .u64 (qaa x),.int .i64 (qaa 61)] dJ)=some (.int .u64 (qaa (iR x 61))):=by kernel_rfl
theorem awD (x:Nat):BK ((runN CB 3).1 576 [.int .u64 (qaa x),.int .i64 (qaa 62)] dJ)=some (.int .u64 (qaa (iR x 62))):=by kernel_rfl
theorem asW (x k:Nat)(h:k∈arI):BK ((runN CB 3).1 576 [.int .u64 (qaa x),.int .i64 (qaa k)] dJ)=some (.int .u64 (qaa (iR x k))):=by
 unfold arI at h
 simp only [List.mem_cons,qab,or_false] at h
 rcases h with rfl|rfl|rfl|rfl|rfl|rfl|rfl|rfl|rfl|rfl|rfl|rfl|rfl|rfl|rfl|rfl|rfl|rfl|rfl|rfl|rfl|rfl|rfl|rfl|rfl
 ·exact ayl x
 ·exact azH x
 ·exact ayx x
 ·exact az3 x
 ·exact ayi x
 ·exact ay2 x
 ·exact au1 x
 ·exact atH x
 ·exact avj x
 ·exact aw6 x
 ·exact awn x
 ·exact awR x
 ·exact auH x
 ·exact avX x
 ·exact awH x
 ·exact awK x
 ·exact atD x
 ·exact auY x
 ·exact atX x
 ·exact awi x
 ·exact avJ x
 ·exact atW x
 ·exact awI x
 ·exact aw8 x
 ·exact awD x
theorem ac3:∀ args v,yX args=true→axw args=some v→∃ s1,(runN CB 3).1 576 args dJ=some (v,s1):=by
 intro args v hfr h
 unfold axw at h
 split at h
 ·rename_i x k
  cases x with
  |negSucc x=>cases h
  |ofNat x=>cases k with
   |negSucc k=>cases h
   |ofNat k=>
    obtain ⟨hk,h⟩:=au.1 h
    cases h
    exact rY (asW x k (Gm hk))
 ·cases h
noncomputable def azJ:List (Nat × Con):=[(575,.pure atG),(576,.pure axw)]
noncomputable def CP:Cfg:={ CB with insert:=fQ azJ }
theorem ang:eX CP Tryz.prog:=Ba (ext:=fun _=>none) (ins:=fQ azJ) rfl (fun f t h args s v s' hv base ρ w aZ hr ha=>by
 have h:=O8 h
 unfold azJ at h
 rcases List.mem_cons.1 h with h|h
 ·cases h
  exact jh pR ag2 hv hr ha
 ·rcases List.mem_cons.1 h with h|h
  ·cases h
   exact jh pR ac3 hv hr ha
  ·exact absurd h qab) (fun _ _ h=>by cases h)
end Go.Ax
