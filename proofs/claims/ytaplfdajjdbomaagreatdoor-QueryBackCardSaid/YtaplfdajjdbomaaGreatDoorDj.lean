import Derived.Test.YtaplfdajjdbomaaGreatDoorDe
open Int renaming ofNat→qaa
open List renaming not_mem_nil→qab
set_option maxRecDepth 1000000
namespace Go.Ax
open Go Go.Proofs
noncomputable def atG (args:List Value):Option Value:=
 match args with
 |[.int .i64 x,.int .i64 y]=>some (.int .i64 (wrap .i64 (am0 (ajS x 5) (wrap .i64 (alu 5 (ajS y 5))))))
 |_=>none
noncomputable def iJ (x k:Nat):Nat:=Nat.lor (Nat.mod (Nat.mod (Nat.mul x (Nat.pow 2 k)) 18446744073709551616) 18446744073709551616) (Nat.mod (Nat.div x (Nat.pow 2 (Nat.sub 64 k))) 18446744073709551616)
noncomputable def apS:List Nat:=[0,1,2,3,6,8,10,14,15,18,20,21,25,27,28,36,39,41,43,44,45,55,56,61,62]
noncomputable def auu (args:List Value):Option Value:=
 match args with
 |[.int .u64 x,.int .i64 k]=>Int.casesOn x (fun x=>Int.casesOn k (fun k=>guard (asR apS k) (some (.int .u64 (qaa (iJ x k))))) (fun _=>none)) (fun _=>none)
 |_=>none
noncomputable def BQ (r:Option (Value × St)):Option Value:=aj r fun q=>some q.1
noncomputable def wH (r:Option (Value × St)):Option (Value × List Value × TypeId × Nat):=aj r fun q=>aj (q.2.cells 64) fun c=>some (q.1,c)
theorem rC {r:Option (Value × St)}{v:Value}(h:BQ r=some v):∃ s,r=some (v,s):=by
 obtain ⟨⟨v',s⟩,hr,h⟩:=ah.1 h
 cases h
 exact ⟨s,hr⟩
theorem eG {r:Option (Value × St)}{v:Value}{cs:List Value}{t:TypeId}(h:wH r=some (v,cs,t,0)):∃ s,r=some (v,s)∧s.cells 64=some (cs,t,0):=by
 obtain ⟨⟨v',s⟩,hr,h⟩:=ah.1 h
 obtain ⟨c,hc,h⟩:=ah.1 h
 cases h
 exact ⟨s,hr,hc⟩
theorem atm (x y:Int):BQ ((runN CB 3).1 575 [.int .i64 x,.int .i64 y] dD)=atG [.int .i64 x,.int .i64 y]:=by kernel_rfl
theorem ahp:∀ args v,vM args=true→atG args=some v→∃ s1,(runN CB 3).1 575 args dD=some (v,s1):=by
 intro args v hfr h
 unfold atG at h
 split at h
 ·rename_i x y
  exact rC ((atm x y).trans h)
 ·cases h
theorem avR (x:Nat):BQ ((runN CB 3).1 576 [.int .u64 (qaa x),.int .i64 (qaa 0)] dD)=some (.int .u64 (qaa (iJ x 0))):=by kernel_rfl
theorem avQ (x:Nat):BQ ((runN CB 3).1 576 [.int .u64 (qaa x),.int .i64 (qaa 1)] dD)=some (.int .u64 (qaa (iJ x 1))):=by kernel_rfl
theorem au6 (x:Nat):BQ ((runN CB 3).1 576 [.int .u64 (qaa x),.int .i64 (qaa 2)] dD)=some (.int .u64 (qaa (iJ x 2))):=by kernel_rfl
theorem avS (x:Nat):BQ ((runN CB 3).1 576 [.int .u64 (qaa x),.int .i64 (qaa 3)] dD)=some (.int .u64 (qaa (iJ x 3))):=by kernel_rfl
theorem av5 (x:Nat):BQ ((runN CB 3).1 576 [.int .u64 (qaa x),.int .i64 (qaa 6)] dD)=some (.int .u64 (qaa (iJ x 6))):=by kernel_rfl
theorem awY (x:Nat):BQ ((runN CB 3).1 576 [.int .u64 (qaa x),.int .i64 (qaa 8)] dD)=some (.int .u64 (qaa (iJ x 8))):=by kernel_rfl
theorem atV (x:Nat):BQ ((runN CB 3).1 576 [.int .u64 (qaa x),.int .i64 (qaa 10)] dD)=some (.int .u64 (qaa (iJ x 10))):=by kernel_rfl
theorem as4 (x:Nat):BQ ((runN CB 3).1 576 [.int .u64 (qaa x),.int .i64 (qaa 14)] dD)=some (.int .u64 (qaa (iJ x 14))):=by kernel_rfl
theorem atC (x:Nat):BQ ((runN CB 3).1 576 [.int .u64 (qaa x),.int .i64 (qaa 15)] dD)=some (.int .u64 (qaa (iJ x 15))):=by kernel_rfl
theorem atX (x:Nat):BQ ((runN CB 3).1 576 [.int .u64 (qaa x),.int .i64 (qaa 18)] dD)=some (.int .u64 (qaa (iJ x 18))):=by kernel_rfl
theorem arK (x:Nat):BQ ((runN CB 3).1 576 [.int .u64 (qaa x),.int .i64 (qaa 20)] dD)=some (.int .u64 (qaa (iJ x 20))):=by kernel_rfl
theorem atw (x:Nat):BQ ((runN CB 3).1 576 [.int .u64 (qaa x),.int .i64 (qaa 21)] dD)=some (.int .u64 (qaa (iJ x 21))):=by kernel_rfl
theorem as3 (x:Nat):BQ ((runN CB 3).1 576 [.int .u64 (qaa x),.int .i64 (qaa 25)] dD)=some (.int .u64 (qaa (iJ x 25))):=by kernel_rfl
theorem aqV (x:Nat):BQ ((runN CB 3).1 576 [.int .u64 (qaa x),.int .i64 (qaa 27)] dD)=some (.int .u64 (qaa (iJ x 27))):=by kernel_rfl
theorem aub (x:Nat):BQ ((runN CB 3).1 576 [.int .u64 (qaa x),.int .i64 (qaa 28)] dD)=some (.int .u64 (qaa (iJ x 28))):=by kernel_rfl
theorem arT (x:Nat):BQ ((runN CB 3).1 576 [.int .u64 (qaa x),.int .i64 (qaa 36)] dD)=some (.int .u64 (qaa (iJ x 36))):=by kernel_rfl
theorem aqY (x:Nat):BQ ((runN CB 3).1 576 [.int .u64 (qaa x),.int .i64 (qaa 39)] dD)=some (.int .u64 (qaa (iJ x 39))):=by kernel_rfl
theorem aqP (x:Nat):BQ ((runN CB 3).1 576 [.int .u64 (qaa x),.int .i64 (qaa 41)] dD)=some (.int .u64 (qaa (iJ x 41))):=by kernel_rfl
theorem at7 (x:Nat):BQ ((runN CB 3).1 576 [.int .u64 (qaa x),.int .i64 (qaa 43)] dD)=some (.int .u64 (qaa (iJ x 43))):=by kernel_rfl
theorem ar4 (x:Nat):BQ ((runN CB 3).1 576 [.int .u64 (qaa x),.int .i64 (qaa 44)] dD)=some (.int .u64 (qaa (iJ x 44))):=by kernel_rfl
theorem as7 (x:Nat):BQ ((runN CB 3).1 576 [.int .u64 (qaa x),.int .i64 (qaa 45)] dD)=some (.int .u64 (qaa (iJ x 45))):=by kernel_rfl
theorem asx (x:Nat):BQ ((runN CB 3).1 576 [.int .u64 (qaa x),.int .i64 (qaa 55)] dD)=some (.int .u64 (qaa (iJ x 55))):=by kernel_rfl
theorem ath (x:Nat):BQ ((runN CB 3).1 576 [.int .u64 (qaa x),.int .i64 (qaa 56)] dD)=some (.int .u64 (qaa (iJ x 56))):=by kernel_rfl
theorem at6 (x:Nat):BQ ((runN CB 3).1 576 [.int .u64 (qaa x),.int .i64 (qaa 61)] dD)=some (.int .u64 (qaa (iJ x 61))):=by kernel_rfl
theorem arn (x:Nat):BQ ((runN CB 3).1 576 [.int .u64 (qaa x),.int .i64 (qaa 62)] dD)=some (.int .u64 (qaa (iJ x 62))):=by kernel_rfl
theorem anU (x k:Nat)(h:k∈apS):BQ ((runN CB 3).1 576 [.int .u64 (qaa x),.int .i64 (qaa k)] dD)=some (.int .u64 (qaa (iJ x k))):=by
 unfold apS at h
 simp only [List.mem_cons,qab,or_false] at h
 rcases h with rfl|rfl|rfl|rfl|rfl|rfl|rfl|rfl|rfl|rfl|rfl|rfl|rfl|rfl|rfl|rfl|rfl|rfl|rfl|rfl|rfl|rfl|rfl|rfl|rfl
 ·exact avR x
 ·exact avQ x
 ·exact au6 x
 ·exact avS x
 ·exact av5 x
 ·exact awY x
 ·exact atV x
 ·exact as4 x
 ·exact atC x
 ·exact atX x
 ·exact arK x
 ·exact atw x
 ·exact as3 x
 ·exact aqV x
 ·exact aub x
 ·exact arT x
 ·exact aqY x
 ·exact aqP x
 ·exact at7 x
 ·exact ar4 x
 ·exact as7 x
 ·exact asx x
 ·exact ath x
 ·exact at6 x
 ·exact arn x
theorem ab9:∀ args v,vM args=true→auu args=some v→∃ s1,(runN CB 3).1 576 args dD=some (v,s1):=by
 intro args v hfr h
 unfold auu at h
 split at h
 ·rename_i x k
  cases x with
  |negSucc x=>cases h
  |ofNat x=>cases k with
   |negSucc k=>cases h
   |ofNat k=>
    obtain ⟨hk,h⟩:=au.1 h
    cases h
    exact rC (anU x k (EU hk))
 ·cases h
noncomputable def auS:List (Nat × Con):=[(575,.pure atG),(576,.pure auu)]
noncomputable def CP:Cfg:={ CB with insert:=eH auS }
theorem alf:dS CP Tryz.prog:=xq (ext:=fun _=>none) (ins:=eH auS) rfl (fun f t h args s v s' hv base ρ w aW hr ha=>by
 have h:=KY h
 unfold auS at h
 rcases List.mem_cons.1 h with h|h
 ·cases h
  exact iH qJ ahp hv hr ha
 ·rcases List.mem_cons.1 h with h|h
  ·cases h
   exact iH qJ ab9 hv hr ha
  ·exact absurd h qab) (fun _ _ h=>by cases h)
end Go.Ax
