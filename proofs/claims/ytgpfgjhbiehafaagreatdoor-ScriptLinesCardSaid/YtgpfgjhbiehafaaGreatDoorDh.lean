import Derived.Test.YtgpfgjhbiehafaaGreatDoorDe
set_option maxRecDepth 1000000
namespace Go.Ax
open Go Go.Proofs
noncomputable def atG (args:List Value):Option Value:=
 match args with
 |[.int .i64 x,.int .i64 y]=>some (.int .i64 (wrap .i64 (Wy (ace x 5) (wrap .i64 (adk 5 (ace y 5))))))
 |_=>none
noncomputable def fD (x k:Nat):Nat:=Nat.lor (Nat.mod (Nat.mod (Nat.mul x (Nat.pow 2 k)) 18446744073709551616) 18446744073709551616) (Nat.mod (Nat.div x (Nat.pow 2 (Nat.sub 64 k))) 18446744073709551616)
noncomputable def afI:List Nat:=[0,1,2,3,6,8,10,14,15,18,20,21,25,27,28,36,39,41,43,44,45,55,56,61,62]
noncomputable def alJ (args:List Value):Option Value:=
 match args with
 |[.int .u64 x,.int .i64 k]=>Int.casesOn x (fun x=>Int.casesOn k (fun k=>guard (alG afI k) (some (.int .u64 (Int.ofNat (fD x k))))) (fun _=>none)) (fun _=>none)
 |_=>none
noncomputable def x9 (r:Option (Value × St)):Option Value:=aj r fun q=>some q.1
noncomputable def ru (r:Option (Value × St)):Option (Value × List Value × TypeId × Nat):=aj r fun q=>aj (q.2.cells 64) fun c=>some (q.1,c)
theorem oV {r:Option (Value × St)}{v:Value}(h:x9 r=some v):∃ s,r=some (v,s):=by
 obtain ⟨⟨v',s⟩,hr,h⟩:=ah.1 h
 cases h
 exact ⟨s,hr⟩
theorem dB {r:Option (Value × St)}{v:Value}{cs:List Value}{t:TypeId}(h:ru r=some (v,cs,t,0)):∃ s,r=some (v,s)∧s.cells 64=some (cs,t,0):=by
 obtain ⟨⟨v',s⟩,hr,h⟩:=ah.1 h
 obtain ⟨c,hc,h⟩:=ah.1 h
 cases h
 exact ⟨s,hr,hc⟩
theorem aj0 (x y:Int):x9 ((runN CB 3).1 537 [.int .i64 x,.int .i64 y] bK)=atG [.int .i64 x,.int .i64 y]:=by kernel_rfl
theorem abn:∀ args v,nM args=true→atG args=some v→∃ s1,(runN CB 3).1 537 args bK=some (v,s1):=by
 intro args v hfr h
 unfold atG at h
 split at h
 ·rename_i x y
  exact oV ((aj0 x y).trans h)
 ·cases h
theorem anR (x:Nat):x9 ((runN CB 3).1 538 [.int .u64 (Int.ofNat x),.int .i64 (Int.ofNat 0)] bK)=some (.int .u64 (Int.ofNat (fD x 0))):=by kernel_rfl
theorem ao1 (x:Nat):x9 ((runN CB 3).1 538 [.int .u64 (Int.ofNat x),.int .i64 (Int.ofNat 1)] bK)=some (.int .u64 (Int.ofNat (fD x 1))):=by kernel_rfl
theorem anx (x:Nat):x9 ((runN CB 3).1 538 [.int .u64 (Int.ofNat x),.int .i64 (Int.ofNat 2)] bK)=some (.int .u64 (Int.ofNat (fD x 2))):=by kernel_rfl
theorem amD (x:Nat):x9 ((runN CB 3).1 538 [.int .u64 (Int.ofNat x),.int .i64 (Int.ofNat 3)] bK)=some (.int .u64 (Int.ofNat (fD x 3))):=by kernel_rfl
theorem ao5 (x:Nat):x9 ((runN CB 3).1 538 [.int .u64 (Int.ofNat x),.int .i64 (Int.ofNat 6)] bK)=some (.int .u64 (Int.ofNat (fD x 6))):=by kernel_rfl
theorem aoH (x:Nat):x9 ((runN CB 3).1 538 [.int .u64 (Int.ofNat x),.int .i64 (Int.ofNat 8)] bK)=some (.int .u64 (Int.ofNat (fD x 8))):=by kernel_rfl
theorem alb (x:Nat):x9 ((runN CB 3).1 538 [.int .u64 (Int.ofNat x),.int .i64 (Int.ofNat 10)] bK)=some (.int .u64 (Int.ofNat (fD x 10))):=by kernel_rfl
theorem aky (x:Nat):x9 ((runN CB 3).1 538 [.int .u64 (Int.ofNat x),.int .i64 (Int.ofNat 14)] bK)=some (.int .u64 (Int.ofNat (fD x 14))):=by kernel_rfl
theorem ajv (x:Nat):x9 ((runN CB 3).1 538 [.int .u64 (Int.ofNat x),.int .i64 (Int.ofNat 15)] bK)=some (.int .u64 (Int.ofNat (fD x 15))):=by kernel_rfl
theorem aiN (x:Nat):x9 ((runN CB 3).1 538 [.int .u64 (Int.ofNat x),.int .i64 (Int.ofNat 18)] bK)=some (.int .u64 (Int.ofNat (fD x 18))):=by kernel_rfl
theorem akQ (x:Nat):x9 ((runN CB 3).1 538 [.int .u64 (Int.ofNat x),.int .i64 (Int.ofNat 20)] bK)=some (.int .u64 (Int.ofNat (fD x 20))):=by kernel_rfl
theorem aiJ (x:Nat):x9 ((runN CB 3).1 538 [.int .u64 (Int.ofNat x),.int .i64 (Int.ofNat 21)] bK)=some (.int .u64 (Int.ofNat (fD x 21))):=by kernel_rfl
theorem ajD (x:Nat):x9 ((runN CB 3).1 538 [.int .u64 (Int.ofNat x),.int .i64 (Int.ofNat 25)] bK)=some (.int .u64 (Int.ofNat (fD x 25))):=by kernel_rfl
theorem akI (x:Nat):x9 ((runN CB 3).1 538 [.int .u64 (Int.ofNat x),.int .i64 (Int.ofNat 27)] bK)=some (.int .u64 (Int.ofNat (fD x 27))):=by kernel_rfl
theorem ai2 (x:Nat):x9 ((runN CB 3).1 538 [.int .u64 (Int.ofNat x),.int .i64 (Int.ofNat 28)] bK)=some (.int .u64 (Int.ofNat (fD x 28))):=by kernel_rfl
theorem akX (x:Nat):x9 ((runN CB 3).1 538 [.int .u64 (Int.ofNat x),.int .i64 (Int.ofNat 36)] bK)=some (.int .u64 (Int.ofNat (fD x 36))):=by kernel_rfl
theorem ajN (x:Nat):x9 ((runN CB 3).1 538 [.int .u64 (Int.ofNat x),.int .i64 (Int.ofNat 39)] bK)=some (.int .u64 (Int.ofNat (fD x 39))):=by kernel_rfl
theorem aiY (x:Nat):x9 ((runN CB 3).1 538 [.int .u64 (Int.ofNat x),.int .i64 (Int.ofNat 41)] bK)=some (.int .u64 (Int.ofNat (fD x 41))):=by kernel_rfl
theorem aju (x:Nat):x9 ((runN CB 3).1 538 [.int .u64 (Int.ofNat x),.int .i64 (Int.ofNat 43)] bK)=some (.int .u64 (Int.ofNat (fD x 43))):=by kernel_rfl
theorem akV (x:Nat):x9 ((runN CB 3).1 538 [.int .u64 (Int.ofNat x),.int .i64 (Int.ofNat 44)] bK)=some (.int .u64 (Int.ofNat (fD x 44))):=by kernel_rfl
theorem aiP (x:Nat):x9 ((runN CB 3).1 538 [.int .u64 (Int.ofNat x),.int .i64 (Int.ofNat 45)] bK)=some (.int .u64 (Int.ofNat (fD x 45))):=by kernel_rfl
theorem alf (x:Nat):x9 ((runN CB 3).1 538 [.int .u64 (Int.ofNat x),.int .i64 (Int.ofNat 55)] bK)=some (.int .u64 (Int.ofNat (fD x 55))):=by kernel_rfl
theorem alo (x:Nat):x9 ((runN CB 3).1 538 [.int .u64 (Int.ofNat x),.int .i64 (Int.ofNat 56)] bK)=some (.int .u64 (Int.ofNat (fD x 56))):=by kernel_rfl
theorem alh (x:Nat):x9 ((runN CB 3).1 538 [.int .u64 (Int.ofNat x),.int .i64 (Int.ofNat 61)] bK)=some (.int .u64 (Int.ofNat (fD x 61))):=by kernel_rfl
theorem akL (x:Nat):x9 ((runN CB 3).1 538 [.int .u64 (Int.ofNat x),.int .i64 (Int.ofNat 62)] bK)=some (.int .u64 (Int.ofNat (fD x 62))):=by kernel_rfl
theorem af9 (x k:Nat)(h:k∈afI):x9 ((runN CB 3).1 538 [.int .u64 (Int.ofNat x),.int .i64 (Int.ofNat k)] bK)=some (.int .u64 (Int.ofNat (fD x k))):=by
 unfold afI at h
 simp only [List.mem_cons,List.not_mem_nil,or_false] at h
 rcases h with rfl|rfl|rfl|rfl|rfl|rfl|rfl|rfl|rfl|rfl|rfl|rfl|rfl|rfl|rfl|rfl|rfl|rfl|rfl|rfl|rfl|rfl|rfl|rfl|rfl
 ·exact anR x
 ·exact ao1 x
 ·exact anx x
 ·exact amD x
 ·exact ao5 x
 ·exact aoH x
 ·exact alb x
 ·exact aky x
 ·exact ajv x
 ·exact aiN x
 ·exact akQ x
 ·exact aiJ x
 ·exact ajD x
 ·exact akI x
 ·exact ai2 x
 ·exact akX x
 ·exact ajN x
 ·exact aiY x
 ·exact aju x
 ·exact akV x
 ·exact aiP x
 ·exact alf x
 ·exact alo x
 ·exact alh x
 ·exact akL x
theorem Wu:∀ args v,nM args=true→alJ args=some v→∃ s1,(runN CB 3).1 538 args bK=some (v,s1):=by
 intro args v hfr h
 unfold alJ at h
 split at h
 ·rename_i x k
  cases x with
  |negSucc x=>cases h
  |ofNat x=>cases k with
   |negSucc k=>cases h
   |ofNat k=>
    obtain ⟨hk,h⟩:=au.1 h
    cases h
    exact oV (af9 x k (Ah hk))
 ·cases h
noncomputable def amq:List (Nat × Con):=[(537,.pure atG),(538,.pure alJ)]
noncomputable def CP:Cfg:={ CB with insert:=dJ amq }
theorem ach:dH CP Tryz.prog:=vG (ext:=fun _=>none) (ins:=dJ amq) rfl (fun f t h args s v s' hv base ρ w aO hr ha=>by
 have h:=Au h
 unfold amq at h
 rcases List.mem_cons.1 h with h|h
 ·cases h
  exact eP pV abn hv hr ha
 ·rcases List.mem_cons.1 h with h|h
  ·cases h
   exact eP pV Wu hv hr ha
  ·exact absurd h List.not_mem_nil) (fun _ _ h=>by cases h)
end Go.Ax
