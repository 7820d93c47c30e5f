import Derived.Test.YtgpfgjhbiehafaaGreatDoorDf
set_option maxHeartbeats 4000000
set_option maxRecDepth 100000
namespace Go.Ax
open Go Go.Proofs Go.RowKit
theorem Rh (b o n K i vb vo vc:Nat)(w w2 w3:World)(x2 x3:Value)(hi:i<n)(hK:n+1≤K)(hn2:n+1≤9223372036854775807)
  (hov:Sem.run Tryz.prog (callFunc 556 #[.slice (some ⟨vb,vo,none⟩) 1 vc,.slice (some ⟨b,o+(i+1)*6,none⟩) (n-i) (K-(i+1))]) w = .ok (.value (.bool false)) w)
  (hcp:Hid (Sem.run Tryz.prog (Builtin.copy_ #[60,60] 3 #[.slice (some ⟨b,o+(i+1)*6,none⟩) (n-i) (K-(i+1)),.slice (some ⟨b,o+i*6,none⟩) (n+1-i) (K-i)]) w.drew = .ok x2 w2))
  (hcp2:Sem.run Tryz.prog (Builtin.copy_ #[60,60] 3 #[.slice (some ⟨b,o+i*6,none⟩) (n+1-i) (K-i),.slice (some ⟨vb,vo,none⟩) 1 vc]) w2 = .ok x3 w3) :
  Calls Tryz.prog 530 #[.slice (some ⟨b,o,none⟩) n K,.int .i64 i,.slice (some ⟨vb,vo,none⟩) 1 vc] w fun e w'=>e = .returned (.slice (some ⟨b,o,none⟩) (n+1) K)∧w'=w3:=by
 have e1:¬K=i:=by omega
 have e2:¬K=i+1:=by omega
 have e3:((i:Int) == (n:Int))=false:=by simp;omega
 have hic:i≤K:=by omega
 have hwr:IntKind.i64.wrap ((i:Int)+1)=(i:Int)+1:=by rw [IntKind.wrap_i64];omega
 have hp0:(0:Int)≤(i:Int)+1:=by omega
 have hp1:(i:Int)+1≤(n:Int)+1:=by omega
 have hp2:((i:Int)+1).toNat=i+1:=by omega
 have hp3:(i:Int)≤(n:Int)+1:=by omega
 have hp4:n+1-(i+1)=n-i:=by omega
 go_enter Tryz.func530,Tryz.ntmps530
 go_wp2
 go_region_law (refine nX rfl (.tmp 73) (.tmp 76) 60 60 rfl (by simp [Act.eval,Act.put]) (by simp [Act.eval,Act.put]) hcp.out ?_)
 go_wp2
 go_ret
 exact ⟨rfl,rfl⟩
theorem XY (b o n K vb vo vc:Nat)(w w2:World)(x2:Value)
  (hap:Hid (Sem.run Tryz.prog (Builtin.append_ #[60,60] 60 #[.slice (some ⟨b,o,none⟩) n K,.slice (some ⟨vb,vo,none⟩) 1 vc]) w = .ok x2 w2)) :
  Calls Tryz.prog 530 #[.slice (some ⟨b,o,none⟩) n K,.int .i64 n,.slice (some ⟨vb,vo,none⟩) 1 vc] w fun e w'=>e = .returned x2∧w'=w2:=by
 have e3:((n:Int) == (n:Int))=true:=by simp
 go_enter Tryz.func530,Tryz.ntmps530
 go_wp2_with (at_builtin;refine wpList_append_run rfl (.tmp 23) (.tmp 24) 60 60 rfl rfl rfl hap.out ?_)
 all_goals (go_ret;exact ⟨rfl,rfl⟩)
theorem UK (b o n K i vb vo vc g G:Nat)(w w2 w3 w4:World)(x3 x4:Value)(hi:i<n)(hn:n≤K)(hK:K<n+1)(hK2:n+1≤9223372036854775807)(hG:n+1≤G)
  (hap:Hid (Sem.run Tryz.prog (Builtin.append_ #[60,3] 60 #[.slice (some ⟨b,o,none⟩) i K,.int .i64 ((n:Int)+1-i)]) w = .ok (.slice (some ⟨g,0,none⟩) (n+1) G) w2))
  (hcp:Sem.run Tryz.prog (Builtin.copy_ #[60,60] 3 #[.slice (some ⟨g,i*6,none⟩) (n+1-i) (G-i),.slice (some ⟨vb,vo,none⟩) 1 vc]) w2 = .ok x3 w3)
  (hcp2:Hid (Sem.run Tryz.prog (Builtin.copy_ #[60,60] 3 #[.slice (some ⟨g,(i+1)*6,none⟩) (n-i) (G-(i+1)),.slice (some ⟨b,o+i*6,none⟩) (n-i) (K-i)]) w3.drew = .ok x4 w4)) :
  Calls Tryz.prog 530 #[.slice (some ⟨b,o,none⟩) n K,.int .i64 i,.slice (some ⟨vb,vo,none⟩) 1 vc] w fun e w'=>e = .returned (.slice (some ⟨g,0,none⟩) (n+1) G)∧w'=w4:=by
 have e1:¬K=i:=by omega
 have e2:¬G=i+1:=by omega
 have e2':¬G=i:=by omega
 have e3:((i:Int) == (n:Int))=false:=by simp;omega
 have hic:i≤K:=by omega
 have hwr:IntKind.i64.wrap ((i:Int)+1)=(i:Int)+1:=by rw [IntKind.wrap_i64];omega
 have hp0:(0:Int)≤(i:Int)+1:=by omega
 have hp1:(i:Int)+1≤(n:Int)+1:=by omega
 have hp2:((i:Int)+1).toNat=i+1:=by omega
 have hp3:(i:Int)≤(n:Int)+1:=by omega
 have hp5:(i:Int)≤(n:Int):=by omega
 go_enter Tryz.func530,Tryz.ntmps530
 go_wp2_with (at_builtin;refine wpList_append_run rfl (.tmp 34) (.tmp 39) 60 3 rfl rfl rfl hap.out ?_)
 go_region_law (refine nX rfl (.tmp 50) (.tmp 53) 60 60 rfl (by simp [Act.eval,Act.put]) (by simp [Act.eval,Act.put]) hcp2.out ?_)
 go_wp2
 go_ret
 exact ⟨rfl,rfl⟩
theorem Qk (b o n K i vb vo vc:Nat)(w w2 w3:World)(x2 x3:Value)(hi:i<n)(hK:n+1≤K)(hn2:n+1≤9223372036854775807)
  (hov:Sem.run Tryz.prog (callFunc 558 #[.slice (some ⟨vb,vo,none⟩) 1 vc,.slice (some ⟨b,o+(i+1)*6,none⟩) (n-i) (K-(i+1))]) w = .ok (.value (.bool false)) w)
  (hcp:Hid (Sem.run Tryz.prog (Builtin.copy_ #[61,61] 3 #[.slice (some ⟨b,o+(i+1)*6,none⟩) (n-i) (K-(i+1)),.slice (some ⟨b,o+i*6,none⟩) (n+1-i) (K-i)]) w.drew = .ok x2 w2))
  (hcp2:Sem.run Tryz.prog (Builtin.copy_ #[61,61] 3 #[.slice (some ⟨b,o+i*6,none⟩) (n+1-i) (K-i),.slice (some ⟨vb,vo,none⟩) 1 vc]) w2 = .ok x3 w3) :
  Calls Tryz.prog 532 #[.slice (some ⟨b,o,none⟩) n K,.int .i64 i,.slice (some ⟨vb,vo,none⟩) 1 vc] w fun e w'=>e = .returned (.slice (some ⟨b,o,none⟩) (n+1) K)∧w'=w3:=by
 have e1:¬K=i:=by omega
 have e2:¬K=i+1:=by omega
 have e3:((i:Int) == (n:Int))=false:=by simp;omega
 have hic:i≤K:=by omega
 have hwr:IntKind.i64.wrap ((i:Int)+1)=(i:Int)+1:=by rw [IntKind.wrap_i64];omega
 have hp0:(0:Int)≤(i:Int)+1:=by omega
 have hp1:(i:Int)+1≤(n:Int)+1:=by omega
 have hp2:((i:Int)+1).toNat=i+1:=by omega
 have hp3:(i:Int)≤(n:Int)+1:=by omega
 have hp4:n+1-(i+1)=n-i:=by omega
 go_enter Tryz.func532,Tryz.ntmps532
 go_wp2
 go_region_law (refine nX rfl (.tmp 73) (.tmp 76) 61 61 rfl (by simp [Act.eval,Act.put]) (by simp [Act.eval,Act.put]) hcp.out ?_)
 go_wp2
 go_ret
 exact ⟨rfl,rfl⟩
theorem YX (b o n K vb vo vc:Nat)(w w2:World)(x2:Value)
  (hap:Hid (Sem.run Tryz.prog (Builtin.append_ #[61,61] 61 #[.slice (some ⟨b,o,none⟩) n K,.slice (some ⟨vb,vo,none⟩) 1 vc]) w = .ok x2 w2)) :
  Calls Tryz.prog 532 #[.slice (some ⟨b,o,none⟩) n K,.int .i64 n,.slice (some ⟨vb,vo,none⟩) 1 vc] w fun e w'=>e = .returned x2∧w'=w2:=by
 have e3:((n:Int) == (n:Int))=true:=by simp
 go_enter Tryz.func532,Tryz.ntmps532
 go_wp2_with (at_builtin;refine wpList_append_run rfl (.tmp 23) (.tmp 24) 61 61 rfl rfl rfl hap.out ?_)
 all_goals (go_ret;exact ⟨rfl,rfl⟩)
theorem Vh (b o n K i vb vo vc g G:Nat)(w w2 w3 w4:World)(x3 x4:Value)(hi:i<n)(hn:n≤K)(hK:K<n+1)(hK2:n+1≤9223372036854775807)(hG:n+1≤G)
  (hap:Hid (Sem.run Tryz.prog (Builtin.append_ #[61,3] 61 #[.slice (some ⟨b,o,none⟩) i K,.int .i64 ((n:Int)+1-i)]) w = .ok (.slice (some ⟨g,0,none⟩) (n+1) G) w2))
  (hcp:Sem.run Tryz.prog (Builtin.copy_ #[61,61] 3 #[.slice (some ⟨g,i*6,none⟩) (n+1-i) (G-i),.slice (some ⟨vb,vo,none⟩) 1 vc]) w2 = .ok x3 w3)
  (hcp2:Hid (Sem.run Tryz.prog (Builtin.copy_ #[61,61] 3 #[.slice (some ⟨g,(i+1)*6,none⟩) (n-i) (G-(i+1)),.slice (some ⟨b,o+i*6,none⟩) (n-i) (K-i)]) w3.drew = .ok x4 w4)) :
  Calls Tryz.prog 532 #[.slice (some ⟨b,o,none⟩) n K,.int .i64 i,.slice (some ⟨vb,vo,none⟩) 1 vc] w fun e w'=>e = .returned (.slice (some ⟨g,0,none⟩) (n+1) G)∧w'=w4:=by
 have e1:¬K=i:=by omega
 have e2:¬G=i+1:=by omega
 have e2':¬G=i:=by omega
 have e3:((i:Int) == (n:Int))=false:=by simp;omega
 have hic:i≤K:=by omega
 have hwr:IntKind.i64.wrap ((i:Int)+1)=(i:Int)+1:=by rw [IntKind.wrap_i64];omega
 have hp0:(0:Int)≤(i:Int)+1:=by omega
 have hp1:(i:Int)+1≤(n:Int)+1:=by omega
 have hp2:((i:Int)+1).toNat=i+1:=by omega
 have hp3:(i:Int)≤(n:Int)+1:=by omega
 have hp5:(i:Int)≤(n:Int):=by omega
 go_enter Tryz.func532,Tryz.ntmps532
 go_wp2_with (at_builtin;refine wpList_append_run rfl (.tmp 34) (.tmp 39) 61 3 rfl rfl rfl hap.out ?_)
 go_region_law (refine nX rfl (.tmp 50) (.tmp 53) 61 61 rfl (by simp [Act.eval,Act.put]) (by simp [Act.eval,Act.put]) hcp2.out ?_)
 go_wp2
 go_ret
 exact ⟨rfl,rfl⟩
end Go.Ax
