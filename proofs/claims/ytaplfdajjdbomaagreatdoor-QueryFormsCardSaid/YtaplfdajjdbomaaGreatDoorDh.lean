import Derived.Test.YtaplfdajjdbomaaGreatDoorDg
open Go.Sem renaming run→qaa
set_option maxHeartbeats 4000000
set_option maxRecDepth 100000
namespace Go.Ax
open Go Go.Proofs Go.RowKit
theorem Yz (b o n K i vb vo vc:Nat)(w w2 w3:World)(x2 x3:Value)(hi:i<n)(hK:n+1≤K)(hn2:n+1≤9223372036854775807)
  (hov:qaa Tryz.prog (callFunc 640 #[.slice (some ⟨vb,vo,none⟩) 1 vc,.slice (some ⟨b,o+(i+1)*6,none⟩) (n-i) (K-(i+1))]) w = .ok (.value (.bool false)) w)
  (hcp:Hid (qaa Tryz.prog (Builtin.copy_ #[51,51] 3 #[.slice (some ⟨b,o+(i+1)*6,none⟩) (n-i) (K-(i+1)),.slice (some ⟨b,o+i*6,none⟩) (n+1-i) (K-i)]) w.drew = .ok x2 w2))
  (hcp2:qaa Tryz.prog (Builtin.copy_ #[51,51] 3 #[.slice (some ⟨b,o+i*6,none⟩) (n+1-i) (K-i),.slice (some ⟨vb,vo,none⟩) 1 vc]) w2 = .ok x3 w3) :
  Calls Tryz.prog 629 #[.slice (some ⟨b,o,none⟩) n K,.int .i64 i,.slice (some ⟨vb,vo,none⟩) 1 vc] w fun e w'=>e = .returned (.slice (some ⟨b,o,none⟩) (n+1) K)∧w'=w3:=by
 have e1:¬K=i:=by omega
 have e2:¬K=i+1:=by omega
 have e3:((i:Int) == (n:Int))=false:=by simp;omega
 have hic:i≤K:=by omega
 have hwr:IntKind.i64.wrap ((i:Int)+1)=(i:Int)+1:=by rw [IntKind.wrap_i64];omega
 have hp0:(0:Int)≤(i:Int)+1:=by omega
 have hp1:(i:Int)+1≤(n:Int)+1:=by omega
 have hp2:((i:Int)+1).toNat=i+1:=by omega
 have hp3:(i:Int)≤(n:Int)+1:=by omega
 have hp4:n+1-(i+1)=n-i:=by omega
 go_enter Tryz.func629,Tryz.ntmps629
 go_wp2
 go_region_law (refine ug rfl (.tmp 73) (.tmp 76) 51 51 rfl (by simp [Act.eval,Act.put]) (by simp [Act.eval,Act.put]) hcp.out ?_)
 go_wp2
 go_ret
 exact ⟨rfl,rfl⟩
theorem af9 (b o n K vb vo vc:Nat)(w w2:World)(x2:Value)
  (hap:Hid (qaa Tryz.prog (Builtin.append_ #[51,51] 51 #[.slice (some ⟨b,o,none⟩) n K,.slice (some ⟨vb,vo,none⟩) 1 vc]) w = .ok x2 w2)) :
  Calls Tryz.prog 629 #[.slice (some ⟨b,o,none⟩) n K,.int .i64 n,.slice (some ⟨vb,vo,none⟩) 1 vc] w fun e w'=>e = .returned x2∧w'=w2:=by
 have e3:((n:Int) == (n:Int))=true:=by simp
 go_enter Tryz.func629,Tryz.ntmps629
 go_wp2_with (at_builtin;refine wpList_append_run rfl (.tmp 23) (.tmp 24) 51 51 rfl rfl rfl hap.out ?_)
 all_goals (go_ret;exact ⟨rfl,rfl⟩)
theorem aaR (b o n K i vb vo vc g G:Nat)(w w2 w3 w4:World)(x3 x4:Value)(hi:i<n)(hn:n≤K)(hK:K<n+1)(hK2:n+1≤9223372036854775807)(hG:n+1≤G)
  (hap:Hid (qaa Tryz.prog (Builtin.append_ #[51,3] 51 #[.slice (some ⟨b,o,none⟩) i K,.int .i64 ((n:Int)+1-i)]) w = .ok (.slice (some ⟨g,0,none⟩) (n+1) G) w2))
  (hcp:qaa Tryz.prog (Builtin.copy_ #[51,51] 3 #[.slice (some ⟨g,i*6,none⟩) (n+1-i) (G-i),.slice (some ⟨vb,vo,none⟩) 1 vc]) w2 = .ok x3 w3)
  (hcp2:Hid (qaa Tryz.prog (Builtin.copy_ #[51,51] 3 #[.slice (some ⟨g,(i+1)*6,none⟩) (n-i) (G-(i+1)),.slice (some ⟨b,o+i*6,none⟩) (n-i) (K-i)]) w3.drew = .ok x4 w4)) :
  Calls Tryz.prog 629 #[.slice (some ⟨b,o,none⟩) n K,.int .i64 i,.slice (some ⟨vb,vo,none⟩) 1 vc] w fun e w'=>e = .returned (.slice (some ⟨g,0,none⟩) (n+1) G)∧w'=w4:=by
 have e1:¬K=i:=by omega
 have e2:¬G=i+1:=by omega
 have e2':¬G=i:=by omega
 have e3:((i:Int) == (n:Int))=false:=by simp;omega
 have hic:i≤K:=by omega
 have hwr:IntKind.i64.wrap ((i:Int)+1)=(i:Int)+1:=by rw [IntKind.wrap_i64];omega
 have hp0:(0:Int)≤(i:Int)+1:=by omega
 have hp1:(i:Int)+1≤(n:Int)+1:=by omega
 have hp2:((i:Int)+1).toNat=i+1:=by omega
 have hp3:(i:Int)≤(n:Int)+1:=by omega
 have hp5:(i:Int)≤(n:Int):=by omega
 go_enter Tryz.func629,Tryz.ntmps629
 go_wp2_with (at_builtin;refine wpList_append_run rfl (.tmp 34) (.tmp 39) 51 3 rfl rfl rfl hap.out ?_)
 go_region_law (refine ug rfl (.tmp 50) (.tmp 53) 51 51 rfl (by simp [Act.eval,Act.put]) (by simp [Act.eval,Act.put]) hcp2.out ?_)
 go_wp2
 go_ret
 exact ⟨rfl,rfl⟩
theorem Xt (b o n K i vb vo vc:Nat)(w w2 w3:World)(x2 x3:Value)(hi:i<n)(hK:n+1≤K)(hn2:n+1≤9223372036854775807)
  (hov:qaa Tryz.prog (callFunc 642 #[.slice (some ⟨vb,vo,none⟩) 1 vc,.slice (some ⟨b,o+(i+1)*6,none⟩) (n-i) (K-(i+1))]) w = .ok (.value (.bool false)) w)
  (hcp:Hid (qaa Tryz.prog (Builtin.copy_ #[52,52] 3 #[.slice (some ⟨b,o+(i+1)*6,none⟩) (n-i) (K-(i+1)),.slice (some ⟨b,o+i*6,none⟩) (n+1-i) (K-i)]) w.drew = .ok x2 w2))
  (hcp2:qaa Tryz.prog (Builtin.copy_ #[52,52] 3 #[.slice (some ⟨b,o+i*6,none⟩) (n+1-i) (K-i),.slice (some ⟨vb,vo,none⟩) 1 vc]) w2 = .ok x3 w3) :
  Calls Tryz.prog 631 #[.slice (some ⟨b,o,none⟩) n K,.int .i64 i,.slice (some ⟨vb,vo,none⟩) 1 vc] w fun e w'=>e = .returned (.slice (some ⟨b,o,none⟩) (n+1) K)∧w'=w3:=by
 have e1:¬K=i:=by omega
 have e2:¬K=i+1:=by omega
 have e3:((i:Int) == (n:Int))=false:=by simp;omega
 have hic:i≤K:=by omega
 have hwr:IntKind.i64.wrap ((i:Int)+1)=(i:Int)+1:=by rw [IntKind.wrap_i64];omega
 have hp0:(0:Int)≤(i:Int)+1:=by omega
 have hp1:(i:Int)+1≤(n:Int)+1:=by omega
 have hp2:((i:Int)+1).toNat=i+1:=by omega
 have hp3:(i:Int)≤(n:Int)+1:=by omega
 have hp4:n+1-(i+1)=n-i:=by omega
 go_enter Tryz.func631,Tryz.ntmps631
 go_wp2
 go_region_law (refine ug rfl (.tmp 73) (.tmp 76) 52 52 rfl (by simp [Act.eval,Act.put]) (by simp [Act.eval,Act.put]) hcp.out ?_)
 go_wp2
 go_ret
 exact ⟨rfl,rfl⟩
theorem aeS (b o n K vb vo vc:Nat)(w w2:World)(x2:Value)
  (hap:Hid (qaa Tryz.prog (Builtin.append_ #[52,52] 52 #[.slice (some ⟨b,o,none⟩) n K,.slice (some ⟨vb,vo,none⟩) 1 vc]) w = .ok x2 w2)) :
  Calls Tryz.prog 631 #[.slice (some ⟨b,o,none⟩) n K,.int .i64 n,.slice (some ⟨vb,vo,none⟩) 1 vc] w fun e w'=>e = .returned x2∧w'=w2:=by
 have e3:((n:Int) == (n:Int))=true:=by simp
 go_enter Tryz.func631,Tryz.ntmps631
 go_wp2_with (at_builtin;refine wpList_append_run rfl (.tmp 23) (.tmp 24) 52 52 rfl rfl rfl hap.out ?_)
 all_goals (go_ret;exact ⟨rfl,rfl⟩)
theorem abp (b o n K i vb vo vc g G:Nat)(w w2 w3 w4:World)(x3 x4:Value)(hi:i<n)(hn:n≤K)(hK:K<n+1)(hK2:n+1≤9223372036854775807)(hG:n+1≤G)
  (hap:Hid (qaa Tryz.prog (Builtin.append_ #[52,3] 52 #[.slice (some ⟨b,o,none⟩) i K,.int .i64 ((n:Int)+1-i)]) w = .ok (.slice (some ⟨g,0,none⟩) (n+1) G) w2))
  (hcp:qaa Tryz.prog (Builtin.copy_ #[52,52] 3 #[.slice (some ⟨g,i*6,none⟩) (n+1-i) (G-i),.slice (some ⟨vb,vo,none⟩) 1 vc]) w2 = .ok x3 w3)
  (hcp2:Hid (qaa Tryz.prog (Builtin.copy_ #[52,52] 3 #[.slice (some ⟨g,(i+1)*6,none⟩) (n-i) (G-(i+1)),.slice (some ⟨b,o+i*6,none⟩) (n-i) (K-i)]) w3.drew = .ok x4 w4)) :
  Calls Tryz.prog 631 #[.slice (some ⟨b,o,none⟩) n K,.int .i64 i,.slice (some ⟨vb,vo,none⟩) 1 vc] w fun e w'=>e = .returned (.slice (some ⟨g,0,none⟩) (n+1) G)∧w'=w4:=by
 have e1:¬K=i:=by omega
 have e2:¬G=i+1:=by omega
 have e2':¬G=i:=by omega
 have e3:((i:Int) == (n:Int))=false:=by simp;omega
 have hic:i≤K:=by omega
 have hwr:IntKind.i64.wrap ((i:Int)+1)=(i:Int)+1:=by rw [IntKind.wrap_i64];omega
 have hp0:(0:Int)≤(i:Int)+1:=by omega
 have hp1:(i:Int)+1≤(n:Int)+1:=by omega
 have hp2:((i:Int)+1).toNat=i+1:=by omega
 have hp3:(i:Int)≤(n:Int)+1:=by omega
 have hp5:(i:Int)≤(n:Int):=by omega
 go_enter Tryz.func631,Tryz.ntmps631
 go_wp2_with (at_builtin;refine wpList_append_run rfl (.tmp 34) (.tmp 39) 52 3 rfl rfl rfl hap.out ?_)
 go_region_law (refine ug rfl (.tmp 50) (.tmp 53) 52 52 rfl (by simp [Act.eval,Act.put]) (by simp [Act.eval,Act.put]) hcp2.out ?_)
 go_wp2
 go_ret
 exact ⟨rfl,rfl⟩
end Go.Ax
