import Derived.Test.YtgpfgjhbiehafaaGreatDoorDk
import Derived.Below
import Derived.Test.YtgpfgjhbiehafaaGreatDoorDd
import Derived.LaidHandle
namespace Go.Ax
open Go Go.Proofs
noncomputable def isTrue:Option (Value × St)→Bool
 |some (.bool true,_)=>true
 |_=>false
theorem TV {r:Option (Value × St)}(h:isTrue r=true):∃ s,r=some (.bool true,s):=by
 match r,h with
 |some (.bool true,s),_=>exact ⟨s,rfl⟩
noncomputable def row0:List Value:=[.iface 436 (.agg ⟨[handle Tryz.prog 86]⟩)]
noncomputable def adO:List Value:=[.int .u64 1,.int .u64 10,.int .u64 100,.int .u64 1000,.int .u64 10000,.int .u64 100000,.int .u64 1000000,.int .u64 10000000,.int .u64 100000000,.int .u64 1000000000,.int .u64 10000000000,.int .u64 100000000000,.int .u64 1000000000000,.int .u64 10000000000000,.int .u64 100000000000000,.int .u64 1000000000000000,.int .u64 10000000000000000,.int .u64 100000000000000000,.int .u64 1000000000000000000,.int .u64 10000000000000000000]
theorem zW:flatAll adO=true:=by kernel_rfl
noncomputable def st1 (t:TypeId × TypeId):St:=F6 [(1,row0,t.1),(0,adO,t.2)]
def Laid (W:World):Prop:=(∃ (t:TypeId) (fz:Nat × Nat),W.heap[1]? = some (.cells #[.iface 436 (.agg #[hdl Tryz.prog 86])] t fz))∧(∃ (t:TypeId) (fz:Nat × Nat),W.heap[0]? = some (.cells ⟨adO⟩ t fz))
theorem acT (ρ:Ren):VRs ρ row0 [.iface 436 (.agg #[hdl Tryz.prog 86])]:=
 .cons (.iface _ (.agg (.cons (uY ρ eG 86) .nil))) .nil
theorem hr1 {W:World}{t:TypeId × TypeId}{fz0 fz1:Nat × Nat}(hg0:W.heap[1]? = some (.cells #[.iface 436 (.agg #[hdl Tryz.prog 86])] t.1 fz0))(hg1:W.heap[0]? = some (.cells ⟨adO⟩ t.2 fz1)):HR Tryz.prog W.heap.size (fun _=>none) (st1 t) W:=by
 refine aaN (fun x hx=>?_) (fun x hx=>?_)
 ·rcases List.mem_cons.1 hx with rfl|hx
  ·exact (by decide:(1:Nat)<32)
  ·
   rcases List.mem_cons.1 hx with rfl|hx
   ·exact (by decide:(0:Nat)<32)
   ·cases hx
 ·rcases List.mem_cons.1 hx with rfl|hx
  ·exact ⟨_,fz0,hg0,acT _⟩
  ·
   rcases List.mem_cons.1 hx with rfl|hx
   ·exact ⟨_,fz1,hg1,Oh _ zW⟩
   ·cases hx
theorem Mc {C:Cfg}(hK:dH C Tryz.prog){n:Nat}{f:FuncId}{args aO:List Value}(h:∀ t,isTrue ((Ir C n).1 f args (st1 t))=true)(hv:VRs (fun _=>none) args aO){W:World}(hL:Laid W) :
  Calls Tryz.prog f ⟨aO⟩ W fun e w'=>e = .returned (.bool true)∧RowKit.Below W.heap.size W w':=by
 obtain ⟨⟨t0,fz0,hg0⟩,⟨t1,fz1,hg1⟩⟩:=hL
 obtain ⟨s,h⟩:=TV (h (t0,t1))
 rw [Bd] at h
 refine ((nI hK n).1 f args (st1 (t0,t1)) _ s h W.heap.size _ W aO (hr1 (t:=(t0,t1)) hg0 hg1) hv).mono ?_
 rintro e w' ⟨c,ρ',rfl,hgo,hv⟩
 cases hv
 exact ⟨rfl,hgo.below (hr1 (t:=(t0,t1)) hg0 hg1)⟩
theorem Goes.of_below {P:Program}{base:Nat}{ρ:Ren}{s:St}{w w':World}(h:HR P base ρ s w)(hb:RowKit.Below w.heap.size w w'):Goes P base ρ s w ρ s w':=by
 refine ⟨Ren.le_refl ρ,?_,hb.os,hb.tape,hb.output,hb.size,Nat.le_refl _,fun b hlt _=>hb.block b hlt,fun b ho=>.inl ho,fun _ _=>rfl⟩
 refine ⟨fun i l hl=>?_,h.next,Nat.le_trans h.dS hb.size,h.low,h.bV,h.dM,fun i cs e f hc=>?_,fun i es c hi=>?_,fun i r hi=>?_,h.sep⟩
 ·obtain ⟨a,b,c,d⟩:=h.dom i l hl
  exact ⟨a,b,c,Nat.lt_of_lt_of_le d hb.size⟩
 ·obtain ⟨l,hq⟩:=h.rows i cs e f hc
  exact ⟨l,hq.move (Ren.le_refl ρ) (hb.block _ (h.mY (bP hc) hq.at_))⟩
 ·obtain ⟨l,hl,es',h1,h2⟩:=h.maps i es c hi
  exact ⟨l,hl,es',by rw [hb.block _ (h.dom i l hl).2.2.2];exact h1,h2⟩
 ·obtain ⟨l,hl,q,h1,h2⟩:=h.loops i r hi
  exact ⟨l,hl,q,by rw [hb.block _ (h.dom i l hl).2.2.2];exact h1,h2⟩
noncomputable def Jk (s:St):Bool:=
 match s.cells 1 with
 |some ([.iface t (.agg ⟨[h]⟩)],_,0)=>Nat.beq t 436&&Option.casesOn (ofHandle Tryz.prog h) false fun u=>Nat.beq u 86
 |_=>false
theorem Qh {base:Nat}{ρ:Ren}{s:St}{w:World}(h:HR Tryz.prog base ρ s w)(hk:Jk s=true):∃ (t:TypeId) (fz:Nat × Nat),w.heap[1]? = some (.cells #[.iface 436 (.agg #[hdl Tryz.prog 86])] t fz):=by
 unfold Jk at hk
 split at hk
 ·rename_i t x e hc
  simp only [Bool.and_eq_true] at hk
  obtain ⟨h1,h2⟩:=hk
  have h1:=Nat.eq_of_beq_eq_true h1
  subst h1
  cases hu:ofHandle Tryz.prog x with
  |none=>rw [hu] at h2;cases h2
  |some u=>
   rw [hu] at h2
   have h2:u=86:=Nat.eq_of_beq_eq_true h2
   subst h2
   obtain ⟨l,hat,a,fz,⟨e9,ha,he9⟩,hv,_,h0,_⟩:=h.rows 1 _ _ _ hc
   have he9:=(he9 (.inl rfl)).symm
   subst he9
   rw [Ren.gQ (by show 1<64;omega)] at hat
   cases hat
   obtain ⟨_,hsz,_⟩:=h0 rfl
   obtain ⟨y,hy,hvy⟩:=hv 0 _ rfl
   refine ⟨e,fz,?_⟩
   have:a=#[.iface 436 (.agg #[hdl Tryz.prog 86])]:=by
    have hs1:a.size=1:=hsz
    cases hvy with
    |iface _ hvy=>cases hvy with
     |agg hvy=>cases hvy with
      |cons hvy hn=>cases hn with
       |nil=>
        rw [jZ eG hvy hu] at hy
        apply Array.ext
        ·simpa using hs1
        ·intro j j1 j2
         have:j=0:=by omega
         subst this
         have hy:a[0]? = some (.iface 436 (.agg #[hdl Tryz.prog 86])):=hy
         have:=(Array.getElem?_eq_some_iff.1 hy).2
         simpa using this
   rw [←this]
   exact ha
 ·cases hk
noncomputable def Gs (s:St):Bool:=Jk s&&zI s 0 adO
theorem ahG {base:Nat}{ρ:Ren}{s:St}{w:World}(h:HR Tryz.prog base ρ s w)(hk:Gs s=true):Laid w:=by
 unfold Gs at hk
 simp only [Bool.and_eq_true] at hk
 exact ⟨Qh h hk.1,NT h zW (by decide) hk.2⟩
end Go.Ax
