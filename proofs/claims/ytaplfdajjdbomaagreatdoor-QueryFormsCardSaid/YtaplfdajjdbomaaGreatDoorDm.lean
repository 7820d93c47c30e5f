import Derived.Test.YtaplfdajjdbomaaGreatDoorDl
import Derived.Below
import Derived.LaidHandle
open Nat renaming eq_of_beq_eq_true→qaa,le_refl→qab
namespace Go.Ax
open Go Go.Proofs
noncomputable def isTrue:Option (Value × St)→Bool
 |some (.bool true,_)=>true
 |_=>false
theorem ach {r:Option (Value × St)}(h:isTrue r=true):∃ s,r=some (.bool true,s):=by
 match r,h with
 |some (.bool true,s),_=>exact ⟨s,rfl⟩
noncomputable def row0:List Value:=[.iface 458 (.agg ⟨[handle Tryz.prog 259]⟩)]
noncomputable def st1 (t:TypeId):St:={ heap:=Hp.set (.s 20 0) 0 (.row row0 t 0),bZ:=.s 20 0,next:=64 }
def Laid (W:World):Prop:=∃ (t:TypeId) (fz:Nat × Nat),W.heap[0]? = some (.cells #[.iface 458 (.agg #[hdl Tryz.prog 259])] t fz)
theorem amU (ρ:Ren):VRs ρ row0 [.iface 458 (.agg #[hdl Tryz.prog 259])]:=
 .cons (.iface _ (.agg (.cons (ZL ρ xP 259) .nil))) .nil
theorem Hy (t i:Nat):(st1 t).heap.get i=if i=0 then some (.row row0 t 0) else none:=by
 show (Hp.set (Hp.s 20 0) 0 (Row.row row0 t 0)).get i=_
 rw [Hp.jv,Hp.zL]
theorem abz (t i:Nat){a:Nat × Nat}(h:(st1 t).tag i=some a):i=0:=by
 unfold St.tag at h
 rw [Hy] at h
 by_cases hi:i=0
 ·exact hi
 ·rw [if_neg hi] at h;cases h
theorem hr1 {W:World}{t:TypeId}{fz:Nat × Nat}(hg:W.heap[0]? = some (.cells #[.iface 458 (.agg #[hdl Tryz.prog 259])] t fz)):HR Tryz.prog W.heap.size (fun _=>none) (st1 t) W where
 dom:=fun _ _ h=>by cases h
 next:=qab 64
 iF:=qab _
 low:=fun i _ h=>by
  cases ht:(st1 t).tag i with
  |none=>exact absurd ht h
  |some a=>
   rw [abz t i ht]
   exact ⟨(Array.getElem?_eq_some_iff.1 hg).1,by decide⟩
 dO:=fun i r h=>by
  rw [Hy] at h
  by_cases hi:i=0
  ·subst hi;show 0<64;omega
  ·rw [if_neg hi] at h;cases h
 fM:=fun i cs e f h=>by
  rw [Hy] at h
  by_cases hi:i=0
  ·rw [if_pos hi] at h;cases h;show 0<64;omega
  ·rw [if_neg hi] at h;cases h
 rows:=fun i cs e f h=>by
  obtain ⟨h1,_⟩:=aO.1 h
  rw [Hy] at h1
  by_cases hi:i=0
  ·rw [if_pos hi] at h1
   cases h1
   subst hi
   refine ⟨⟨0,0,0⟩,Ren.kU (by show 0<64;omega),_,fz,⟨_,hg,fun _=>rfl⟩,fun j x hj=>?_,fun h=>absurd h (by show ¬64≤0;omega),fun _=>⟨rfl,rfl,fun h=>absurd h (by show ¬64≤0;omega)⟩,fun h=>absurd rfl h⟩
   obtain ⟨y,hy,hv⟩:=(amU (fun _=>none)).get hj
   refine ⟨y,?_,hv⟩
   simpa using hy
  ·rw [if_neg hi] at h1;cases h1
 maps:=fun i es c h=>by
  rw [Hy] at h
  by_cases hi:i=0
  ·rw [if_pos hi] at h;cases h
  ·rw [if_neg hi] at h;cases h
 loops:=fun i r h=>by
  rw [Hy] at h
  by_cases hi:i=0
  ·rw [if_pos hi] at h;cases h
  ·rw [if_neg hi] at h;cases h
 sep:=fun i j a b l l' hi hj hab hl hl'=>by
  have e1:=abz t i hi
  have e2:=abz t j hj
  subst e1 e2
  rw [hi] at hj
  exact absurd (Option.some.inj hj) hab
theorem VN {C:Cfg}(hK:eX C Tryz.prog){n:Nat}{f:FuncId}{args aZ:List Value}(h:∀ t,isTrue ((KF C n).1 f args (st1 t))=true)(hv:VRs (fun _=>none) args aZ){W:World}(hL:Laid W) :
  Calls Tryz.prog f ⟨aZ⟩ W fun e w'=>e = .returned (.bool true)∧RowKit.Below W.heap.size W w':=by
 obtain ⟨t,fz,hg⟩:=hL
 obtain ⟨s,h⟩:=ach (h t)
 rw [Gf] at h
 refine ((sN hK n).1 f args (st1 t) _ s h W.heap.size _ W aZ (hr1 hg) hv).mono ?_
 rintro e w' ⟨c,ρ',rfl,hg',hv⟩
 cases hv
 exact ⟨rfl,hg'.below (hr1 hg)⟩
theorem Goes.of_below {P:Program}{base:Nat}{ρ:Ren}{s:St}{w w':World}(h:HR P base ρ s w)(hb:RowKit.Below w.heap.size w w'):Goes P base ρ s w ρ s w':=by
 refine ⟨Ren.le_refl ρ,?_,hb.os,hb.tape,hb.output,hb.size,qab _,fun b hlt _=>hb.block b hlt,fun b ho=>.inl ho,fun _ _=>rfl⟩
 refine ⟨fun i l hl=>?_,h.next,Nat.le_trans h.iF hb.size,h.low,h.dO,h.fM,fun i cs e f hc=>?_,fun i es c hi=>?_,fun i r hi=>?_,h.sep⟩
 ·obtain ⟨a,b,c,d⟩:=h.dom i l hl
  exact ⟨a,b,c,Nat.lt_of_lt_of_le d hb.size⟩
 ·obtain ⟨l,hq⟩:=h.rows i cs e f hc
  exact ⟨l,hq.move (Ren.le_refl ρ) (hb.block _ (h.rQ (dH hc) hq.at_))⟩
 ·obtain ⟨l,hl,es',h1,h2⟩:=h.maps i es c hi
  exact ⟨l,hl,es',by rw [hb.block _ (h.dom i l hl).2.2.2];exact h1,h2⟩
 ·obtain ⟨l,hl,q,h1,h2⟩:=h.loops i r hi
  exact ⟨l,hl,q,by rw [hb.block _ (h.dom i l hl).2.2.2];exact h1,h2⟩
noncomputable def Fp (s:St):Bool:=
 match s.cells 0 with
 |some ([.iface t (.agg ⟨[h]⟩)],_,0)=>Nat.beq t 458&&Option.casesOn (ofHandle Tryz.prog h) false fun u=>Nat.beq u 259
 |_=>false
theorem aqu {base:Nat}{ρ:Ren}{s:St}{w:World}(h:HR Tryz.prog base ρ s w)(hk:Fp s=true):Laid w:=by
 unfold Fp at hk
 split at hk
 ·rename_i t x e hc
  simp only [Bool.and_eq_true] at hk
  obtain ⟨h1,h2⟩:=hk
  have h1:=qaa h1
  subst h1
  cases hu:ofHandle Tryz.prog x with
  |none=>rw [hu] at h2;cases h2
  |some u=>
   rw [hu] at h2
   have h2:u=259:=qaa h2
   subst h2
   obtain ⟨l,hat,a,fz,⟨e9,ha,he9⟩,hv,_,h0,_⟩:=h.rows 0 _ _ _ hc
   have he9:=(he9 (.inl rfl)).symm
   subst he9
   rw [Ren.kU (by show 0<64;omega)] at hat
   cases hat
   obtain ⟨_,hsz,_⟩:=h0 rfl
   obtain ⟨y,hy,hvy⟩:=hv 0 _ rfl
   refine ⟨e,fz,?_⟩
   have:a=#[.iface 458 (.agg #[hdl Tryz.prog 259])]:=by
    have hs1:a.size=1:=hsz
    cases hvy with
    |iface _ hvy=>cases hvy with
     |agg hvy=>cases hvy with
      |cons hvy hn=>cases hn with
       |nil=>
        rw [LZ xP hvy hu] at hy
        apply Array.ext
        ·simpa using hs1
        ·intro j j1 j2
         have:j=0:=by omega
         subst this
         have hy:a[0]? = some (.iface 458 (.agg #[hdl Tryz.prog 259])):=hy
         have:=(Array.getElem?_eq_some_iff.1 hy).2
         simpa using this
   rw [←this]
   exact ha
 ·cases hk
end Go.Ax
