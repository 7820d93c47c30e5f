import Derived.Test.YtaplfdajjdbomaaGreatDoorDe
import Derived.Test.YtaplfdajjdbomaaGreatDoorDc
open Int renaming ofNat→qaa,ofNat_eq_natCast→qab
open Bool renaming and_eq_false_imp→qac,and_eq_true→qad,not_eq_true'→qae,or_eq_true→qag,true_and→qah,and_true→qai,not_eq_true→qaJ
open Nat renaming zero_add→qaf,mul_one→qaj,eq_of_beq_eq_true→qak,mod_mod→qal,zero_or→qam,le_of_ble_eq_true→qan,ble→qao,ble_eq_true_of_le→qap,mod_eq_of_lt→qaq,add→qar,pow_le_pow_right→qat,pow_succ→qay,beq→qaz,eq_zero_or_pos→qaD,succ→qaF,mul_comm→qaG,div_lt_of_lt_mul→qaH,mod_lt→qaI,add_mul→qaL,lor→qaM,mod→qaO,pow→qaP
open List renaming append_nil→qas,drop_zero→qau,drop_eq_getElem_cons→qav,append_assoc→qaw,getElem?_eq_getElem→qax,replicate→qaA,length_append→qaB,length_cons→qaC,mem_cons_self→qaE,drop_length→qaK,drop_drop→qaN
set_option maxRecDepth 1000000
set_option maxHeartbeats 0
set_option linter.unusedSectionVars false
set_option linter.unusedSimpArgs false
set_option linter.unusedVariables false
namespace Go.Ax
open Go Go.Proofs
noncomputable def KQ:KP:={ L:=11 }
noncomputable def Oe (n:Nat):=qaa (((n.mod 256).mod 256).lor 128)
noncomputable def akQ (n:Nat):Option cO:=some { val:=[.one (.sl 0 1)],rows:=[([.int .u8 (qaa (n.mod 256))],5)] }
theorem awQ (n:Nat):(runK KQ CB 16).1 52 [.int .u64 (qaa n)] (aP []) (dJ Tryz.prog)=sel (leI 128 (qaa n)) (sel (leI 128 (qaa (ay [.int .u64 (qaa (n.div 128))] 0))) (sel (leI 128 (qaa (ay [.int .u64 (qaa ((ay [.int .u64 (qaa (n.div 128))] 0).div 128))] 0))) (sel (leI 128 (qaa (ay [.int .u64 (qaa ((ay [.int .u64 (qaa ((ay [.int .u64 (qaa (n.div 128))] 0).div 128))] 0).div 128))] 0))) (sel (leI 128 (qaa (ay [.int .u64 (qaa ((ay [.int .u64 (qaa ((ay [.int .u64 (qaa ((ay [.int .u64 (qaa (n.div 128))] 0).div 128))] 0).div 128))] 0).div 128))] 0))) (sel (leI 128 (qaa (ay [.int .u64 (qaa ((ay [.int .u64 (qaa ((ay [.int .u64 (qaa ((ay [.int .u64 (qaa ((ay [.int .u64 (qaa (n.div 128))] 0).div 128))] 0).div 128))] 0).div 128))] 0).div 128))] 0))) (sel (leI 128 (qaa (ay [.int .u64 (qaa ((ay [.int .u64 (qaa ((ay [.int .u64 (qaa ((ay [.int .u64 (qaa ((ay [.int .u64 (qaa ((ay [.int .u64 (qaa (n.div 128))] 0).div 128))] 0).div 128))] 0).div 128))] 0).div 128))] 0).div 128))] 0))) (sel (leI 128 (qaa (ay [.int .u64 (qaa ((ay [.int .u64 (qaa ((ay [.int .u64 (qaa ((ay [.int .u64 (qaa ((ay [.int .u64 (qaa ((ay [.int .u64 (qaa ((ay [.int .u64 (qaa (n.div 128))] 0).div 128))] 0).div 128))] 0).div 128))] 0).div 128))] 0).div 128))] 0).div 128))] 0))) (sel (leI 128 (qaa (ay [.int .u64 (qaa ((ay [.int .u64 (qaa ((ay [.int .u64 (qaa ((ay [.int .u64 (qaa ((ay [.int .u64 (qaa ((ay [.int .u64 (qaa ((ay [.int .u64 (qaa ((ay [.int .u64 (qaa (n.div 128))] 0).div 128))] 0).div 128))] 0).div 128))] 0).div 128))] 0).div 128))] 0).div 128))] 0).div 128))] 0))) (sel (leI 128 (qaa (ay [.int .u64 (qaa ((ay [.int .u64 (qaa ((ay [.int .u64 (qaa ((ay [.int .u64 (qaa ((ay [.int .u64 (qaa ((ay [.int .u64 (qaa ((ay [.int .u64 (qaa ((ay [.int .u64 (qaa ((ay [.int .u64 (qaa (n.div 128))] 0).div 128))] 0).div 128))] 0).div 128))] 0).div 128))] 0).div 128))] 0).div 128))] 0).div 128))] 0).div 128))] 0))) (sel (leI 128 (qaa (ay [.int .u64 (qaa ((ay [.int .u64 (qaa ((ay [.int .u64 (qaa ((ay [.int .u64 (qaa ((ay [.int .u64 (qaa ((ay [.int .u64 (qaa ((ay [.int .u64 (qaa ((ay [.int .u64 (qaa ((ay [.int .u64 (qaa ((ay [.int .u64 (qaa (n.div 128))] 0).div 128))] 0).div 128))] 0).div 128))] 0).div 128))] 0).div 128))] 0).div 128))] 0).div 128))] 0).div 128))] 0).div 128))] 0))) none (some { val:=[.one (.sl 0 11)],rows:=[([.int .u8 (Oe n),.int .u8 (qaa ((((ay [.int .u64 (qaa (n.div 128))] 0).mod 256).mod 256).lor 128)),.int .u8 (qaa ((((ay [.int .u64 (qaa ((ay [.int .u64 (qaa (n.div 128))] 0).div 128))] 0).mod 256).mod 256).lor 128)),.int .u8 (qaa ((((ay [.int .u64 (qaa ((ay [.int .u64 (qaa ((ay [.int .u64 (qaa (n.div 128))] 0).div 128))] 0).div 128))] 0).mod 256).mod 256).lor 128)),.int .u8 (qaa ((((ay [.int .u64 (qaa ((ay [.int .u64 (qaa ((ay [.int .u64 (qaa ((ay [.int .u64 (qaa (n.div 128))] 0).div 128))] 0).div 128))] 0).div 128))] 0).mod 256).mod 256).lor 128)),.int .u8 (qaa ((((ay [.int .u64 (qaa ((ay [.int .u64 (qaa ((ay [.int .u64 (qaa ((ay [.int .u64 (qaa ((ay [.int .u64 (qaa (n.div 128))] 0).div 128))] 0).div 128))] 0).div 128))] 0).div 128))] 0).mod 256).mod 256).lor 128)),.int .u8 (qaa ((((ay [.int .u64 (qaa ((ay [.int .u64 (qaa ((ay [.int .u64 (qaa ((ay [.int .u64 (qaa ((ay [.int .u64 (qaa ((ay [.int .u64 (qaa (n.div 128))] 0).div 128))] 0).div 128))] 0).div 128))] 0).div 128))] 0).div 128))] 0).mod 256).mod 256).lor 128)),.int .u8 (qaa ((((ay [.int .u64 (qaa ((ay [.int .u64 (qaa ((ay [.int .u64 (qaa ((ay [.int .u64 (qaa ((ay [.int .u64 (qaa ((ay [.int .u64 (qaa ((ay [.int .u64 (qaa (n.div 128))] 0).div 128))] 0).div 128))] 0).div 128))] 0).div 128))] 0).div 128))] 0).div 128))] 0).mod 256).mod 256).lor 128)),.int .u8 (qaa ((((ay [.int .u64 (qaa ((ay [.int .u64 (qaa ((ay [.int .u64 (qaa ((ay [.int .u64 (qaa ((ay [.int .u64 (qaa ((ay [.int .u64 (qaa ((ay [.int .u64 (qaa ((ay [.int .u64 (qaa (n.div 128))] 0).div 128))] 0).div 128))] 0).div 128))] 0).div 128))] 0).div 128))] 0).div 128))] 0).div 128))] 0).mod 256).mod 256).lor 128)),.int .u8 (qaa ((((ay [.int .u64 (qaa ((ay [.int .u64 (qaa ((ay [.int .u64 (qaa ((ay [.int .u64 (qaa ((ay [.int .u64 (qaa ((ay [.int .u64 (qaa ((ay [.int .u64 (qaa ((ay [.int .u64 (qaa ((ay [.int .u64 (qaa (n.div 128))] 0).div 128))] 0).div 128))] 0).div 128))] 0).div 128))] 0).div 128))] 0).div 128))] 0).div 128))] 0).div 128))] 0).mod 256).mod 256).lor 128)),.int .u8 (qaa ((ay [.int .u64 (qaa ((ay [.int .u64 (qaa ((ay [.int .u64 (qaa ((ay [.int .u64 (qaa ((ay [.int .u64 (qaa ((ay [.int .u64 (qaa ((ay [.int .u64 (qaa ((ay [.int .u64 (qaa ((ay [.int .u64 (qaa ((ay [.int .u64 (qaa (n.div 128))] 0).div 128))] 0).div 128))] 0).div 128))] 0).div 128))] 0).div 128))] 0).div 128))] 0).div 128))] 0).div 128))] 0).div 128))] 0).mod 256))],5)] })) (some { val:=[.one (.sl 0 10)],rows:=[([.int .u8 (Oe n),.int .u8 (qaa ((((ay [.int .u64 (qaa (n.div 128))] 0).mod 256).mod 256).lor 128)),.int .u8 (qaa ((((ay [.int .u64 (qaa ((ay [.int .u64 (qaa (n.div 128))] 0).div 128))] 0).mod 256).mod 256).lor 128)),.int .u8 (qaa ((((ay [.int .u64 (qaa ((ay [.int .u64 (qaa ((ay [.int .u64 (qaa (n.div 128))] 0).div 128))] 0).div 128))] 0).mod 256).mod 256).lor 128)),.int .u8 (qaa ((((ay [.int .u64 (qaa ((ay [.int .u64 (qaa ((ay [.int .u64 (qaa ((ay [.int .u64 (qaa (n.div 128))] 0).div 128))] 0).div 128))] 0).div 128))] 0).mod 256).mod 256).lor 128)),.int .u8 (qaa ((((ay [.int .u64 (qaa ((ay [.int .u64 (qaa ((ay [.int .u64 (qaa ((ay [.int .u64 (qaa ((ay [.int .u64 (qaa (n.div 128))] 0).div 128))] 0).div 128))] 0).div 128))] 0).div 128))] 0).mod 256).mod 256).lor 128)),.int .u8 (qaa ((((ay [.int .u64 (qaa ((ay [.int .u64 (qaa ((ay [.int .u64 (qaa ((ay [.int .u64 (qaa ((ay [.int .u64 (qaa ((ay [.int .u64 (qaa (n.div 128))] 0).div 128))] 0).div 128))] 0).div 128))] 0).div 128))] 0).div 128))] 0).mod 256).mod 256).lor 128)),.int .u8 (qaa ((((ay [.int .u64 (qaa ((ay [.int .u64 (qaa ((ay [.int .u64 (qaa ((ay [.int .u64 (qaa ((ay [.int .u64 (qaa ((ay [.int .u64 (qaa ((ay [.int .u64 (qaa (n.div 128))] 0).div 128))] 0).div 128))] 0).div 128))] 0).div 128))] 0).div 128))] 0).div 128))] 0).mod 256).mod 256).lor 128)),.int .u8 (qaa ((((ay [.int .u64 (qaa ((ay [.int .u64 (qaa ((ay [.int .u64 (qaa ((ay [.int .u64 (qaa ((ay [.int .u64 (qaa ((ay [.int .u64 (qaa ((ay [.int .u64 (qaa ((ay [.int .u64 (qaa (n.div 128))] 0).div 128))] 0).div 128))] 0).div 128))] 0).div 128))] 0).div 128))] 0).div 128))] 0).div 128))] 0).mod 256).mod 256).lor 128)),.int .u8 (qaa ((ay [.int .u64 (qaa ((ay [.int .u64 (qaa ((ay [.int .u64 (qaa ((ay [.int .u64 (qaa ((ay [.int .u64 (qaa ((ay [.int .u64 (qaa ((ay [.int .u64 (qaa ((ay [.int .u64 (qaa ((ay [.int .u64 (qaa (n.div 128))] 0).div 128))] 0).div 128))] 0).div 128))] 0).div 128))] 0).div 128))] 0).div 128))] 0).div 128))] 0).div 128))] 0).mod 256))],5)] })) (some { val:=[.one (.sl 0 9)],rows:=[([.int .u8 (Oe n),.int .u8 (qaa ((((ay [.int .u64 (qaa (n.div 128))] 0).mod 256).mod 256).lor 128)),.int .u8 (qaa ((((ay [.int .u64 (qaa ((ay [.int .u64 (qaa (n.div 128))] 0).div 128))] 0).mod 256).mod 256).lor 128)),.int .u8 (qaa ((((ay [.int .u64 (qaa ((ay [.int .u64 (qaa ((ay [.int .u64 (qaa (n.div 128))] 0).div 128))] 0).div 128))] 0).mod 256).mod 256).lor 128)),.int .u8 (qaa ((((ay [.int .u64 (qaa ((ay [.int .u64 (qaa ((ay [.int .u64 (qaa ((ay [.int .u64 (qaa (n.div 128))] 0).div 128))] 0).div 128))] 0).div 128))] 0).mod 256).mod 256).lor 128)),.int .u8 (qaa ((((ay [.int .u64 (qaa ((ay [.int .u64 (qaa ((ay [.int .u64 (qaa ((ay [.int .u64 (qaa ((ay [.int .u64 (qaa (n.div 128))] 0).div 128))] 0).div 128))] 0).div 128))] 0).div 128))] 0).mod 256).mod 256).lor 128)),.int .u8 (qaa ((((ay [.int .u64 (qaa ((ay [.int .u64 (qaa ((ay [.int .u64 (qaa ((ay [.int .u64 (qaa ((ay [.int .u64 (qaa ((ay [.int .u64 (qaa (n.div 128))] 0).div 128))] 0).div 128))] 0).div 128))] 0).div 128))] 0).div 128))] 0).mod 256).mod 256).lor 128)),.int .u8 (qaa ((((ay [.int .u64 (qaa ((ay [.int .u64 (qaa ((ay [.int .u64 (qaa ((ay [.int .u64 (qaa ((ay [.int .u64 (qaa ((ay [.int .u64 (qaa ((ay [.int .u64 (qaa (n.div 128))] 0).div 128))] 0).div 128))] 0).div 128))] 0).div 128))] 0).div 128))] 0).div 128))] 0).mod 256).mod 256).lor 128)),.int .u8 (qaa ((ay [.int .u64 (qaa ((ay [.int .u64 (qaa ((ay [.int .u64 (qaa ((ay [.int .u64 (qaa ((ay [.int .u64 (qaa ((ay [.int .u64 (qaa ((ay [.int .u64 (qaa ((ay [.int .u64 (qaa (n.div 128))] 0).div 128))] 0).div 128))] 0).div 128))] 0).div 128))] 0).div 128))] 0).div 128))] 0).div 128))] 0).mod 256))],5)] })) (some { val:=[.one (.sl 0 8)],rows:=[([.int .u8 (Oe n),.int .u8 (qaa ((((ay [.int .u64 (qaa (n.div 128))] 0).mod 256).mod 256).lor 128)),.int .u8 (qaa ((((ay [.int .u64 (qaa ((ay [.int .u64 (qaa (n.div 128))] 0).div 128))] 0).mod 256).mod 256).lor 128)),.int .u8 (qaa ((((ay [.int .u64 (qaa ((ay [.int .u64 (qaa ((ay [.int .u64 (qaa (n.div 128))] 0).div 128))] 0).div 128))] 0).mod 256).mod 256).lor 128)),.int .u8 (qaa ((((ay [.int .u64 (qaa ((ay [.int .u64 (qaa ((ay [.int .u64 (qaa ((ay [.int .u64 (qaa (n.div 128))] 0).div 128))] 0).div 128))] 0).div 128))] 0).mod 256).mod 256).lor 128)),.int .u8 (qaa ((((ay [.int .u64 (qaa ((ay [.int .u64 (qaa ((ay [.int .u64 (qaa ((ay [.int .u64 (qaa ((ay [.int .u64 (qaa (n.div 128))] 0).div 128))] 0).div 128))] 0).div 128))] 0).div 128))] 0).mod 256).mod 256).lor 128)),.int .u8 (qaa ((((ay [.int .u64 (qaa ((ay [.int .u64 (qaa ((ay [.int .u64 (qaa ((ay [.int .u64 (qaa ((ay [.int .u64 (qaa ((ay [.int .u64 (qaa (n.div 128))] 0).div 128))] 0).div 128))] 0).div 128))] 0).div 128))] 0).div 128))] 0).mod 256).mod 256).lor 128)),.int .u8 (qaa ((ay [.int .u64 (qaa ((ay [.int .u64 (qaa ((ay [.int .u64 (qaa ((ay [.int .u64 (qaa ((ay [.int .u64 (qaa ((ay [.int .u64 (qaa ((ay [.int .u64 (qaa (n.div 128))] 0).div 128))] 0).div 128))] 0).div 128))] 0).div 128))] 0).div 128))] 0).div 128))] 0).mod 256))],5)] })) (some { val:=[.one (.sl 0 7)],rows:=[([.int .u8 (Oe n),.int .u8 (qaa ((((ay [.int .u64 (qaa (n.div 128))] 0).mod 256).mod 256).lor 128)),.int .u8 (qaa ((((ay [.int .u64 (qaa ((ay [.int .u64 (qaa (n.div 128))] 0).div 128))] 0).mod 256).mod 256).lor 128)),.int .u8 (qaa ((((ay [.int .u64 (qaa ((ay [.int .u64 (qaa ((ay [.int .u64 (qaa (n.div 128))] 0).div 128))] 0).div 128))] 0).mod 256).mod 256).lor 128)),.int .u8 (qaa ((((ay [.int .u64 (qaa ((ay [.int .u64 (qaa ((ay [.int .u64 (qaa ((ay [.int .u64 (qaa (n.div 128))] 0).div 128))] 0).div 128))] 0).div 128))] 0).mod 256).mod 256).lor 128)),.int .u8 (qaa ((((ay [.int .u64 (qaa ((ay [.int .u64 (qaa ((ay [.int .u64 (qaa ((ay [.int .u64 (qaa ((ay [.int .u64 (qaa (n.div 128))] 0).div 128))] 0).div 128))] 0).div 128))] 0).div 128))] 0).mod 256).mod 256).lor 128)),.int .u8 (qaa ((ay [.int .u64 (qaa ((ay [.int .u64 (qaa ((ay [.int .u64 (qaa ((ay [.int .u64 (qaa ((ay [.int .u64 (qaa ((ay [.int .u64 (qaa (n.div 128))] 0).div 128))] 0).div 128))] 0).div 128))] 0).div 128))] 0).div 128))] 0).mod 256))],5)] })) (some { val:=[.one (.sl 0 6)],rows:=[([.int .u8 (Oe n),.int .u8 (qaa ((((ay [.int .u64 (qaa (n.div 128))] 0).mod 256).mod 256).lor 128)),.int .u8 (qaa ((((ay [.int .u64 (qaa ((ay [.int .u64 (qaa (n.div 128))] 0).div 128))] 0).mod 256).mod 256).lor 128)),.int .u8 (qaa ((((ay [.int .u64 (qaa ((ay [.int .u64 (qaa ((ay [.int .u64 (qaa (n.div 128))] 0).div 128))] 0).div 128))] 0).mod 256).mod 256).lor 128)),.int .u8 (qaa ((((ay [.int .u64 (qaa ((ay [.int .u64 (qaa ((ay [.int .u64 (qaa ((ay [.int .u64 (qaa (n.div 128))] 0).div 128))] 0).div 128))] 0).div 128))] 0).mod 256).mod 256).lor 128)),.int .u8 (qaa ((ay [.int .u64 (qaa ((ay [.int .u64 (qaa ((ay [.int .u64 (qaa ((ay [.int .u64 (qaa ((ay [.int .u64 (qaa (n.div 128))] 0).div 128))] 0).div 128))] 0).div 128))] 0).div 128))] 0).mod 256))],5)] })) (some { val:=[.one (.sl 0 5)],rows:=[([.int .u8 (Oe n),.int .u8 (qaa ((((ay [.int .u64 (qaa (n.div 128))] 0).mod 256).mod 256).lor 128)),.int .u8 (qaa ((((ay [.int .u64 (qaa ((ay [.int .u64 (qaa (n.div 128))] 0).div 128))] 0).mod 256).mod 256).lor 128)),.int .u8 (qaa ((((ay [.int .u64 (qaa ((ay [.int .u64 (qaa ((ay [.int .u64 (qaa (n.div 128))] 0).div 128))] 0).div 128))] 0).mod 256).mod 256).lor 128)),.int .u8 (qaa ((ay [.int .u64 (qaa ((ay [.int .u64 (qaa ((ay [.int .u64 (qaa ((ay [.int .u64 (qaa (n.div 128))] 0).div 128))] 0).div 128))] 0).div 128))] 0).mod 256))],5)] })) (some { val:=[.one (.sl 0 4)],rows:=[([.int .u8 (Oe n),.int .u8 (qaa ((((ay [.int .u64 (qaa (n.div 128))] 0).mod 256).mod 256).lor 128)),.int .u8 (qaa ((((ay [.int .u64 (qaa ((ay [.int .u64 (qaa (n.div 128))] 0).div 128))] 0).mod 256).mod 256).lor 128)),.int .u8 (qaa ((ay [.int .u64 (qaa ((ay [.int .u64 (qaa ((ay [.int .u64 (qaa (n.div 128))] 0).div 128))] 0).div 128))] 0).mod 256))],5)] })) (some { val:=[.one (.sl 0 3)],rows:=[([.int .u8 (Oe n),.int .u8 (qaa ((((ay [.int .u64 (qaa (n.div 128))] 0).mod 256).mod 256).lor 128)),.int .u8 (qaa ((ay [.int .u64 (qaa ((ay [.int .u64 (qaa (n.div 128))] 0).div 128))] 0).mod 256))],5)] })) (some { val:=[.one (.sl 0 2)],rows:=[([.int .u8 (Oe n),.int .u8 (qaa ((ay [.int .u64 (qaa (n.div 128))] 0).mod 256))],5)] })) (akQ n):=by kernel_rfl
noncomputable def ahv (n:Nat):=(n.div 128).mod 18446744073709551616
noncomputable def Ce (n:Nat):=qaa ((((n.mod 128).mod 256).mod 256).lor 128)
noncomputable def ahs (n:Nat):=((ahv n).div 128).mod 18446744073709551616
noncomputable def Eu (n:Nat):=qaa (((((ahv n).mod 128).mod 256).mod 256).lor 128)
noncomputable def ag3 (n:Nat):=((ahs n).div 128).mod 18446744073709551616
noncomputable def Fb (n:Nat):=qaa (((((ahs n).mod 128).mod 256).mod 256).lor 128)
noncomputable def agm (n:Nat):=((ag3 n).div 128).mod 18446744073709551616
noncomputable def Hr (n:Nat):=qaa (((((ag3 n).mod 128).mod 256).mod 256).lor 128)
noncomputable def Xw (n:Nat):=((agm n).div 128).mod 18446744073709551616
noncomputable def y5 (n:Nat):=qaa (((((agm n).mod 128).mod 256).mod 256).lor 128)
noncomputable def Wj (n:Nat):=((Xw n).div 128).mod 18446744073709551616
noncomputable def zQ (n:Nat):=qaa (((((Xw n).mod 128).mod 256).mod 256).lor 128)
noncomputable def Wq (n:Nat):=((Wj n).div 128).mod 18446744073709551616
noncomputable def Dy (n:Nat):=qaa (((((Wj n).mod 128).mod 256).mod 256).lor 128)
noncomputable def VU (n:Nat):=((Wq n).div 128).mod 18446744073709551616
noncomputable def Gf (n:Nat):=qaa (((((Wq n).mod 128).mod 256).mod 256).lor 128)
noncomputable def WM (n:Nat):=((VU n).div 128).mod 18446744073709551616
noncomputable def Jg (n:Nat):=qaa (((((VU n).mod 128).mod 256).mod 256).lor 128)
noncomputable def XV (n:Nat):=((WM n).div 128).mod 18446744073709551616
noncomputable def Nq (n:Nat):=qaa (((((WM n).mod 128).mod 256).mod 256).lor 128)
noncomputable def Vf (n:Nat):=((XV n).div 128).mod 18446744073709551616
noncomputable def Qx (n:Nat):=qaa (((((XV n).mod 128).mod 256).mod 256).lor 128)
noncomputable def X8 (n:Nat):=((Vf n).div 128).mod 18446744073709551616
noncomputable def VP (n:Nat):=qaa (((((Vf n).mod 128).mod 256).mod 256).lor 128)
noncomputable def VN (n:Nat):=((X8 n).div 128).mod 18446744073709551616
noncomputable def ab1 (n:Nat):=qaa (((((X8 n).mod 128).mod 256).mod 256).lor 128)
noncomputable def Vd (n:Nat):=((VN n).div 128).mod 18446744073709551616
noncomputable def afb (n:Nat):=qaa (((((VN n).mod 128).mod 256).mod 256).lor 128)
noncomputable def ah0 (n:Nat):=((Vd n).div 128).mod 18446744073709551616
theorem arP (n:Nat):(runK KQ CB 16).1 30 [.int .u64 (qaa n)] (aP []) (dJ Tryz.prog)=sel (ltI (qaa n) 128) (akQ n) (sel (ltI (qaa (ahv n)) 128) (some { val:=[.one (.sl 0 2)],rows:=[([.int .u8 (Ce n),.int .u8 (qaa ((ahv n).mod 256))],5)] }) (sel (ltI (qaa (ahs n)) 128) (some { val:=[.one (.sl 0 3)],rows:=[([.int .u8 (Ce n),.int .u8 (Eu n),.int .u8 (qaa ((ahs n).mod 256))],5)] }) (sel (ltI (qaa (ag3 n)) 128) (some { val:=[.one (.sl 0 4)],rows:=[([.int .u8 (Ce n),.int .u8 (Eu n),.int .u8 (Fb n),.int .u8 (qaa ((ag3 n).mod 256))],5)] }) (sel (ltI (qaa (agm n)) 128) (some { val:=[.one (.sl 0 5)],rows:=[([.int .u8 (Ce n),.int .u8 (Eu n),.int .u8 (Fb n),.int .u8 (Hr n),.int .u8 (qaa ((agm n).mod 256))],5)] }) (sel (ltI (qaa (Xw n)) 128) (some { val:=[.one (.sl 0 6)],rows:=[([.int .u8 (Ce n),.int .u8 (Eu n),.int .u8 (Fb n),.int .u8 (Hr n),.int .u8 (y5 n),.int .u8 (qaa ((Xw n).mod 256))],5)] }) (sel (ltI (qaa (Wj n)) 128) (some { val:=[.one (.sl 0 7)],rows:=[([.int .u8 (Ce n),.int .u8 (Eu n),.int .u8 (Fb n),.int .u8 (Hr n),.int .u8 (y5 n),.int .u8 (zQ n),.int .u8 (qaa ((Wj n).mod 256))],5)] }) (sel (ltI (qaa (Wq n)) 128) (some { val:=[.one (.sl 0 8)],rows:=[([.int .u8 (Ce n),.int .u8 (Eu n),.int .u8 (Fb n),.int .u8 (Hr n),.int .u8 (y5 n),.int .u8 (zQ n),.int .u8 (Dy n),.int .u8 (qaa ((Wq n).mod 256))],5)] }) (sel (ltI (qaa (VU n)) 128) (some { val:=[.one (.sl 0 9)],rows:=[([.int .u8 (Ce n),.int .u8 (Eu n),.int .u8 (Fb n),.int .u8 (Hr n),.int .u8 (y5 n),.int .u8 (zQ n),.int .u8 (Dy n),.int .u8 (Gf n),.int .u8 (qaa ((VU n).mod 256))],5)] }) (sel (ltI (qaa (WM n)) 128) (some { val:=[.one (.sl 0 10)],rows:=[([.int .u8 (Ce n),.int .u8 (Eu n),.int .u8 (Fb n),.int .u8 (Hr n),.int .u8 (y5 n),.int .u8 (zQ n),.int .u8 (Dy n),.int .u8 (Gf n),.int .u8 (Jg n),.int .u8 (qaa ((WM n).mod 256))],5)] }) (sel (ltI (qaa (XV n)) 128) (some { val:=[.one (.sl 0 11)],rows:=[([.int .u8 (Ce n),.int .u8 (Eu n),.int .u8 (Fb n),.int .u8 (Hr n),.int .u8 (y5 n),.int .u8 (zQ n),.int .u8 (Dy n),.int .u8 (Gf n),.int .u8 (Jg n),.int .u8 (Nq n),.int .u8 (qaa ((XV n).mod 256))],5)] }) (sel (ltI (qaa (Vf n)) 128) (some { val:=[.one (.sl 0 12)],rows:=[([.int .u8 (Ce n),.int .u8 (Eu n),.int .u8 (Fb n),.int .u8 (Hr n),.int .u8 (y5 n),.int .u8 (zQ n),.int .u8 (Dy n),.int .u8 (Gf n),.int .u8 (Jg n),.int .u8 (Nq n),.int .u8 (Qx n),.int .u8 (qaa ((Vf n).mod 256))],5)] }) (sel (ltI (qaa (X8 n)) 128) (some { val:=[.one (.sl 0 13)],rows:=[([.int .u8 (Ce n),.int .u8 (Eu n),.int .u8 (Fb n),.int .u8 (Hr n),.int .u8 (y5 n),.int .u8 (zQ n),.int .u8 (Dy n),.int .u8 (Gf n),.int .u8 (Jg n),.int .u8 (Nq n),.int .u8 (Qx n),.int .u8 (VP n),.int .u8 (qaa ((X8 n).mod 256))],5)] }) (sel (ltI (qaa (VN n)) 128) (some { val:=[.one (.sl 0 14)],rows:=[([.int .u8 (Ce n),.int .u8 (Eu n),.int .u8 (Fb n),.int .u8 (Hr n),.int .u8 (y5 n),.int .u8 (zQ n),.int .u8 (Dy n),.int .u8 (Gf n),.int .u8 (Jg n),.int .u8 (Nq n),.int .u8 (Qx n),.int .u8 (VP n),.int .u8 (ab1 n),.int .u8 (qaa ((VN n).mod 256))],5)] }) (sel (ltI (qaa (Vd n)) 128) (some { val:=[.one (.sl 0 15)],rows:=[([.int .u8 (Ce n),.int .u8 (Eu n),.int .u8 (Fb n),.int .u8 (Hr n),.int .u8 (y5 n),.int .u8 (zQ n),.int .u8 (Dy n),.int .u8 (Gf n),.int .u8 (Jg n),.int .u8 (Nq n),.int .u8 (Qx n),.int .u8 (VP n),.int .u8 (ab1 n),.int .u8 (afb n),.int .u8 (qaa ((Vd n).mod 256))],5)] }) (sel (ltI (qaa (ah0 n)) 128) (some { val:=[.one (.sl 0 16)],rows:=[([.int .u8 (Ce n),.int .u8 (Eu n),.int .u8 (Fb n),.int .u8 (Hr n),.int .u8 (y5 n),.int .u8 (zQ n),.int .u8 (Dy n),.int .u8 (Gf n),.int .u8 (Jg n),.int .u8 (Nq n),.int .u8 (Qx n),.int .u8 (VP n),.int .u8 (ab1 n),.int .u8 (afb n),.int .u8 (qaa (((((Vd n).mod 128).mod 256).mod 256).lor 128)),.int .u8 (qaa ((ah0 n).mod 256))],5)] }) none))))))))))))))):=by kernel_rfl
end Go.Ax
namespace Go.Ax
open Go Go.Proofs
noncomputable section
def qb8 (n:Nat):Value:=.int .u8 (qaa n)
def oK:Nat→Nat→List Value:=fun k=>Nat.rec (fun n=>[qb8 (n%256)]) (fun _ ih n=>sel (qao 128 n) (qb8 (n%128+128)::ih (n/128)) [qb8 (n%256)]) k
def Fn.eu (n:Nat):List Value:=oK 9 n
theorem dw (k n:Nat):oK (k+1) n=if 128≤n then qb8 (n%128+128)::oK k (n/128) else [qb8 (n%256)]:=by
 show sel (qao 128 n) _ _=_
 rw [aG]
 by_cases h:128≤n
 ·rw [if_pos (qap h),if_pos h];rfl
 ·rw [if_neg (fun e=>h (qan e)),if_neg h]
theorem Q5:∀ k n,flatAll (oK k n)=true
 |0,n=>rfl
 |k+1,n=>by
  rw [dw]
  split
  ·show sel true (flatAll (oK k (n/128))) false=true
   rw [aN];exact Q5 k _
  ·rfl
theorem Xk (k:IntKind)(x:Nat)(l:List Value):ay (.int k (qaa x)::l) 0=x:=rfl
theorem aoF (a b:Nat):leI (qaa a) (qaa b)=decide (a≤b):=by
 show qao a b=_
 by_cases h:a≤b
 ·rw [qap h];simp [h]
 ·have:qao a b=false:=by rw [←qaJ];exact fun e=>h (qan e)
  rw [this];simp [h]
theorem vT (a b:Nat):ltI (qaa a) (qaa b)=decide (a<b):=by
 show qao (qaF a) b=_
 by_cases h:a<b
 ·rw [qap h];simp [h]
 ·have:qao (qaF a) b=false:=by rw [←qaJ];exact fun e=>h (qan e)
  rw [this];simp [h]
theorem asu (n:Nat):(n%256) ||| 128=n%128+128:=by
 have h1:n%256<256:=qaI _ (by omega)
 have h2:n%128=(n%256)%128:=by omega
 rw [h2]
 generalize n%256=m at h1
 have:∀ m:Fin 256,m.val ||| 128=m.val%128+128:=by decide
 exact this ⟨m,h1⟩
def yI (n:Nat):cO:=⟨[.one (.sl 0 (aQ (Fn.eu n)))],[(Fn.eu n,5)]⟩
namespace Fn
def lU (n:Nat):Nat:=sel (qao 128 n) (n%128+128) (n%256)
def nJ (n:Nat):List Value:=sel (qao 128 n) (oK 8 (n/128)) []
end Fn
theorem lS (n:Nat):Fn.eu n=qb8 (Fn.lU n)::Fn.nJ n:=by
 show sel (qao 128 n) (qb8 (n%128+128)::oK 8 (n/128)) [qb8 (n%256)]=qb8 (sel (qao 128 n) (n%128+128) (n%256))::sel (qao 128 n) (oK 8 (n/128)) []
 cases qao 128 n <;> rfl
def IQ (n:Nat):cO:=⟨[.one (.sl 0 (qaF (aQ (Fn.nJ n))))],[(qb8 (Fn.lU n)::Fn.nJ n,5)]⟩
theorem WY (n:Nat):yI n=IQ n:=by
 unfold yI IQ
 rw [lS]
 rfl
theorem agT (n:Nat):(n%256%256) ||| 128=n%128+128:=by
 rw [qal];exact asu n
theorem ajA (n:Nat)(h:n<18446744073709551616):(runK KQ CB 16).1 52 [.int .u64 (qaa n)] (aP []) (dJ Tryz.prog)=some (yI n):=by
 rw [awQ];unfold akQ Oe
 unfold yI Fn.eu
 have hl:∀ a b:Nat,qaM a b=a ||| b:=fun _ _=>rfl
 have hm:∀ a b:Nat,qaO a b=a%b:=fun _ _=>rfl
 have hd:∀ a b:Nat,Nat.div a b=a/b:=fun _ _=>rfl
 have hle:∀ b:Nat,leI 128 (qaa b)=decide (128≤b):=fun b=>aoF 128 b
 simp only [Xk,hl,hm,hd,hle,aG,decide_eq_true_eq,agT]
 by_cases h0:128≤n
 ·rw [if_pos h0]
  by_cases h1:128≤n/128
  ·rw [if_pos h1]
   by_cases h2:128≤n/128/128
   ·rw [if_pos h2]
    by_cases h3:128≤n/128/128/128
    ·rw [if_pos h3]
     by_cases h4:128≤n/128/128/128/128
     ·rw [if_pos h4]
      by_cases h5:128≤n/128/128/128/128/128
      ·rw [if_pos h5]
       by_cases h6:128≤n/128/128/128/128/128/128
       ·rw [if_pos h6]
        by_cases h7:128≤n/128/128/128/128/128/128/128
        ·rw [if_pos h7]
         by_cases h8:128≤n/128/128/128/128/128/128/128/128
         ·rw [if_pos h8]
          by_cases h9:128≤n/128/128/128/128/128/128/128/128/128
          ·rw [if_pos h9]
           exfalso;omega
          ·rw [if_neg h9]
           simp only [dw,h0,h1,h2,h3,h4,h5,h6,h7,h8,h9,if_true,if_false]
           rfl
         ·rw [if_neg h8]
          simp only [dw,h0,h1,h2,h3,h4,h5,h6,h7,h8,if_true,if_false]
          rfl
        ·rw [if_neg h7]
         simp only [dw,h0,h1,h2,h3,h4,h5,h6,h7,if_true,if_false]
         rfl
       ·rw [if_neg h6]
        simp only [dw,h0,h1,h2,h3,h4,h5,h6,if_true,if_false]
        rfl
      ·rw [if_neg h5]
       simp only [dw,h0,h1,h2,h3,h4,h5,if_true,if_false]
       rfl
     ·rw [if_neg h4]
      simp only [dw,h0,h1,h2,h3,h4,if_true,if_false]
      rfl
    ·rw [if_neg h3]
     simp only [dw,h0,h1,h2,h3,if_true,if_false]
     rfl
   ·rw [if_neg h2]
    simp only [dw,h0,h1,h2,if_true,if_false]
    rfl
  ·rw [if_neg h1]
   simp only [dw,h0,h1,if_true,if_false]
   rfl
 ·rw [if_neg h0]
  simp only [dw,h0,if_true,if_false]
  rfl
theorem aqp (n:Nat):(n%128%256%256) ||| 128=n%128+128:=by
 rw [agT];omega
theorem ajN (x:Nat)(h:x<18446744073709551616):x/128%18446744073709551616=x/128:=qaq (by omega)
theorem ab2 (n:Nat)(h:n<18446744073709551616):(runK KQ CB 16).1 30 [.int .u64 (qaa n)] (aP []) (dJ Tryz.prog)=some (yI n):=by
 rw [arP];unfold ah0 afb Vd ab1 VN VP X8 Qx Vf Nq XV Jg WM Gf VU Dy Wq zQ Wj y5 Xw Hr agm Fb ag3 Eu ahs Ce ahv akQ
 unfold yI Fn.eu
 have hl:∀ a b:Nat,qaM a b=a ||| b:=fun _ _=>rfl
 have hm:∀ a b:Nat,qaO a b=a%b:=fun _ _=>rfl
 have hd:∀ a b:Nat,Nat.div a b=a/b:=fun _ _=>rfl
 have hlt:∀ b:Nat,ltI (qaa b) 128=decide (b<128):=fun b=>vT b 128
 have e1:=ajN n h
 have e2:=ajN (n/128) (by omega)
 have e3:=ajN (n/128/128) (by omega)
 have e4:=ajN (n/128/128/128) (by omega)
 have e5:=ajN (n/128/128/128/128) (by omega)
 have e6:=ajN (n/128/128/128/128/128) (by omega)
 have e7:=ajN (n/128/128/128/128/128/128) (by omega)
 have e8:=ajN (n/128/128/128/128/128/128/128) (by omega)
 have e9:=ajN (n/128/128/128/128/128/128/128/128) (by omega)
 have e10:=ajN (n/128/128/128/128/128/128/128/128/128) (by omega)
 simp only [Xk,hl,hm,hd,hlt,aG,decide_eq_true_eq,e1,e2,e3,e4,e5,e6,e7,e8,e9,e10,aqp]
 by_cases h0:128≤n
 ·rw [if_neg (by omega)]
  by_cases h1:128≤n/128
  ·rw [if_neg (by omega)]
   by_cases h2:128≤n/128/128
   ·rw [if_neg (by omega)]
    by_cases h3:128≤n/128/128/128
    ·rw [if_neg (by omega)]
     by_cases h4:128≤n/128/128/128/128
     ·rw [if_neg (by omega)]
      by_cases h5:128≤n/128/128/128/128/128
      ·rw [if_neg (by omega)]
       by_cases h6:128≤n/128/128/128/128/128/128
       ·rw [if_neg (by omega)]
        by_cases h7:128≤n/128/128/128/128/128/128/128
        ·rw [if_neg (by omega)]
         by_cases h8:128≤n/128/128/128/128/128/128/128/128
         ·rw [if_neg (by omega)]
          by_cases h9:128≤n/128/128/128/128/128/128/128/128/128
          ·rw [if_neg (by omega)]
           exfalso;omega
          ·rw [if_pos (by omega)]
           simp only [dw,h0,h1,h2,h3,h4,h5,h6,h7,h8,h9,if_true,if_false]
           rfl
         ·rw [if_pos (by omega)]
          simp only [dw,h0,h1,h2,h3,h4,h5,h6,h7,h8,if_true,if_false]
          rfl
        ·rw [if_pos (by omega)]
         simp only [dw,h0,h1,h2,h3,h4,h5,h6,h7,if_true,if_false]
         rfl
       ·rw [if_pos (by omega)]
        simp only [dw,h0,h1,h2,h3,h4,h5,h6,if_true,if_false]
        rfl
      ·rw [if_pos (by omega)]
       simp only [dw,h0,h1,h2,h3,h4,h5,if_true,if_false]
       rfl
     ·rw [if_pos (by omega)]
      simp only [dw,h0,h1,h2,h3,h4,if_true,if_false]
      rfl
    ·rw [if_pos (by omega)]
     simp only [dw,h0,h1,h2,h3,if_true,if_false]
     rfl
   ·rw [if_pos (by omega)]
    simp only [dw,h0,h1,h2,if_true,if_false]
    rfl
  ·rw [if_pos (by omega)]
   simp only [dw,h0,h1,if_true,if_false]
   rfl
 ·rw [if_pos (by omega)]
  simp only [dw,h0,if_true,if_false]
  rfl
def g1u (F:Nat→cO)(l:List fM):Tree cO:=
 match l with
 |[.one (.raw (.int .u64 z))]=>Int.casesOn z (fun n=>bY (ltN n 18446744073709551616) (.leaf (F n))) (fun _=>.fail)
 |_=>.fail
theorem af5 {C:Cfg}{m:Nat}{f:FuncId}{F:Nat→cO}(hf:∀ n p,p∈(F n).rows→flatAll p.1=true)(h:∀ n,n<18446744073709551616→aj ((runN C m).1 f [.int .u64 (qaa n)] (aP [])) (dJ Tryz.prog)=some (F n)):y8 Tryz.prog C m f (g1u F):=by
 intro comps r kE hr
 clear kE
 unfold g1u at hr
 split at hr
 ·rename_i z
  cases z with
  |ofNat n=>
   obtain ⟨h1,h2⟩:=aJ (show (bY (ltN n 18446744073709551616) (.leaf (F n))).run=some r from hr)
   cases h2
   exact ⟨fun p hp=>hf n p hp,h n (bF h1)⟩
  |negSucc n=>cases hr
 ·cases hr
theorem LZ (n:Nat)(p:List Value × TypeId)(hp:p∈(IQ n).rows):flatAll p.1=true:=by
 obtain rfl:p=(qb8 (Fn.lU n)::Fn.nJ n,5):=by simpa [IQ] using hp
 show flatAll (qb8 (Fn.lU n)::Fn.nJ n)=true
 rw [←lS]
 exact Q5 9 n
theorem aoc:y8 Tryz.prog CB 16 52 (g1u IQ):=af5 LZ fun n hn=>bT (K:=KQ) (by decide) bI aY ((ajA n hn).trans (congrArg some (WY n)))
theorem amo:y8 Tryz.prog CB 16 30 (g1u IQ):=af5 LZ fun n hn=>bT (K:=KQ) (by decide) bI aY ((ab2 n hn).trans (congrArg some (WY n)))
def auA:List (Nat × Con):=[(52,.tree (zo Tryz.prog (g1u IQ))),(30,.tree (zo Tryz.prog (g1u IQ)))]
def C1:Cfg:={ CB with ext:=eH [],insert:=eH auA }
variable [Lo]
theorem amY:dI Tryz.prog C1 auA:=dI.zo (fun lo=>@qJ lo) aoc.gives (dI.zo (fun lo=>@qJ lo) amo.gives dI.nil)
theorem ara:dS C1 Tryz.prog:=xq (ext:=eH []) (ins:=eH auA) rfl (fun f t h=>amY f t h) (fun f e h=>by cases h)
end
end Go.Ax
namespace Go.Ax
open Go Go.Proofs
noncomputable def iL (t:Bool):KP:={ L:=10,B:=some t }
noncomputable def apk (cs:List Value)(t:Bool):=qaM 0 ((blk (some t) ((((((ay cs 0).mod 256).land 127).mod 18446744073709551616).mul 1).mod 18446744073709551616)).mod 18446744073709551616)
noncomputable def Ic:gX:=.flat (.int .i64 0)
noncomputable def ao6:gX:=.flat (.int .u64 0)
noncomputable def Ld:Option cO:=some { val:=[.one ao6,.one Ic,.one (.flat (.int .i64 5))],rows:=[] }
noncomputable def anC (cs:List Value)(t:Bool):=((apk cs t).mod 18446744073709551616).lor ((blk (some t) ((((((ay cs 1).mod 256).land 127).mod 18446744073709551616).mul 128).mod 18446744073709551616)).mod 18446744073709551616)
noncomputable def aoy (cs:List Value)(t:Bool):=((anC cs t).mod 18446744073709551616).lor ((blk (some t) ((((((ay cs 2).mod 256).land 127).mod 18446744073709551616).mul 16384).mod 18446744073709551616)).mod 18446744073709551616)
noncomputable def aoH (cs:List Value)(t:Bool):=((aoy cs t).mod 18446744073709551616).lor ((blk (some t) ((((((ay cs 3).mod 256).land 127).mod 18446744073709551616).mul 2097152).mod 18446744073709551616)).mod 18446744073709551616)
noncomputable def anA (cs:List Value)(t:Bool):=((aoH cs t).mod 18446744073709551616).lor ((blk (some t) ((((((ay cs 4).mod 256).land 127).mod 18446744073709551616).mul 268435456).mod 18446744073709551616)).mod 18446744073709551616)
noncomputable def aoe (cs:List Value)(t:Bool):=((anA cs t).mod 18446744073709551616).lor ((blk (some t) ((((((ay cs 5).mod 256).land 127).mod 18446744073709551616).mul 34359738368).mod 18446744073709551616)).mod 18446744073709551616)
noncomputable def apr (cs:List Value)(t:Bool):=((aoe cs t).mod 18446744073709551616).lor ((blk (some t) ((((((ay cs 6).mod 256).land 127).mod 18446744073709551616).mul 4398046511104).mod 18446744073709551616)).mod 18446744073709551616)
noncomputable def afT (cs:List Value)(t:Bool):=((apr cs t).mod 18446744073709551616).lor ((blk (some t) ((((((ay cs 7).mod 256).land 127).mod 18446744073709551616).mul 562949953421312).mod 18446744073709551616)).mod 18446744073709551616)
noncomputable def afN (cs:List Value)(t:Bool):=((afT cs t).mod 18446744073709551616).lor ((blk (some t) ((((((ay cs 8).mod 256).land 127).mod 18446744073709551616).mul 72057594037927936).mod 18446744073709551616)).mod 18446744073709551616)
noncomputable def Aw:Option cO:=some { val:=[.one ao6,.one Ic,.one (.flat (.int .i64 6))],rows:=[] }
theorem akS (t:Bool)(n:Nat)(cs:List Value):(runK (iL t) C1 16).1 74 [.slice (some ⟨32,0,none⟩) n aF] (aP [.one (.sl cs 5 n)]) (dJ Tryz.prog)=sel (ltI 0 (qaa n)) (sel (ltN 0 n) (sel (gI (.int .u8 0) (nth cs 0)) (sel (ltI (qaa (ay cs 0)) 128) (some { val:=[.one (.flat (.int .u64 (qaa (apk cs t)))),.one (.flat (.int .i64 (qaa 1))),.one Ic],rows:=[] }) (sel (ltI (qaa 1) (qaa n)) (sel (ltN 1 n) (sel (gI (.int .u8 0) (nth cs 1)) (sel (eqI (qaa (ay cs 1)) 0) Ld (sel (ltI (qaa (ay cs 1)) 128) (some { val:=[.one (.flat (.int .u64 (qaa (anC cs t)))),.one (.flat (.int .i64 (qaa 2))),.one Ic],rows:=[] }) (sel (ltI (qaa 2) (qaa n)) (sel (ltN 2 n) (sel (gI (.int .u8 0) (nth cs 2)) (sel (eqI (qaa (ay cs 2)) 0) Ld (sel (ltI (qaa (ay cs 2)) 128) (some { val:=[.one (.flat (.int .u64 (qaa (aoy cs t)))),.one (.flat (.int .i64 (qaa 3))),.one Ic],rows:=[] }) (sel (ltI (qaa 3) (qaa n)) (sel (ltN 3 n) (sel (gI (.int .u8 0) (nth cs 3)) (sel (eqI (qaa (ay cs 3)) 0) Ld (sel (ltI (qaa (ay cs 3)) 128) (some { val:=[.one (.flat (.int .u64 (qaa (aoH cs t)))),.one (.flat (.int .i64 (qaa 4))),.one Ic],rows:=[] }) (sel (ltI (qaa 4) (qaa n)) (sel (ltN 4 n) (sel (gI (.int .u8 0) (nth cs 4)) (sel (eqI (qaa (ay cs 4)) 0) Ld (sel (ltI (qaa (ay cs 4)) 128) (some { val:=[.one (.flat (.int .u64 (qaa (anA cs t)))),.one (.flat (.int .i64 (qaa 5))),.one Ic],rows:=[] }) (sel (ltI (qaa 5) (qaa n)) (sel (ltN 5 n) (sel (gI (.int .u8 0) (nth cs 5)) (sel (eqI (qaa (ay cs 5)) 0) Ld (sel (ltI (qaa (ay cs 5)) 128) (some { val:=[.one (.flat (.int .u64 (qaa (aoe cs t)))),.one (.flat (.int .i64 (qaa 6))),.one Ic],rows:=[] }) (sel (ltI (qaa 6) (qaa n)) (sel (ltN 6 n) (sel (gI (.int .u8 0) (nth cs 6)) (sel (eqI (qaa (ay cs 6)) 0) Ld (sel (ltI (qaa (ay cs 6)) 128) (some { val:=[.one (.flat (.int .u64 (qaa (apr cs t)))),.one (.flat (.int .i64 (qaa 7))),.one Ic],rows:=[] }) (sel (ltI (qaa 7) (qaa n)) (sel (ltN 7 n) (sel (gI (.int .u8 0) (nth cs 7)) (sel (eqI (qaa (ay cs 7)) 0) Ld (sel (ltI (qaa (ay cs 7)) 128) (some { val:=[.one (.flat (.int .u64 (qaa (afT cs t)))),.one (.flat (.int .i64 (qaa 8))),.one Ic],rows:=[] }) (sel (ltI (qaa 8) (qaa n)) (sel (ltN 8 n) (sel (gI (.int .u8 0) (nth cs 8)) (sel (eqI (qaa (ay cs 8)) 0) Ld (sel (ltI (qaa (ay cs 8)) 128) (some { val:=[.one (.flat (.int .u64 (qaa (afN cs t)))),.one (.flat (.int .i64 (qaa 9))),.one Ic],rows:=[] }) (sel (ltI (qaa 9) (qaa n)) (sel (ltN 9 n) (sel (gI (.int .u8 0) (nth cs 9)) (sel (ltI 1 (qaa (ay cs 9))) Ld (sel (eqI (qaa (ay cs 9)) 0) Ld (sel (ltI (qaa (ay cs 9)) 128) (some { val:=[.one (.flat (.int .u64 (qaa (((afN cs t).mod 18446744073709551616).lor ((blk (some t) ((((((ay cs 9).mod 256).land 127).mod 18446744073709551616).mul 9223372036854775808).mod 18446744073709551616)).mod 18446744073709551616))))),.one (.flat (.int .i64 (qaa 10))),.one Ic],rows:=[] }) none))) none) none) Aw))) none) none) Aw))) none) none) Aw))) none) none) Aw))) none) none) Aw))) none) none) Aw))) none) none) Aw))) none) none) Aw))) none) none) Aw)) none) none) Aw:=by kernel_rfl
end Go.Ax
namespace Go.Ax
open Go Go.Proofs
noncomputable section
namespace Fn
def dig (cs:List Value)(i j:Nat):Nat:=ay cs i%128*128 ^ j%18446744073709551616
def acc (cs:List Value)(o:Nat):Nat→Nat:=fun j=>Nat.rec (dig cs (o+0) 0) (fun j ih=>ih ||| dig cs (o+(j+1)) (j+1)) j
end Fn
theorem Fn.gJ (cs:List Value)(o:Nat):Fn.acc cs o 0=Fn.dig cs (o+0) 0:=rfl
theorem Fn.gQ (cs:List Value)(o j:Nat):Fn.acc cs o (j+1)=Fn.acc cs o j ||| Fn.dig cs (o+(j+1)) (j+1):=rfl
def G5 (v k e:Nat):cO:=⟨[.one (.flat (.int .u64 (qaa v))),.one (.flat (.int .i64 (qaa k))),.one (.flat (.int .i64 (qaa e)))],[]⟩
theorem qB {v v' k e:Nat}(h:v=v'):G5 v k e=G5 v' k e:=by rw [h]
def kJ (cs:List Value)(o n:Nat):Nat→Nat→Nat × Nat × Nat:=fun k=>
 Nat.rec (fun _=>(0,0,6)) (fun _ ih j=>if o+j<n then (if (j=9∧1<ay cs (o+j))∨(0<j∧ay cs (o+j)=0) then (0,0,5) else if ay cs (o+j)<128 then (Fn.acc cs o j,j+1,0) else ih (j+1)) else (0,0,6)) k
namespace Fn
def ai5 (cs:List Value):Nat:=(kJ cs 0 cs.length 10 0).1
def apd (cs:List Value):Nat:=(kJ cs 0 cs.length 10 0).2.1
def ajL (cs:List Value):Nat:=(kJ cs 0 cs.length 10 0).2.2
end Fn
def aby (cs:List Value):cO:=G5 (Fn.ai5 cs) (Fn.apd cs) (Fn.ajL cs)
def adM (cs:List Value)(n:Nat)(k j:Nat):Option cO:=some (G5 (kJ cs 0 n k j).1 (kJ cs 0 n k j).2.1 (kJ cs 0 n k j).2.2)
theorem fU (cs:List Value)(n k j:Nat):adM cs n (k+1) j=if j<n then (if (j=9∧1<ay cs j)∨(0<j∧ay cs j=0) then some (G5 0 0 5) else if ay cs j<128 then some (G5 (Fn.acc cs 0 j) (j+1) 0) else adM cs n k (j+1)) else some (G5 0 0 6):=by
 have e:kJ cs 0 n (k+1) j=if 0+j<n then (if (j=9∧1<ay cs (0+j))∨(0<j∧ay cs (0+j)=0) then (0,0,5) else if ay cs (0+j)<128 then (Fn.acc cs 0 j,j+1,0) else kJ cs 0 n k (j+1)) else (0,0,6):=rfl
 unfold adM
 rw [e,qaf]
 split
 ·split
  ·rfl
  ·split <;> rfl
 ·rfl
theorem jF (c:Nat):(c%256) &&& 127=c%128:=by
 have h1:c%256<256:=qaI _ (by omega)
 have h2:c%128=(c%256)%128:=by omega
 rw [h2]
 generalize c%256=m at h1
 have:∀ m:Fin 256,m.val &&& 127=m.val%128:=by decide
 exact this ⟨m,h1⟩
theorem jH (c:Nat):c%128%18446744073709551616=c%128:=by omega
theorem orW (a b:Nat):(a ||| b)%18446744073709551616=a%18446744073709551616 ||| b%18446744073709551616:=Nat.or_mod_two_pow (n:=64)
theorem H6:∀ {cs:List Value} {j:Nat},fZ cs=true→j<cs.length→gI (.int .u8 0) (nth cs j)=true
 |[],j,_,h=>by simp at h
 |v::cs,j,hb,h=>by
  obtain ⟨h1,h2⟩:=dn (show sel (byteOf v).isSome (fZ cs) false=true from hb)
  cases j with
  |zero=>
   show gI (.int .u8 0) (some v)=true
   unfold byteOf at h1
   split at h1
   ·rename_i n
    cases n with
    |ofNat n=>rfl
    |negSucc n=>cases h1
   ·cases h1
  |succ j=>
   show gI (.int .u8 0) (nth cs j)=true
   exact H6 (cs:=cs) (j:=j) h2 (by simpa using h)
theorem aeh (n:Nat)(cs:List Value)(hn:n=cs.length)(hb:fZ cs=true):(runK (iL true) C1 16).1 74 [.slice (some ⟨32,0,none⟩) n aF] (aP [.one (.sl cs 5 n)]) (dJ Tryz.prog)=some (aby cs):=by
 rw [akS];unfold Aw afN afT apr aoe anA aoH aoy anC Ld ao6 Ic apk
 have hfin:adM cs n 10 0=some (aby cs):=by rw [hn];rfl
 rw [←hfin]
 have hl:∀ a b:Nat,qaM a b=a ||| b:=fun _ _=>rfl
 have ha:∀ a b:Nat,Nat.land a b=a &&& b:=fun _ _=>rfl
 have hm:∀ a b:Nat,qaO a b=a%b:=fun _ _=>rfl
 have hd:∀ a b:Nat,Nat.mul a b=a*b:=fun _ _=>rfl
 have hok:∀ j,j<n→gI (.int .u8 0) (nth cs j)=true:=fun j hj=>H6 hb (hn▸hj)
 have h0:∀ a:Nat,ltI 0 (qaa a)=decide (0<a):=fun a=>vT 0 a
 have h1:∀ a:Nat,ltI 1 (qaa a)=decide (1<a):=fun a=>vT 1 a
 have h128:∀ a:Nat,ltI (qaa a) 128=decide (a<128):=fun a=>vT a 128
 have he:∀ a:Nat,eqI (qaa a) 0=decide (a=0):=fun a=>by rw [iM];simp
 simp only [acY,hl,ha,hm,hd,h0,h1,h128,he,vT,oH,aG,decide_eq_true_eq]
 by_cases p0:0<n
 ·rw [if_pos p0,if_pos p0,if_pos (hok 0 p0),fU,if_pos p0]
  rw [if_neg (show ¬((0=9∧1<ay cs 0)∨(0<0∧ay cs 0=0)) from by omega)]
  by_cases s0:ay cs 0<128
  ·rw [if_pos s0,if_pos s0]
   exact congrArg some (qB (by simp only [jF,orW,qal,qam,jH,Fn.gJ,Fn.gQ,Fn.dig,qaf,qaj,Nat.reduceAdd,Nat.reducePow]))
  rw [if_neg s0,if_neg s0]
  show _=adM cs n 9 1
  by_cases p1:1<n
  ·rw [if_pos p1,if_pos p1,if_pos (hok 1 p1),fU,if_pos p1]
   by_cases z1:ay cs 1=0
   ·rw [if_pos z1,if_pos (show (1=9∧1<ay cs 1)∨(0<1∧ay cs 1=0) from by omega)];rfl
   rw [if_neg z1,if_neg (show ¬((1=9∧1<ay cs 1)∨(0<1∧ay cs 1=0)) from by omega)]
   by_cases s1:ay cs 1<128
   ·rw [if_pos s1,if_pos s1]
    exact congrArg some (qB (by simp only [jF,orW,qal,qam,jH,Fn.gJ,Fn.gQ,Fn.dig,qaf,qaj,Nat.reduceAdd,Nat.reducePow]))
   rw [if_neg s1,if_neg s1]
   show _=adM cs n 8 2
   by_cases p2:2<n
   ·rw [if_pos p2,if_pos p2,if_pos (hok 2 p2),fU,if_pos p2]
    by_cases z2:ay cs 2=0
    ·rw [if_pos z2,if_pos (show (2=9∧1<ay cs 2)∨(0<2∧ay cs 2=0) from by omega)];rfl
    rw [if_neg z2,if_neg (show ¬((2=9∧1<ay cs 2)∨(0<2∧ay cs 2=0)) from by omega)]
    by_cases s2:ay cs 2<128
    ·rw [if_pos s2,if_pos s2]
     exact congrArg some (qB (by simp only [jF,orW,qal,qam,jH,Fn.gJ,Fn.gQ,Fn.dig,qaf,qaj,Nat.reduceAdd,Nat.reducePow]))
    rw [if_neg s2,if_neg s2]
    show _=adM cs n 7 3
    by_cases p3:3<n
    ·rw [if_pos p3,if_pos p3,if_pos (hok 3 p3),fU,if_pos p3]
     by_cases z3:ay cs 3=0
     ·rw [if_pos z3,if_pos (show (3=9∧1<ay cs 3)∨(0<3∧ay cs 3=0) from by omega)];rfl
     rw [if_neg z3,if_neg (show ¬((3=9∧1<ay cs 3)∨(0<3∧ay cs 3=0)) from by omega)]
     by_cases s3:ay cs 3<128
     ·rw [if_pos s3,if_pos s3]
      exact congrArg some (qB (by simp only [jF,orW,qal,qam,jH,Fn.gJ,Fn.gQ,Fn.dig,qaf,qaj,Nat.reduceAdd,Nat.reducePow]))
     rw [if_neg s3,if_neg s3]
     show _=adM cs n 6 4
     by_cases p4:4<n
     ·rw [if_pos p4,if_pos p4,if_pos (hok 4 p4),fU,if_pos p4]
      by_cases z4:ay cs 4=0
      ·rw [if_pos z4,if_pos (show (4=9∧1<ay cs 4)∨(0<4∧ay cs 4=0) from by omega)];rfl
      rw [if_neg z4,if_neg (show ¬((4=9∧1<ay cs 4)∨(0<4∧ay cs 4=0)) from by omega)]
      by_cases s4:ay cs 4<128
      ·rw [if_pos s4,if_pos s4]
       exact congrArg some (qB (by simp only [jF,orW,qal,qam,jH,Fn.gJ,Fn.gQ,Fn.dig,qaf,qaj,Nat.reduceAdd,Nat.reducePow]))
      rw [if_neg s4,if_neg s4]
      show _=adM cs n 5 5
      by_cases p5:5<n
      ·rw [if_pos p5,if_pos p5,if_pos (hok 5 p5),fU,if_pos p5]
       by_cases z5:ay cs 5=0
       ·rw [if_pos z5,if_pos (show (5=9∧1<ay cs 5)∨(0<5∧ay cs 5=0) from by omega)];rfl
       rw [if_neg z5,if_neg (show ¬((5=9∧1<ay cs 5)∨(0<5∧ay cs 5=0)) from by omega)]
       by_cases s5:ay cs 5<128
       ·rw [if_pos s5,if_pos s5]
        exact congrArg some (qB (by simp only [jF,orW,qal,qam,jH,Fn.gJ,Fn.gQ,Fn.dig,qaf,qaj,Nat.reduceAdd,Nat.reducePow]))
       rw [if_neg s5,if_neg s5]
       show _=adM cs n 4 6
       by_cases p6:6<n
       ·rw [if_pos p6,if_pos p6,if_pos (hok 6 p6),fU,if_pos p6]
        by_cases z6:ay cs 6=0
        ·rw [if_pos z6,if_pos (show (6=9∧1<ay cs 6)∨(0<6∧ay cs 6=0) from by omega)];rfl
        rw [if_neg z6,if_neg (show ¬((6=9∧1<ay cs 6)∨(0<6∧ay cs 6=0)) from by omega)]
        by_cases s6:ay cs 6<128
        ·rw [if_pos s6,if_pos s6]
         exact congrArg some (qB (by simp only [jF,orW,qal,qam,jH,Fn.gJ,Fn.gQ,Fn.dig,qaf,qaj,Nat.reduceAdd,Nat.reducePow]))
        rw [if_neg s6,if_neg s6]
        show _=adM cs n 3 7
        by_cases p7:7<n
        ·rw [if_pos p7,if_pos p7,if_pos (hok 7 p7),fU,if_pos p7]
         by_cases z7:ay cs 7=0
         ·rw [if_pos z7,if_pos (show (7=9∧1<ay cs 7)∨(0<7∧ay cs 7=0) from by omega)];rfl
         rw [if_neg z7,if_neg (show ¬((7=9∧1<ay cs 7)∨(0<7∧ay cs 7=0)) from by omega)]
         by_cases s7:ay cs 7<128
         ·rw [if_pos s7,if_pos s7]
          exact congrArg some (qB (by simp only [jF,orW,qal,qam,jH,Fn.gJ,Fn.gQ,Fn.dig,qaf,qaj,Nat.reduceAdd,Nat.reducePow]))
         rw [if_neg s7,if_neg s7]
         show _=adM cs n 2 8
         by_cases p8:8<n
         ·rw [if_pos p8,if_pos p8,if_pos (hok 8 p8),fU,if_pos p8]
          by_cases z8:ay cs 8=0
          ·rw [if_pos z8,if_pos (show (8=9∧1<ay cs 8)∨(0<8∧ay cs 8=0) from by omega)];rfl
          rw [if_neg z8,if_neg (show ¬((8=9∧1<ay cs 8)∨(0<8∧ay cs 8=0)) from by omega)]
          by_cases s8:ay cs 8<128
          ·rw [if_pos s8,if_pos s8]
           exact congrArg some (qB (by simp only [jF,orW,qal,qam,jH,Fn.gJ,Fn.gQ,Fn.dig,qaf,qaj,Nat.reduceAdd,Nat.reducePow]))
          rw [if_neg s8,if_neg s8]
          show _=adM cs n 1 9
          by_cases p9:9<n
          ·rw [if_pos p9,if_pos p9,if_pos (hok 9 p9),fU,if_pos p9]
           by_cases w9:1<ay cs 9
           ·rw [if_pos w9,if_pos (show (9=9∧1<ay cs 9)∨(0<9∧ay cs 9=0) from by omega)];rfl
           rw [if_neg w9]
           by_cases z9:ay cs 9=0
           ·rw [if_pos z9,if_pos (show (9=9∧1<ay cs 9)∨(0<9∧ay cs 9=0) from by omega)];rfl
           rw [if_neg z9,if_neg (show ¬((9=9∧1<ay cs 9)∨(0<9∧ay cs 9=0)) from by omega)]
           by_cases s9:ay cs 9<128
           ·rw [if_pos s9,if_pos s9]
            exact congrArg some (qB (by simp only [jF,orW,qal,qam,jH,Fn.gJ,Fn.gQ,Fn.dig,qaf,qaj,Nat.reduceAdd,Nat.reducePow]))
           rw [if_neg s9,if_neg s9]
           exfalso;omega
          ·rw [if_neg p9,fU,if_neg p9];rfl
         ·rw [if_neg p8,fU,if_neg p8];rfl
        ·rw [if_neg p7,fU,if_neg p7];rfl
       ·rw [if_neg p6,fU,if_neg p6];rfl
      ·rw [if_neg p5,fU,if_neg p5];rfl
     ·rw [if_neg p4,fU,if_neg p4];rfl
    ·rw [if_neg p3,fU,if_neg p3];rfl
   ·rw [if_neg p2,fU,if_neg p2];rfl
  ·rw [if_neg p1,fU,if_neg p1];rfl
 ·rw [if_neg p0,fU,if_neg p0];rfl
end
end Go.Ax
namespace Go.Ax
open Go Go.Proofs
noncomputable def akm:gX:=.flat (.int .u64 0)
noncomputable def ak9:gX:=.flat (.int .i64 0)
noncomputable def apb (a:Nat):=(a.add 0).ble 9223372036854775807
noncomputable def ao9 (a:Nat)(cs:List Value):=ay cs (qar 0 ((a.add 0).mul 1))
noncomputable def ale (a:Nat):=(a.add 1).ble 9223372036854775807
noncomputable def aoU (a:Nat)(cs:List Value)(t:Bool):=qaM 0 ((blk (some t) (((((ao9 a cs).mod 128).mod 18446744073709551616).mul 1).mod 18446744073709551616)).mod 18446744073709551616)
noncomputable def aoO (a:Nat)(cs:List Value):=ay cs (qar 0 ((a.add 1).mul 1))
noncomputable def apa (a:Nat)(cs:List Value):=qaa (aoO a cs)
noncomputable def ap7 (a:Nat):Value:=.int .i64 (qaa a)
noncomputable def Lu (a:Nat):Option cO:=some { val:=[.one akm,.one ak9,.agg [.flat (.int .i64 5),.flat (ap7 a)]],rows:=[] }
noncomputable def abf (a:Nat):=(a.add 2).ble 9223372036854775807
noncomputable def aiC (a:Nat)(cs:List Value)(t:Bool):=((aoU a cs t).mod 18446744073709551616).lor ((blk (some t) (((((aoO a cs).mod 128).mod 18446744073709551616).mul 128).mod 18446744073709551616)).mod 18446744073709551616)
noncomputable def aha (a:Nat)(cs:List Value):=ay cs (qar 0 ((a.add 2).mul 1))
noncomputable def agv (a:Nat)(cs:List Value):=qaa (aha a cs)
noncomputable def ab3 (a:Nat):=(a.add 3).ble 9223372036854775807
noncomputable def ae2 (a:Nat)(cs:List Value)(t:Bool):=((aiC a cs t).mod 18446744073709551616).lor ((blk (some t) (((((aha a cs).mod 128).mod 18446744073709551616).mul 16384).mod 18446744073709551616)).mod 18446744073709551616)
noncomputable def aiP (a:Nat)(cs:List Value):=ay cs (qar 0 ((a.add 3).mul 1))
noncomputable def ahb (a:Nat)(cs:List Value):=qaa (aiP a cs)
noncomputable def aa3 (a:Nat):=(a.add 4).ble 9223372036854775807
noncomputable def ags (a:Nat)(cs:List Value)(t:Bool):=((ae2 a cs t).mod 18446744073709551616).lor ((blk (some t) (((((aiP a cs).mod 128).mod 18446744073709551616).mul 2097152).mod 18446744073709551616)).mod 18446744073709551616)
noncomputable def afZ (a:Nat)(cs:List Value):=ay cs (qar 0 ((a.add 4).mul 1))
noncomputable def aiV (a:Nat)(cs:List Value):=qaa (afZ a cs)
noncomputable def acd (a:Nat):=(a.add 5).ble 9223372036854775807
noncomputable def aiZ (a:Nat)(cs:List Value)(t:Bool):=((ags a cs t).mod 18446744073709551616).lor ((blk (some t) (((((afZ a cs).mod 128).mod 18446744073709551616).mul 268435456).mod 18446744073709551616)).mod 18446744073709551616)
noncomputable def ajd (a:Nat)(cs:List Value):=ay cs (qar 0 ((a.add 5).mul 1))
noncomputable def agh (a:Nat)(cs:List Value):=qaa (ajd a cs)
noncomputable def acQ (a:Nat):=(a.add 6).ble 9223372036854775807
noncomputable def afc (a:Nat)(cs:List Value)(t:Bool):=((aiZ a cs t).mod 18446744073709551616).lor ((blk (some t) (((((ajd a cs).mod 128).mod 18446744073709551616).mul 34359738368).mod 18446744073709551616)).mod 18446744073709551616)
noncomputable def ahR (a:Nat)(cs:List Value):=ay cs (qar 0 ((a.add 6).mul 1))
noncomputable def aiO (a:Nat)(cs:List Value):=qaa (ahR a cs)
noncomputable def aaV (a:Nat):=(a.add 7).ble 9223372036854775807
noncomputable def afV (a:Nat)(cs:List Value)(t:Bool):=((afc a cs t).mod 18446744073709551616).lor ((blk (some t) (((((ahR a cs).mod 128).mod 18446744073709551616).mul 4398046511104).mod 18446744073709551616)).mod 18446744073709551616)
noncomputable def agj (a:Nat)(cs:List Value):=ay cs (qar 0 ((a.add 7).mul 1))
noncomputable def agw (a:Nat)(cs:List Value):=qaa (agj a cs)
noncomputable def acv (a:Nat):=(a.add 8).ble 9223372036854775807
noncomputable def ai1 (a:Nat)(cs:List Value)(t:Bool):=((afV a cs t).mod 18446744073709551616).lor ((blk (some t) (((((agj a cs).mod 128).mod 18446744073709551616).mul 562949953421312).mod 18446744073709551616)).mod 18446744073709551616)
noncomputable def afl (a:Nat)(cs:List Value):=ay cs (qar 0 ((a.add 8).mul 1))
noncomputable def ae0 (a:Nat)(cs:List Value):=qaa (afl a cs)
noncomputable def aaY (a:Nat):=(a.add 9).ble 9223372036854775807
noncomputable def ahG (a:Nat)(cs:List Value)(t:Bool):=((ai1 a cs t).mod 18446744073709551616).lor ((blk (some t) (((((afl a cs).mod 128).mod 18446744073709551616).mul 72057594037927936).mod 18446744073709551616)).mod 18446744073709551616)
noncomputable def afA (a:Nat)(cs:List Value):=ay cs (qar 0 ((a.add 9).mul 1))
noncomputable def abA (a:Nat)(cs:List Value):=qaa (afA a cs)
noncomputable def zB (a:Nat):Option cO:=some { val:=[.one akm,.one ak9,.agg [.flat (.int .i64 6),.flat (ap7 a)]],rows:=[] }
theorem asC (t:Bool)(n a:Nat)(cs:List Value):(runK (iL t) C1 16).1 78 [.slice (some ⟨32,0,none⟩) n aF,.int .i64 (qaa a)] (aP [.one (.sl cs 5 n)]) (dJ Tryz.prog)=sel (ltI (qaa n) (qaa a)) (some { val:=[.one akm,.one ak9,.agg [.flat (.int .i64 3),.flat (.int .i64 0)]],rows:=[] }) (sel (apb a) (sel (ltI (qaa (a.add 0)) (qaa n)) (sel (apb a) (sel (ltN (a.add 0) n) (sel (gI (.int .u8 0) (nth cs (qar 0 ((a.add 0).mul 1)))) (sel (ltI (qaa (ao9 a cs)) 128) (sel (ale a) (some { val:=[.one (.flat (.int .u64 (qaa (aoU a cs t)))),.one (.flat (.int .i64 (qaa (a.add 1)))),.agg [.flat (.int .i64 0),.flat (.int .i64 0)]],rows:=[] }) none) (sel (ale a) (sel (ltI (qaa (a.add 1)) (qaa n)) (sel (ale a) (sel (ltN (a.add 1) n) (sel (gI (.int .u8 0) (nth cs (qar 0 ((a.add 1).mul 1)))) (sel (eqI (apa a cs) 0) (Lu a) (sel (ltI (apa a cs) 128) (sel (abf a) (some { val:=[.one (.flat (.int .u64 (qaa (aiC a cs t)))),.one (.flat (.int .i64 (qaa (a.add 2)))),.agg [.flat (.int .i64 0),.flat (.int .i64 0)]],rows:=[] }) none) (sel (abf a) (sel (ltI (qaa (a.add 2)) (qaa n)) (sel (abf a) (sel (ltN (a.add 2) n) (sel (gI (.int .u8 0) (nth cs (qar 0 ((a.add 2).mul 1)))) (sel (eqI (agv a cs) 0) (Lu a) (sel (ltI (agv a cs) 128) (sel (ab3 a) (some { val:=[.one (.flat (.int .u64 (qaa (ae2 a cs t)))),.one (.flat (.int .i64 (qaa (a.add 3)))),.agg [.flat (.int .i64 0),.flat (.int .i64 0)]],rows:=[] }) none) (sel (ab3 a) (sel (ltI (qaa (a.add 3)) (qaa n)) (sel (ab3 a) (sel (ltN (a.add 3) n) (sel (gI (.int .u8 0) (nth cs (qar 0 ((a.add 3).mul 1)))) (sel (eqI (ahb a cs) 0) (Lu a) (sel (ltI (ahb a cs) 128) (sel (aa3 a) (some { val:=[.one (.flat (.int .u64 (qaa (ags a cs t)))),.one (.flat (.int .i64 (qaa (a.add 4)))),.agg [.flat (.int .i64 0),.flat (.int .i64 0)]],rows:=[] }) none) (sel (aa3 a) (sel (ltI (qaa (a.add 4)) (qaa n)) (sel (aa3 a) (sel (ltN (a.add 4) n) (sel (gI (.int .u8 0) (nth cs (qar 0 ((a.add 4).mul 1)))) (sel (eqI (aiV a cs) 0) (Lu a) (sel (ltI (aiV a cs) 128) (sel (acd a) (some { val:=[.one (.flat (.int .u64 (qaa (aiZ a cs t)))),.one (.flat (.int .i64 (qaa (a.add 5)))),.agg [.flat (.int .i64 0),.flat (.int .i64 0)]],rows:=[] }) none) (sel (acd a) (sel (ltI (qaa (a.add 5)) (qaa n)) (sel (acd a) (sel (ltN (a.add 5) n) (sel (gI (.int .u8 0) (nth cs (qar 0 ((a.add 5).mul 1)))) (sel (eqI (agh a cs) 0) (Lu a) (sel (ltI (agh a cs) 128) (sel (acQ a) (some { val:=[.one (.flat (.int .u64 (qaa (afc a cs t)))),.one (.flat (.int .i64 (qaa (a.add 6)))),.agg [.flat (.int .i64 0),.flat (.int .i64 0)]],rows:=[] }) none) (sel (acQ a) (sel (ltI (qaa (a.add 6)) (qaa n)) (sel (acQ a) (sel (ltN (a.add 6) n) (sel (gI (.int .u8 0) (nth cs (qar 0 ((a.add 6).mul 1)))) (sel (eqI (aiO a cs) 0) (Lu a) (sel (ltI (aiO a cs) 128) (sel (aaV a) (some { val:=[.one (.flat (.int .u64 (qaa (afV a cs t)))),.one (.flat (.int .i64 (qaa (a.add 7)))),.agg [.flat (.int .i64 0),.flat (.int .i64 0)]],rows:=[] }) none) (sel (aaV a) (sel (ltI (qaa (a.add 7)) (qaa n)) (sel (aaV a) (sel (ltN (a.add 7) n) (sel (gI (.int .u8 0) (nth cs (qar 0 ((a.add 7).mul 1)))) (sel (eqI (agw a cs) 0) (Lu a) (sel (ltI (agw a cs) 128) (sel (acv a) (some { val:=[.one (.flat (.int .u64 (qaa (ai1 a cs t)))),.one (.flat (.int .i64 (qaa (a.add 8)))),.agg [.flat (.int .i64 0),.flat (.int .i64 0)]],rows:=[] }) none) (sel (acv a) (sel (ltI (qaa (a.add 8)) (qaa n)) (sel (acv a) (sel (ltN (a.add 8) n) (sel (gI (.int .u8 0) (nth cs (qar 0 ((a.add 8).mul 1)))) (sel (eqI (ae0 a cs) 0) (Lu a) (sel (ltI (ae0 a cs) 128) (sel (aaY a) (some { val:=[.one (.flat (.int .u64 (qaa (ahG a cs t)))),.one (.flat (.int .i64 (qaa (a.add 9)))),.agg [.flat (.int .i64 0),.flat (.int .i64 0)]],rows:=[] }) none) (sel (aaY a) (sel (ltI (qaa (a.add 9)) (qaa n)) (sel (aaY a) (sel (ltN (a.add 9) n) (sel (gI (.int .u8 0) (nth cs (qar 0 ((a.add 9).mul 1)))) (sel (ltI 1 (abA a cs)) (Lu a) (sel (eqI (abA a cs) 0) (Lu a) (sel (ltI (abA a cs) 128) (sel ((a.add 10).ble 9223372036854775807) (some { val:=[.one (.flat (.int .u64 (qaa (((ahG a cs t).mod 18446744073709551616).lor ((blk (some t) (((((afA a cs).mod 128).mod 18446744073709551616).mul 9223372036854775808).mod 18446744073709551616)).mod 18446744073709551616))))),.one (.flat (.int .i64 (qaa (a.add 10)))),.agg [.flat (.int .i64 0),.flat (.int .i64 0)]],rows:=[] }) none) none))) none) none) none) (zB a)) none))) none) none) none) (zB a)) none))) none) none) none) (zB a)) none))) none) none) none) (zB a)) none))) none) none) none) (zB a)) none))) none) none) none) (zB a)) none))) none) none) none) (zB a)) none))) none) none) none) (zB a)) none))) none) none) none) (zB a)) none)) none) none) none) (zB a)) none):=by kernel_rfl
end Go.Ax
namespace Go.Ax
open Go Go.Proofs
noncomputable section
def avD (cs:List Value):Tree cO:=.test (qaz (Fn.ajL cs) 0) (.leaf (G5 (Fn.ai5 cs) (Fn.apd cs) 0)) (.test (qaz (Fn.ajL cs) 5) (.leaf (G5 0 0 5)) (.leaf (G5 0 0 6)))
def avv (l:List fM):Tree cO:=
 match l with
 |[.one (.sl cs e _)]=>bY (qaz e 5&&fZ cs) (avD cs)
 |[.one (.raw (.slice _ n _))]=>bY (qaz n 0) (.leaf (G5 0 0 6))
 |_=>.fail
theorem num_nil (c:Nat):(runK (iL true) C1 16).1 74 [.slice none 0 c] (aP []) (dJ Tryz.prog)=some (G5 0 0 6):=by kernel_rfl
theorem al3:(runK (iL true) C1 16).1 74 [dB] (aP []) (dJ Tryz.prog)=some (G5 0 0 6):=by kernel_rfl
theorem Gn (cs:List Value)(o n:Nat):∀ k j,(kJ cs o n k j).2.2=0∨kJ cs o n k j=(0,0,5)∨kJ cs o n k j=(0,0,6)
 |0,j=>.inr (.inr rfl)
 |k+1,j=>by
  have e:kJ cs o n (k+1) j=if o+j<n then (if (j=9∧1<ay cs (o+j))∨(0<j∧ay cs (o+j)=0) then (0,0,5) else if ay cs (o+j)<128 then (Fn.acc cs o j,j+1,0) else kJ cs o n k (j+1)) else (0,0,6):=rfl
  rw [e]
  split
  ·split
   ·exact .inr (.inl rfl)
   ·split
    ·exact .inl rfl
    ·exact Gn cs o n k (j+1)
  ·exact .inr (.inr rfl)
theorem ald (cs:List Value):(avD cs).run=some (aby cs):=by
 unfold avD aby Fn.ai5 Fn.apd Fn.ajL
 rcases Gn cs 0 cs.length 10 0 with h|h|h
 ·show sel (qaz (kJ cs 0 cs.length 10 0).2.2 0) _ _=_
  rw [h];rfl
 ·rw [h];rfl
 ·rw [h];rfl
theorem apD:y8 Tryz.prog C1 16 74 avv:=by
 intro comps r kE hr
 unfold avv at hr
 split at hr
 ·rename_i cs e n
  obtain ⟨hg,h2⟩:=aJ hr
  simp only [qad] at hg
  have he:e=5:=qak hg.1
  subst he
  rw [ald] at h2
  cases h2
  have hf:je.fine Tryz.prog (.sl cs 5 n):=kE (.one (.sl cs 5 n)) qaE
  obtain ⟨_,sz,h3,_,h5⟩:=hf
  have hsz:sz=1:=by
   have:size Tryz.prog 5=some 1:=by kernel_rfl
   rw [this] at h3;cases h3;rfl
  subst hsz
  refine ⟨(fun p hp=>by cases hp),?_⟩
  exact bT (K:=iL true) (by decide) bI aY (aeh n cs (by omega) hg.2)
 ·rename_i a n c
  obtain ⟨hg,h2⟩:=aJ hr
  cases h2
  have hn:n=0:=qak hg
  subst hn
  have hf:oU (.slice a 0 c)=true:=kE (.one (.raw (.slice a 0 c))) qaE
  refine ⟨(fun p hp=>by cases hp),?_⟩
  cases a with
  |none=>exact bT (K:=iL true) (by decide) bI aY (num_nil c)
  |some a=>
   obtain ⟨b,o,sp⟩:=a
   have hf:(sp.isNone&&(qaz b fF&&(qaz o 0&&(qaz 0 0&&qaz c aF))))=true:=hf
   simp only [qad] at hf
   obtain ⟨f1,f2,f3,_,f5⟩:=hf
   have f2:=qak f2
   have f3:=qak f3
   have f5:=qak f5
   subst f2 f3 f5
   cases sp with
   |some x=>cases f1
   |none=>exact bT (K:=iL true) (by decide) bI aY al3
 ·cases hr
def xW (v k e a:Nat):cO:=⟨[.one (.flat (.int .u64 (qaa v))),.one (.flat (.int .i64 (qaa k))),.agg [.flat (.int .i64 (qaa e)),.flat (.int .i64 (qaa a))]],[]⟩
theorem qG {v v' k e a:Nat}(h:v=v'):xW v k e a=xW v' k e a:=by rw [h]
def afg (a:Nat)(q:Nat × Nat × Nat):cO:=if q.2.2=0 then xW q.1 (a+q.2.1) 0 0 else xW 0 0 q.2.2 a
def acg (cs:List Value)(a n k j:Nat):Option cO:=some (afg a (kJ cs a n k j))
theorem fQ (cs:List Value)(a n k j:Nat):acg cs a n (k+1) j=if a+j<n then (if (j=9∧1<ay cs (a+j))∨(0<j∧ay cs (a+j)=0) then some (xW 0 0 5 a) else if ay cs (a+j)<128 then some (xW (Fn.acc cs a j) (a+(j+1)) 0 0) else acg cs a n k (j+1)) else some (xW 0 0 6 a):=by
 have e:kJ cs a n (k+1) j=if a+j<n then (if (j=9∧1<ay cs (a+j))∨(0<j∧ay cs (a+j)=0) then (0,0,5) else if ay cs (a+j)<128 then (Fn.acc cs a j,j+1,0) else kJ cs a n k (j+1)) else (0,0,6):=rfl
 unfold acg
 rw [e]
 split
 ·split
  ·rfl
  ·split <;> rfl
 ·rfl
theorem akK (n a:Nat)(cs:List Value)(hn:n=cs.length)(hb:fZ cs=true)(ha:a≤n)(hbig:n≤4611686018427387904) :
  (runK (iL true) C1 16).1 78 [.slice (some ⟨32,0,none⟩) n aF,.int .i64 (qaa a)] (aP [.one (.sl cs 5 n)]) (dJ Tryz.prog)=acg cs a n 10 0:=by
 rw [asC];unfold zB abA afA ahG aaY ae0 afl ai1 acv agw agj afV aaV aiO ahR afc acQ agh ajd aiZ acd aiV afZ ags aa3 ahb aiP ae2 ab3 agv aha aiC abf Lu ap7 apa aoO aoU ale ao9 apb ak9 akm
 have hl:∀ a b:Nat,qaM a b=a ||| b:=fun _ _=>rfl
 have hm:∀ a b:Nat,qaO a b=a%b:=fun _ _=>rfl
 have hd:∀ a b:Nat,Nat.mul a b=a*b:=fun _ _=>rfl
 have had:∀ a b:Nat,qar a b=a+b:=fun _ _=>rfl
 have aye:∀ a b:Nat,(qao a b=true)=(a≤b):=fun a b=>propext ⟨qan,qap⟩
 have hok:∀ j,j<n→gI (.int .u8 0) (nth cs j)=true:=fun j hj=>H6 hb (hn▸hj)
 have hbd:∀ j,a+j<n→a+j≤9223372036854775807:=fun j hj=>by omega
 have hbd1:∀ j,a+j<n→a+(j+1)≤9223372036854775807:=fun j hj=>by omega
 have h1:∀ a:Nat,ltI 1 (qaa a)=decide (1<a):=fun a=>vT 1 a
 have h128:∀ a:Nat,ltI (qaa a) 128=decide (a<128):=fun a=>vT a 128
 have he:∀ a:Nat,eqI (qaa a) 0=decide (a=0):=fun a=>by rw [iM];simp
 simp only [acY,hl,hm,hd,had,aye,h1,h128,he,vT,oH,aG,decide_eq_true_eq,qaj,qaf]
 rw [if_neg (by omega)]
 by_cases p0:a+0<n
 ·rw [if_pos (hbd 0 p0),if_pos p0,if_pos (hbd 0 p0),if_pos p0,if_pos (hok (a+0) p0),fQ,if_pos p0]
  rw [if_neg (show ¬((0=9∧1<ay cs (a+0))∨(0<0∧ay cs (a+0)=0)) from by omega)]
  by_cases s0:ay cs (a+0)<128
  ·rw [if_pos s0,if_pos s0,if_pos (hbd1 0 p0)]
   exact congrArg some (qG (by simp only [jF,orW,qal,qam,jH,Fn.gJ,Fn.gQ,Fn.dig,qaf,qaj,Nat.reduceAdd,Nat.reducePow]))
  rw [if_neg s0,if_neg s0]
  show _=acg cs a n 9 1
  by_cases p1:a+1<n
  ·rw [if_pos (hbd 1 p1),if_pos p1,if_pos (hbd 1 p1),if_pos p1,if_pos (hok (a+1) p1),fQ,if_pos p1]
   by_cases z1:ay cs (a+1)=0
   ·rw [if_pos z1,if_pos (show (1=9∧1<ay cs (a+1))∨(0<1∧ay cs (a+1)=0) from by omega)];rfl
   rw [if_neg z1,if_neg (show ¬((1=9∧1<ay cs (a+1))∨(0<1∧ay cs (a+1)=0)) from by omega)]
   by_cases s1:ay cs (a+1)<128
   ·rw [if_pos s1,if_pos s1,if_pos (hbd1 1 p1)]
    exact congrArg some (qG (by simp only [jF,orW,qal,qam,jH,Fn.gJ,Fn.gQ,Fn.dig,qaf,qaj,Nat.reduceAdd,Nat.reducePow]))
   rw [if_neg s1,if_neg s1]
   show _=acg cs a n 8 2
   by_cases p2:a+2<n
   ·rw [if_pos (hbd 2 p2),if_pos p2,if_pos (hbd 2 p2),if_pos p2,if_pos (hok (a+2) p2),fQ,if_pos p2]
    by_cases z2:ay cs (a+2)=0
    ·rw [if_pos z2,if_pos (show (2=9∧1<ay cs (a+2))∨(0<2∧ay cs (a+2)=0) from by omega)];rfl
    rw [if_neg z2,if_neg (show ¬((2=9∧1<ay cs (a+2))∨(0<2∧ay cs (a+2)=0)) from by omega)]
    by_cases s2:ay cs (a+2)<128
    ·rw [if_pos s2,if_pos s2,if_pos (hbd1 2 p2)]
     exact congrArg some (qG (by simp only [jF,orW,qal,qam,jH,Fn.gJ,Fn.gQ,Fn.dig,qaf,qaj,Nat.reduceAdd,Nat.reducePow]))
    rw [if_neg s2,if_neg s2]
    show _=acg cs a n 7 3
    by_cases p3:a+3<n
    ·rw [if_pos (hbd 3 p3),if_pos p3,if_pos (hbd 3 p3),if_pos p3,if_pos (hok (a+3) p3),fQ,if_pos p3]
     by_cases z3:ay cs (a+3)=0
     ·rw [if_pos z3,if_pos (show (3=9∧1<ay cs (a+3))∨(0<3∧ay cs (a+3)=0) from by omega)];rfl
     rw [if_neg z3,if_neg (show ¬((3=9∧1<ay cs (a+3))∨(0<3∧ay cs (a+3)=0)) from by omega)]
     by_cases s3:ay cs (a+3)<128
     ·rw [if_pos s3,if_pos s3,if_pos (hbd1 3 p3)]
      exact congrArg some (qG (by simp only [jF,orW,qal,qam,jH,Fn.gJ,Fn.gQ,Fn.dig,qaf,qaj,Nat.reduceAdd,Nat.reducePow]))
     rw [if_neg s3,if_neg s3]
     show _=acg cs a n 6 4
     by_cases p4:a+4<n
     ·rw [if_pos (hbd 4 p4),if_pos p4,if_pos (hbd 4 p4),if_pos p4,if_pos (hok (a+4) p4),fQ,if_pos p4]
      by_cases z4:ay cs (a+4)=0
      ·rw [if_pos z4,if_pos (show (4=9∧1<ay cs (a+4))∨(0<4∧ay cs (a+4)=0) from by omega)];rfl
      rw [if_neg z4,if_neg (show ¬((4=9∧1<ay cs (a+4))∨(0<4∧ay cs (a+4)=0)) from by omega)]
      by_cases s4:ay cs (a+4)<128
      ·rw [if_pos s4,if_pos s4,if_pos (hbd1 4 p4)]
       exact congrArg some (qG (by simp only [jF,orW,qal,qam,jH,Fn.gJ,Fn.gQ,Fn.dig,qaf,qaj,Nat.reduceAdd,Nat.reducePow]))
      rw [if_neg s4,if_neg s4]
      show _=acg cs a n 5 5
      by_cases p5:a+5<n
      ·rw [if_pos (hbd 5 p5),if_pos p5,if_pos (hbd 5 p5),if_pos p5,if_pos (hok (a+5) p5),fQ,if_pos p5]
       by_cases z5:ay cs (a+5)=0
       ·rw [if_pos z5,if_pos (show (5=9∧1<ay cs (a+5))∨(0<5∧ay cs (a+5)=0) from by omega)];rfl
       rw [if_neg z5,if_neg (show ¬((5=9∧1<ay cs (a+5))∨(0<5∧ay cs (a+5)=0)) from by omega)]
       by_cases s5:ay cs (a+5)<128
       ·rw [if_pos s5,if_pos s5,if_pos (hbd1 5 p5)]
        exact congrArg some (qG (by simp only [jF,orW,qal,qam,jH,Fn.gJ,Fn.gQ,Fn.dig,qaf,qaj,Nat.reduceAdd,Nat.reducePow]))
       rw [if_neg s5,if_neg s5]
       show _=acg cs a n 4 6
       by_cases p6:a+6<n
       ·rw [if_pos (hbd 6 p6),if_pos p6,if_pos (hbd 6 p6),if_pos p6,if_pos (hok (a+6) p6),fQ,if_pos p6]
        by_cases z6:ay cs (a+6)=0
        ·rw [if_pos z6,if_pos (show (6=9∧1<ay cs (a+6))∨(0<6∧ay cs (a+6)=0) from by omega)];rfl
        rw [if_neg z6,if_neg (show ¬((6=9∧1<ay cs (a+6))∨(0<6∧ay cs (a+6)=0)) from by omega)]
        by_cases s6:ay cs (a+6)<128
        ·rw [if_pos s6,if_pos s6,if_pos (hbd1 6 p6)]
         exact congrArg some (qG (by simp only [jF,orW,qal,qam,jH,Fn.gJ,Fn.gQ,Fn.dig,qaf,qaj,Nat.reduceAdd,Nat.reducePow]))
        rw [if_neg s6,if_neg s6]
        show _=acg cs a n 3 7
        by_cases p7:a+7<n
        ·rw [if_pos (hbd 7 p7),if_pos p7,if_pos (hbd 7 p7),if_pos p7,if_pos (hok (a+7) p7),fQ,if_pos p7]
         by_cases z7:ay cs (a+7)=0
         ·rw [if_pos z7,if_pos (show (7=9∧1<ay cs (a+7))∨(0<7∧ay cs (a+7)=0) from by omega)];rfl
         rw [if_neg z7,if_neg (show ¬((7=9∧1<ay cs (a+7))∨(0<7∧ay cs (a+7)=0)) from by omega)]
         by_cases s7:ay cs (a+7)<128
         ·rw [if_pos s7,if_pos s7,if_pos (hbd1 7 p7)]
          exact congrArg some (qG (by simp only [jF,orW,qal,qam,jH,Fn.gJ,Fn.gQ,Fn.dig,qaf,qaj,Nat.reduceAdd,Nat.reducePow]))
         rw [if_neg s7,if_neg s7]
         show _=acg cs a n 2 8
         by_cases p8:a+8<n
         ·rw [if_pos (hbd 8 p8),if_pos p8,if_pos (hbd 8 p8),if_pos p8,if_pos (hok (a+8) p8),fQ,if_pos p8]
          by_cases z8:ay cs (a+8)=0
          ·rw [if_pos z8,if_pos (show (8=9∧1<ay cs (a+8))∨(0<8∧ay cs (a+8)=0) from by omega)];rfl
          rw [if_neg z8,if_neg (show ¬((8=9∧1<ay cs (a+8))∨(0<8∧ay cs (a+8)=0)) from by omega)]
          by_cases s8:ay cs (a+8)<128
          ·rw [if_pos s8,if_pos s8,if_pos (hbd1 8 p8)]
           exact congrArg some (qG (by simp only [jF,orW,qal,qam,jH,Fn.gJ,Fn.gQ,Fn.dig,qaf,qaj,Nat.reduceAdd,Nat.reducePow]))
          rw [if_neg s8,if_neg s8]
          show _=acg cs a n 1 9
          by_cases p9:a+9<n
          ·rw [if_pos (hbd 9 p9),if_pos p9,if_pos (hbd 9 p9),if_pos p9,if_pos (hok (a+9) p9),fQ,if_pos p9]
           by_cases w9:1<ay cs (a+9)
           ·rw [if_pos w9,if_pos (show (9=9∧1<ay cs (a+9))∨(0<9∧ay cs (a+9)=0) from by omega)];rfl
           rw [if_neg w9]
           by_cases z9:ay cs (a+9)=0
           ·rw [if_pos z9,if_pos (show (9=9∧1<ay cs (a+9))∨(0<9∧ay cs (a+9)=0) from by omega)];rfl
           rw [if_neg z9,if_neg (show ¬((9=9∧1<ay cs (a+9))∨(0<9∧ay cs (a+9)=0)) from by omega)]
           by_cases s9:ay cs (a+9)<128
           ·rw [if_pos s9,if_pos s9,if_pos (hbd1 9 p9)]
            exact congrArg some (qG (by simp only [jF,orW,qal,qam,jH,Fn.gJ,Fn.gQ,Fn.dig,qaf,qaj,Nat.reduceAdd,Nat.reducePow]))
           rw [if_neg s9,if_neg s9]
           exfalso;omega
          ·rw [if_pos (by omega),if_neg p9,fQ,if_neg p9];rfl
         ·rw [if_pos (by omega),if_neg p8,fQ,if_neg p8];rfl
        ·rw [if_pos (by omega),if_neg p7,fQ,if_neg p7];rfl
       ·rw [if_pos (by omega),if_neg p6,fQ,if_neg p6];rfl
      ·rw [if_pos (by omega),if_neg p5,fQ,if_neg p5];rfl
     ·rw [if_pos (by omega),if_neg p4,fQ,if_neg p4];rfl
    ·rw [if_pos (by omega),if_neg p3,fQ,if_neg p3];rfl
   ·rw [if_pos (by omega),if_neg p2,fQ,if_neg p2];rfl
  ·rw [if_pos (by omega),if_neg p1,fQ,if_neg p1];rfl
 ·rw [if_pos (by omega),if_neg p0,fQ,if_neg p0];rfl
def as8:List (Nat × Con):=(74,.tree (zo Tryz.prog avv))::auA
def C2:Cfg:={ CB with ext:=eH [],insert:=eH as8 }
variable [Lo]
theorem abO:dI Tryz.prog C2 as8:=dI.zo (fun lo=>@ara lo) apD.gives (dI.to amY rfl)
theorem adI:dS C2 Tryz.prog:=xq (ext:=eH []) (ins:=eH as8) rfl (fun f t h=>abO f t h) (fun f e h=>by cases h)
theorem W9:∀ k n,1≤aQ (oK k n)∧aQ (oK k n)≤k+1
 |0,n=>⟨Nat.le_refl _,Nat.le_refl _⟩
 |k+1,n=>by
  rw [dw]
  split
  ·have h:=W9 k (n/128)
   show 1≤qaF (aQ (oK k (n/128)))∧qaF (aQ (oK k (n/128)))≤k+1+1
   omega
  ·show 1≤1∧1≤k+1+1
   omega
theorem vC (n:Nat):1≤aQ (Fn.eu n)∧aQ (Fn.eu n)≤10:=W9 9 n
theorem DW:∀ l:List Value,flatAll l=true→qO l=true
 |[],_=>rfl
 |a::l,h=>by
  have h:sel (kV a) (flatAll l) false=true:=h
  rw [aG] at h
  split at h
  ·rename_i h1
   show sel _ (qO l) false=true
   rw [DW l h]
   cases a <;> first|rfl|cases h1
  ·cases h
theorem KL {α:Type}(l:List α):aA (aQ l) l=l:=by
 rw [qj,aU,List.take_length]
theorem A8 {cs:List Value}{i x:Nat}(h:cs[i]? = some (qb8 x)):ay cs i=x:=by
 rw [←jc] at h
 exact congrArg (fun o:Option Value=>(match o with|some (.int _ (.ofNat z))=>z|_=>0)) h
theorem Gy (cs:List Value)(a i:Nat):ay (cs.drop a) i=ay cs (a+i):=by
 have h:nth (cs.drop a) i=nth cs (a+i):=by rw [jc,jc,List.getElem?_drop]
 exact congrArg (fun o:Option Value=>(match o with|some (.int _ (.ofNat z))=>z|_=>0)) h
def isB (v:Value):Bool:=
 match v with
 |.int k (.ofNat n)=>iy .u8 k&&ltN n 256
 |_=>false
def allB:List Value→Bool:=fun l=>List.rec true (fun v _ ih=>sel (isB v) ih false) l
theorem abU {v:Value}(h:isB v=true):∃ x,v=qb8 x∧x<256:=by
 unfold isB at h
 split at h
 ·rename_i k n
  simp only [qad] at h
  have h1:=lQ h.1
  subst h1
  exact ⟨n,rfl,bF h.2⟩
 ·cases h
theorem UJ:∀ {cs:List Value} {i:Nat},allB cs=true→i<cs.length→∃ x,cs[i]? = some (qb8 x)∧x<256
 |[],i,_,h=>by simp at h
 |v::cs,0,hb,_=>by
  obtain ⟨h1,_⟩:=dn (show sel (isB v) (allB cs) false=true from hb)
  obtain ⟨x,rfl,hx⟩:=abU h1
  exact ⟨x,rfl,hx⟩
 |v::cs,i+1,hb,h=>by
  obtain ⟨_,h2⟩:=dn (show sel (isB v) (allB cs) false=true from hb)
  obtain ⟨x,hx,hlt⟩:=UJ (cs:=cs) (i:=i) h2 (by simpa using h)
  exact ⟨x,by simpa using hx,hlt⟩
theorem Ia:∀ {cs:List Value},allB cs=true→fZ cs=true
 |[],_=>rfl
 |v::cs,h=>by
  obtain ⟨h1,h2⟩:=dn (show sel (isB v) (allB cs) false=true from h)
  obtain ⟨x,rfl,_⟩:=abU h1
  show sel true (fZ cs) false=true
  rw [aN]
  exact Ia h2
theorem qp:∀ {a b:List Value},allB a=true→allB b=true→allB (a++b)=true
 |[],b,_,hb=>hb
 |v::a,b,h,hb=>by
  obtain ⟨h1,h2⟩:=dn (show sel (isB v) (allB a) false=true from h)
  show sel (isB v) (allB (a++b)) false=true
  rw [h1,qp h2 hb]
  rfl
theorem xG:∀ {cs:List Value} (n:Nat),allB cs=true→allB (cs.drop n)=true
 |[],n,_=>by rw [List.drop_nil];rfl
 |v::cs,0,h=>h
 |v::cs,n+1,h=>by
  obtain ⟨_,h2⟩:=dn (show sel (isB v) (allB cs) false=true from h)
  exact xG n h2
theorem ab6 {x:Nat}(h:x<256):isB (qb8 x)=true:=by
 show (true&&ltN x 256)=true
 rw [qah]
 exact qap h
theorem PS:∀ k n,allB (oK k n)=true
 |0,n=>by
  show sel (isB (qb8 (n%256))) true false=true
  rw [ab6 (qaI _ (by omega))]
  rfl
 |k+1,n=>by
  rw [dw]
  split
  ·show sel (isB (qb8 (n%128+128))) (allB (oK k (n/128))) false=true
   rw [ab6 (by omega),PS k]
   rfl
  ·show sel (isB (qb8 (n%256))) true false=true
   rw [ab6 (qaI _ (by omega))]
   rfl
theorem nY (n:Nat):allB (Fn.eu n)=true:=PS 9 n
theorem yw {k x:Nat}(h:x<128):oK k x=[qb8 x]:=by
 have e:x%256=x:=qaq (by omega)
 cases k with
 |zero=>
  show [qb8 (x%256)]=_
  rw [e]
 |succ k=>rw [dw,if_neg (by omega),e]
theorem asW (j:Nat):128 ^ j=2 ^ (7*j):=by
 have e:(128:Nat)=2 ^ 7:=by decide
 rw [e,←Nat.pow_mul]
theorem PN {A d j:Nat}(hA:A<128 ^ j):A ||| (d*128 ^ j)=A+d*128 ^ j:=by
 rw [asW] at hA ⊢
 rw [Nat.or_comm,qaG d,←Nat.two_pow_add_eq_or_of_lt hA,Nat.add_comm]
theorem Rn {d j:Nat}(hd:d<128)(hj:j≤8):d*128 ^ j<18446744073709551616:=by
 have h1:128 ^ j≤128 ^ 8:=qat (by omega) hj
 have h2:d*128 ^ j≤127*128 ^ 8:=Nat.mul_le_mul (by omega) h1
 exact Nat.lt_of_le_of_lt h2 (by decide)
theorem PV {cs:List Value}{i j x:Nat}(h:ay cs i=x)(hb:x%128*128 ^ j<18446744073709551616):Fn.dig cs i j=x%128*128 ^ j:=by
 unfold Fn.dig
 rw [h,qaq hb]
theorem BI {cs:List Value}{o j A:Nat}(h0:j=0→A=0)(h1:∀ i,j=i+1→Fn.acc cs o i=A):Fn.acc cs o j=A ||| Fn.dig cs (o+j) j:=by
 cases j with
 |zero=>rw [h0 rfl,qam,Fn.gJ]
 |succ i=>rw [Fn.gQ,h1 i rfl]
theorem ou (cs:List Value)(o n k j:Nat):kJ cs o n (k+1) j=if o+j<n then (if (j=9∧1<ay cs (o+j))∨(0<j∧ay cs (o+j)=0) then (0,0,5) else if ay cs (o+j)<128 then (Fn.acc cs o j,j+1,0) else kJ cs o n k (j+1)) else (0,0,6):=rfl
theorem drop_cons {cs post:List Value}{i:Nat}{v:Value}(h:cs.drop i=v::post):i<cs.length∧cs[i]? = some v∧cs.drop (i+1)=post:=by
 have hlt:i<cs.length:=by
  rcases Nat.lt_or_ge i cs.length with h1|h1
  ·exact h1
  ·rw [List.drop_eq_nil_of_le h1] at h;cases h
 rw [qav hlt] at h
 injection h with h1 h2
 exact ⟨hlt,by rw [qax hlt,h1],h2⟩
theorem amB {A d j:Nat}(hA:A<128 ^ j)(hd:d<128):A+d*128 ^ j<128 ^ (j+1):=by
 rw [qay,qaG (128 ^ j) 128]
 have h3:(d+1)*128 ^ j≤128*128 ^ j:=Nat.mul_le_mul_right _ (by omega)
 rw [qaL,Nat.one_mul] at h3
 exact Nat.lt_of_lt_of_le (by omega) h3
theorem abN:∀ (k m:Nat) {cs post:List Value} {o j A:Nat},k+j=9→m<128 ^ k*2→(0<j→0<m)→A<128 ^ j→(j=0→A=0)→(∀ i,j=i+1→Fn.acc cs o i=A)→cs.drop (o+j)=oK k m++post→
  kJ cs o cs.length (k+1) j=(A+m*128 ^ j,j+(oK k m).length,0)
 |0,m,cs,post,o,j,A,hk,hm,hp,hA,h0,h1,hd=>by
  have hj:j=9:=by omega
  subst hj
  have hm1:m=1:=by
   have:=hp (by omega)
   simp at hm
   omega
  subst hm1
  obtain ⟨hlt,hx,_⟩:=drop_cons (show cs.drop (o+9)=qb8 1::post from hd)
  have hn:=A8 hx
  rw [ou,if_pos hlt,hn,if_neg (by omega),if_pos (by omega),BI h0 h1,PV (j:=9) hn (by decide),PN hA]
  rfl
 |k+1,m,cs,post,o,j,A,hk,hm,hp,hA,h0,h1,hd=>by
  have hj:j≤8:=by omega
  rw [dw] at hd ⊢
  by_cases hge:128≤m
  ·rw [if_pos hge] at hd ⊢
   obtain ⟨hlt,hx,hd'⟩:=drop_cons (show cs.drop (o+j)=qb8 (m%128+128)::(oK k (m/128)++post) from hd)
   have hn:=A8 hx
   have hmod:m%128<128:=qaI _ (by omega)
   have hacc:Fn.acc cs o j=A+m%128*128 ^ j:=by
    have e:(m%128+128)%128=m%128:=by omega
    rw [BI h0 h1,PV (j:=j) hn (by rw [e];exact Rn hmod hj),e,PN hA]
   have hq:m/128<128 ^ k*2:=by
    rw [qay] at hm
    exact qaH (by omega)
   have ih:=abN k (m/128) (cs:=cs) (post:=post) (o:=o) (j:=j+1) (A:=A+m%128*128 ^ j) (by omega) hq (fun _=>by omega) (amB hA hmod) (fun h=>by omega)
    (fun i hi=>by obtain rfl:i=j:=by omega
                  exact hacc) hd'
   have hf:A+m%128*128 ^ j+m/128*128 ^ (j+1)=A+m*128 ^ j:=by
    have hm':m/128*128+m%128=m:=by omega
    have h4:m*128 ^ j=(m/128*128+m%128)*128 ^ j:=by rw [hm']
    rw [h4,qaL,qay,Nat.mul_assoc,qaG 128 (128 ^ j)]
    omega
   have hl:j+1+(oK k (m/128)).length=j+(qb8 (m%128+128)::oK k (m/128)).length:=by
    rw [qaC];omega
   rw [ou,if_pos hlt,hn,if_neg (by omega),if_neg (by omega),ih,hf,hl]
  ·rw [if_neg hge] at hd ⊢
   have e:m%256=m:=qaq (by omega)
   have e2:m%128=m:=qaq (by omega)
   rw [e] at hd ⊢
   obtain ⟨hlt,hx,_⟩:=drop_cons (show cs.drop (o+j)=qb8 m::post from hd)
   have hn:=A8 hx
   rw [ou,if_pos hlt,hn,if_neg (by omega),if_pos (by omega),BI h0 h1,PV (j:=j) hn (by rw [e2];exact Rn (by omega) hj),e2,PN hA]
   rfl
theorem ap0 {v:Nat}(hv:v<18446744073709551616){cs post:List Value}{o:Nat}(hd:cs.drop o=Fn.eu v++post):kJ cs o cs.length 10 0=(v,(Fn.eu v).length,0):=by
 have h:=abN 9 v (cs:=cs) (post:=post) (o:=o) (j:=0) (A:=0) rfl (by show v<18446744073709551616;exact hv) (fun h=>by omega) (by decide) (fun _=>rfl) (fun i hi=>by omega) hd
 rw [h]
 show (0+v*1,0+(Fn.eu v).length,0)=_
 rw [qaj,qaf,qaf]
theorem af4:∀ (k:Nat) {cs:List Value} {o j A v c:Nat},k+j=9→allB cs=true→A<128 ^ j→(j=0→A=0)→(∀ i,j=i+1→Fn.acc cs o i=A)→kJ cs o cs.length (k+1) j=(v,c,0)→
  ∃ m,v=A+m*128 ^ j∧c=j+(oK k m).length∧(cs.drop (o+j)).take (oK k m).length=oK k m∧(0<j→0<m)∧m<128 ^ k*2∧o+c≤cs.length:=by
 intro k
 induction k with
 |zero=>
  intro cs o j A v c hk hb hA h0 h1 h
  obtain rfl:j=9:=by omega
  rw [ou] at h
  split at h
  ·rename_i hlt
   obtain ⟨x,hx,_⟩:=UJ hb hlt
   have hn:=A8 hx
   rw [hn] at h
   split at h
   ·simp at h
   ·rename_i hc
    have hx1:x=1:=by omega
    subst hx1
    have hdrop:cs.drop (o+9)=qb8 1::cs.drop (o+9+1):=by
     rw [qav hlt]
     congr 1
     have:=qax hlt
     rw [hx] at this
     exact (Option.some.inj this).symm
    rw [if_pos (by omega)] at h
    cases h
    refine ⟨1,?_,rfl,?_,fun _=>by omega,by decide,by omega⟩
    ·rw [BI h0 h1,PV (j:=9) hn (by decide),PN hA]
    ·rw [hdrop];rfl
  ·simp at h
 |succ k ih=>
  intro cs o j A v c hk hb hA h0 h1 h
  have hj:j≤8:=by omega
  rw [ou] at h
  split at h
  ·rename_i hlt
   obtain ⟨x,hx,hx256⟩:=UJ hb hlt
   have hn:=A8 hx
   have hdrop:cs.drop (o+j)=qb8 x::cs.drop (o+j+1):=by
    rw [qav hlt]
    congr 1
    have:=qax hlt
    rw [hx] at this
    exact (Option.some.inj this).symm
   rw [hn] at h
   split at h
   ·simp at h
   ·rename_i hc
    split at h
    ·rename_i hs
     cases h
     have e1:x%128=x:=qaq hs
     refine ⟨x,?_,?_,?_,fun _=>by omega,?_,by omega⟩
     ·rw [BI h0 h1,PV (j:=j) hn (by rw [e1];exact Rn hs hj),e1,PN hA]
     ·rw [yw hs];rfl
     ·rw [yw hs,hdrop];rfl
     ·have:128 ^ 1≤128 ^ (k+1):=qat (by omega) (by omega)
      omega
    ·rename_i hs
     have hy:x-128<128:=by omega
     have hacc:Fn.acc cs o j=A+(x-128)*128 ^ j:=by
      have e:x%128=x-128:=by omega
      rw [BI h0 h1,PV (j:=j) hn (by rw [e];exact Rn hy hj),e,PN hA]
     obtain ⟨m,g1,g2,g3,g4,g5,g6⟩:=ih (by omega) hb (amB hA hy) (fun h=>by omega) (fun i hi=>by
      obtain rfl:i=j:=by omega
      exact hacc) h
     have hm:=g4 (by omega)
     have hp:oK (k+1) (m*128+(x-128))=qb8 x::oK k m:=by
      rw [dw,if_pos (by omega)]
      have a1:(m*128+(x-128))%128+128=x:=by omega
      have a2:(m*128+(x-128))/128=m:=by omega
      rw [a1,a2]
     refine ⟨m*128+(x-128),?_,?_,?_,fun _=>by omega,?_,g6⟩
     ·rw [g1,qay,qaL,Nat.mul_assoc,qaG 128 (128 ^ j)]
      omega
     ·rw [hp,g2,qaC];omega
     ·have g3':(cs.drop (o+j+1)).take (oK k m).length=oK k m:=g3
      rw [hp,hdrop,qaC,List.take_succ_cons,g3']
     ·rw [qay];omega
  ·simp at h
theorem SY {cs:List Value}{o v c:Nat}(hb:allB cs=true)(h:kJ cs o cs.length 10 0=(v,c,0)) :
  v<18446744073709551616∧c=(Fn.eu v).length∧(cs.drop o).take c=Fn.eu v∧o+c≤cs.length:=by
 obtain ⟨m,g1,g2,g3,_,g5,g6⟩:=af4 9 (j:=0) (A:=0) rfl hb (by decide) (fun _=>rfl) (fun i hi=>by omega) h
 have e:v=m:=by
  have g1:v=0+m*1:=g1
  omega
 subst e
 have g2:c=(Fn.eu v).length:=by
  have g2:c=0+(Fn.eu v).length:=g2
  omega
 refine ⟨by show v<128 ^ 9*2;exact g5,g2,?_,g6⟩
 rw [g2]
 exact g3
theorem aci (cs:List Value)(a:Nat):∀ j,Fn.acc (cs.drop a) 0 j=Fn.acc cs a j
 |0=>by
  rw [Fn.gJ,Fn.gJ]
  unfold Fn.dig
  rw [Gy]
 |j+1=>by
  rw [Fn.gQ,Fn.gQ,aci cs a j]
  unfold Fn.dig
  rw [Gy,qaf]
theorem Yr (cs:List Value)(a n:Nat):∀ k j,kJ (cs.drop a) 0 (n-a) k j=kJ cs a n k j
 |0,j=>rfl
 |k+1,j=>by
  rw [ou,ou,Yr cs a n k (j+1),Gy,aci,qaf]
  by_cases h:a+j<n
  ·rw [if_pos h,if_pos (show j<n-a by omega)]
  ·rw [if_neg h,if_neg (show ¬j<n-a by omega)]
def rdN (cs:List Value)(lo hi:Nat)(p:Nat × Nat):Nat × (Nat × Nat):=
 if p.2≠0 then (0,p)
 else if (kJ cs p.1 cs.length 10 0).2.2≠0 then (0,(p.1,(kJ cs p.1 cs.length 10 0).2.2))
 else if (kJ cs p.1 cs.length 10 0).1<lo∨hi<(kJ cs p.1 cs.length 10 0).1 then (0,(p.1,3))
 else ((kJ cs p.1 cs.length 10 0).1,(p.1+(kJ cs p.1 cs.length 10 0).2.1,0))
def sJ (cs:List Value):List (Nat × Nat)→(Nat × Nat)→List Nat × (Nat × Nat)
 |[],p=>([],p)
 |b::l,p=>((rdN cs b.1 b.2 p).1::(sJ cs l (rdN cs b.1 b.2 p).2).1,(sJ cs l (rdN cs b.1 b.2 p).2).2)
def Fits:List (Nat × Nat)→List Nat→Prop
 |[],[]=>True
 |b::l,v::vs=>b.1≤v∧v≤b.2∧v<18446744073709551616∧Fits l vs
 |_,_=>False
def iD:List Nat→List Value
 |[]=>[]
 |v::vs=>Fn.eu v++iD vs
theorem mV:∀ vs,allB (iD vs)=true
 |[]=>rfl
 |v::vs=>qp (nY v) (mV vs)
theorem Vl:∀ a b,iD (a++b)=iD a++iD b
 |[],b=>rfl
 |v::a,b=>by
  show Fn.eu v++iD (a++b)=(Fn.eu v++iD a)++iD b
  rw [Vl a b,qaw]
theorem Lh {cs post:List Value}{lo hi v a:Nat}(h1:lo≤v)(h2:v≤hi)(h3:v<18446744073709551616)(hd:cs.drop a=Fn.eu v++post) :
  rdN cs lo hi (a,0)=(v,(a+(Fn.eu v).length,0)):=by
 unfold rdN
 have h:=ap0 h3 hd
 show (if (0:Nat)≠0 then _ else if (kJ cs a cs.length 10 0).2.2≠0 then _ else if (kJ cs a cs.length 10 0).1<lo∨hi<(kJ cs a cs.length 10 0).1 then _ else ((kJ cs a cs.length 10 0).1,(a+(kJ cs a cs.length 10 0).2.1,0)))=_
 rw [h,if_neg (by omega),if_neg (by simp),if_neg (by show ¬(v<lo∨hi<v);omega)]
theorem FZ {cs post:List Value}{a:Nat}{l:List Value}(hd:cs.drop a=l++post):cs.drop (a+l.length)=post:=by
 rw [←qaN,hd,List.drop_left]
theorem Ri:∀ {l:List (Nat × Nat)} {vs:List Nat} {cs post:List Value} {a:Nat},Fits l vs→cs.drop a=iD vs++post→sJ cs l (a,0)=(vs,(a+(iD vs).length,0))
 |[],[],cs,post,a,_,_=>rfl
 |b::l,v::vs,cs,post,a,h,hd=>by
  obtain ⟨h1,h2,h3,h4⟩:=h
  have hd:cs.drop a=Fn.eu v++(iD vs++post):=by
   rw [hd]
   show (Fn.eu v++iD vs)++post=_
   rw [qaw]
  have e1:=Lh h1 h2 h3 hd
  have e2:=Ri h4 (FZ hd)
  have e3:(iD (v::vs)).length=(Fn.eu v).length+(iD vs).length:=by
   show (Fn.eu v++iD vs).length=_
   rw [qaB]
  unfold sJ
  rw [e1]
  show (v::(sJ cs l (a+(Fn.eu v).length,0)).1,(sJ cs l (a+(Fn.eu v).length,0)).2)=_
  rw [e2,e3,←Nat.add_assoc]
 |[],_::_,_,_,_,h,_=>h.elim
 |_::_,[],_,_,_,h,_=>h.elim
theorem apo {cs:List Value}{lo hi:Nat}{p:Nat × Nat}(h:p.2≠0):rdN cs lo hi p=(0,p):=by
 unfold rdN
 rw [if_pos h]
theorem Fp {cs:List Value}:∀ {l:List (Nat × Nat)} {p:Nat × Nat},p.2≠0→(sJ cs l p).2=p
 |[],p,h=>rfl
 |b::l,p,h=>by
  unfold sJ
  rw [apo h]
  exact Fp h
theorem xX {cs:List Value}{lo hi v a a':Nat}(hb:allB cs=true)(h:rdN cs lo hi (a,0)=(v,(a',0))) :
  lo≤v∧v≤hi∧v<18446744073709551616∧cs.drop a=Fn.eu v++cs.drop a'∧a'≤cs.length∧a'=a+(Fn.eu v).length:=by
 unfold rdN at h
 rw [if_neg (by show ¬(0:Nat)≠0;omega)] at h
 by_cases he:(kJ cs a cs.length 10 0).2.2=0
 ·have h:(if (kJ cs a cs.length 10 0).2.2≠0 then (0,(a,(kJ cs a cs.length 10 0).2.2)) else if (kJ cs a cs.length 10 0).1<lo∨hi<(kJ cs a cs.length 10 0).1 then (0,(a,3)) else ((kJ cs a cs.length 10 0).1,(a+(kJ cs a cs.length 10 0).2.1,0)))=(v,(a',0)):=h
  rw [if_neg (by omega)] at h
  split at h
  ·simp at h
  ·rename_i hr
   have hn:kJ cs a cs.length 10 0=((kJ cs a cs.length 10 0).1,(kJ cs a cs.length 10 0).2.1,0):=by
    conv=>lhs;rw [show kJ cs a cs.length 10 0=((kJ cs a cs.length 10 0).1,(kJ cs a cs.length 10 0).2.1,(kJ cs a cs.length 10 0).2.2) from rfl,he]
   obtain ⟨g1,g2,g3,g4⟩:=SY hb hn
   have e1:(kJ cs a cs.length 10 0).1=v:=congrArg (fun q=>q.1) h
   have e2:a+(kJ cs a cs.length 10 0).2.1=a':=congrArg (fun q=>q.2.1) h
   rw [e1] at g1 g2 g3 hr
   refine ⟨by omega,by omega,g1,?_,by omega,by omega⟩
   rw [←e2,←g3,←qaN]
   exact (List.take_append_drop _ _).symm
 ·have h:(if (kJ cs a cs.length 10 0).2.2≠0 then (0,(a,(kJ cs a cs.length 10 0).2.2)) else if (kJ cs a cs.length 10 0).1<lo∨hi<(kJ cs a cs.length 10 0).1 then (0,(a,3)) else ((kJ cs a cs.length 10 0).1,(a+(kJ cs a cs.length 10 0).2.1,0)))=(v,(a',0)):=h
  rw [if_pos he] at h
  have e:(kJ cs a cs.length 10 0).2.2=0:=congrArg (fun q=>q.2.2) h
  exact absurd e he
theorem Oo:∀ {l:List (Nat × Nat)} {vs:List Nat} {cs:List Value} {a a':Nat},allB cs=true→a≤cs.length→sJ cs l (a,0)=(vs,(a',0))→Fits l vs∧cs.drop a=iD vs++cs.drop a'∧a'≤cs.length
 |[],vs,cs,a,a',hb,ha,h=>by
  unfold sJ at h
  cases h
  exact ⟨trivial,rfl,ha⟩
 |b::l,vs,cs,a,a',hb,ha,h=>by
  unfold sJ at h
  have h1:(rdN cs b.1 b.2 (a,0)).1::(sJ cs l (rdN cs b.1 b.2 (a,0)).2).1=vs:=congrArg (fun q=>q.1) h
  have h2:(sJ cs l (rdN cs b.1 b.2 (a,0)).2).2=(a',0):=congrArg (fun q=>q.2) h
  by_cases he:(rdN cs b.1 b.2 (a,0)).2.2=0
  ·have e:rdN cs b.1 b.2 (a,0)=((rdN cs b.1 b.2 (a,0)).1,((rdN cs b.1 b.2 (a,0)).2.1,0)):=by
    conv=>lhs;rw [show rdN cs b.1 b.2 (a,0)=((rdN cs b.1 b.2 (a,0)).1,((rdN cs b.1 b.2 (a,0)).2.1,(rdN cs b.1 b.2 (a,0)).2.2)) from rfl,he]
   obtain ⟨g1,g2,g3,g4,g5,g6⟩:=xX hb e
   have e2:(rdN cs b.1 b.2 (a,0)).2=((rdN cs b.1 b.2 (a,0)).2.1,0):=congrArg (fun q=>q.2) e
   rw [e2] at h1 h2
   have e3:sJ cs l ((rdN cs b.1 b.2 (a,0)).2.1,0)=((sJ cs l ((rdN cs b.1 b.2 (a,0)).2.1,0)).1,(a',0)):=by rw [←h2]
   obtain ⟨f1,f2,f3⟩:=Oo hb g5 e3
   subst h1
   refine ⟨⟨g1,g2,g3,f1⟩,?_,f3⟩
   rw [g4,f2]
   show _=(Fn.eu _++iD _)++_
   rw [qaw]
  ·have:=Fp (cs:=cs) (l:=l) he
   rw [this] at h2
   have h3:(rdN cs b.1 b.2 (a,0)).2.2=0:=congrArg (fun q=>q.2) h2
   exact absurd h3 he
def ND (cs:List Value)(p:Nat × Nat):Nat × Nat:=if p.2≠0 then (p.2,p.1) else if p.1<cs.length then (4,p.1) else (0,0)
def qBs:Nat→List (Nat × Nat)
 |1=>[(0,63)]
 |2=>[(0,63)]
 |3=>[(0,63)]
 |4=>[(0,31)]
 |5=>[(0,31),(1,4294967296)]
 |6=>[(0,31),(1,2),(1,4294967296)]
 |7=>[(0,31)]
 |_=>[]
def qOf:Nat→List Nat→Nat × Nat × Nat × Nat
 |1,[a]=>(a,0,0,0)
 |2,[a]=>(a,0,0,0)
 |3,[a]=>(a,0,0,0)
 |4,[v]=>(0,v,0,0)
 |5,[v,h]=>(0,v,0,h)
 |6,[v,c,h]=>(0,v,c,h)
 |7,[v]=>(0,v,0,0)
 |_,_=>(0,0,0,0)
namespace Fn
def qE (k a v c h:Int):Nat:=
 if k=1∨k=2∨k=3 then (if a<0∨63<a then 3 else if v≠0∨c≠0∨h≠0 then 2 else 0)
 else if k=4∨k=7 then (if v<0∨31<v then 3 else if a≠0∨c≠0∨h≠0 then 2 else 0)
 else if k=5 then (if v<0∨31<v∨h<1∨4294967296<h then 3 else if a≠0∨c≠0 then 2 else 0)
 else if k=6 then (if v<0∨31<v∨c<1∨2<c∨h<1∨4294967296<h then 3 else if a≠0 then 2 else 0)
 else if k=8∨k=9∨k=10 then (if a≠0∨v≠0∨c≠0∨h≠0 then 2 else 0)
 else 5
end Fn
def qVs (k a v c h:Int):List Nat:=
 if k=1∨k=2∨k=3 then [a.toNat] else if k=4∨k=7 then [v.toNat] else if k=5 then [v.toNat,h.toNat] else if k=6 then [v.toNat,c.toNat,h.toNat] else []
namespace Fn
def qL (k a v c h:Int):List Value:=iD (k.toNat::qVs k a v c h)
def qK (cs:List Value):Nat × (Nat × Nat):=rdN cs 1 10 (0,0)
def qF (cs:List Value):List Nat × (Nat × Nat):=sJ cs (qBs (qK cs).1) (qK cs).2
def qT (cs:List Value):Nat × Nat:=ND cs (qF cs).2
def qQ (cs:List Value):Nat × Nat × Nat × Nat × Nat:=if (qT cs).1=0 then ((qK cs).1,qOf (qK cs).1 (qF cs).1) else (0,0,0,0,0)
end Fn
theorem abE {cs:List Value}{p:Nat × Nat}(hp:p.2=0→p.1≤cs.length):(ND cs p).1=0↔p=(cs.length,0):=by
 obtain ⟨a,e⟩:=p
 unfold ND
 by_cases he:e=0
 ·subst he
  rw [if_neg (by show ¬(0:Nat)≠0;omega)]
  have hp:a≤cs.length:=hp rfl
  split
  ·rename_i hlt
   have hlt:a<cs.length:=hlt
   constructor
   ·intro h;have h:(4:Nat)=0:=h;omega
   ·intro h
    have:a=cs.length:=congrArg (fun q=>q.1) h
    omega
  ·rename_i hlt
   have hlt:¬a<cs.length:=hlt
   constructor
   ·intro _
    have:a=cs.length:=by omega
    rw [this]
   ·intro _;rfl
 ·rw [if_pos (show (a,e).2≠0 from he)]
  constructor
  ·intro h;exact absurd h he
  ·intro h
   exact absurd (congrArg (fun q=>q.2) h) he
theorem avi {k a v c h:Int}(he:Fn.qE k a v c h=0):∃ kn:Nat,k=qaa kn∧1≤kn∧kn≤10∧Fits (qBs kn) (qVs k a v c h)∧qOf kn (qVs k a v c h)=(a.toNat,v.toNat,c.toNat,h.toNat)∧0≤a∧0≤v∧0≤c∧0≤h:=by
 unfold Fn.qE at he
 unfold qVs
 split at he
 ·rename_i hk
  split at he
  ·cases he
  ·split at he
   ·cases he
   ·rename_i h1 h2
    rw [if_pos hk]
    have:v=0∧c=0∧h=0:=by omega
    obtain ⟨rfl,rfl,rfl⟩:=this
    have hf:Fits [(0,63)] [a.toNat]:=⟨by omega,by show a.toNat≤63;omega,by omega,trivial⟩
    rcases hk with rfl|rfl|rfl
    ·exact ⟨1,rfl,by omega,by omega,hf,rfl,by omega,by omega,by omega,by omega⟩
    ·exact ⟨2,rfl,by omega,by omega,hf,rfl,by omega,by omega,by omega,by omega⟩
    ·exact ⟨3,rfl,by omega,by omega,hf,rfl,by omega,by omega,by omega,by omega⟩
 ·rename_i hk0
  rw [if_neg hk0]
  split at he
  ·rename_i hk
   split at he
   ·cases he
   ·split at he
    ·cases he
    ·rename_i h1 h2
     rw [if_pos hk]
     have:a=0∧c=0∧h=0:=by omega
     obtain ⟨rfl,rfl,rfl⟩:=this
     have hf:Fits [(0,31)] [v.toNat]:=⟨by omega,by show v.toNat≤31;omega,by omega,trivial⟩
     rcases hk with rfl|rfl
     ·exact ⟨4,rfl,by omega,by omega,hf,rfl,by omega,by omega,by omega,by omega⟩
     ·exact ⟨7,rfl,by omega,by omega,hf,rfl,by omega,by omega,by omega,by omega⟩
  ·rename_i hk1
   rw [if_neg hk1]
   split at he
   ·rename_i hk
    subst hk
    split at he
    ·cases he
    ·split at he
     ·cases he
     ·rename_i h1 h2
      rw [if_pos rfl]
      have:a=0∧c=0:=by omega
      obtain ⟨rfl,rfl⟩:=this
      have hf:Fits [(0,31),(1,4294967296)] [v.toNat,h.toNat]:=⟨by omega,by show v.toNat≤31;omega,by omega,by show 1≤h.toNat;omega,by show h.toNat≤4294967296;omega,by omega,trivial⟩
      exact ⟨5,rfl,by omega,by omega,hf,rfl,by omega,by omega,by omega,by omega⟩
   ·rename_i hk2
    rw [if_neg hk2]
    split at he
    ·rename_i hk
     subst hk
     split at he
     ·cases he
     ·split at he
      ·cases he
      ·rename_i h1 h2
       rw [if_pos rfl]
       have:a=0:=by omega
       subst this
       have hf:Fits [(0,31),(1,2),(1,4294967296)] [v.toNat,c.toNat,h.toNat]:=
        ⟨by omega,by show v.toNat≤31;omega,by omega,by show 1≤c.toNat;omega,by show c.toNat≤2;omega,by omega,by show 1≤h.toNat;omega,by show h.toNat≤4294967296;omega,by omega,trivial⟩
       exact ⟨6,rfl,by omega,by omega,hf,rfl,by omega,by omega,by omega,by omega⟩
    ·rename_i hk3
     rw [if_neg hk3]
     split at he
     ·rename_i hk
      split at he
      ·cases he
      ·rename_i h1
       have:a=0∧v=0∧c=0∧h=0:=by omega
       obtain ⟨rfl,rfl,rfl,rfl⟩:=this
       rcases hk with rfl|rfl|rfl
       ·exact ⟨8,rfl,by omega,by omega,trivial,rfl,by omega,by omega,by omega,by omega⟩
       ·exact ⟨9,rfl,by omega,by omega,trivial,rfl,by omega,by omega,by omega,by omega⟩
       ·exact ⟨10,rfl,by omega,by omega,trivial,rfl,by omega,by omega,by omega,by omega⟩
     ·cases he
theorem ado {k a v c h:Int}(he:Fn.qE k a v c h=0) :
  Fn.qT (Fn.qL k a v c h)=(0,0)∧Fn.qQ (Fn.qL k a v c h)=(k.toNat,a.toNat,v.toNat,c.toNat,h.toNat)∧0≤k∧0≤a∧0≤v∧0≤c∧0≤h:=by
 obtain ⟨kn,rfl,h1,h2,h3,h4,h5,h6,h7,h8⟩:=avi he
 have ek:(qaa kn).toNat=kn:=rfl
 generalize hvs:qVs (qaa kn) a v c h=vs at h3 h4
 have hL:Fn.qL (qaa kn) a v c h=Fn.eu kn++iD vs:=by
  unfold Fn.qL
  rw [hvs,ek]
  rfl
 generalize Fn.qL (qaa kn) a v c h=cs at hL
 have hK:Fn.qK cs=(kn,(0+(Fn.eu kn).length,0)):=by
  unfold Fn.qK
  exact Lh (post:=iD vs) h1 h2 (by omega) (by rw [qau,hL])
 have hF:Fn.qF cs=(vs,(0+(Fn.eu kn).length+(iD vs).length,0)):=by
  unfold Fn.qF
  rw [hK]
  refine Ri (post:=[]) h3 ?_
  rw [qas]
  exact FZ (a:=0) (by rw [qau,hL])
 have hlen:cs.length=(Fn.eu kn).length+(iD vs).length:=by rw [hL,qaB]
 have hT:Fn.qT cs=(0,0):=by
  unfold Fn.qT
  rw [hF]
  unfold ND
  rw [if_neg (by show ¬(0:Nat)≠0;omega),if_neg (by show ¬(0+(Fn.eu kn).length+(iD vs).length<cs.length);omega)]
 refine ⟨hT,?_,by show (0:Int)≤qaa kn;simp only [qab];omega,h5,h6,h7,h8⟩
 unfold Fn.qQ
 rw [hT,if_pos rfl,hK,hF,ek]
 show (kn,qOf kn vs)=_
 rw [h4]
theorem aq5 {cs:List Value}(hb:allB cs=true):(Fn.qF cs).2.2=0→(Fn.qF cs).2.1≤cs.length∧1≤(Fn.qK cs).1∧(Fn.qK cs).1≤10∧Fits (qBs (Fn.qK cs).1) (Fn.qF cs).1∧cs=Fn.eu (Fn.qK cs).1++(iD (Fn.qF cs).1++cs.drop (Fn.qF cs).2.1):=by
 intro he
 have hk:(Fn.qK cs).2.2=0:=by
  rcases qaD (Fn.qK cs).2.2 with h|h
  ·exact h
  ·have:=Fp (cs:=cs) (l:=qBs (Fn.qK cs).1) (p:=(Fn.qK cs).2) (by omega)
   have e:(Fn.qF cs).2=(Fn.qK cs).2:=this
   rw [e] at he
   omega
 have e1:rdN cs 1 10 (0,0)=((Fn.qK cs).1,((Fn.qK cs).2.1,0)):=by
  conv=>rhs;rw [←hk]
  rfl
 obtain ⟨g1,g2,g3,g4,g5,g6⟩:=xX hb e1
 have e0:(Fn.qK cs).2=((Fn.qK cs).2.1,0):=by conv=>rhs;rw [←hk]
 have e2:sJ cs (qBs (Fn.qK cs).1) ((Fn.qK cs).2.1,0)=((Fn.qF cs).1,((Fn.qF cs).2.1,0)):=by
  rw [←e0]
  conv=>rhs;rw [←he]
  rfl
 obtain ⟨f1,f2,f3⟩:=Oo hb g5 e2
 refine ⟨f3,g1,g2,f1,?_⟩
 rw [←f2,←g4,qau]
theorem av6 {kn:Nat}(h1:1≤kn)(h2:kn≤10){vs:List Nat}(hf:Fits (qBs kn) vs) :
  Fn.qE (qaa kn) (qaa (qOf kn vs).1) (qaa (qOf kn vs).2.1) (qaa (qOf kn vs).2.2.1) (qaa (qOf kn vs).2.2.2)=0∧
   qVs (qaa kn) (qaa (qOf kn vs).1) (qaa (qOf kn vs).2.1) (qaa (qOf kn vs).2.2.1) (qaa (qOf kn vs).2.2.2)=vs:=by
 have one:∀ {b:Nat × Nat},Fits [b] vs→∃ x,vs=[x]∧b.1≤x∧x≤b.2:=by
  intro b h
  match vs,h with
  |[x],h=>exact ⟨x,rfl,h.1,h.2.1⟩
  |[],h=>exact h.elim
  |_::_::_,h=>exact h.2.2.2.elim
 have two:∀ {b d:Nat × Nat},Fits [b,d] vs→∃ x y,vs=[x,y]∧b.1≤x∧x≤b.2∧d.1≤y∧y≤d.2:=by
  intro b d h
  match vs,h with
  |[x,y],h=>exact ⟨x,y,rfl,h.1,h.2.1,h.2.2.2.1,h.2.2.2.2.1⟩
  |[],h=>exact h.elim
  |[_],h=>exact h.2.2.2.elim
  |_::_::_::_,h=>exact h.2.2.2.2.2.2.elim
 have three:∀ {b d e:Nat × Nat},Fits [b,d,e] vs→∃ x y z,vs=[x,y,z]∧b.1≤x∧x≤b.2∧d.1≤y∧y≤d.2∧e.1≤z∧z≤e.2:=by
  intro b d e h
  match vs,h with
  |[x,y,z],h=>exact ⟨x,y,z,rfl,h.1,h.2.1,h.2.2.2.1,h.2.2.2.2.1,h.2.2.2.2.2.2.1,h.2.2.2.2.2.2.2.1⟩
  |[],h=>exact h.elim
  |[_],h=>exact h.2.2.2.elim
  |[_,_],h=>exact h.2.2.2.2.2.2.elim
  |_::_::_::_::_,h=>exact h.2.2.2.2.2.2.2.2.2.elim
 have nil:Fits [] vs→vs=[]:=by
  intro h
  match vs,h with
  |[],_=>rfl
  |_::_,h=>exact h.elim
 have hcase:kn=1∨kn=2∨kn=3∨kn=4∨kn=5∨kn=6∨kn=7∨kn=8∨kn=9∨kn=10:=by omega
 rcases hcase with rfl|rfl|rfl|rfl|rfl|rfl|rfl|rfl|rfl|rfl
 ·obtain ⟨x,rfl,g1,g2⟩:=one (b:=(0,63)) hf
  have g2:x≤63:=g2
  simp [Fn.qE,qVs,qOf];omega
 ·obtain ⟨x,rfl,g1,g2⟩:=one (b:=(0,63)) hf
  have g2:x≤63:=g2
  simp [Fn.qE,qVs,qOf];omega
 ·obtain ⟨x,rfl,g1,g2⟩:=one (b:=(0,63)) hf
  have g2:x≤63:=g2
  simp [Fn.qE,qVs,qOf];omega
 ·obtain ⟨x,rfl,g1,g2⟩:=one (b:=(0,31)) hf
  have g2:x≤31:=g2
  simp [Fn.qE,qVs,qOf];omega
 ·obtain ⟨x,y,rfl,g1,g2,g3,g4⟩:=two (b:=(0,31)) (d:=(1,4294967296)) hf
  have g2:x≤31:=g2
  have g3:1≤y:=g3
  have g4:y≤4294967296:=g4
  simp [Fn.qE,qVs,qOf];omega
 ·obtain ⟨x,y,z,rfl,g1,g2,g3,g4,g5,g6⟩:=three (b:=(0,31)) (d:=(1,2)) (e:=(1,4294967296)) hf
  have g2:x≤31:=g2
  have g3:1≤y:=g3
  have g4:y≤2:=g4
  have g5:1≤z:=g5
  have g6:z≤4294967296:=g6
  simp [Fn.qE,qVs,qOf];omega
 ·obtain ⟨x,rfl,g1,g2⟩:=one (b:=(0,31)) hf
  have g2:x≤31:=g2
  simp [Fn.qE,qVs,qOf];omega
 ·rw [nil hf];exact ⟨rfl,rfl⟩
 ·rw [nil hf];exact ⟨rfl,rfl⟩
 ·rw [nil hf];exact ⟨rfl,rfl⟩
theorem Zo {cs:List Value}(hb:allB cs=true)(h:(Fn.qT cs).1=0) :
  Fn.qE (qaa (Fn.qQ cs).1) (qaa (Fn.qQ cs).2.1) (qaa (Fn.qQ cs).2.2.1) (qaa (Fn.qQ cs).2.2.2.1) (qaa (Fn.qQ cs).2.2.2.2)=0∧
   Fn.qL (qaa (Fn.qQ cs).1) (qaa (Fn.qQ cs).2.1) (qaa (Fn.qQ cs).2.2.1) (qaa (Fn.qQ cs).2.2.2.1) (qaa (Fn.qQ cs).2.2.2.2)=cs:=by
 have hp:(Fn.qF cs).2=(cs.length,0):=(abE (fun he=>(aq5 hb he).1)).1 h
 have he:(Fn.qF cs).2.2=0:=by rw [hp]
 obtain ⟨_,g1,g2,g3,g4⟩:=aq5 hb he
 have eq:Fn.qQ cs=((Fn.qK cs).1,qOf (Fn.qK cs).1 (Fn.qF cs).1):=by unfold Fn.qQ;rw [if_pos h]
 rw [eq]
 obtain ⟨f1,f2⟩:=av6 g1 g2 g3
 refine ⟨f1,?_⟩
 unfold Fn.qL
 show iD ((qaa (Fn.qK cs).1).toNat::qVs _ _ _ _ _)=cs
 rw [f2]
 show Fn.eu (Fn.qK cs).1++iD (Fn.qF cs).1=cs
 rw [hp] at g4
 have e:cs.drop cs.length=[]:=qaK
 have g4:cs=Fn.eu (Fn.qK cs).1++(iD (Fn.qF cs).1++cs.drop cs.length):=g4
 rw [e,qas] at g4
 exact g4.symm
namespace Fn
def aE (e:Int)(ns:List Nat):Nat:=if e<0∨99<e then 3 else if e≠0∧ns≠[] then 2 else if 100000<ns.length then 4 else 0
def aL (e:Nat)(ns:List Nat):List Value:=iD (e::(if e=0 then ns.length::ns else []))
def gK (cs:List Value):Nat × (Nat × Nat):=rdN cs 0 99 (0,0)
def gN (cs:List Value):Nat × (Nat × Nat):=if (gK cs).2.2≠0∨(gK cs).1≠0 then (0,(gK cs).2) else rdN cs 0 100000 (gK cs).2
def gF (cs:List Value):List Nat × (Nat × Nat):=sJ cs (qaA (gN cs).1 (0,18446744073709551615)) (gN cs).2
def gT (cs:List Value):Nat × Nat:=ND cs (gF cs).2
def vY (cs:List Value):Nat:=if (gT cs).1=0 then (gK cs).1 else 0
def gNs (cs:List Value):List Nat:=if (gT cs).1=0 then (gF cs).1 else []
end Fn
theorem abX:∀ {vs:List Nat},(∀ v∈vs,v<18446744073709551616)→Fits (qaA vs.length (0,18446744073709551615)) vs
 |[],_=>trivial
 |v::vs,h=>by
  have hv:=h v qaE
  exact ⟨Nat.zero_le _,by show v≤18446744073709551615;omega,hv,abX fun u hu=>h u (List.mem_cons_of_mem _ hu)⟩
theorem aa8:∀ {n:Nat} {b:Nat × Nat} {vs:List Nat},Fits (qaA n b) vs→vs.length=n∧∀ v∈vs,v<18446744073709551616
 |0,b,[],_=>⟨rfl,fun v hv=>by cases hv⟩
 |n+1,b,v::vs,h=>by
  obtain ⟨_,_,h3,h4⟩:=(show b.1≤v∧v≤b.2∧v<18446744073709551616∧Fits (qaA n b) vs from h)
  obtain ⟨g1,g2⟩:=aa8 h4
  refine ⟨by rw [qaC,g1],fun u hu=>?_⟩
  rcases List.mem_cons.1 hu with rfl|hu
  ·exact h3
  ·exact g2 u hu
 |0,b,_::_,h=>h.elim
 |n+1,b,[],h=>h.elim
theorem akF {e:Int}{ns:List Nat}(hw:∀ v∈ns,v<18446744073709551616)(h:Fn.aE e ns=0) :
  Fn.gT (Fn.aL e.toNat ns)=(0,0)∧Fn.vY (Fn.aL e.toNat ns)=e.toNat∧Fn.gNs (Fn.aL e.toNat ns)=ns∧0≤e:=by
 unfold Fn.aE at h
 split at h
 ·cases h
 ·rename_i h1
  split at h
  ·cases h
  ·rename_i h2
   split at h
   ·cases h
   ·rename_i h3
    obtain ⟨n,rfl⟩:∃ n:Nat,e=qaa n:=⟨e.toNat,by simp only [qab];omega⟩
    have en:(qaa n).toNat=n:=rfl
    have hn:n≤99:=by simp only [qab] at h1;omega
    rw [en]
    have p:Fn.gT (Fn.aL n ns)=(0,0)∧(Fn.gK (Fn.aL n ns)).1=n∧(Fn.gF (Fn.aL n ns)).1=ns:=by
     by_cases hz:n=0
     ·subst hz
      have hL:Fn.aL 0 ns=Fn.eu 0++(Fn.eu ns.length++iD ns):=rfl
      generalize Fn.aL 0 ns=cs at hL
      have hK:Fn.gK cs=(0,(0+(Fn.eu 0).length,0)):=Lh (post:=Fn.eu ns.length++iD ns) (by omega) (by omega) (by omega) (by rw [qau,hL])
      have hd1:cs.drop (0+(Fn.eu 0).length)=Fn.eu ns.length++iD ns:=FZ (a:=0) (by rw [qau,hL])
      have hN:Fn.gN cs=(ns.length,(0+(Fn.eu 0).length+(Fn.eu ns.length).length,0)):=by
       unfold Fn.gN
       rw [hK,if_neg (by show ¬((0:Nat)≠0∨(0:Nat)≠0);omega)]
       exact Lh (post:=iD ns) (by omega) (by omega) (by omega) hd1
      have hF:Fn.gF cs=(ns,(0+(Fn.eu 0).length+(Fn.eu ns.length).length+(iD ns).length,0)):=by
       unfold Fn.gF
       rw [hN]
       exact Ri (post:=[]) (abX hw) (by rw [qas];exact FZ hd1)
      have hlen:cs.length=(Fn.eu 0).length+((Fn.eu ns.length).length+(iD ns).length):=by rw [hL,qaB,qaB]
      refine ⟨?_,by rw [hK],by rw [hF]⟩
      unfold Fn.gT
      rw [hF]
      unfold ND
      rw [if_neg (by show ¬(0:Nat)≠0;omega),if_neg (by show ¬(0+(Fn.eu 0).length+(Fn.eu ns.length).length+(iD ns).length<cs.length);omega)]
     ·have hns:ns=[]:=by
       by_cases hn0:ns=[]
       ·exact hn0
       ·exact absurd ⟨by simp only [qab];omega,hn0⟩ h2
      subst hns
      have hL:Fn.aL n []=Fn.eu n:=by
       unfold Fn.aL
       rw [if_neg hz]
       show Fn.eu n++[]=_
       rw [qas]
      generalize Fn.aL n []=cs at hL
      have hK:Fn.gK cs=(n,(0+(Fn.eu n).length,0)):=Lh (post:=[]) (by omega) (by omega) (by omega) (by rw [qau,hL,qas])
      have hN:Fn.gN cs=(0,(0+(Fn.eu n).length,0)):=by
       unfold Fn.gN
       rw [hK,if_pos (.inr hz)]
      have hF:Fn.gF cs=([],(0+(Fn.eu n).length,0)):=by
       unfold Fn.gF
       rw [hN]
       rfl
      refine ⟨?_,by rw [hK],by rw [hF]⟩
      unfold Fn.gT
      rw [hF]
      unfold ND
      rw [if_neg (by show ¬(0:Nat)≠0;omega),if_neg (by show ¬(0+(Fn.eu n).length<cs.length);rw [hL];omega)]
    refine ⟨p.1,?_,?_,?_⟩
    ·unfold Fn.vY
     rw [p.1,if_pos rfl]
     exact p.2.1
    ·unfold Fn.gNs
     rw [p.1,if_pos rfl]
     exact p.2.2
    ·show (0:Int)≤qaa n
     simp only [qab];omega
theorem L9 {α β γ:Type}(q:α × (β × γ)){c:γ}(h:q.2.2=c):q=(q.1,(q.2.1,c)):=by
 obtain ⟨a,b,d⟩:=q
 have h:d=c:=h
 rw [h]
theorem aqT {cs:List Value}(hb:allB cs=true)(he:(Fn.gF cs).2.2=0) :
  (Fn.gF cs).2.1≤cs.length∧Fn.aE (qaa (Fn.gK cs).1) (Fn.gF cs).1=0∧cs=Fn.aL (Fn.gK cs).1 (Fn.gF cs).1++cs.drop (Fn.gF cs).2.1∧∀ v∈(Fn.gF cs).1,v<18446744073709551616:=by
 have hN0:(Fn.gN cs).2.2=0:=by
  rcases qaD (Fn.gN cs).2.2 with h|h
  ·exact h
  ·have:=Fp (cs:=cs) (l:=qaA (Fn.gN cs).1 (0,18446744073709551615)) (p:=(Fn.gN cs).2) (by omega)
   have e:(Fn.gF cs).2=(Fn.gN cs).2:=this
   rw [e] at he
   omega
 have hK0:(Fn.gK cs).2.2=0:=by
  rcases qaD (Fn.gK cs).2.2 with h|h
  ·exact h
  ·have e:Fn.gN cs=(0,(Fn.gK cs).2):=by unfold Fn.gN;rw [if_pos (.inl (by omega))]
   rw [e] at hN0
   exact hN0
 obtain ⟨g1,g2,g3,g4,g5,g6⟩:=xX (v:=(Fn.gK cs).1) (a':=(Fn.gK cs).2.1) hb (L9 (rdN cs 0 99 (0,0)) hK0)
 rw [qau] at g4
 by_cases hz:(Fn.gK cs).1=0
 ·have eN:Fn.gN cs=rdN cs 0 100000 ((Fn.gK cs).2.1,0):=by
   unfold Fn.gN
   rw [if_neg (by omega)]
   conv=>lhs;rw [show (Fn.gK cs).2=((Fn.gK cs).2.1,(Fn.gK cs).2.2) from rfl,hK0]
  have eN2:=L9 (rdN cs 0 100000 ((Fn.gK cs).2.1,0)) (c:=0) (by rw [←eN];exact hN0)
  rw [←eN] at eN2
  obtain ⟨n1,n2,n3,n4,n5,n6⟩:=xX (v:=(Fn.gN cs).1) (a':=(Fn.gN cs).2.1) hb (eN.symm.trans eN2)
  have eF2:=L9 (Fn.gF cs) he
  have eF:Fn.gF cs=sJ cs (qaA (Fn.gN cs).1 (0,18446744073709551615)) ((Fn.gN cs).2.1,0):=by
   unfold Fn.gF
   conv=>lhs;rw [show (Fn.gN cs).2=((Fn.gN cs).2.1,(Fn.gN cs).2.2) from rfl,hN0]
  obtain ⟨f1,f2,f3⟩:=Oo (vs:=(Fn.gF cs).1) (a':=(Fn.gF cs).2.1) hb n5 (eF.symm.trans eF2)
  obtain ⟨l1,l2⟩:=aa8 f1
  refine ⟨f3,?_,?_,l2⟩
  ·unfold Fn.aE
   rw [hz,if_neg (by simp),if_neg (by simp),if_neg (by omega)]
  ·have e:Fn.aL (Fn.gK cs).1 (Fn.gF cs).1=Fn.eu 0++(Fn.eu (Fn.gF cs).1.length++iD (Fn.gF cs).1):=by
    unfold Fn.aL
    rw [hz]
    rfl
   rw [hz] at g4
   rw [e,l1,qaw,qaw,←f2,←n4]
   exact g4
 ·have eN:Fn.gN cs=(0,(Fn.gK cs).2):=by unfold Fn.gN;rw [if_pos (.inr hz)]
  have eF:Fn.gF cs=([],(Fn.gK cs).2):=by unfold Fn.gF;rw [eN];rfl
  rw [eF]
  refine ⟨g5,?_,?_,fun v hv=>by cases hv⟩
  ·unfold Fn.aE
   rw [if_neg (by simp only [qab];omega),if_neg (by simp),if_neg (by simp)]
  ·have e:Fn.aL (Fn.gK cs).1 []=Fn.eu (Fn.gK cs).1:=by
    unfold Fn.aL
    rw [if_neg hz]
    show _++[]=_
    rw [qas]
   rw [e]
   exact g4
theorem Wn {cs:List Value}(hb:allB cs=true)(h:(Fn.gT cs).1=0) :
  Fn.aE (qaa (Fn.vY cs)) (Fn.gNs cs)=0∧Fn.aL (Fn.vY cs) (Fn.gNs cs)=cs∧∀ v∈Fn.gNs cs,v<18446744073709551616:=by
 have hp:(Fn.gF cs).2=(cs.length,0):=(abE (fun he=>(aqT hb he).1)).1 h
 have he:(Fn.gF cs).2.2=0:=by rw [hp]
 obtain ⟨_,g1,g2,g3⟩:=aqT hb he
 have e1:Fn.vY cs=(Fn.gK cs).1:=by unfold Fn.vY;rw [if_pos h]
 have e2:Fn.gNs cs=(Fn.gF cs).1:=by unfold Fn.gNs;rw [if_pos h]
 rw [e1,e2]
 refine ⟨g1,?_,g3⟩
 rw [hp] at g2
 have e:cs.drop cs.length=[]:=qaK
 have g2:cs=Fn.aL (Fn.gK cs).1 (Fn.gF cs).1++cs.drop cs.length:=g2
 rw [e,qas] at g2
 exact g2.symm
end
end Go.Ax
namespace Go.Ax
open Go Go.Proofs
noncomputable def qv (k a v c h:Int):Value:=.agg ⟨[.int .i64 k,.int .i64 a,.int .i64 v,.int .i64 c,.int .i64 h]⟩
noncomputable def jB:Option cO:=some { val:=[.one (.flat (.int .i64 3))],rows:=[] }
noncomputable def VW (c h v:Int):=eqI v 0&&(eqI c 0&&(eqI h 0&&true))
noncomputable def kX:Option cO:=some { val:=[.one (.flat (.int .i64 2))],rows:=[] }
noncomputable def oO:Option cO:=some { val:=[.one (.flat (.int .i64 0))],rows:=[] }
noncomputable def ame (a c h v:Int):Option cO:=sel (ltI (qaa 63) a) jB (sel (!(true&&(true&&(VW c h v)))) kX oO)
noncomputable def Q8 (t:Bool)(a v c h:Int):Option cO:=sel (ltI a (qaa 0)) jB (ame a c h v)
theorem aw2 (t:Bool)(a v c h:Int):(runK (iL t) C2 40).1 24 [qv 1 a v c h] (aP []) (dJ Tryz.prog)=Q8 t a v c h:=by kernel_rfl
theorem awI (t:Bool)(a v c h:Int):(runK (iL t) C2 40).1 24 [qv 2 a v c h] (aP []) (dJ Tryz.prog)=Q8 t a v c h:=by kernel_rfl
theorem awi (t:Bool)(a v c h:Int):(runK (iL t) C2 40).1 24 [qv 3 a v c h] (aP []) (dJ Tryz.prog)=Q8 t a v c h:=by kernel_rfl
noncomputable def apE (a c h v:Int):Option cO:=sel (ltI (qaa 31) v) jB (sel (!(true&&(eqI a 0&&(true&&(eqI c 0&&(eqI h 0&&true)))))) kX oO)
noncomputable def abC (t:Bool)(a v c h:Int):Option cO:=sel (ltI v (qaa 0)) jB (apE a c h v)
theorem awK (t:Bool)(a v c h:Int):(runK (iL t) C2 40).1 24 [qv 4 a v c h] (aP []) (dJ Tryz.prog)=abC t a v c h:=by kernel_rfl
theorem avh (t:Bool)(a v c h:Int):(runK (iL t) C2 40).1 24 [qv 5 a v c h] (aP []) (dJ Tryz.prog)=sel (ltI v (qaa 0)) jB (sel (ltI (qaa 31) v) jB (sel (ltI h (qaa 1)) jB (sel (ltI (qaa 4294967296) h) jB (sel (!(true&&(eqI a 0&&(true&&(eqI c 0&&true))))) kX oO)))):=by kernel_rfl
theorem avP (t:Bool)(a v c h:Int):(runK (iL t) C2 40).1 24 [qv 6 a v c h] (aP []) (dJ Tryz.prog)=sel (ltI v (qaa 0)) jB (sel (ltI (qaa 31) v) jB (sel (ltI c (qaa 1)) jB (sel (ltI (qaa 2) c) jB (sel (ltI h (qaa 1)) jB (sel (ltI (qaa 4294967296) h) jB (sel (!(true&&(eqI a 0&&true))) kX oO)))))):=by kernel_rfl
theorem auN (t:Bool)(a v c h:Int):(runK (iL t) C2 40).1 24 [qv 7 a v c h] (aP []) (dJ Tryz.prog)=abC t a v c h:=by kernel_rfl
noncomputable def akO (a c h v:Int):=!(true&&(eqI a 0&&(VW c h v)))
noncomputable def Qy (t:Bool)(a v c h:Int):Option cO:=sel (akO a c h v) kX oO
theorem avk (t:Bool)(a v c h:Int):(runK (iL t) C2 40).1 24 [qv 8 a v c h] (aP []) (dJ Tryz.prog)=Qy t a v c h:=by kernel_rfl
theorem au8 (t:Bool)(a v c h:Int):(runK (iL t) C2 40).1 24 [qv 9 a v c h] (aP []) (dJ Tryz.prog)=Qy t a v c h:=by kernel_rfl
theorem aq4 (t:Bool)(a v c h:Int):(runK (iL t) C2 40).1 24 [qv 10 a v c h] (aP []) (dJ Tryz.prog)=Qy t a v c h:=by kernel_rfl
theorem ajW (t:Bool)(m:Nat)(a v c h:Int):(runK (iL t) C2 40).1 24 [qv (Int.negSucc m) a v c h] (aP []) (dJ Tryz.prog)=some { val:=[jk.one (gX.flat (Value.int IntKind.i64 5))],rows:=[] }:=by kernel_rfl
theorem ako (t:Bool)(a v c h:Int):(runK (iL t) C2 40).1 24 [qv 0 a v c h] (aP []) (dJ Tryz.prog)=some { val:=[jk.one (gX.flat (Value.int IntKind.i64 5))],rows:=[] }:=by kernel_rfl
theorem akA (t:Bool)(m:Nat)(a v c h:Int):(runK (iL t) C2 40).1 24 [qv (qaa (qar m 11)) a v c h] (aP []) (dJ Tryz.prog)=some { val:=[jk.one (gX.flat (Value.int IntKind.i64 5))],rows:=[] }:=by kernel_rfl
noncomputable def Pg (c h:Int):Option cO:=sel (!eqI c 0) kX (sel (!eqI h 0) kX oO)
noncomputable def XF (c h v:Int):Option cO:=sel (!eqI v 0) kX (Pg c h)
noncomputable def alc (a c h v:Int):Option cO:=sel (ltI (qaa 63) a) jB (XF c h v)
noncomputable def Py (t:Bool)(a v c h:Int):Option cO:=sel (ltI a (qaa 0)) jB (alc a c h v)
theorem av9 (t:Bool)(a v c h:Int):(runK (iL t) C2 40).1 29 [qv 1 a v c h] (aP []) (dJ Tryz.prog)=Py t a v c h:=by kernel_rfl
theorem avr (t:Bool)(a v c h:Int):(runK (iL t) C2 40).1 29 [qv 2 a v c h] (aP []) (dJ Tryz.prog)=Py t a v c h:=by kernel_rfl
theorem awM (t:Bool)(a v c h:Int):(runK (iL t) C2 40).1 29 [qv 3 a v c h] (aP []) (dJ Tryz.prog)=Py t a v c h:=by kernel_rfl
noncomputable def agP (a c h v:Int):Option cO:=sel (ltI (qaa 31) v) jB (sel (!eqI a 0) kX (Pg c h))
noncomputable def acz (t:Bool)(a v c h:Int):Option cO:=sel (ltI v (qaa 0)) jB (agP a c h v)
theorem avF (t:Bool)(a v c h:Int):(runK (iL t) C2 40).1 29 [qv 4 a v c h] (aP []) (dJ Tryz.prog)=acz t a v c h:=by kernel_rfl
theorem awo (t:Bool)(a v c h:Int):(runK (iL t) C2 40).1 29 [qv 5 a v c h] (aP []) (dJ Tryz.prog)=sel (ltI v (qaa 0)) jB (sel (ltI (qaa 31) v) jB (sel (ltI h (qaa 1)) jB (sel (ltI (qaa 4294967296) h) jB (sel (!eqI a 0) kX (sel (!eqI c 0) kX oO))))):=by kernel_rfl
theorem au9 (t:Bool)(a v c h:Int):(runK (iL t) C2 40).1 29 [qv 6 a v c h] (aP []) (dJ Tryz.prog)=sel (ltI v (qaa 0)) jB (sel (ltI (qaa 31) v) jB (sel (ltI c (qaa 1)) jB (sel (ltI (qaa 2) c) jB (sel (ltI h (qaa 1)) jB (sel (ltI (qaa 4294967296) h) jB (sel (!eqI a 0) kX oO)))))):=by kernel_rfl
theorem aw7 (t:Bool)(a v c h:Int):(runK (iL t) C2 40).1 29 [qv 7 a v c h] (aP []) (dJ Tryz.prog)=acz t a v c h:=by kernel_rfl
noncomputable def PU (t:Bool)(a v c h:Int):Option cO:=sel (!eqI a 0) kX (XF c h v)
theorem avy (t:Bool)(a v c h:Int):(runK (iL t) C2 40).1 29 [qv 8 a v c h] (aP []) (dJ Tryz.prog)=PU t a v c h:=by kernel_rfl
theorem au7 (t:Bool)(a v c h:Int):(runK (iL t) C2 40).1 29 [qv 9 a v c h] (aP []) (dJ Tryz.prog)=PU t a v c h:=by kernel_rfl
theorem auf (t:Bool)(a v c h:Int):(runK (iL t) C2 40).1 29 [qv 10 a v c h] (aP []) (dJ Tryz.prog)=PU t a v c h:=by kernel_rfl
theorem aj1 (t:Bool)(m:Nat)(a v c h:Int):(runK (iL t) C2 40).1 29 [qv (Int.negSucc m) a v c h] (aP []) (dJ Tryz.prog)=some { val:=[jk.one (gX.flat (Value.int IntKind.i64 5))],rows:=[] }:=by kernel_rfl
theorem al1 (t:Bool)(a v c h:Int):(runK (iL t) C2 40).1 29 [qv 0 a v c h] (aP []) (dJ Tryz.prog)=some { val:=[jk.one (gX.flat (Value.int IntKind.i64 5))],rows:=[] }:=by kernel_rfl
theorem al5 (t:Bool)(m:Nat)(a v c h:Int):(runK (iL t) C2 40).1 29 [qv (qaa (qar m 11)) a v c h] (aP []) (dJ Tryz.prog)=some { val:=[jk.one (gX.flat (Value.int IntKind.i64 5))],rows:=[] }:=by kernel_rfl
end Go.Ax
namespace Go.Ax
open Go Go.Proofs
noncomputable section
def lN (e:Nat):cO:=⟨[.one (.flat (.int .i64 (qaa e)))],[]⟩
theorem RH (k a v c h:Int):Fn.qE k a v c h=0∨Fn.qE k a v c h=2∨Fn.qE k a v c h=3∨Fn.qE k a v c h=5:=by
 unfold Fn.qE
 repeat' split
 all_goals first|exact .inl rfl|exact .inr (.inl rfl)|exact .inr (.inr (.inl rfl))|exact .inr (.inr (.inr rfl))
theorem an7 (a v c h:Int):(runK (iL true) C2 40).1 24 [qv 1 a v c h] (aP []) (dJ Tryz.prog)=some (lN (Fn.qE 1 a v c h)):=by
 rw [aw2];unfold Q8 ame oO kX VW jB
 simp only [jY,kT,iM,aG,qad,qag,qae,qac,decide_eq_true_eq,decide_eq_false_iff_not,qah,qai,qab]
 unfold Fn.qE
 repeat' split
 all_goals first|rfl|(exfalso;omega)
theorem apK (a v c h:Int):(runK (iL true) C2 40).1 24 [qv 2 a v c h] (aP []) (dJ Tryz.prog)=some (lN (Fn.qE 2 a v c h)):=by
 rw [awI];unfold Q8 ame oO kX VW jB
 simp only [jY,kT,iM,aG,qad,qag,qae,qac,decide_eq_true_eq,decide_eq_false_iff_not,qah,qai,qab]
 unfold Fn.qE
 repeat' split
 all_goals first|rfl|(exfalso;omega)
theorem ao1 (a v c h:Int):(runK (iL true) C2 40).1 24 [qv 3 a v c h] (aP []) (dJ Tryz.prog)=some (lN (Fn.qE 3 a v c h)):=by
 rw [awi];unfold Q8 ame oO kX VW jB
 simp only [jY,kT,iM,aG,qad,qag,qae,qac,decide_eq_true_eq,decide_eq_false_iff_not,qah,qai,qab]
 unfold Fn.qE
 repeat' split
 all_goals first|rfl|(exfalso;omega)
theorem apX (a v c h:Int):(runK (iL true) C2 40).1 24 [qv 4 a v c h] (aP []) (dJ Tryz.prog)=some (lN (Fn.qE 4 a v c h)):=by
 rw [awK];unfold abC apE oO kX jB
 simp only [jY,kT,iM,aG,qad,qag,qae,qac,decide_eq_true_eq,decide_eq_false_iff_not,qah,qai,qab]
 unfold Fn.qE
 repeat' split
 all_goals first|rfl|(exfalso;omega)
theorem ap9 (a v c h:Int):(runK (iL true) C2 40).1 24 [qv 5 a v c h] (aP []) (dJ Tryz.prog)=some (lN (Fn.qE 5 a v c h)):=by
 rw [avh];unfold oO kX jB
 simp only [jY,kT,iM,aG,qad,qag,qae,qac,decide_eq_true_eq,decide_eq_false_iff_not,qah,qai,qab]
 unfold Fn.qE
 repeat' split
 all_goals first|rfl|(exfalso;omega)
theorem apn (a v c h:Int):(runK (iL true) C2 40).1 24 [qv 6 a v c h] (aP []) (dJ Tryz.prog)=some (lN (Fn.qE 6 a v c h)):=by
 rw [avP];unfold oO kX jB
 simp only [jY,kT,iM,aG,qad,qag,qae,qac,decide_eq_true_eq,decide_eq_false_iff_not,qah,qai,qab]
 unfold Fn.qE
 repeat' split
 all_goals first|rfl|(exfalso;omega)
theorem aop (a v c h:Int):(runK (iL true) C2 40).1 24 [qv 7 a v c h] (aP []) (dJ Tryz.prog)=some (lN (Fn.qE 7 a v c h)):=by
 rw [auN];unfold abC apE oO kX jB
 simp only [jY,kT,iM,aG,qad,qag,qae,qac,decide_eq_true_eq,decide_eq_false_iff_not,qah,qai,qab]
 unfold Fn.qE
 repeat' split
 all_goals first|rfl|(exfalso;omega)
theorem apP (a v c h:Int):(runK (iL true) C2 40).1 24 [qv 8 a v c h] (aP []) (dJ Tryz.prog)=some (lN (Fn.qE 8 a v c h)):=by
 rw [avk];unfold Qy oO kX akO VW
 simp only [jY,kT,iM,aG,qad,qag,qae,qac,decide_eq_true_eq,decide_eq_false_iff_not,qah,qai,qab]
 unfold Fn.qE
 repeat' split
 all_goals first|rfl|(exfalso;omega)
theorem aqd (a v c h:Int):(runK (iL true) C2 40).1 24 [qv 9 a v c h] (aP []) (dJ Tryz.prog)=some (lN (Fn.qE 9 a v c h)):=by
 rw [au8];unfold Qy oO kX akO VW
 simp only [jY,kT,iM,aG,qad,qag,qae,qac,decide_eq_true_eq,decide_eq_false_iff_not,qah,qai,qab]
 unfold Fn.qE
 repeat' split
 all_goals first|rfl|(exfalso;omega)
theorem alg (a v c h:Int):(runK (iL true) C2 40).1 24 [qv 10 a v c h] (aP []) (dJ Tryz.prog)=some (lN (Fn.qE 10 a v c h)):=by
 rw [aq4];unfold Qy oO kX akO VW
 simp only [jY,kT,iM,aG,qad,qag,qae,qac,decide_eq_true_eq,decide_eq_false_iff_not,qah,qai,qab]
 unfold Fn.qE
 repeat' split
 all_goals first|rfl|(exfalso;omega)
theorem ahK (k a v c h:Int):(runK (iL true) C2 40).1 24 [qv k a v c h] (aP []) (dJ Tryz.prog)=some (lN (Fn.qE k a v c h)):=by
 by_cases hk:k<1∨10<k
 ·have e:Fn.qE k a v c h=5:=by
   unfold Fn.qE
   repeat' split
   all_goals first|rfl|(exfalso;omega)
  rw [e]
  cases k with
  |negSucc m=>exact ajW true m a v c h
  |ofNat n=>
   by_cases h0:n=0
   ·subst h0;exact ako true a v c h
   ·have hn:11≤n:=by simp only [qab] at hk;omega
    obtain ⟨m,rfl⟩:∃ m,n=qar m 11:=⟨n-11,by show n=n-11+11;omega⟩
    exact akA true m a v c h
 ·have hc:k=1∨k=2∨k=3∨k=4∨k=5∨k=6∨k=7∨k=8∨k=9∨k=10:=by omega
  rcases hc with rfl|rfl|rfl|rfl|rfl|rfl|rfl|rfl|rfl|rfl
  ·exact an7 a v c h
  ·exact apK a v c h
  ·exact ao1 a v c h
  ·exact apX a v c h
  ·exact ap9 a v c h
  ·exact apn a v c h
  ·exact aop a v c h
  ·exact apP a v c h
  ·exact aqd a v c h
  ·exact alg a v c h
theorem aoL (a v c h:Int):(runK (iL true) C2 40).1 29 [qv 1 a v c h] (aP []) (dJ Tryz.prog)=some (lN (Fn.qE 1 a v c h)):=by
 rw [av9];unfold Py alc XF Pg oO kX jB
 simp only [jY,kT,iM,aG,qad,qag,qae,qac,decide_eq_true_eq,decide_eq_false_iff_not,qah,qai,qab]
 unfold Fn.qE
 repeat' split
 all_goals first|rfl|(exfalso;omega)
theorem aon (a v c h:Int):(runK (iL true) C2 40).1 29 [qv 2 a v c h] (aP []) (dJ Tryz.prog)=some (lN (Fn.qE 2 a v c h)):=by
 rw [avr];unfold Py alc XF Pg oO kX jB
 simp only [jY,kT,iM,aG,qad,qag,qae,qac,decide_eq_true_eq,decide_eq_false_iff_not,qah,qai,qab]
 unfold Fn.qE
 repeat' split
 all_goals first|rfl|(exfalso;omega)
theorem aqo (a v c h:Int):(runK (iL true) C2 40).1 29 [qv 3 a v c h] (aP []) (dJ Tryz.prog)=some (lN (Fn.qE 3 a v c h)):=by
 rw [awM];unfold Py alc XF Pg oO kX jB
 simp only [jY,kT,iM,aG,qad,qag,qae,qac,decide_eq_true_eq,decide_eq_false_iff_not,qah,qai,qab]
 unfold Fn.qE
 repeat' split
 all_goals first|rfl|(exfalso;omega)
theorem aps (a v c h:Int):(runK (iL true) C2 40).1 29 [qv 4 a v c h] (aP []) (dJ Tryz.prog)=some (lN (Fn.qE 4 a v c h)):=by
 rw [avF];unfold acz agP Pg oO kX jB
 simp only [jY,kT,iM,aG,qad,qag,qae,qac,decide_eq_true_eq,decide_eq_false_iff_not,qah,qai,qab]
 unfold Fn.qE
 repeat' split
 all_goals first|rfl|(exfalso;omega)
theorem aqv (a v c h:Int):(runK (iL true) C2 40).1 29 [qv 5 a v c h] (aP []) (dJ Tryz.prog)=some (lN (Fn.qE 5 a v c h)):=by
 rw [awo];unfold oO kX jB
 simp only [jY,kT,iM,aG,qad,qag,qae,qac,decide_eq_true_eq,decide_eq_false_iff_not,qah,qai,qab]
 unfold Fn.qE
 repeat' split
 all_goals first|rfl|(exfalso;omega)
theorem aph (a v c h:Int):(runK (iL true) C2 40).1 29 [qv 6 a v c h] (aP []) (dJ Tryz.prog)=some (lN (Fn.qE 6 a v c h)):=by
 rw [au9];unfold oO kX jB
 simp only [jY,kT,iM,aG,qad,qag,qae,qac,decide_eq_true_eq,decide_eq_false_iff_not,qah,qai,qab]
 unfold Fn.qE
 repeat' split
 all_goals first|rfl|(exfalso;omega)
theorem aog (a v c h:Int):(runK (iL true) C2 40).1 29 [qv 7 a v c h] (aP []) (dJ Tryz.prog)=some (lN (Fn.qE 7 a v c h)):=by
 rw [aw7];unfold acz agP Pg oO kX jB
 simp only [jY,kT,iM,aG,qad,qag,qae,qac,decide_eq_true_eq,decide_eq_false_iff_not,qah,qai,qab]
 unfold Fn.qE
 repeat' split
 all_goals first|rfl|(exfalso;omega)
theorem ape (a v c h:Int):(runK (iL true) C2 40).1 29 [qv 8 a v c h] (aP []) (dJ Tryz.prog)=some (lN (Fn.qE 8 a v c h)):=by
 rw [avy];unfold PU XF Pg oO kX
 simp only [jY,kT,iM,aG,qad,qag,qae,qac,decide_eq_true_eq,decide_eq_false_iff_not,qah,qai,qab]
 unfold Fn.qE
 repeat' split
 all_goals first|rfl|(exfalso;omega)
theorem ao5 (a v c h:Int):(runK (iL true) C2 40).1 29 [qv 9 a v c h] (aP []) (dJ Tryz.prog)=some (lN (Fn.qE 9 a v c h)):=by
 rw [au7];unfold PU XF Pg oO kX
 simp only [jY,kT,iM,aG,qad,qag,qae,qac,decide_eq_true_eq,decide_eq_false_iff_not,qah,qai,qab]
 unfold Fn.qE
 repeat' split
 all_goals first|rfl|(exfalso;omega)
theorem alj (a v c h:Int):(runK (iL true) C2 40).1 29 [qv 10 a v c h] (aP []) (dJ Tryz.prog)=some (lN (Fn.qE 10 a v c h)):=by
 rw [auf];unfold PU XF Pg oO kX
 simp only [jY,kT,iM,aG,qad,qag,qae,qac,decide_eq_true_eq,decide_eq_false_iff_not,qah,qai,qab]
 unfold Fn.qE
 repeat' split
 all_goals first|rfl|(exfalso;omega)
theorem aiy (k a v c h:Int):(runK (iL true) C2 40).1 29 [qv k a v c h] (aP []) (dJ Tryz.prog)=some (lN (Fn.qE k a v c h)):=by
 by_cases hk:k<1∨10<k
 ·have e:Fn.qE k a v c h=5:=by
   unfold Fn.qE
   repeat' split
   all_goals first|rfl|(exfalso;omega)
  rw [e]
  cases k with
  |negSucc m=>exact aj1 true m a v c h
  |ofNat n=>
   by_cases h0:n=0
   ·subst h0;exact al1 true a v c h
   ·have hn:11≤n:=by simp only [qab] at hk;omega
    obtain ⟨m,rfl⟩:∃ m,n=qar m 11:=⟨n-11,by show n=n-11+11;omega⟩
    exact al5 true m a v c h
 ·have hc:k=1∨k=2∨k=3∨k=4∨k=5∨k=6∨k=7∨k=8∨k=9∨k=10:=by omega
  rcases hc with rfl|rfl|rfl|rfl|rfl|rfl|rfl|rfl|rfl|rfl
  ·exact aoL a v c h
  ·exact aon a v c h
  ·exact aqo a v c h
  ·exact aps a v c h
  ·exact aqv a v c h
  ·exact aph a v c h
  ·exact aog a v c h
  ·exact ape a v c h
  ·exact ao5 a v c h
  ·exact alj a v c h
def okG (l:List fM):Tree cO:=
 match l with
 |[.agg [.raw (.int .i64 k),.raw (.int .i64 a),.raw (.int .i64 v),.raw (.int .i64 c),.raw (.int .i64 h)]]=>bY (qaz (Fn.qE k a v c h) 0) (.leaf (lN 0))
 |_=>.fail
def noG (l:List fM):Tree cO:=
 match l with
 |[.agg [.raw (.int .i64 k),.raw (.int .i64 a),.raw (.int .i64 v),.raw (.int .i64 c),.raw (.int .i64 h)]]=>
  .test (qaz (Fn.qE k a v c h) 2) (.leaf (lN 2)) (.test (qaz (Fn.qE k a v c h) 3) (.leaf (lN 3)) (bY (qaz (Fn.qE k a v c h) 5) (.leaf (lN 5))))
 |_=>.fail
theorem Tv {f:FuncId}(hf:∀ k a v c h:Int,(runK (iL true) C2 40).1 f [qv k a v c h] (aP []) (dJ Tryz.prog)=some (lN (Fn.qE k a v c h))):y8 Tryz.prog C2 40 f okG:=by
 intro comps r kE hr
 clear kE
 unfold okG at hr
 split at hr
 ·rename_i k a v c h
  obtain ⟨hg,h2⟩:=aJ hr
  cases h2
  have he:Fn.qE k a v c h=0:=qak hg
  refine ⟨(fun p hp=>by cases hp),?_⟩
  exact bT (K:=iL true) (by decide) bI aY ((hf k a v c h).trans (by rw [he]))
 ·cases hr
theorem afe {f:FuncId}(hf:∀ k a v c h:Int,(runK (iL true) C2 40).1 f [qv k a v c h] (aP []) (dJ Tryz.prog)=some (lN (Fn.qE k a v c h))):y8 Tryz.prog C2 40 f noG:=by
 intro comps r kE hr
 clear kE
 unfold noG at hr
 split at hr
 ·rename_i k a v c h
  have hr:sel (qaz (Fn.qE k a v c h) 2) (some (lN 2)) (sel (qaz (Fn.qE k a v c h) 3) (some (lN 3)) (bY (qaz (Fn.qE k a v c h) 5) (.leaf (lN 5))).run)=some r:=hr
  have key:r=lN (Fn.qE k a v c h):=by
   cases h1:qaz (Fn.qE k a v c h) 2 with
   |true=>rw [h1] at hr;cases hr;rw [qak h1]
   |false=>
    rw [h1,aO] at hr
    cases h2:qaz (Fn.qE k a v c h) 3 with
    |true=>rw [h2] at hr;cases hr;rw [qak h2]
    |false=>
     rw [h2,aO] at hr
     obtain ⟨h3,h4⟩:=aJ hr
     cases h4
     rw [qak h3]
  subst key
  refine ⟨(fun p hp=>by cases hp),?_⟩
  exact bT (K:=iL true) (by decide) bI aY (hf k a v c h)
 ·cases hr
def auQ (b:Bool):List (Nat × Con):=(24,.tree (zo Tryz.prog (Bool.rec noG okG b)))::(29,.tree (zo Tryz.prog (Bool.rec noG okG b)))::as8
def C3 (b:Bool):Cfg:={ CB with ext:=eH [],insert:=eH (auQ b) }
variable [Lo]
theorem ark (b:Bool):dI Tryz.prog (C3 b) (auQ b):=by
 cases b with
 |true=>exact dI.zo (fun lo=>@adI lo) (Tv ahK).gives (dI.zo (fun lo=>@adI lo) (Tv aiy).gives (dI.to abO rfl))
 |false=>exact dI.zo (fun lo=>@adI lo) (afe ahK).gives (dI.zo (fun lo=>@adI lo) (afe aiy).gives (dI.to abO rfl))
theorem awe (b:Bool):dS (C3 b) Tryz.prog:=xq (ext:=eH []) (ins:=eH (auQ b)) rfl (fun f t h=>ark b f t h) (fun f e h=>by cases h)
end
end Go.Ax
namespace Go.Ax
open Go Go.Proofs
noncomputable section
def O7:Nat→Nat→List Value:=fun k=>Nat.rec (fun n=>[qb8 (n%256)]) (fun _ ih n=>qb8 (n%128+128)::ih (n/128)) k
theorem afx (k n:Nat):O7 (k+1) n=qb8 (n%128+128)::O7 k (n/128):=rfl
theorem TW:∀ (k j n:Nat),k≤j→(k≠0→128 ^ k≤n)→n<128 ^ (k+1)→oK j n=O7 k n
 |0,j,n,_,_,h=>by
  have h:n<128:=by simpa using h
  rw [yw h]
  show [qb8 n]=[qb8 (n%256)]
  rw [qaq (by omega)]
 |k+1,j,n,hj,hlo,hhi=>by
  have hlo:=hlo (by omega)
  obtain ⟨i,rfl⟩:∃ i,j=i+1:=⟨j-1,by omega⟩
  have h1:128 ^ 1≤128 ^ (k+1):=qat (by omega) (by omega)
  have hq:n/128<128 ^ (k+1):=by
   rw [qay] at hhi
   exact qaH (by omega)
  rw [dw,if_pos (by omega),afx,TW k i (n/128) (by omega) (fun _=>?_) hq]
  rw [qay] at hlo
  exact (Nat.le_div_iff_mul_le (by omega)).2 hlo
theorem OM:∀ k n,flatAll (O7 k n)=true
 |0,n=>rfl
 |k+1,n=>by
  show sel true (flatAll (O7 k (n/128))) false=true
  rw [aN];exact OM k _
theorem aa5:∀ k n,aQ (O7 k n)=k+1
 |0,n=>rfl
 |k+1,n=>by
  show qaF (aQ (O7 k (n/128)))=_
  rw [aa5 k]
def XZ (k n:Nat):cO:=⟨[.one (.sl 0 (qaF k))],[(O7 k n,5)]⟩
def gk (k:Nat)(l:List fM):Tree cO:=
 match l with
 |[.one (.raw (.int .u64 z))]=>Int.casesOn (motive:=fun _=>Tree cO) z (fun n=>.test (ltN n 128) (.leaf (XZ 0 n)) (bY (qao (qaP 128 k) n&&(ltN n (qaP 128 (qaF k))&&qao k 8)) (.leaf (XZ k n)))) (fun _=>.fail)
 |_=>.fail
theorem aso {k n:Nat}(h:oK 9 n=O7 k n):yI n=XZ k n:=by
 unfold yI XZ
 have e:Fn.eu n=O7 k n:=h
 rw [e,aa5]
theorem amR {f:FuncId}(h:∀ n,n<18446744073709551616→(runK KQ CB 16).1 f [.int .u64 (qaa n)] (aP []) (dJ Tryz.prog)=some (yI n))(k:Nat):y8 Tryz.prog CB 16 f (gk k):=by
 intro comps r kE hr
 clear kE
 unfold gk at hr
 split at hr
 ·rename_i z
  cases z with
  |ofNat n=>
   have hr:sel (ltN n 128) (some (XZ 0 n)) (bY (qao (qaP 128 k) n&&(ltN n (qaP 128 (qaF k))&&qao k 8)) (Tree.leaf (XZ k n))).run=some r:=hr
   cases hb:ltN n 128 with
   |true=>
    rw [hb] at hr
    cases hr
    have hn:=bF hb
    refine ⟨(fun p hp=>?_),?_⟩
    ·obtain rfl:p=(O7 0 n,5):=by simpa [XZ] using hp
     exact OM 0 n
    ·have:=h n (by omega)
     rw [aso (TW 0 9 n (by omega) (fun h=>absurd rfl h) (by simpa using hn))] at this
     exact bT (K:=KQ) (by decide) bI aY this
   |false=>
    rw [hb,aO] at hr
    obtain ⟨hg,h2⟩:=aJ hr
    cases h2
    simp only [qad] at hg
    have g1:128 ^ k≤n:=qan hg.1
    have g2:n<128 ^ (k+1):=bF hg.2.1
    have g3:k≤8:=qan hg.2.2
    have g4:128 ^ (k+1)≤128 ^ 9:=qat (by omega) (by omega)
    have g5:(128:Nat) ^ 9<18446744073709551616:=by decide
    refine ⟨(fun p hp=>?_),?_⟩
    ·obtain rfl:p=(O7 k n,5):=by simpa [XZ] using hp
     exact OM k n
    ·have:=h n (by omega)
     rw [aso (TW k 9 n (by omega) (fun _=>g1) g2)] at this
     exact bT (K:=KQ) (by decide) bI aY this
  |negSucc n=>cases hr
 ·cases hr
def awO (k:Nat):List (Nat × Con):=[(52,.tree (zo Tryz.prog (gk k))),(30,.tree (zo Tryz.prog (gk k))),(24,.tree (zo Tryz.prog okG)),(29,.tree (zo Tryz.prog okG))]
def C4 (k:Nat):Cfg:={ CB with ext:=eH [],insert:=eH (awO k) }
variable [Lo]
theorem atD (k:Nat):dI Tryz.prog (C4 k) (awO k):=
 dI.zo (fun lo=>@qJ lo) (amR ajA k).gives (dI.zo (fun lo=>@qJ lo) (amR ab2 k).gives (dI.zo (fun lo=>@adI lo) (Tv ahK).gives (dI.zo (fun lo=>@adI lo) (Tv aiy).gives dI.nil)))
theorem auV (k:Nat):dS (C4 k) Tryz.prog:=xq (ext:=eH []) (ins:=eH (awO k)) rfl (fun f t h=>atD k f t h) (fun f e h=>by cases h)
end
end Go.Ax
namespace Go.Ax
open Go Go.Proofs
noncomputable def amw (a:Nat):=(Fn.qE (qaa 1) (qaa a) (qaa 0) (qaa 0) (qaa 0)).beq 0
noncomputable def Qe (a:Nat):=ltN (a.mod 18446744073709551616) 128
noncomputable def dh:gX:=.flat (.int .i64 0)
noncomputable def QJ (a:Nat):=qaa ((a.mod 18446744073709551616).mod 256)
noncomputable def PI (a:Nat):=qao 128 (a.mod 18446744073709551616)&&(ltN (a.mod 18446744073709551616) 16384&&true)
noncomputable def Qk (a:Nat):=qaa (((a.mod 18446744073709551616).mod 128).add 128)
noncomputable def Qi (a:Nat):=qaa (((a.mod 18446744073709551616).div 128).mod 256)
noncomputable def anp (a:Nat):Option cO:=sel (Qe a) (some { val:=[.one (.sl 0 2),.one dh],rows:=[([.int .u8 (qaa 1),.int .u8 (QJ a)],5)] }) (sel (PI a) (some { val:=[.one (.sl 0 3),.one dh],rows:=[([.int .u8 (qaa 1),.int .u8 (Qk a),.int .u8 (Qi a)],5)] }) none)
noncomputable def aio (a:Nat):Option cO:=sel (amw a) (anp a) none
theorem au4 (a:Nat):(runK (iL true) (C4 1) 40).1 6 [qv 1 (qaa a) 0 0 0] (aP []) (dJ Tryz.prog)=aio a:=by kernel_rfl
noncomputable def ang (a:Nat):=(Fn.qE (qaa 2) (qaa a) (qaa 0) (qaa 0) (qaa 0)).beq 0
noncomputable def amW (a:Nat):Option cO:=sel (Qe a) (some { val:=[.one (.sl 0 2),.one dh],rows:=[([.int .u8 (qaa 2),.int .u8 (QJ a)],5)] }) (sel (PI a) (some { val:=[.one (.sl 0 3),.one dh],rows:=[([.int .u8 (qaa 2),.int .u8 (Qk a),.int .u8 (Qi a)],5)] }) none)
noncomputable def ae1 (a:Nat):Option cO:=sel (ang a) (amW a) none
theorem avu (a:Nat):(runK (iL true) (C4 1) 40).1 6 [qv 2 (qaa a) 0 0 0] (aP []) (dJ Tryz.prog)=ae1 a:=by kernel_rfl
noncomputable def ahY (a:Nat):=(Fn.qE (qaa 3) (qaa a) (qaa 0) (qaa 0) (qaa 0)).beq 0
noncomputable def agx (a:Nat):Option cO:=sel (Qe a) (some { val:=[.one (.sl 0 2),.one dh],rows:=[([.int .u8 (qaa 3),.int .u8 (QJ a)],5)] }) (sel (PI a) (some { val:=[.one (.sl 0 3),.one dh],rows:=[([.int .u8 (qaa 3),.int .u8 (Qk a),.int .u8 (Qi a)],5)] }) none)
noncomputable def aeO (a:Nat):Option cO:=sel (ahY a) (agx a) none
theorem avq (a:Nat):(runK (iL true) (C4 1) 40).1 6 [qv 3 (qaa a) 0 0 0] (aP []) (dJ Tryz.prog)=aeO a:=by kernel_rfl
noncomputable def aiB (v:Nat):=(Fn.qE (qaa 4) (qaa 0) (qaa v) (qaa 0) (qaa 0)).beq 0
noncomputable def jl (v:Nat):=ltN (v.mod 18446744073709551616) 128
noncomputable def fG (v:Nat):=qaa ((v.mod 18446744073709551616).mod 256)
noncomputable def wF (v:Nat):=qao 128 (v.mod 18446744073709551616)&&(ltN (v.mod 18446744073709551616) 16384&&true)
noncomputable def dO (v:Nat):=qaa (((v.mod 18446744073709551616).mod 128).add 128)
noncomputable def mF (v:Nat):=(v.mod 18446744073709551616).div 128
noncomputable def nR (v:Nat):=qaa ((mF v).mod 256)
noncomputable def afh (v:Nat):Option cO:=sel (jl v) (some { val:=[.one (.sl 0 2),.one dh],rows:=[([.int .u8 (qaa 4),.int .u8 (fG v)],5)] }) (sel (wF v) (some { val:=[.one (.sl 0 3),.one dh],rows:=[([.int .u8 (qaa 4),.int .u8 (dO v),.int .u8 (nR v)],5)] }) none)
noncomputable def ail (v:Nat):Option cO:=sel (aiB v) (afh v) none
theorem awl (v:Nat):(runK (iL true) (C4 1) 40).1 6 [qv 4 0 (qaa v) 0 0] (aP []) (dJ Tryz.prog)=ail v:=by kernel_rfl
noncomputable def yL (h v:Nat):=(Fn.qE (qaa 5) (qaa 0) (qaa v) (qaa 0) (qaa h)).beq 0
noncomputable def eY (h:Nat):=ltN (h.mod 18446744073709551616) 128
noncomputable def gV (h:Nat):=qaa ((h.mod 18446744073709551616).mod 256)
noncomputable def yB (h v:Nat):Option cO:=some { val:=[.one (.sl 0 3),.one dh],rows:=[([.int .u8 (qaa 5),.int .u8 (fG v),.int .u8 (gV h)],5)] }
noncomputable def wo (h:Nat):=qao 128 (h.mod 18446744073709551616)&&(ltN (h.mod 18446744073709551616) 16384&&true)
noncomputable def eX (h:Nat):=qaa (((h.mod 18446744073709551616).mod 128).add 128)
noncomputable def pq (h:Nat):=(h.mod 18446744073709551616).div 128
noncomputable def vV (h:Nat):=qaa ((pq h).mod 256)
noncomputable def ZN (h v:Nat):Option cO:=sel (jl v) (sel (eY h) (yB h v) (sel (wo h) (some { val:=[.one (.sl 0 4),.one dh],rows:=[([.int .u8 (qaa 5),.int .u8 (fG v),.int .u8 (eX h),.int .u8 (vV h)],5)] }) none)) (sel (wF v) (sel (eY h) (some { val:=[.one (.sl 0 4),.one dh],rows:=[([.int .u8 (qaa 5),.int .u8 (dO v),.int .u8 (nR v),.int .u8 (gV h)],5)] }) (sel (wo h) (some { val:=[.one (.sl 0 5),.one dh],rows:=[([.int .u8 (qaa 5),.int .u8 (dO v),.int .u8 (nR v),.int .u8 (eX h),.int .u8 (vV h)],5)] }) none)) none)
noncomputable def YN (v h:Nat):Option cO:=sel (yL h v) (ZN h v) none
theorem aik (v h:Nat):(runK (iL true) (C4 1) 40).1 6 [qv 5 0 (qaa v) 0 (qaa h)] (aP []) (dJ Tryz.prog)=YN v h:=by kernel_rfl
noncomputable def Bf (h:Nat):=qao 16384 (h.mod 18446744073709551616)&&(ltN (h.mod 18446744073709551616) 2097152&&true)
noncomputable def iV (h:Nat):=qaa (((pq h).mod 128).add 128)
noncomputable def yJ (h:Nat):=(pq h).div 128
noncomputable def zM (h:Nat):=qaa ((yJ h).mod 256)
noncomputable def Uc (v:Nat):=qao 16384 (v.mod 18446744073709551616)&&(ltN (v.mod 18446744073709551616) 2097152&&true)
noncomputable def iT (v:Nat):=qaa (((mF v).mod 128).add 128)
noncomputable def yQ (v:Nat):=(mF v).div 128
noncomputable def AA (v:Nat):=qaa ((yQ v).mod 256)
noncomputable def afS (h v:Nat):Option cO:=sel (jl v) (sel (eY h) (yB h v) (sel (Bf h) (some { val:=[.one (.sl 0 5),.one dh],rows:=[([.int .u8 (qaa 5),.int .u8 (fG v),.int .u8 (eX h),.int .u8 (iV h),.int .u8 (zM h)],5)] }) none)) (sel (Uc v) (sel (eY h) (some { val:=[.one (.sl 0 5),.one dh],rows:=[([.int .u8 (qaa 5),.int .u8 (dO v),.int .u8 (iT v),.int .u8 (AA v),.int .u8 (gV h)],5)] }) (sel (Bf h) (some { val:=[.one (.sl 0 7),.one dh],rows:=[([.int .u8 (qaa 5),.int .u8 (dO v),.int .u8 (iT v),.int .u8 (AA v),.int .u8 (eX h),.int .u8 (iV h),.int .u8 (zM h)],5)] }) none)) none)
noncomputable def ait (v h:Nat):Option cO:=sel (yL h v) (afS h v) none
theorem aov (v h:Nat):(runK (iL true) (C4 2) 40).1 6 [qv 5 0 (qaa v) 0 (qaa h)] (aP []) (dJ Tryz.prog)=ait v h:=by kernel_rfl
noncomputable def zC (h:Nat):=qao 2097152 (h.mod 18446744073709551616)&&(ltN (h.mod 18446744073709551616) 268435456&&true)
noncomputable def lg (h:Nat):=qaa (((yJ h).mod 128).add 128)
noncomputable def DK (h:Nat):=(yJ h).div 128
noncomputable def zy (h:Nat):=qaa ((DK h).mod 256)
noncomputable def Ux (v:Nat):=qao 2097152 (v.mod 18446744073709551616)&&(ltN (v.mod 18446744073709551616) 268435456&&true)
noncomputable def kZ (v:Nat):=qaa (((yQ v).mod 128).add 128)
noncomputable def Es (v:Nat):=(yQ v).div 128
noncomputable def zH (v:Nat):=qaa ((Es v).mod 256)
noncomputable def ai9 (h v:Nat):Option cO:=sel (jl v) (sel (eY h) (yB h v) (sel (zC h) (some { val:=[.one (.sl 0 6),.one dh],rows:=[([.int .u8 (qaa 5),.int .u8 (fG v),.int .u8 (eX h),.int .u8 (iV h),.int .u8 (lg h),.int .u8 (zy h)],5)] }) none)) (sel (Ux v) (sel (eY h) (some { val:=[.one (.sl 0 6),.one dh],rows:=[([.int .u8 (qaa 5),.int .u8 (dO v),.int .u8 (iT v),.int .u8 (kZ v),.int .u8 (zH v),.int .u8 (gV h)],5)] }) (sel (zC h) (some { val:=[.one (.sl 0 9),.one dh],rows:=[([.int .u8 (qaa 5),.int .u8 (dO v),.int .u8 (iT v),.int .u8 (kZ v),.int .u8 (zH v),.int .u8 (eX h),.int .u8 (iV h),.int .u8 (lg h),.int .u8 (zy h)],5)] }) none)) none)
noncomputable def aiq (v h:Nat):Option cO:=sel (yL h v) (ai9 h v) none
theorem apM (v h:Nat):(runK (iL true) (C4 3) 40).1 6 [qv 5 0 (qaa v) 0 (qaa h)] (aP []) (dJ Tryz.prog)=aiq v h:=by kernel_rfl
noncomputable def Am (h:Nat):=qao 268435456 (h.mod 18446744073709551616)&&(ltN (h.mod 18446744073709551616) 34359738368&&true)
noncomputable def Aq (h:Nat):=qaa (((DK h).mod 128).add 128)
noncomputable def AP (h:Nat):=qaa (((DK h).div 128).mod 256)
noncomputable def RX (v:Nat):=qao 268435456 (v.mod 18446744073709551616)&&(ltN (v.mod 18446744073709551616) 34359738368&&true)
noncomputable def Ai (v:Nat):=qaa (((Es v).mod 128).add 128)
noncomputable def zO (v:Nat):=qaa (((Es v).div 128).mod 256)
noncomputable def aht (h v:Nat):Option cO:=sel (jl v) (sel (eY h) (yB h v) (sel (Am h) (some { val:=[.one (.sl 0 7),.one dh],rows:=[([.int .u8 (qaa 5),.int .u8 (fG v),.int .u8 (eX h),.int .u8 (iV h),.int .u8 (lg h),.int .u8 (Aq h),.int .u8 (AP h)],5)] }) none)) (sel (RX v) (sel (eY h) (some { val:=[.one (.sl 0 7),.one dh],rows:=[([.int .u8 (qaa 5),.int .u8 (dO v),.int .u8 (iT v),.int .u8 (kZ v),.int .u8 (Ai v),.int .u8 (zO v),.int .u8 (gV h)],5)] }) (sel (Am h) (some { val:=[.one (.sl 0 11),.one dh],rows:=[([.int .u8 (qaa 5),.int .u8 (dO v),.int .u8 (iT v),.int .u8 (kZ v),.int .u8 (Ai v),.int .u8 (zO v),.int .u8 (eX h),.int .u8 (iV h),.int .u8 (lg h),.int .u8 (Aq h),.int .u8 (AP h)],5)] }) none)) none)
noncomputable def aiS (v h:Nat):Option cO:=sel (yL h v) (aht h v) none
theorem apq (v h:Nat):(runK (iL true) (C4 4) 40).1 6 [qv 5 0 (qaa v) 0 (qaa h)] (aP []) (dJ Tryz.prog)=aiS v h:=by kernel_rfl
noncomputable def yg (c h v:Nat):=(Fn.qE (qaa 6) (qaa 0) (qaa v) (qaa c) (qaa h)).beq 0
noncomputable def pK (c:Nat):=ltN (c.mod 18446744073709551616) 128
noncomputable def jW (c:Nat):=qaa ((c.mod 18446744073709551616).mod 256)
noncomputable def yY (c h v:Nat):Option cO:=some { val:=[.one (.sl 0 4),.one dh],rows:=[([.int .u8 (qaa 6),.int .u8 (fG v),.int .u8 (jW c),.int .u8 (gV h)],5)] }
noncomputable def Tz (c:Nat):=qao 128 (c.mod 18446744073709551616)&&(ltN (c.mod 18446744073709551616) 16384&&true)
noncomputable def jy (c:Nat):=qaa (((c.mod 18446744073709551616).mod 128).add 128)
noncomputable def Ar (c:Nat):=(c.mod 18446744073709551616).div 128
noncomputable def Ik (c:Nat):=qaa ((Ar c).mod 256)
noncomputable def aaf (c h v:Nat):Option cO:=sel (jl v) (sel (pK c) (sel (eY h) (yY c h v) (sel (wo h) (some { val:=[.one (.sl 0 5),.one dh],rows:=[([.int .u8 (qaa 6),.int .u8 (fG v),.int .u8 (jW c),.int .u8 (eX h),.int .u8 (vV h)],5)] }) none)) (sel (Tz c) (sel (eY h) (some { val:=[.one (.sl 0 5),.one dh],rows:=[([.int .u8 (qaa 6),.int .u8 (fG v),.int .u8 (jy c),.int .u8 (Ik c),.int .u8 (gV h)],5)] }) (sel (wo h) (some { val:=[.one (.sl 0 6),.one dh],rows:=[([.int .u8 (qaa 6),.int .u8 (fG v),.int .u8 (jy c),.int .u8 (Ik c),.int .u8 (eX h),.int .u8 (vV h)],5)] }) none)) none)) (sel (wF v) (sel (pK c) (sel (eY h) (some { val:=[.one (.sl 0 5),.one dh],rows:=[([.int .u8 (qaa 6),.int .u8 (dO v),.int .u8 (nR v),.int .u8 (jW c),.int .u8 (gV h)],5)] }) (sel (wo h) (some { val:=[.one (.sl 0 6),.one dh],rows:=[([.int .u8 (qaa 6),.int .u8 (dO v),.int .u8 (nR v),.int .u8 (jW c),.int .u8 (eX h),.int .u8 (vV h)],5)] }) none)) (sel (Tz c) (sel (eY h) (some { val:=[.one (.sl 0 6),.one dh],rows:=[([.int .u8 (qaa 6),.int .u8 (dO v),.int .u8 (nR v),.int .u8 (jy c),.int .u8 (Ik c),.int .u8 (gV h)],5)] }) (sel (wo h) (some { val:=[.one (.sl 0 7),.one dh],rows:=[([.int .u8 (qaa 6),.int .u8 (dO v),.int .u8 (nR v),.int .u8 (jy c),.int .u8 (Ik c),.int .u8 (eX h),.int .u8 (vV h)],5)] }) none)) none)) none)
noncomputable def Z8 (v c h:Nat):Option cO:=sel (yg c h v) (aaf c h v) none
theorem agr (v c h:Nat):(runK (iL true) (C4 1) 40).1 6 [qv 6 0 (qaa v) (qaa c) (qaa h)] (aP []) (dJ Tryz.prog)=Z8 v c h:=by kernel_rfl
noncomputable def YV (c:Nat):=qao 16384 (c.mod 18446744073709551616)&&(ltN (c.mod 18446744073709551616) 2097152&&true)
noncomputable def lZ (c:Nat):=qaa (((Ar c).mod 128).add 128)
noncomputable def Ib (c:Nat):=(Ar c).div 128
noncomputable def NG (c:Nat):=qaa ((Ib c).mod 256)
noncomputable def ajt (c h v:Nat):Option cO:=sel (jl v) (sel (pK c) (sel (eY h) (yY c h v) (sel (Bf h) (some { val:=[.one (.sl 0 6),.one dh],rows:=[([.int .u8 (qaa 6),.int .u8 (fG v),.int .u8 (jW c),.int .u8 (eX h),.int .u8 (iV h),.int .u8 (zM h)],5)] }) none)) (sel (YV c) (sel (eY h) (some { val:=[.one (.sl 0 6),.one dh],rows:=[([.int .u8 (qaa 6),.int .u8 (fG v),.int .u8 (jy c),.int .u8 (lZ c),.int .u8 (NG c),.int .u8 (gV h)],5)] }) (sel (Bf h) (some { val:=[.one (.sl 0 8),.one dh],rows:=[([.int .u8 (qaa 6),.int .u8 (fG v),.int .u8 (jy c),.int .u8 (lZ c),.int .u8 (NG c),.int .u8 (eX h),.int .u8 (iV h),.int .u8 (zM h)],5)] }) none)) none)) (sel (Uc v) (sel (pK c) (sel (eY h) (some { val:=[.one (.sl 0 6),.one dh],rows:=[([.int .u8 (qaa 6),.int .u8 (dO v),.int .u8 (iT v),.int .u8 (AA v),.int .u8 (jW c),.int .u8 (gV h)],5)] }) (sel (Bf h) (some { val:=[.one (.sl 0 8),.one dh],rows:=[([.int .u8 (qaa 6),.int .u8 (dO v),.int .u8 (iT v),.int .u8 (AA v),.int .u8 (jW c),.int .u8 (eX h),.int .u8 (iV h),.int .u8 (zM h)],5)] }) none)) (sel (YV c) (sel (eY h) (some { val:=[.one (.sl 0 8),.one dh],rows:=[([.int .u8 (qaa 6),.int .u8 (dO v),.int .u8 (iT v),.int .u8 (AA v),.int .u8 (jy c),.int .u8 (lZ c),.int .u8 (NG c),.int .u8 (gV h)],5)] }) (sel (Bf h) (some { val:=[.one (.sl 0 10),.one dh],rows:=[([.int .u8 (qaa 6),.int .u8 (dO v),.int .u8 (iT v),.int .u8 (AA v),.int .u8 (jy c),.int .u8 (lZ c),.int .u8 (NG c),.int .u8 (eX h),.int .u8 (iV h),.int .u8 (zM h)],5)] }) none)) none)) none)
noncomputable def aja (v c h:Nat):Option cO:=sel (yg c h v) (ajt c h v) none
theorem aql (v c h:Nat):(runK (iL true) (C4 2) 40).1 6 [qv 6 0 (qaa v) (qaa c) (qaa h)] (aP []) (dJ Tryz.prog)=aja v c h:=by kernel_rfl
noncomputable def aau (c:Nat):=qao 2097152 (c.mod 18446744073709551616)&&(ltN (c.mod 18446744073709551616) 268435456&&true)
noncomputable def vS (c:Nat):=qaa (((Ib c).mod 128).add 128)
noncomputable def NR (c:Nat):=(Ib c).div 128
noncomputable def KC (c:Nat):=qaa ((NR c).mod 256)
noncomputable def aib (c h v:Nat):Option cO:=sel (jl v) (sel (pK c) (sel (eY h) (yY c h v) (sel (zC h) (some { val:=[.one (.sl 0 7),.one dh],rows:=[([.int .u8 (qaa 6),.int .u8 (fG v),.int .u8 (jW c),.int .u8 (eX h),.int .u8 (iV h),.int .u8 (lg h),.int .u8 (zy h)],5)] }) none)) (sel (aau c) (sel (eY h) (some { val:=[.one (.sl 0 7),.one dh],rows:=[([.int .u8 (qaa 6),.int .u8 (fG v),.int .u8 (jy c),.int .u8 (lZ c),.int .u8 (vS c),.int .u8 (KC c),.int .u8 (gV h)],5)] }) (sel (zC h) (some { val:=[.one (.sl 0 10),.one dh],rows:=[([.int .u8 (qaa 6),.int .u8 (fG v),.int .u8 (jy c),.int .u8 (lZ c),.int .u8 (vS c),.int .u8 (KC c),.int .u8 (eX h),.int .u8 (iV h),.int .u8 (lg h),.int .u8 (zy h)],5)] }) none)) none)) (sel (Ux v) (sel (pK c) (sel (eY h) (some { val:=[.one (.sl 0 7),.one dh],rows:=[([.int .u8 (qaa 6),.int .u8 (dO v),.int .u8 (iT v),.int .u8 (kZ v),.int .u8 (zH v),.int .u8 (jW c),.int .u8 (gV h)],5)] }) (sel (zC h) (some { val:=[.one (.sl 0 10),.one dh],rows:=[([.int .u8 (qaa 6),.int .u8 (dO v),.int .u8 (iT v),.int .u8 (kZ v),.int .u8 (zH v),.int .u8 (jW c),.int .u8 (eX h),.int .u8 (iV h),.int .u8 (lg h),.int .u8 (zy h)],5)] }) none)) (sel (aau c) (sel (eY h) (some { val:=[.one (.sl 0 10),.one dh],rows:=[([.int .u8 (qaa 6),.int .u8 (dO v),.int .u8 (iT v),.int .u8 (kZ v),.int .u8 (zH v),.int .u8 (jy c),.int .u8 (lZ c),.int .u8 (vS c),.int .u8 (KC c),.int .u8 (gV h)],5)] }) (sel (zC h) (some { val:=[.one (.sl 0 13),.one dh],rows:=[([.int .u8 (qaa 6),.int .u8 (dO v),.int .u8 (iT v),.int .u8 (kZ v),.int .u8 (zH v),.int .u8 (jy c),.int .u8 (lZ c),.int .u8 (vS c),.int .u8 (KC c),.int .u8 (eX h),.int .u8 (iV h),.int .u8 (lg h),.int .u8 (zy h)],5)] }) none)) none)) none)
noncomputable def abS (v c h:Nat):Option cO:=sel (yg c h v) (aib c h v) none
theorem aqk (v c h:Nat):(runK (iL true) (C4 3) 40).1 6 [qv 6 0 (qaa v) (qaa c) (qaa h)] (aP []) (dJ Tryz.prog)=abS v c h:=by kernel_rfl
noncomputable def Y6 (c:Nat):=qao 268435456 (c.mod 18446744073709551616)&&(ltN (c.mod 18446744073709551616) 34359738368&&true)
noncomputable def OH (c:Nat):=qaa (((NR c).mod 128).add 128)
noncomputable def KD (c:Nat):=qaa (((NR c).div 128).mod 256)
noncomputable def ahC (c h v:Nat):Option cO:=sel (jl v) (sel (pK c) (sel (eY h) (yY c h v) (sel (Am h) (some { val:=[.one (.sl 0 8),.one dh],rows:=[([.int .u8 (qaa 6),.int .u8 (fG v),.int .u8 (jW c),.int .u8 (eX h),.int .u8 (iV h),.int .u8 (lg h),.int .u8 (Aq h),.int .u8 (AP h)],5)] }) none)) (sel (Y6 c) (sel (eY h) (some { val:=[.one (.sl 0 8),.one dh],rows:=[([.int .u8 (qaa 6),.int .u8 (fG v),.int .u8 (jy c),.int .u8 (lZ c),.int .u8 (vS c),.int .u8 (OH c),.int .u8 (KD c),.int .u8 (gV h)],5)] }) (sel (Am h) (some { val:=[.one (.sl 0 12),.one dh],rows:=[([.int .u8 (qaa 6),.int .u8 (fG v),.int .u8 (jy c),.int .u8 (lZ c),.int .u8 (vS c),.int .u8 (OH c),.int .u8 (KD c),.int .u8 (eX h),.int .u8 (iV h),.int .u8 (lg h),.int .u8 (Aq h),.int .u8 (AP h)],5)] }) none)) none)) (sel (RX v) (sel (pK c) (sel (eY h) (some { val:=[.one (.sl 0 8),.one dh],rows:=[([.int .u8 (qaa 6),.int .u8 (dO v),.int .u8 (iT v),.int .u8 (kZ v),.int .u8 (Ai v),.int .u8 (zO v),.int .u8 (jW c),.int .u8 (gV h)],5)] }) (sel (Am h) (some { val:=[.one (.sl 0 12),.one dh],rows:=[([.int .u8 (qaa 6),.int .u8 (dO v),.int .u8 (iT v),.int .u8 (kZ v),.int .u8 (Ai v),.int .u8 (zO v),.int .u8 (jW c),.int .u8 (eX h),.int .u8 (iV h),.int .u8 (lg h),.int .u8 (Aq h),.int .u8 (AP h)],5)] }) none)) (sel (Y6 c) (sel (eY h) (some { val:=[.one (.sl 0 12),.one dh],rows:=[([.int .u8 (qaa 6),.int .u8 (dO v),.int .u8 (iT v),.int .u8 (kZ v),.int .u8 (Ai v),.int .u8 (zO v),.int .u8 (jy c),.int .u8 (lZ c),.int .u8 (vS c),.int .u8 (OH c),.int .u8 (KD c),.int .u8 (gV h)],5)] }) (sel (Am h) (some { val:=[.one (.sl 0 16),.one dh],rows:=[([.int .u8 (qaa 6),.int .u8 (dO v),.int .u8 (iT v),.int .u8 (kZ v),.int .u8 (Ai v),.int .u8 (zO v),.int .u8 (jy c),.int .u8 (lZ c),.int .u8 (vS c),.int .u8 (OH c),.int .u8 (KD c),.int .u8 (eX h),.int .u8 (iV h),.int .u8 (lg h),.int .u8 (Aq h),.int .u8 (AP h)],5)] }) none)) none)) none)
noncomputable def acK (v c h:Nat):Option cO:=sel (yg c h v) (ahC c h v) none
theorem anN (v c h:Nat):(runK (iL true) (C4 4) 40).1 6 [qv 6 0 (qaa v) (qaa c) (qaa h)] (aP []) (dJ Tryz.prog)=acK v c h:=by kernel_rfl
noncomputable def afI (v:Nat):=(Fn.qE (qaa 7) (qaa 0) (qaa v) (qaa 0) (qaa 0)).beq 0
noncomputable def ajm (v:Nat):Option cO:=sel (jl v) (some { val:=[.one (.sl 0 2),.one dh],rows:=[([.int .u8 (qaa 7),.int .u8 (fG v)],5)] }) (sel (wF v) (some { val:=[.one (.sl 0 3),.one dh],rows:=[([.int .u8 (qaa 7),.int .u8 (dO v),.int .u8 (nR v)],5)] }) none)
noncomputable def acO (v:Nat):Option cO:=sel (afI v) (ajm v) none
theorem auI (v:Nat):(runK (iL true) (C4 1) 40).1 6 [qv 7 0 (qaa v) 0 0] (aP []) (dJ Tryz.prog)=acO v:=by kernel_rfl
theorem alL (t:Bool):(runK (iL true) (C4 1) 40).1 6 [qv 8 0 0 0 0] (aP []) (dJ Tryz.prog)=some { val:=[jk.one (gX.sl 0 1),jk.one (gX.flat (Value.int IntKind.i64 0))],rows:=[([Value.int IntKind.u8 (qaa 8)],5)] }:=by kernel_rfl
theorem alN (t:Bool):(runK (iL true) (C4 1) 40).1 6 [qv 9 0 0 0 0] (aP []) (dJ Tryz.prog)=some { val:=[jk.one (gX.sl 0 1),jk.one (gX.flat (Value.int IntKind.i64 0))],rows:=[([Value.int IntKind.u8 (qaa 9)],5)] }:=by kernel_rfl
theorem aiT (t:Bool):(runK (iL true) (C4 1) 40).1 6 [qv 10 0 0 0 0] (aP []) (dJ Tryz.prog)=some { val:=[jk.one (gX.sl 0 1),jk.one (gX.flat (Value.int IntKind.i64 0))],rows:=[([Value.int IntKind.u8 (qaa 10)],5)] }:=by kernel_rfl
noncomputable def TL:gX:=.flat (.slice none 0 0)
noncomputable def aiK:Option cO:=some { val:=[.one TL,.one (.flat (.int .i64 (qaa 2)))],rows:=[] }
noncomputable def agi (a c h k v:Int):Option cO:=sel ((Fn.qE k a v c h).beq 3) (some { val:=[.one TL,.one (.flat (.int .i64 (qaa 3)))],rows:=[] }) (sel ((Fn.qE k a v c h).beq 5) (some { val:=[.one TL,.one (.flat (.int .i64 (qaa 5)))],rows:=[] }) none)
noncomputable def abB (k a v c h:Int):Option cO:=sel ((Fn.qE k a v c h).beq 2) aiK (agi a c h k v)
theorem awW (k a v c h:Int):(runK (iL true) (C3 false) 40).1 6 [qv k a v c h] (aP []) (dJ Tryz.prog)=abB k a v c h:=by kernel_rfl
end Go.Ax
