import Derived.Test.YtaplfdajjdbomaaGreatDoorDe
import Derived.Test.YtaplfdajjdbomaaGreatDoorDc
import Derived.Test.YtaplfdajjdbomaaGreatDoorDd
open Int renaming ofNat→qaa,ofNat_eq_natCast→qab,negSucc→qaH
open Nat renaming eq_of_beq_eq_true→qac,succ→qaf,add→qag,le_of_ble_eq_true→qai,zero_add→qak,beq→qal,ble→qao,mod_mod→qap,zero_or→qaq,mul_one→qar,ble_eq_true_of_le→qas,mod_eq_of_lt→qat,pow_le_pow_right→qau,pow_succ→qaz,sub→qaC,eq_zero_or_pos→qaE,mod_lt→qaF,mul_comm→qaG,lor→qaJ,mod→qaK,mul→qaL,pow→qaM
open Bool renaming and_eq_true→qad,and_eq_false_imp→qae,not_eq_true'→qah,or_eq_true→qaj,true_and→qam,and_true→qan,not_eq_true→qav
open List renaming mem_cons_self→qaw,append_assoc→qax,replicate→qay,drop_eq_getElem_cons→qaA,getElem?_eq_getElem→qaB,length_cons→qaD,append_nil→qaI
set_option maxRecDepth 1000000
set_option maxHeartbeats 0
set_option linter.unusedSectionVars false
set_option linter.unusedSimpArgs false
set_option linter.unusedVariables false
namespace Go.Ax
open Go Go.Proofs
noncomputable def KQ:KP:={ L:=11 }
noncomputable def P5 (n:Nat):=qaa (((n.mod 256).mod 256).lor 128)
noncomputable def al0 (n:Nat):Option cO:=some { val:=[.one (.sl 0 1)],rows:=[([.int .u8 (qaa (n.mod 256))],5)] }
theorem azP (n:Nat):(runK KQ CB 16).1 52 [.int .u64 (qaa n)] (aH []) (bP Tryz.prog)=sel (leI 128 (qaa n)) (sel (leI 128 (qaa (ay [.int .u64 (qaa (n.div 128))] 0))) (sel (leI 128 (qaa (ay [.int .u64 (qaa ((ay [.int .u64 (qaa (n.div 128))] 0).div 128))] 0))) (sel (leI 128 (qaa (ay [.int .u64 (qaa ((ay [.int .u64 (qaa ((ay [.int .u64 (qaa (n.div 128))] 0).div 128))] 0).div 128))] 0))) (sel (leI 128 (qaa (ay [.int .u64 (qaa ((ay [.int .u64 (qaa ((ay [.int .u64 (qaa ((ay [.int .u64 (qaa (n.div 128))] 0).div 128))] 0).div 128))] 0).div 128))] 0))) (sel (leI 128 (qaa (ay [.int .u64 (qaa ((ay [.int .u64 (qaa ((ay [.int .u64 (qaa ((ay [.int .u64 (qaa ((ay [.int .u64 (qaa (n.div 128))] 0).div 128))] 0).div 128))] 0).div 128))] 0).div 128))] 0))) (sel (leI 128 (qaa (ay [.int .u64 (qaa ((ay [.int .u64 (qaa ((ay [.int .u64 (qaa ((ay [.int .u64 (qaa ((ay [.int .u64 (qaa ((ay [.int .u64 (qaa (n.div 128))] 0).div 128))] 0).div 128))] 0).div 128))] 0).div 128))] 0).div 128))] 0))) (sel (leI 128 (qaa (ay [.int .u64 (qaa ((ay [.int .u64 (qaa ((ay [.int .u64 (qaa ((ay [.int .u64 (qaa ((ay [.int .u64 (qaa ((ay [.int .u64 (qaa ((ay [.int .u64 (qaa (n.div 128))] 0).div 128))] 0).div 128))] 0).div 128))] 0).div 128))] 0).div 128))] 0).div 128))] 0))) (sel (leI 128 (qaa (ay [.int .u64 (qaa ((ay [.int .u64 (qaa ((ay [.int .u64 (qaa ((ay [.int .u64 (qaa ((ay [.int .u64 (qaa ((ay [.int .u64 (qaa ((ay [.int .u64 (qaa ((ay [.int .u64 (qaa (n.div 128))] 0).div 128))] 0).div 128))] 0).div 128))] 0).div 128))] 0).div 128))] 0).div 128))] 0).div 128))] 0))) (sel (leI 128 (qaa (ay [.int .u64 (qaa ((ay [.int .u64 (qaa ((ay [.int .u64 (qaa ((ay [.int .u64 (qaa ((ay [.int .u64 (qaa ((ay [.int .u64 (qaa ((ay [.int .u64 (qaa ((ay [.int .u64 (qaa ((ay [.int .u64 (qaa (n.div 128))] 0).div 128))] 0).div 128))] 0).div 128))] 0).div 128))] 0).div 128))] 0).div 128))] 0).div 128))] 0).div 128))] 0))) (sel (leI 128 (qaa (ay [.int .u64 (qaa ((ay [.int .u64 (qaa ((ay [.int .u64 (qaa ((ay [.int .u64 (qaa ((ay [.int .u64 (qaa ((ay [.int .u64 (qaa ((ay [.int .u64 (qaa ((ay [.int .u64 (qaa ((ay [.int .u64 (qaa ((ay [.int .u64 (qaa (n.div 128))] 0).div 128))] 0).div 128))] 0).div 128))] 0).div 128))] 0).div 128))] 0).div 128))] 0).div 128))] 0).div 128))] 0).div 128))] 0))) none (some { val:=[.one (.sl 0 11)],rows:=[([.int .u8 (P5 n),.int .u8 (qaa ((((ay [.int .u64 (qaa (n.div 128))] 0).mod 256).mod 256).lor 128)),.int .u8 (qaa ((((ay [.int .u64 (qaa ((ay [.int .u64 (qaa (n.div 128))] 0).div 128))] 0).mod 256).mod 256).lor 128)),.int .u8 (qaa ((((ay [.int .u64 (qaa ((ay [.int .u64 (qaa ((ay [.int .u64 (qaa (n.div 128))] 0).div 128))] 0).div 128))] 0).mod 256).mod 256).lor 128)),.int .u8 (qaa ((((ay [.int .u64 (qaa ((ay [.int .u64 (qaa ((ay [.int .u64 (qaa ((ay [.int .u64 (qaa (n.div 128))] 0).div 128))] 0).div 128))] 0).div 128))] 0).mod 256).mod 256).lor 128)),.int .u8 (qaa ((((ay [.int .u64 (qaa ((ay [.int .u64 (qaa ((ay [.int .u64 (qaa ((ay [.int .u64 (qaa ((ay [.int .u64 (qaa (n.div 128))] 0).div 128))] 0).div 128))] 0).div 128))] 0).div 128))] 0).mod 256).mod 256).lor 128)),.int .u8 (qaa ((((ay [.int .u64 (qaa ((ay [.int .u64 (qaa ((ay [.int .u64 (qaa ((ay [.int .u64 (qaa ((ay [.int .u64 (qaa ((ay [.int .u64 (qaa (n.div 128))] 0).div 128))] 0).div 128))] 0).div 128))] 0).div 128))] 0).div 128))] 0).mod 256).mod 256).lor 128)),.int .u8 (qaa ((((ay [.int .u64 (qaa ((ay [.int .u64 (qaa ((ay [.int .u64 (qaa ((ay [.int .u64 (qaa ((ay [.int .u64 (qaa ((ay [.int .u64 (qaa ((ay [.int .u64 (qaa (n.div 128))] 0).div 128))] 0).div 128))] 0).div 128))] 0).div 128))] 0).div 128))] 0).div 128))] 0).mod 256).mod 256).lor 128)),.int .u8 (qaa ((((ay [.int .u64 (qaa ((ay [.int .u64 (qaa ((ay [.int .u64 (qaa ((ay [.int .u64 (qaa ((ay [.int .u64 (qaa ((ay [.int .u64 (qaa ((ay [.int .u64 (qaa ((ay [.int .u64 (qaa (n.div 128))] 0).div 128))] 0).div 128))] 0).div 128))] 0).div 128))] 0).div 128))] 0).div 128))] 0).div 128))] 0).mod 256).mod 256).lor 128)),.int .u8 (qaa ((((ay [.int .u64 (qaa ((ay [.int .u64 (qaa ((ay [.int .u64 (qaa ((ay [.int .u64 (qaa ((ay [.int .u64 (qaa ((ay [.int .u64 (qaa ((ay [.int .u64 (qaa ((ay [.int .u64 (qaa ((ay [.int .u64 (qaa (n.div 128))] 0).div 128))] 0).div 128))] 0).div 128))] 0).div 128))] 0).div 128))] 0).div 128))] 0).div 128))] 0).div 128))] 0).mod 256).mod 256).lor 128)),.int .u8 (qaa ((ay [.int .u64 (qaa ((ay [.int .u64 (qaa ((ay [.int .u64 (qaa ((ay [.int .u64 (qaa ((ay [.int .u64 (qaa ((ay [.int .u64 (qaa ((ay [.int .u64 (qaa ((ay [.int .u64 (qaa ((ay [.int .u64 (qaa ((ay [.int .u64 (qaa (n.div 128))] 0).div 128))] 0).div 128))] 0).div 128))] 0).div 128))] 0).div 128))] 0).div 128))] 0).div 128))] 0).div 128))] 0).div 128))] 0).mod 256))],5)] })) (some { val:=[.one (.sl 0 10)],rows:=[([.int .u8 (P5 n),.int .u8 (qaa ((((ay [.int .u64 (qaa (n.div 128))] 0).mod 256).mod 256).lor 128)),.int .u8 (qaa ((((ay [.int .u64 (qaa ((ay [.int .u64 (qaa (n.div 128))] 0).div 128))] 0).mod 256).mod 256).lor 128)),.int .u8 (qaa ((((ay [.int .u64 (qaa ((ay [.int .u64 (qaa ((ay [.int .u64 (qaa (n.div 128))] 0).div 128))] 0).div 128))] 0).mod 256).mod 256).lor 128)),.int .u8 (qaa ((((ay [.int .u64 (qaa ((ay [.int .u64 (qaa ((ay [.int .u64 (qaa ((ay [.int .u64 (qaa (n.div 128))] 0).div 128))] 0).div 128))] 0).div 128))] 0).mod 256).mod 256).lor 128)),.int .u8 (qaa ((((ay [.int .u64 (qaa ((ay [.int .u64 (qaa ((ay [.int .u64 (qaa ((ay [.int .u64 (qaa ((ay [.int .u64 (qaa (n.div 128))] 0).div 128))] 0).div 128))] 0).div 128))] 0).div 128))] 0).mod 256).mod 256).lor 128)),.int .u8 (qaa ((((ay [.int .u64 (qaa ((ay [.int .u64 (qaa ((ay [.int .u64 (qaa ((ay [.int .u64 (qaa ((ay [.int .u64 (qaa ((ay [.int .u64 (qaa (n.div 128))] 0).div 128))] 0).div 128))] 0).div 128))] 0).div 128))] 0).div 128))] 0).mod 256).mod 256).lor 128)),.int .u8 (qaa ((((ay [.int .u64 (qaa ((ay [.int .u64 (qaa ((ay [.int .u64 (qaa ((ay [.int .u64 (qaa ((ay [.int .u64 (qaa ((ay [.int .u64 (qaa ((ay [.int .u64 (qaa (n.div 128))] 0).div 128))] 0).div 128))] 0).div 128))] 0).div 128))] 0).div 128))] 0).div 128))] 0).mod 256).mod 256).lor 128)),.int .u8 (qaa ((((ay [.int .u64 (qaa ((ay [.int .u64 (qaa ((ay [.int .u64 (qaa ((ay [.int .u64 (qaa ((ay [.int .u64 (qaa ((ay [.int .u64 (qaa ((ay [.int .u64 (qaa ((ay [.int .u64 (qaa (n.div 128))] 0).div 128))] 0).div 128))] 0).div 128))] 0).div 128))] 0).div 128))] 0).div 128))] 0).div 128))] 0).mod 256).mod 256).lor 128)),.int .u8 (qaa ((ay [.int .u64 (qaa ((ay [.int .u64 (qaa ((ay [.int .u64 (qaa ((ay [.int .u64 (qaa ((ay [.int .u64 (qaa ((ay [.int .u64 (qaa ((ay [.int .u64 (qaa ((ay [.int .u64 (qaa ((ay [.int .u64 (qaa (n.div 128))] 0).div 128))] 0).div 128))] 0).div 128))] 0).div 128))] 0).div 128))] 0).div 128))] 0).div 128))] 0).div 128))] 0).mod 256))],5)] })) (some { val:=[.one (.sl 0 9)],rows:=[([.int .u8 (P5 n),.int .u8 (qaa ((((ay [.int .u64 (qaa (n.div 128))] 0).mod 256).mod 256).lor 128)),.int .u8 (qaa ((((ay [.int .u64 (qaa ((ay [.int .u64 (qaa (n.div 128))] 0).div 128))] 0).mod 256).mod 256).lor 128)),.int .u8 (qaa ((((ay [.int .u64 (qaa ((ay [.int .u64 (qaa ((ay [.int .u64 (qaa (n.div 128))] 0).div 128))] 0).div 128))] 0).mod 256).mod 256).lor 128)),.int .u8 (qaa ((((ay [.int .u64 (qaa ((ay [.int .u64 (qaa ((ay [.int .u64 (qaa ((ay [.int .u64 (qaa (n.div 128))] 0).div 128))] 0).div 128))] 0).div 128))] 0).mod 256).mod 256).lor 128)),.int .u8 (qaa ((((ay [.int .u64 (qaa ((ay [.int .u64 (qaa ((ay [.int .u64 (qaa ((ay [.int .u64 (qaa ((ay [.int .u64 (qaa (n.div 128))] 0).div 128))] 0).div 128))] 0).div 128))] 0).div 128))] 0).mod 256).mod 256).lor 128)),.int .u8 (qaa ((((ay [.int .u64 (qaa ((ay [.int .u64 (qaa ((ay [.int .u64 (qaa ((ay [.int .u64 (qaa ((ay [.int .u64 (qaa ((ay [.int .u64 (qaa (n.div 128))] 0).div 128))] 0).div 128))] 0).div 128))] 0).div 128))] 0).div 128))] 0).mod 256).mod 256).lor 128)),.int .u8 (qaa ((((ay [.int .u64 (qaa ((ay [.int .u64 (qaa ((ay [.int .u64 (qaa ((ay [.int .u64 (qaa ((ay [.int .u64 (qaa ((ay [.int .u64 (qaa ((ay [.int .u64 (qaa (n.div 128))] 0).div 128))] 0).div 128))] 0).div 128))] 0).div 128))] 0).div 128))] 0).div 128))] 0).mod 256).mod 256).lor 128)),.int .u8 (qaa ((ay [.int .u64 (qaa ((ay [.int .u64 (qaa ((ay [.int .u64 (qaa ((ay [.int .u64 (qaa ((ay [.int .u64 (qaa ((ay [.int .u64 (qaa ((ay [.int .u64 (qaa ((ay [.int .u64 (qaa (n.div 128))] 0).div 128))] 0).div 128))] 0).div 128))] 0).div 128))] 0).div 128))] 0).div 128))] 0).div 128))] 0).mod 256))],5)] })) (some { val:=[.one (.sl 0 8)],rows:=[([.int .u8 (P5 n),.int .u8 (qaa ((((ay [.int .u64 (qaa (n.div 128))] 0).mod 256).mod 256).lor 128)),.int .u8 (qaa ((((ay [.int .u64 (qaa ((ay [.int .u64 (qaa (n.div 128))] 0).div 128))] 0).mod 256).mod 256).lor 128)),.int .u8 (qaa ((((ay [.int .u64 (qaa ((ay [.int .u64 (qaa ((ay [.int .u64 (qaa (n.div 128))] 0).div 128))] 0).div 128))] 0).mod 256).mod 256).lor 128)),.int .u8 (qaa ((((ay [.int .u64 (qaa ((ay [.int .u64 (qaa ((ay [.int .u64 (qaa ((ay [.int .u64 (qaa (n.div 128))] 0).div 128))] 0).div 128))] 0).div 128))] 0).mod 256).mod 256).lor 128)),.int .u8 (qaa ((((ay [.int .u64 (qaa ((ay [.int .u64 (qaa ((ay [.int .u64 (qaa ((ay [.int .u64 (qaa ((ay [.int .u64 (qaa (n.div 128))] 0).div 128))] 0).div 128))] 0).div 128))] 0).div 128))] 0).mod 256).mod 256).lor 128)),.int .u8 (qaa ((((ay [.int .u64 (qaa ((ay [.int .u64 (qaa ((ay [.int .u64 (qaa ((ay [.int .u64 (qaa ((ay [.int .u64 (qaa ((ay [.int .u64 (qaa (n.div 128))] 0).div 128))] 0).div 128))] 0).div 128))] 0).div 128))] 0).div 128))] 0).mod 256).mod 256).lor 128)),.int .u8 (qaa ((ay [.int .u64 (qaa ((ay [.int .u64 (qaa ((ay [.int .u64 (qaa ((ay [.int .u64 (qaa ((ay [.int .u64 (qaa ((ay [.int .u64 (qaa ((ay [.int .u64 (qaa (n.div 128))] 0).div 128))] 0).div 128))] 0).div 128))] 0).div 128))] 0).div 128))] 0).div 128))] 0).mod 256))],5)] })) (some { val:=[.one (.sl 0 7)],rows:=[([.int .u8 (P5 n),.int .u8 (qaa ((((ay [.int .u64 (qaa (n.div 128))] 0).mod 256).mod 256).lor 128)),.int .u8 (qaa ((((ay [.int .u64 (qaa ((ay [.int .u64 (qaa (n.div 128))] 0).div 128))] 0).mod 256).mod 256).lor 128)),.int .u8 (qaa ((((ay [.int .u64 (qaa ((ay [.int .u64 (qaa ((ay [.int .u64 (qaa (n.div 128))] 0).div 128))] 0).div 128))] 0).mod 256).mod 256).lor 128)),.int .u8 (qaa ((((ay [.int .u64 (qaa ((ay [.int .u64 (qaa ((ay [.int .u64 (qaa ((ay [.int .u64 (qaa (n.div 128))] 0).div 128))] 0).div 128))] 0).div 128))] 0).mod 256).mod 256).lor 128)),.int .u8 (qaa ((((ay [.int .u64 (qaa ((ay [.int .u64 (qaa ((ay [.int .u64 (qaa ((ay [.int .u64 (qaa ((ay [.int .u64 (qaa (n.div 128))] 0).div 128))] 0).div 128))] 0).div 128))] 0).div 128))] 0).mod 256).mod 256).lor 128)),.int .u8 (qaa ((ay [.int .u64 (qaa ((ay [.int .u64 (qaa ((ay [.int .u64 (qaa ((ay [.int .u64 (qaa ((ay [.int .u64 (qaa ((ay [.int .u64 (qaa (n.div 128))] 0).div 128))] 0).div 128))] 0).div 128))] 0).div 128))] 0).div 128))] 0).mod 256))],5)] })) (some { val:=[.one (.sl 0 6)],rows:=[([.int .u8 (P5 n),.int .u8 (qaa ((((ay [.int .u64 (qaa (n.div 128))] 0).mod 256).mod 256).lor 128)),.int .u8 (qaa ((((ay [.int .u64 (qaa ((ay [.int .u64 (qaa (n.div 128))] 0).div 128))] 0).mod 256).mod 256).lor 128)),.int .u8 (qaa ((((ay [.int .u64 (qaa ((ay [.int .u64 (qaa ((ay [.int .u64 (qaa (n.div 128))] 0).div 128))] 0).div 128))] 0).mod 256).mod 256).lor 128)),.int .u8 (qaa ((((ay [.int .u64 (qaa ((ay [.int .u64 (qaa ((ay [.int .u64 (qaa ((ay [.int .u64 (qaa (n.div 128))] 0).div 128))] 0).div 128))] 0).div 128))] 0).mod 256).mod 256).lor 128)),.int .u8 (qaa ((ay [.int .u64 (qaa ((ay [.int .u64 (qaa ((ay [.int .u64 (qaa ((ay [.int .u64 (qaa ((ay [.int .u64 (qaa (n.div 128))] 0).div 128))] 0).div 128))] 0).div 128))] 0).div 128))] 0).mod 256))],5)] })) (some { val:=[.one (.sl 0 5)],rows:=[([.int .u8 (P5 n),.int .u8 (qaa ((((ay [.int .u64 (qaa (n.div 128))] 0).mod 256).mod 256).lor 128)),.int .u8 (qaa ((((ay [.int .u64 (qaa ((ay [.int .u64 (qaa (n.div 128))] 0).div 128))] 0).mod 256).mod 256).lor 128)),.int .u8 (qaa ((((ay [.int .u64 (qaa ((ay [.int .u64 (qaa ((ay [.int .u64 (qaa (n.div 128))] 0).div 128))] 0).div 128))] 0).mod 256).mod 256).lor 128)),.int .u8 (qaa ((ay [.int .u64 (qaa ((ay [.int .u64 (qaa ((ay [.int .u64 (qaa ((ay [.int .u64 (qaa (n.div 128))] 0).div 128))] 0).div 128))] 0).div 128))] 0).mod 256))],5)] })) (some { val:=[.one (.sl 0 4)],rows:=[([.int .u8 (P5 n),.int .u8 (qaa ((((ay [.int .u64 (qaa (n.div 128))] 0).mod 256).mod 256).lor 128)),.int .u8 (qaa ((((ay [.int .u64 (qaa ((ay [.int .u64 (qaa (n.div 128))] 0).div 128))] 0).mod 256).mod 256).lor 128)),.int .u8 (qaa ((ay [.int .u64 (qaa ((ay [.int .u64 (qaa ((ay [.int .u64 (qaa (n.div 128))] 0).div 128))] 0).div 128))] 0).mod 256))],5)] })) (some { val:=[.one (.sl 0 3)],rows:=[([.int .u8 (P5 n),.int .u8 (qaa ((((ay [.int .u64 (qaa (n.div 128))] 0).mod 256).mod 256).lor 128)),.int .u8 (qaa ((ay [.int .u64 (qaa ((ay [.int .u64 (qaa (n.div 128))] 0).div 128))] 0).mod 256))],5)] })) (some { val:=[.one (.sl 0 2)],rows:=[([.int .u8 (P5 n),.int .u8 (qaa ((ay [.int .u64 (qaa (n.div 128))] 0).mod 256))],5)] })) (al0 n):=by kernel_rfl
noncomputable def ajz (n:Nat):=(n.div 128).mod 18446744073709551616
noncomputable def CY (n:Nat):=qaa ((((n.mod 128).mod 256).mod 256).lor 128)
noncomputable def ag0 (n:Nat):=((ajz n).div 128).mod 18446744073709551616
noncomputable def EC (n:Nat):=qaa (((((ajz n).mod 128).mod 256).mod 256).lor 128)
noncomputable def ai4 (n:Nat):=((ag0 n).div 128).mod 18446744073709551616
noncomputable def Gp (n:Nat):=qaa (((((ag0 n).mod 128).mod 256).mod 256).lor 128)
noncomputable def ajq (n:Nat):=((ai4 n).div 128).mod 18446744073709551616
noncomputable def G8 (n:Nat):=qaa (((((ai4 n).mod 128).mod 256).mod 256).lor 128)
noncomputable def Y0 (n:Nat):=((ajq n).div 128).mod 18446744073709551616
noncomputable def zI (n:Nat):=qaa (((((ajq n).mod 128).mod 256).mod 256).lor 128)
noncomputable def YS (n:Nat):=((Y0 n).div 128).mod 18446744073709551616
noncomputable def zS (n:Nat):=qaa (((((Y0 n).mod 128).mod 256).mod 256).lor 128)
noncomputable def Xd (n:Nat):=((YS n).div 128).mod 18446744073709551616
noncomputable def DK (n:Nat):=qaa (((((YS n).mod 128).mod 256).mod 256).lor 128)
noncomputable def Y2 (n:Nat):=((Xd n).div 128).mod 18446744073709551616
noncomputable def F8 (n:Nat):=qaa (((((Xd n).mod 128).mod 256).mod 256).lor 128)
noncomputable def Y6 (n:Nat):=((Y2 n).div 128).mod 18446744073709551616
noncomputable def Jw (n:Nat):=qaa (((((Y2 n).mod 128).mod 256).mod 256).lor 128)
noncomputable def YU (n:Nat):=((Y6 n).div 128).mod 18446744073709551616
noncomputable def LH (n:Nat):=qaa (((((Y6 n).mod 128).mod 256).mod 256).lor 128)
noncomputable def Wx (n:Nat):=((YU n).div 128).mod 18446744073709551616
noncomputable def Rj (n:Nat):=qaa (((((YU n).mod 128).mod 256).mod 256).lor 128)
noncomputable def aac (n:Nat):=((Wx n).div 128).mod 18446744073709551616
noncomputable def Zp (n:Nat):=qaa (((((Wx n).mod 128).mod 256).mod 256).lor 128)
noncomputable def Z5 (n:Nat):=((aac n).div 128).mod 18446744073709551616
noncomputable def acH (n:Nat):=qaa (((((aac n).mod 128).mod 256).mod 256).lor 128)
noncomputable def Wl (n:Nat):=((Z5 n).div 128).mod 18446744073709551616
noncomputable def ain (n:Nat):=qaa (((((Z5 n).mod 128).mod 256).mod 256).lor 128)
noncomputable def ala (n:Nat):=((Wl n).div 128).mod 18446744073709551616
theorem atz (n:Nat):(runK KQ CB 16).1 30 [.int .u64 (qaa n)] (aH []) (bP Tryz.prog)=sel (ltI (qaa n) 128) (al0 n) (sel (ltI (qaa (ajz n)) 128) (some { val:=[.one (.sl 0 2)],rows:=[([.int .u8 (CY n),.int .u8 (qaa ((ajz n).mod 256))],5)] }) (sel (ltI (qaa (ag0 n)) 128) (some { val:=[.one (.sl 0 3)],rows:=[([.int .u8 (CY n),.int .u8 (EC n),.int .u8 (qaa ((ag0 n).mod 256))],5)] }) (sel (ltI (qaa (ai4 n)) 128) (some { val:=[.one (.sl 0 4)],rows:=[([.int .u8 (CY n),.int .u8 (EC n),.int .u8 (Gp n),.int .u8 (qaa ((ai4 n).mod 256))],5)] }) (sel (ltI (qaa (ajq n)) 128) (some { val:=[.one (.sl 0 5)],rows:=[([.int .u8 (CY n),.int .u8 (EC n),.int .u8 (Gp n),.int .u8 (G8 n),.int .u8 (qaa ((ajq n).mod 256))],5)] }) (sel (ltI (qaa (Y0 n)) 128) (some { val:=[.one (.sl 0 6)],rows:=[([.int .u8 (CY n),.int .u8 (EC n),.int .u8 (Gp n),.int .u8 (G8 n),.int .u8 (zI n),.int .u8 (qaa ((Y0 n).mod 256))],5)] }) (sel (ltI (qaa (YS n)) 128) (some { val:=[.one (.sl 0 7)],rows:=[([.int .u8 (CY n),.int .u8 (EC n),.int .u8 (Gp n),.int .u8 (G8 n),.int .u8 (zI n),.int .u8 (zS n),.int .u8 (qaa ((YS n).mod 256))],5)] }) (sel (ltI (qaa (Xd n)) 128) (some { val:=[.one (.sl 0 8)],rows:=[([.int .u8 (CY n),.int .u8 (EC n),.int .u8 (Gp n),.int .u8 (G8 n),.int .u8 (zI n),.int .u8 (zS n),.int .u8 (DK n),.int .u8 (qaa ((Xd n).mod 256))],5)] }) (sel (ltI (qaa (Y2 n)) 128) (some { val:=[.one (.sl 0 9)],rows:=[([.int .u8 (CY n),.int .u8 (EC n),.int .u8 (Gp n),.int .u8 (G8 n),.int .u8 (zI n),.int .u8 (zS n),.int .u8 (DK n),.int .u8 (F8 n),.int .u8 (qaa ((Y2 n).mod 256))],5)] }) (sel (ltI (qaa (Y6 n)) 128) (some { val:=[.one (.sl 0 10)],rows:=[([.int .u8 (CY n),.int .u8 (EC n),.int .u8 (Gp n),.int .u8 (G8 n),.int .u8 (zI n),.int .u8 (zS n),.int .u8 (DK n),.int .u8 (F8 n),.int .u8 (Jw n),.int .u8 (qaa ((Y6 n).mod 256))],5)] }) (sel (ltI (qaa (YU n)) 128) (some { val:=[.one (.sl 0 11)],rows:=[([.int .u8 (CY n),.int .u8 (EC n),.int .u8 (Gp n),.int .u8 (G8 n),.int .u8 (zI n),.int .u8 (zS n),.int .u8 (DK n),.int .u8 (F8 n),.int .u8 (Jw n),.int .u8 (LH n),.int .u8 (qaa ((YU n).mod 256))],5)] }) (sel (ltI (qaa (Wx n)) 128) (some { val:=[.one (.sl 0 12)],rows:=[([.int .u8 (CY n),.int .u8 (EC n),.int .u8 (Gp n),.int .u8 (G8 n),.int .u8 (zI n),.int .u8 (zS n),.int .u8 (DK n),.int .u8 (F8 n),.int .u8 (Jw n),.int .u8 (LH n),.int .u8 (Rj n),.int .u8 (qaa ((Wx n).mod 256))],5)] }) (sel (ltI (qaa (aac n)) 128) (some { val:=[.one (.sl 0 13)],rows:=[([.int .u8 (CY n),.int .u8 (EC n),.int .u8 (Gp n),.int .u8 (G8 n),.int .u8 (zI n),.int .u8 (zS n),.int .u8 (DK n),.int .u8 (F8 n),.int .u8 (Jw n),.int .u8 (LH n),.int .u8 (Rj n),.int .u8 (Zp n),.int .u8 (qaa ((aac n).mod 256))],5)] }) (sel (ltI (qaa (Z5 n)) 128) (some { val:=[.one (.sl 0 14)],rows:=[([.int .u8 (CY n),.int .u8 (EC n),.int .u8 (Gp n),.int .u8 (G8 n),.int .u8 (zI n),.int .u8 (zS n),.int .u8 (DK n),.int .u8 (F8 n),.int .u8 (Jw n),.int .u8 (LH n),.int .u8 (Rj n),.int .u8 (Zp n),.int .u8 (acH n),.int .u8 (qaa ((Z5 n).mod 256))],5)] }) (sel (ltI (qaa (Wl n)) 128) (some { val:=[.one (.sl 0 15)],rows:=[([.int .u8 (CY n),.int .u8 (EC n),.int .u8 (Gp n),.int .u8 (G8 n),.int .u8 (zI n),.int .u8 (zS n),.int .u8 (DK n),.int .u8 (F8 n),.int .u8 (Jw n),.int .u8 (LH n),.int .u8 (Rj n),.int .u8 (Zp n),.int .u8 (acH n),.int .u8 (ain n),.int .u8 (qaa ((Wl n).mod 256))],5)] }) (sel (ltI (qaa (ala n)) 128) (some { val:=[.one (.sl 0 16)],rows:=[([.int .u8 (CY n),.int .u8 (EC n),.int .u8 (Gp n),.int .u8 (G8 n),.int .u8 (zI n),.int .u8 (zS n),.int .u8 (DK n),.int .u8 (F8 n),.int .u8 (Jw n),.int .u8 (LH n),.int .u8 (Rj n),.int .u8 (Zp n),.int .u8 (acH n),.int .u8 (ain n),.int .u8 (qaa (((((Wl n).mod 128).mod 256).mod 256).lor 128)),.int .u8 (qaa ((ala n).mod 256))],5)] }) none))))))))))))))):=by kernel_rfl
end Go.Ax
namespace Go.Ax
open Go Go.Proofs
noncomputable section
def qb8 (n:Nat):Value:=.int .u8 (qaa n)
def tZ:Nat→Nat→List Value:=fun k=>Nat.rec (fun n=>[qb8 (n%256)]) (fun _ ih n=>sel (qao 128 n) (qb8 (n%128+128)::ih (n/128)) [qb8 (n%256)]) k
def Fn.iQ (n:Nat):List Value:=tZ 9 n
theorem dI (k n:Nat):tZ (k+1) n=if 128≤n then qb8 (n%128+128)::tZ k (n/128) else [qb8 (n%256)]:=by
 show sel (qao 128 n) _ _=_
 rw [aG]
 by_cases h:128≤n
 ·rw [if_pos (qas h),if_pos h];rfl
 ·rw [if_neg (fun e=>h (qai e)),if_neg h]
theorem Ri:∀ k n,flatAll (tZ k n)=true
 |0,n=>rfl
 |k+1,n=>by
  rw [dI]
  split
  ·show sel true (flatAll (tZ k (n/128))) false=true
   rw [aN];exact Ri k _
  ·rfl
theorem YP (k:IntKind)(x:Nat)(l:List Value):ay (.int k (qaa x)::l) 0=x:=rfl
theorem aqv (a b:Nat):leI (qaa a) (qaa b)=decide (a≤b):=by
 show qao a b=_
 by_cases h:a≤b
 ·rw [qas h];simp [h]
 ·have:qao a b=false:=by rw [←qav];exact fun e=>h (qai e)
  rw [this];simp [h]
theorem wK (a b:Nat):ltI (qaa a) (qaa b)=decide (a<b):=by
 show qao (qaf a) b=_
 by_cases h:a<b
 ·rw [qas h];simp [h]
 ·have:qao (qaf a) b=false:=by rw [←qav];exact fun e=>h (qai e)
  rw [this];simp [h]
theorem ave (n:Nat):(n%256) ||| 128=n%128+128:=by
 have h1:n%256<256:=qaF _ (by omega)
 have h2:n%128=(n%256)%128:=by omega
 rw [h2]
 generalize n%256=m at h1
 have:∀ m:Fin 256,m.val ||| 128=m.val%128+128:=by decide
 exact this ⟨m,h1⟩
def yN (n:Nat):cO:=⟨[.one (.sl 0 (aQ (Fn.iQ n)))],[(Fn.iQ n,5)]⟩
namespace Fn
def mF (n:Nat):Nat:=sel (qao 128 n) (n%128+128) (n%256)
def oH (n:Nat):List Value:=sel (qao 128 n) (tZ 8 (n/128)) []
end Fn
theorem mQ (n:Nat):Fn.iQ n=qb8 (Fn.mF n)::Fn.oH n:=by
 show sel (qao 128 n) (qb8 (n%128+128)::tZ 8 (n/128)) [qb8 (n%256)]=qb8 (sel (qao 128 n) (n%128+128) (n%256))::sel (qao 128 n) (tZ 8 (n/128)) []
 cases qao 128 n <;> rfl
def JL (n:Nat):cO:=⟨[.one (.sl 0 (qaf (aQ (Fn.oH n))))],[(qb8 (Fn.mF n)::Fn.oH n,5)]⟩
theorem Yv (n:Nat):yN n=JL n:=by
 unfold yN JL
 rw [mQ]
 rfl
theorem akp (n:Nat):(n%256%256) ||| 128=n%128+128:=by
 rw [qap];exact ave n
theorem ag7 (n:Nat)(h:n<18446744073709551616):(runK KQ CB 16).1 52 [.int .u64 (qaa n)] (aH []) (bP Tryz.prog)=some (yN n):=by
 rw [azP];unfold al0 P5
 unfold yN Fn.iQ
 have hl:∀ a b:Nat,qaJ a b=a ||| b:=fun _ _=>rfl
 have hm:∀ a b:Nat,qaK a b=a%b:=fun _ _=>rfl
 have hd:∀ a b:Nat,Nat.div a b=a/b:=fun _ _=>rfl
 have hle:∀ b:Nat,leI 128 (qaa b)=decide (128≤b):=fun b=>aqv 128 b
 simp only [YP,hl,hm,hd,hle,aG,decide_eq_true_eq,akp]
 by_cases h0:128≤n
 ·rw [if_pos h0]
  by_cases h1:128≤n/128
  ·rw [if_pos h1]
   by_cases h2:128≤n/128/128
   ·rw [if_pos h2]
    by_cases h3:128≤n/128/128/128
    ·rw [if_pos h3]
     by_cases h4:128≤n/128/128/128/128
     ·rw [if_pos h4]
      by_cases h5:128≤n/128/128/128/128/128
      ·rw [if_pos h5]
       by_cases h6:128≤n/128/128/128/128/128/128
       ·rw [if_pos h6]
        by_cases h7:128≤n/128/128/128/128/128/128/128
        ·rw [if_pos h7]
         by_cases h8:128≤n/128/128/128/128/128/128/128/128
         ·rw [if_pos h8]
          by_cases h9:128≤n/128/128/128/128/128/128/128/128/128
          ·rw [if_pos h9]
           exfalso;omega
          ·rw [if_neg h9]
           simp only [dI,h0,h1,h2,h3,h4,h5,h6,h7,h8,h9,if_true,if_false]
           rfl
         ·rw [if_neg h8]
          simp only [dI,h0,h1,h2,h3,h4,h5,h6,h7,h8,if_true,if_false]
          rfl
        ·rw [if_neg h7]
         simp only [dI,h0,h1,h2,h3,h4,h5,h6,h7,if_true,if_false]
         rfl
       ·rw [if_neg h6]
        simp only [dI,h0,h1,h2,h3,h4,h5,h6,if_true,if_false]
        rfl
      ·rw [if_neg h5]
       simp only [dI,h0,h1,h2,h3,h4,h5,if_true,if_false]
       rfl
     ·rw [if_neg h4]
      simp only [dI,h0,h1,h2,h3,h4,if_true,if_false]
      rfl
    ·rw [if_neg h3]
     simp only [dI,h0,h1,h2,h3,if_true,if_false]
     rfl
   ·rw [if_neg h2]
    simp only [dI,h0,h1,h2,if_true,if_false]
    rfl
  ·rw [if_neg h1]
   simp only [dI,h0,h1,if_true,if_false]
   rfl
 ·rw [if_neg h0]
  simp only [dI,h0,if_true,if_false]
  rfl
theorem arf (n:Nat):(n%128%256%256) ||| 128=n%128+128:=by
 rw [akp];omega
theorem alf (x:Nat)(h:x<18446744073709551616):x/128%18446744073709551616=x/128:=qat (by omega)
theorem ada (n:Nat)(h:n<18446744073709551616):(runK KQ CB 16).1 30 [.int .u64 (qaa n)] (aH []) (bP Tryz.prog)=some (yN n):=by
 rw [atz];unfold ala ain Wl acH Z5 Zp aac Rj Wx LH YU Jw Y6 F8 Y2 DK Xd zS YS zI Y0 G8 ajq Gp ai4 EC ag0 CY ajz al0
 unfold yN Fn.iQ
 have hl:∀ a b:Nat,qaJ a b=a ||| b:=fun _ _=>rfl
 have hm:∀ a b:Nat,qaK a b=a%b:=fun _ _=>rfl
 have hd:∀ a b:Nat,Nat.div a b=a/b:=fun _ _=>rfl
 have hlt:∀ b:Nat,ltI (qaa b) 128=decide (b<128):=fun b=>wK b 128
 have e1:=alf n h
 have e2:=alf (n/128) (by omega)
 have e3:=alf (n/128/128) (by omega)
 have e4:=alf (n/128/128/128) (by omega)
 have e5:=alf (n/128/128/128/128) (by omega)
 have e6:=alf (n/128/128/128/128/128) (by omega)
 have e7:=alf (n/128/128/128/128/128/128) (by omega)
 have e8:=alf (n/128/128/128/128/128/128/128) (by omega)
 have e9:=alf (n/128/128/128/128/128/128/128/128) (by omega)
 have e10:=alf (n/128/128/128/128/128/128/128/128/128) (by omega)
 simp only [YP,hl,hm,hd,hlt,aG,decide_eq_true_eq,e1,e2,e3,e4,e5,e6,e7,e8,e9,e10,arf]
 by_cases h0:128≤n
 ·rw [if_neg (by omega)]
  by_cases h1:128≤n/128
  ·rw [if_neg (by omega)]
   by_cases h2:128≤n/128/128
   ·rw [if_neg (by omega)]
    by_cases h3:128≤n/128/128/128
    ·rw [if_neg (by omega)]
     by_cases h4:128≤n/128/128/128/128
     ·rw [if_neg (by omega)]
      by_cases h5:128≤n/128/128/128/128/128
      ·rw [if_neg (by omega)]
       by_cases h6:128≤n/128/128/128/128/128/128
       ·rw [if_neg (by omega)]
        by_cases h7:128≤n/128/128/128/128/128/128/128
        ·rw [if_neg (by omega)]
         by_cases h8:128≤n/128/128/128/128/128/128/128/128
         ·rw [if_neg (by omega)]
          by_cases h9:128≤n/128/128/128/128/128/128/128/128/128
          ·rw [if_neg (by omega)]
           exfalso;omega
          ·rw [if_pos (by omega)]
           simp only [dI,h0,h1,h2,h3,h4,h5,h6,h7,h8,h9,if_true,if_false]
           rfl
         ·rw [if_pos (by omega)]
          simp only [dI,h0,h1,h2,h3,h4,h5,h6,h7,h8,if_true,if_false]
          rfl
        ·rw [if_pos (by omega)]
         simp only [dI,h0,h1,h2,h3,h4,h5,h6,h7,if_true,if_false]
         rfl
       ·rw [if_pos (by omega)]
        simp only [dI,h0,h1,h2,h3,h4,h5,h6,if_true,if_false]
        rfl
      ·rw [if_pos (by omega)]
       simp only [dI,h0,h1,h2,h3,h4,h5,if_true,if_false]
       rfl
     ·rw [if_pos (by omega)]
      simp only [dI,h0,h1,h2,h3,h4,if_true,if_false]
      rfl
    ·rw [if_pos (by omega)]
     simp only [dI,h0,h1,h2,h3,if_true,if_false]
     rfl
   ·rw [if_pos (by omega)]
    simp only [dI,h0,h1,h2,if_true,if_false]
    rfl
  ·rw [if_pos (by omega)]
   simp only [dI,h0,h1,if_true,if_false]
   rfl
 ·rw [if_pos (by omega)]
  simp only [dI,h0,if_true,if_false]
  rfl
def g1u (F:Nat→cO)(l:List fK):Tree cO:=
 match l with
 |[.one (.raw (.int .u64 z))]=>Int.casesOn z (fun n=>bU (ltN n 18446744073709551616) (.leaf (F n))) (fun _=>.fail)
 |_=>.fail
theorem aju {C:Cfg}{m:Nat}{f:FuncId}{F:Nat→cO}(hf:∀ n p,p∈(F n).rows→flatAll p.1=true)(h:∀ n,n<18446744073709551616→aj ((runN C m).1 f [.int .u64 (qaa n)] (aH [])) (bP Tryz.prog)=some (F n)):vF Tryz.prog C m f (g1u F):=by
 intro comps r kL hr
 clear kL
 unfold g1u at hr
 split at hr
 ·rename_i z
  cases z with
  |ofNat n=>
   obtain ⟨h1,h2⟩:=aJ (show (bU (ltN n 18446744073709551616) (.leaf (F n))).run=some r from hr)
   cases h2
   exact ⟨fun p hp=>hf n p hp,h n (bD h1)⟩
  |negSucc n=>cases hr
 ·cases hr
theorem LQ (n:Nat)(p:List Value × TypeId)(hp:p∈(JL n).rows):flatAll p.1=true:=by
 obtain rfl:p=(qb8 (Fn.mF n)::Fn.oH n,5):=by simpa [JL] using hp
 show flatAll (qb8 (Fn.mF n)::Fn.oH n)=true
 rw [←mQ]
 exact Ri 9 n
theorem arJ:vF Tryz.prog CB 16 52 (g1u JL):=aju LQ fun n hn=>bV (K:=KQ) (by decide) bF aT ((ag7 n hn).trans (congrArg some (Yv n)))
theorem an3:vF Tryz.prog CB 16 30 (g1u JL):=aju LQ fun n hn=>bV (K:=KQ) (by decide) bF aT ((ada n hn).trans (congrArg some (Yv n)))
def axD:List (Nat × Con):=[(52,.tree (vW Tryz.prog (g1u JL))),(30,.tree (vW Tryz.prog (g1u JL)))]
def C1:Cfg:={ CB with ext:=fQ [],insert:=fQ axD }
variable [Lo]
theorem ao6:eu Tryz.prog C1 axD:=eu.vW (fun lo=>@pR lo) arJ.gives (eu.vW (fun lo=>@pR lo) an3.gives eu.nil)
theorem auc:eX C1 Tryz.prog:=Ba (ext:=fQ []) (ins:=fQ axD) rfl (fun f t h=>ao6 f t h) (fun f e h=>by cases h)
end
end Go.Ax
namespace Go.Ax
open Go Go.Proofs
noncomputable def fH (t:Bool):KP:={ L:=10,B:=some t }
noncomputable def arF (cs:List Value)(t:Bool):=qaJ 0 ((blk (some t) ((((((ay cs 0).mod 256).land 127).mod 18446744073709551616).mul 1).mod 18446744073709551616)).mod 18446744073709551616)
noncomputable def Iw:dZ:=.flat (.int .i64 0)
noncomputable def apW:dZ:=.flat (.int .u64 0)
noncomputable def NG:Option cO:=some { val:=[.one apW,.one Iw,.one (.flat (.int .i64 5))],rows:=[] }
noncomputable def aqY (cs:List Value)(t:Bool):=((arF cs t).mod 18446744073709551616).lor ((blk (some t) ((((((ay cs 1).mod 256).land 127).mod 18446744073709551616).mul 128).mod 18446744073709551616)).mod 18446744073709551616)
noncomputable def aqa (cs:List Value)(t:Bool):=((aqY cs t).mod 18446744073709551616).lor ((blk (some t) ((((((ay cs 2).mod 256).land 127).mod 18446744073709551616).mul 16384).mod 18446744073709551616)).mod 18446744073709551616)
noncomputable def ap9 (cs:List Value)(t:Bool):=((aqa cs t).mod 18446744073709551616).lor ((blk (some t) ((((((ay cs 3).mod 256).land 127).mod 18446744073709551616).mul 2097152).mod 18446744073709551616)).mod 18446744073709551616)
noncomputable def aqn (cs:List Value)(t:Bool):=((ap9 cs t).mod 18446744073709551616).lor ((blk (some t) ((((((ay cs 4).mod 256).land 127).mod 18446744073709551616).mul 268435456).mod 18446744073709551616)).mod 18446744073709551616)
noncomputable def asy (cs:List Value)(t:Bool):=((aqn cs t).mod 18446744073709551616).lor ((blk (some t) ((((((ay cs 5).mod 256).land 127).mod 18446744073709551616).mul 34359738368).mod 18446744073709551616)).mod 18446744073709551616)
noncomputable def aq2 (cs:List Value)(t:Bool):=((asy cs t).mod 18446744073709551616).lor ((blk (some t) ((((((ay cs 6).mod 256).land 127).mod 18446744073709551616).mul 4398046511104).mod 18446744073709551616)).mod 18446744073709551616)
noncomputable def ahN (cs:List Value)(t:Bool):=((aq2 cs t).mod 18446744073709551616).lor ((blk (some t) ((((((ay cs 7).mod 256).land 127).mod 18446744073709551616).mul 562949953421312).mod 18446744073709551616)).mod 18446744073709551616)
noncomputable def ais (cs:List Value)(t:Bool):=((ahN cs t).mod 18446744073709551616).lor ((blk (some t) ((((((ay cs 8).mod 256).land 127).mod 18446744073709551616).mul 72057594037927936).mod 18446744073709551616)).mod 18446744073709551616)
noncomputable def Aq:Option cO:=some { val:=[.one apW,.one Iw,.one (.flat (.int .i64 6))],rows:=[] }
theorem amZ (t:Bool)(n:Nat)(cs:List Value):(runK (fH t) C1 16).1 74 [.slice (some ⟨32,0,none⟩) n aC] (aH [.one (.sl cs 5 n)]) (bP Tryz.prog)=sel (ltI 0 (qaa n)) (sel (ltN 0 n) (sel (iD (.int .u8 0) (nth cs 0)) (sel (ltI (qaa (ay cs 0)) 128) (some { val:=[.one (.flat (.int .u64 (qaa (arF cs t)))),.one (.flat (.int .i64 (qaa 1))),.one Iw],rows:=[] }) (sel (ltI (qaa 1) (qaa n)) (sel (ltN 1 n) (sel (iD (.int .u8 0) (nth cs 1)) (sel (eqI (qaa (ay cs 1)) 0) NG (sel (ltI (qaa (ay cs 1)) 128) (some { val:=[.one (.flat (.int .u64 (qaa (aqY cs t)))),.one (.flat (.int .i64 (qaa 2))),.one Iw],rows:=[] }) (sel (ltI (qaa 2) (qaa n)) (sel (ltN 2 n) (sel (iD (.int .u8 0) (nth cs 2)) (sel (eqI (qaa (ay cs 2)) 0) NG (sel (ltI (qaa (ay cs 2)) 128) (some { val:=[.one (.flat (.int .u64 (qaa (aqa cs t)))),.one (.flat (.int .i64 (qaa 3))),.one Iw],rows:=[] }) (sel (ltI (qaa 3) (qaa n)) (sel (ltN 3 n) (sel (iD (.int .u8 0) (nth cs 3)) (sel (eqI (qaa (ay cs 3)) 0) NG (sel (ltI (qaa (ay cs 3)) 128) (some { val:=[.one (.flat (.int .u64 (qaa (ap9 cs t)))),.one (.flat (.int .i64 (qaa 4))),.one Iw],rows:=[] }) (sel (ltI (qaa 4) (qaa n)) (sel (ltN 4 n) (sel (iD (.int .u8 0) (nth cs 4)) (sel (eqI (qaa (ay cs 4)) 0) NG (sel (ltI (qaa (ay cs 4)) 128) (some { val:=[.one (.flat (.int .u64 (qaa (aqn cs t)))),.one (.flat (.int .i64 (qaa 5))),.one Iw],rows:=[] }) (sel (ltI (qaa 5) (qaa n)) (sel (ltN 5 n) (sel (iD (.int .u8 0) (nth cs 5)) (sel (eqI (qaa (ay cs 5)) 0) NG (sel (ltI (qaa (ay cs 5)) 128) (some { val:=[.one (.flat (.int .u64 (qaa (asy cs t)))),.one (.flat (.int .i64 (qaa 6))),.one Iw],rows:=[] }) (sel (ltI (qaa 6) (qaa n)) (sel (ltN 6 n) (sel (iD (.int .u8 0) (nth cs 6)) (sel (eqI (qaa (ay cs 6)) 0) NG (sel (ltI (qaa (ay cs 6)) 128) (some { val:=[.one (.flat (.int .u64 (qaa (aq2 cs t)))),.one (.flat (.int .i64 (qaa 7))),.one Iw],rows:=[] }) (sel (ltI (qaa 7) (qaa n)) (sel (ltN 7 n) (sel (iD (.int .u8 0) (nth cs 7)) (sel (eqI (qaa (ay cs 7)) 0) NG (sel (ltI (qaa (ay cs 7)) 128) (some { val:=[.one (.flat (.int .u64 (qaa (ahN cs t)))),.one (.flat (.int .i64 (qaa 8))),.one Iw],rows:=[] }) (sel (ltI (qaa 8) (qaa n)) (sel (ltN 8 n) (sel (iD (.int .u8 0) (nth cs 8)) (sel (eqI (qaa (ay cs 8)) 0) NG (sel (ltI (qaa (ay cs 8)) 128) (some { val:=[.one (.flat (.int .u64 (qaa (ais cs t)))),.one (.flat (.int .i64 (qaa 9))),.one Iw],rows:=[] }) (sel (ltI (qaa 9) (qaa n)) (sel (ltN 9 n) (sel (iD (.int .u8 0) (nth cs 9)) (sel (ltI 1 (qaa (ay cs 9))) NG (sel (eqI (qaa (ay cs 9)) 0) NG (sel (ltI (qaa (ay cs 9)) 128) (some { val:=[.one (.flat (.int .u64 (qaa (((ais cs t).mod 18446744073709551616).lor ((blk (some t) ((((((ay cs 9).mod 256).land 127).mod 18446744073709551616).mul 9223372036854775808).mod 18446744073709551616)).mod 18446744073709551616))))),.one (.flat (.int .i64 (qaa 10))),.one Iw],rows:=[] }) none))) none) none) Aq))) none) none) Aq))) none) none) Aq))) none) none) Aq))) none) none) Aq))) none) none) Aq))) none) none) Aq))) none) none) Aq))) none) none) Aq)) none) none) Aq:=by kernel_rfl
end Go.Ax
namespace Go.Ax
open Go Go.Proofs
noncomputable section
namespace Fn
def dig (cs:List Value)(i j:Nat):Nat:=ay cs i%128*128 ^ j%18446744073709551616
def acc (cs:List Value)(o:Nat):Nat→Nat:=fun j=>Nat.rec (dig cs (o+0) 0) (fun j ih=>ih ||| dig cs (o+(j+1)) (j+1)) j
end Fn
theorem Fn.ig (cs:List Value)(o:Nat):Fn.acc cs o 0=Fn.dig cs (o+0) 0:=rfl
theorem Fn.iE (cs:List Value)(o j:Nat):Fn.acc cs o (j+1)=Fn.acc cs o j ||| Fn.dig cs (o+(j+1)) (j+1):=rfl
def Iz (v k e:Nat):cO:=⟨[.one (.flat (.int .u64 (qaa v))),.one (.flat (.int .i64 (qaa k))),.one (.flat (.int .i64 (qaa e)))],[]⟩
theorem qZ {v v' k e:Nat}(h:v=v'):Iz v k e=Iz v' k e:=by rw [h]
def mX (cs:List Value)(o n:Nat):Nat→Nat→Nat × Nat × Nat:=fun k=>
 Nat.rec (fun _=>(0,0,6)) (fun _ ih j=>if o+j<n then (if (j=9∧1<ay cs (o+j))∨(0<j∧ay cs (o+j)=0) then (0,0,5) else if ay cs (o+j)<128 then (Fn.acc cs o j,j+1,0) else ih (j+1)) else (0,0,6)) k
namespace Fn
def aiw (cs:List Value):Nat:=(mX cs 0 cs.length 10 0).1
def aql (cs:List Value):Nat:=(mX cs 0 cs.length 10 0).2.1
def alh (cs:List Value):Nat:=(mX cs 0 cs.length 10 0).2.2
end Fn
def adX (cs:List Value):cO:=Iz (Fn.aiw cs) (Fn.aql cs) (Fn.alh cs)
def aeW (cs:List Value)(n:Nat)(k j:Nat):Option cO:=some (Iz (mX cs 0 n k j).1 (mX cs 0 n k j).2.1 (mX cs 0 n k j).2.2)
theorem gG (cs:List Value)(n k j:Nat):aeW cs n (k+1) j=if j<n then (if (j=9∧1<ay cs j)∨(0<j∧ay cs j=0) then some (Iz 0 0 5) else if ay cs j<128 then some (Iz (Fn.acc cs 0 j) (j+1) 0) else aeW cs n k (j+1)) else some (Iz 0 0 6):=by
 have e:mX cs 0 n (k+1) j=if 0+j<n then (if (j=9∧1<ay cs (0+j))∨(0<j∧ay cs (0+j)=0) then (0,0,5) else if ay cs (0+j)<128 then (Fn.acc cs 0 j,j+1,0) else mX cs 0 n k (j+1)) else (0,0,6):=rfl
 unfold aeW
 rw [e,qak]
 split
 ·split
  ·rfl
  ·split <;> rfl
 ·rfl
theorem jS (c:Nat):(c%256) &&& 127=c%128:=by
 have h1:c%256<256:=qaF _ (by omega)
 have h2:c%128=(c%256)%128:=by omega
 rw [h2]
 generalize c%256=m at h1
 have:∀ m:Fin 256,m.val &&& 127=m.val%128:=by decide
 exact this ⟨m,h1⟩
theorem jT (c:Nat):c%128%18446744073709551616=c%128:=by omega
theorem orW (a b:Nat):(a ||| b)%18446744073709551616=a%18446744073709551616 ||| b%18446744073709551616:=Nat.or_mod_two_pow (n:=64)
theorem GU:∀ {cs:List Value} {j:Nat},gI cs=true→j<cs.length→iD (.int .u8 0) (nth cs j)=true
 |[],j,_,h=>by simp at h
 |v::cs,j,hb,h=>by
  obtain ⟨h1,h2⟩:=dG (show sel (byteOf v).isSome (gI cs) false=true from hb)
  cases j with
  |zero=>
   show iD (.int .u8 0) (some v)=true
   unfold byteOf at h1
   split at h1
   ·rename_i n
    cases n with
    |ofNat n=>rfl
    |negSucc n=>cases h1
   ·cases h1
  |succ j=>
   show iD (.int .u8 0) (nth cs j)=true
   exact GU (cs:=cs) (j:=j) h2 (by simpa using h)
theorem afQ (n:Nat)(cs:List Value)(hn:n=cs.length)(hb:gI cs=true):(runK (fH true) C1 16).1 74 [.slice (some ⟨32,0,none⟩) n aC] (aH [.one (.sl cs 5 n)]) (bP Tryz.prog)=some (adX cs):=by
 rw [amZ];unfold Aq ais ahN aq2 asy aqn ap9 aqa aqY NG apW Iw arF
 have hfin:aeW cs n 10 0=some (adX cs):=by rw [hn];rfl
 rw [←hfin]
 have hl:∀ a b:Nat,qaJ a b=a ||| b:=fun _ _=>rfl
 have ha:∀ a b:Nat,Nat.land a b=a &&& b:=fun _ _=>rfl
 have hm:∀ a b:Nat,qaK a b=a%b:=fun _ _=>rfl
 have hd:∀ a b:Nat,qaL a b=a*b:=fun _ _=>rfl
 have hok:∀ j,j<n→iD (.int .u8 0) (nth cs j)=true:=fun j hj=>GU hb (hn▸hj)
 have h0:∀ a:Nat,ltI 0 (qaa a)=decide (0<a):=fun a=>wK 0 a
 have h1:∀ a:Nat,ltI 1 (qaa a)=decide (1<a):=fun a=>wK 1 a
 have h128:∀ a:Nat,ltI (qaa a) 128=decide (a<128):=fun a=>wK a 128
 have he:∀ a:Nat,eqI (qaa a) 0=decide (a=0):=fun a=>by rw [jm];simp
 simp only [acy,hl,ha,hm,hd,h0,h1,h128,he,wK,oN,aG,decide_eq_true_eq]
 by_cases p0:0<n
 ·rw [if_pos p0,if_pos p0,if_pos (hok 0 p0),gG,if_pos p0]
  rw [if_neg (show ¬((0=9∧1<ay cs 0)∨(0<0∧ay cs 0=0)) from by omega)]
  by_cases s0:ay cs 0<128
  ·rw [if_pos s0,if_pos s0]
   exact congrArg some (qZ (by simp only [jS,orW,qap,qaq,jT,Fn.ig,Fn.iE,Fn.dig,qak,qar,Nat.reduceAdd,Nat.reducePow]))
  rw [if_neg s0,if_neg s0]
  show _=aeW cs n 9 1
  by_cases p1:1<n
  ·rw [if_pos p1,if_pos p1,if_pos (hok 1 p1),gG,if_pos p1]
   by_cases z1:ay cs 1=0
   ·rw [if_pos z1,if_pos (show (1=9∧1<ay cs 1)∨(0<1∧ay cs 1=0) from by omega)];rfl
   rw [if_neg z1,if_neg (show ¬((1=9∧1<ay cs 1)∨(0<1∧ay cs 1=0)) from by omega)]
   by_cases s1:ay cs 1<128
   ·rw [if_pos s1,if_pos s1]
    exact congrArg some (qZ (by simp only [jS,orW,qap,qaq,jT,Fn.ig,Fn.iE,Fn.dig,qak,qar,Nat.reduceAdd,Nat.reducePow]))
   rw [if_neg s1,if_neg s1]
   show _=aeW cs n 8 2
   by_cases p2:2<n
   ·rw [if_pos p2,if_pos p2,if_pos (hok 2 p2),gG,if_pos p2]
    by_cases z2:ay cs 2=0
    ·rw [if_pos z2,if_pos (show (2=9∧1<ay cs 2)∨(0<2∧ay cs 2=0) from by omega)];rfl
    rw [if_neg z2,if_neg (show ¬((2=9∧1<ay cs 2)∨(0<2∧ay cs 2=0)) from by omega)]
    by_cases s2:ay cs 2<128
    ·rw [if_pos s2,if_pos s2]
     exact congrArg some (qZ (by simp only [jS,orW,qap,qaq,jT,Fn.ig,Fn.iE,Fn.dig,qak,qar,Nat.reduceAdd,Nat.reducePow]))
    rw [if_neg s2,if_neg s2]
    show _=aeW cs n 7 3
    by_cases p3:3<n
    ·rw [if_pos p3,if_pos p3,if_pos (hok 3 p3),gG,if_pos p3]
     by_cases z3:ay cs 3=0
     ·rw [if_pos z3,if_pos (show (3=9∧1<ay cs 3)∨(0<3∧ay cs 3=0) from by omega)];rfl
     rw [if_neg z3,if_neg (show ¬((3=9∧1<ay cs 3)∨(0<3∧ay cs 3=0)) from by omega)]
     by_cases s3:ay cs 3<128
     ·rw [if_pos s3,if_pos s3]
      exact congrArg some (qZ (by simp only [jS,orW,qap,qaq,jT,Fn.ig,Fn.iE,Fn.dig,qak,qar,Nat.reduceAdd,Nat.reducePow]))
     rw [if_neg s3,if_neg s3]
     show _=aeW cs n 6 4
     by_cases p4:4<n
     ·rw [if_pos p4,if_pos p4,if_pos (hok 4 p4),gG,if_pos p4]
      by_cases z4:ay cs 4=0
      ·rw [if_pos z4,if_pos (show (4=9∧1<ay cs 4)∨(0<4∧ay cs 4=0) from by omega)];rfl
      rw [if_neg z4,if_neg (show ¬((4=9∧1<ay cs 4)∨(0<4∧ay cs 4=0)) from by omega)]
      by_cases s4:ay cs 4<128
      ·rw [if_pos s4,if_pos s4]
       exact congrArg some (qZ (by simp only [jS,orW,qap,qaq,jT,Fn.ig,Fn.iE,Fn.dig,qak,qar,Nat.reduceAdd,Nat.reducePow]))
      rw [if_neg s4,if_neg s4]
      show _=aeW cs n 5 5
      by_cases p5:5<n
      ·rw [if_pos p5,if_pos p5,if_pos (hok 5 p5),gG,if_pos p5]
       by_cases z5:ay cs 5=0
       ·rw [if_pos z5,if_pos (show (5=9∧1<ay cs 5)∨(0<5∧ay cs 5=0) from by omega)];rfl
       rw [if_neg z5,if_neg (show ¬((5=9∧1<ay cs 5)∨(0<5∧ay cs 5=0)) from by omega)]
       by_cases s5:ay cs 5<128
       ·rw [if_pos s5,if_pos s5]
        exact congrArg some (qZ (by simp only [jS,orW,qap,qaq,jT,Fn.ig,Fn.iE,Fn.dig,qak,qar,Nat.reduceAdd,Nat.reducePow]))
       rw [if_neg s5,if_neg s5]
       show _=aeW cs n 4 6
       by_cases p6:6<n
       ·rw [if_pos p6,if_pos p6,if_pos (hok 6 p6),gG,if_pos p6]
        by_cases z6:ay cs 6=0
        ·rw [if_pos z6,if_pos (show (6=9∧1<ay cs 6)∨(0<6∧ay cs 6=0) from by omega)];rfl
        rw [if_neg z6,if_neg (show ¬((6=9∧1<ay cs 6)∨(0<6∧ay cs 6=0)) from by omega)]
        by_cases s6:ay cs 6<128
        ·rw [if_pos s6,if_pos s6]
         exact congrArg some (qZ (by simp only [jS,orW,qap,qaq,jT,Fn.ig,Fn.iE,Fn.dig,qak,qar,Nat.reduceAdd,Nat.reducePow]))
        rw [if_neg s6,if_neg s6]
        show _=aeW cs n 3 7
        by_cases p7:7<n
        ·rw [if_pos p7,if_pos p7,if_pos (hok 7 p7),gG,if_pos p7]
         by_cases z7:ay cs 7=0
         ·rw [if_pos z7,if_pos (show (7=9∧1<ay cs 7)∨(0<7∧ay cs 7=0) from by omega)];rfl
         rw [if_neg z7,if_neg (show ¬((7=9∧1<ay cs 7)∨(0<7∧ay cs 7=0)) from by omega)]
         by_cases s7:ay cs 7<128
         ·rw [if_pos s7,if_pos s7]
          exact congrArg some (qZ (by simp only [jS,orW,qap,qaq,jT,Fn.ig,Fn.iE,Fn.dig,qak,qar,Nat.reduceAdd,Nat.reducePow]))
         rw [if_neg s7,if_neg s7]
         show _=aeW cs n 2 8
         by_cases p8:8<n
         ·rw [if_pos p8,if_pos p8,if_pos (hok 8 p8),gG,if_pos p8]
          by_cases z8:ay cs 8=0
          ·rw [if_pos z8,if_pos (show (8=9∧1<ay cs 8)∨(0<8∧ay cs 8=0) from by omega)];rfl
          rw [if_neg z8,if_neg (show ¬((8=9∧1<ay cs 8)∨(0<8∧ay cs 8=0)) from by omega)]
          by_cases s8:ay cs 8<128
          ·rw [if_pos s8,if_pos s8]
           exact congrArg some (qZ (by simp only [jS,orW,qap,qaq,jT,Fn.ig,Fn.iE,Fn.dig,qak,qar,Nat.reduceAdd,Nat.reducePow]))
          rw [if_neg s8,if_neg s8]
          show _=aeW cs n 1 9
          by_cases p9:9<n
          ·rw [if_pos p9,if_pos p9,if_pos (hok 9 p9),gG,if_pos p9]
           by_cases w9:1<ay cs 9
           ·rw [if_pos w9,if_pos (show (9=9∧1<ay cs 9)∨(0<9∧ay cs 9=0) from by omega)];rfl
           rw [if_neg w9]
           by_cases z9:ay cs 9=0
           ·rw [if_pos z9,if_pos (show (9=9∧1<ay cs 9)∨(0<9∧ay cs 9=0) from by omega)];rfl
           rw [if_neg z9,if_neg (show ¬((9=9∧1<ay cs 9)∨(0<9∧ay cs 9=0)) from by omega)]
           by_cases s9:ay cs 9<128
           ·rw [if_pos s9,if_pos s9]
            exact congrArg some (qZ (by simp only [jS,orW,qap,qaq,jT,Fn.ig,Fn.iE,Fn.dig,qak,qar,Nat.reduceAdd,Nat.reducePow]))
           rw [if_neg s9,if_neg s9]
           exfalso;omega
          ·rw [if_neg p9,gG,if_neg p9];rfl
         ·rw [if_neg p8,gG,if_neg p8];rfl
        ·rw [if_neg p7,gG,if_neg p7];rfl
       ·rw [if_neg p6,gG,if_neg p6];rfl
      ·rw [if_neg p5,gG,if_neg p5];rfl
     ·rw [if_neg p4,gG,if_neg p4];rfl
    ·rw [if_neg p3,gG,if_neg p3];rfl
   ·rw [if_neg p2,gG,if_neg p2];rfl
  ·rw [if_neg p1,gG,if_neg p1];rfl
 ·rw [if_neg p0,gG,if_neg p0];rfl
end
end Go.Ax
namespace Go.Ax
open Go Go.Proofs
noncomputable def amG:dZ:=.flat (.int .u64 0)
noncomputable def anA:dZ:=.flat (.int .i64 0)
noncomputable def asq (a:Nat):=(a.add 0).ble 9223372036854775807
noncomputable def asX (a:Nat)(cs:List Value):=ay cs (qag 0 ((a.add 0).mul 1))
noncomputable def anT (a:Nat):=(a.add 1).ble 9223372036854775807
noncomputable def apX (a:Nat)(cs:List Value)(t:Bool):=qaJ 0 ((blk (some t) (((((asX a cs).mod 128).mod 18446744073709551616).mul 1).mod 18446744073709551616)).mod 18446744073709551616)
noncomputable def arb (a:Nat)(cs:List Value):=ay cs (qag 0 ((a.add 1).mul 1))
noncomputable def aqh (a:Nat)(cs:List Value):=qaa (arb a cs)
noncomputable def aq8 (a:Nat):Value:=.int .i64 (qaa a)
noncomputable def Pz (a:Nat):Option cO:=some { val:=[.one amG,.one anA,.agg [.flat (.int .i64 5),.flat (aq8 a)]],rows:=[] }
noncomputable def adt (a:Nat):=(a.add 2).ble 9223372036854775807
noncomputable def ai3 (a:Nat)(cs:List Value)(t:Bool):=((apX a cs t).mod 18446744073709551616).lor ((blk (some t) (((((arb a cs).mod 128).mod 18446744073709551616).mul 128).mod 18446744073709551616)).mod 18446744073709551616)
noncomputable def agW (a:Nat)(cs:List Value):=ay cs (qag 0 ((a.add 2).mul 1))
noncomputable def akb (a:Nat)(cs:List Value):=qaa (agW a cs)
noncomputable def adq (a:Nat):=(a.add 3).ble 9223372036854775807
noncomputable def agY (a:Nat)(cs:List Value)(t:Bool):=((ai3 a cs t).mod 18446744073709551616).lor ((blk (some t) (((((agW a cs).mod 128).mod 18446744073709551616).mul 16384).mod 18446744073709551616)).mod 18446744073709551616)
noncomputable def aiT (a:Nat)(cs:List Value):=ay cs (qag 0 ((a.add 3).mul 1))
noncomputable def ajV (a:Nat)(cs:List Value):=qaa (aiT a cs)
noncomputable def adx (a:Nat):=(a.add 4).ble 9223372036854775807
noncomputable def aiA (a:Nat)(cs:List Value)(t:Bool):=((agY a cs t).mod 18446744073709551616).lor ((blk (some t) (((((aiT a cs).mod 128).mod 18446744073709551616).mul 2097152).mod 18446744073709551616)).mod 18446744073709551616)
noncomputable def ahq (a:Nat)(cs:List Value):=ay cs (qag 0 ((a.add 4).mul 1))
noncomputable def ajW (a:Nat)(cs:List Value):=qaa (ahq a cs)
noncomputable def acW (a:Nat):=(a.add 5).ble 9223372036854775807
noncomputable def ahs (a:Nat)(cs:List Value)(t:Bool):=((aiA a cs t).mod 18446744073709551616).lor ((blk (some t) (((((ahq a cs).mod 128).mod 18446744073709551616).mul 268435456).mod 18446744073709551616)).mod 18446744073709551616)
noncomputable def ahC (a:Nat)(cs:List Value):=ay cs (qag 0 ((a.add 5).mul 1))
noncomputable def alb (a:Nat)(cs:List Value):=qaa (ahC a cs)
noncomputable def acQ (a:Nat):=(a.add 6).ble 9223372036854775807
noncomputable def aku (a:Nat)(cs:List Value)(t:Bool):=((ahs a cs t).mod 18446744073709551616).lor ((blk (some t) (((((ahC a cs).mod 128).mod 18446744073709551616).mul 34359738368).mod 18446744073709551616)).mod 18446744073709551616)
noncomputable def akY (a:Nat)(cs:List Value):=ay cs (qag 0 ((a.add 6).mul 1))
noncomputable def ag4 (a:Nat)(cs:List Value):=qaa (akY a cs)
noncomputable def adu (a:Nat):=(a.add 7).ble 9223372036854775807
noncomputable def aiy (a:Nat)(cs:List Value)(t:Bool):=((aku a cs t).mod 18446744073709551616).lor ((blk (some t) (((((akY a cs).mod 128).mod 18446744073709551616).mul 4398046511104).mod 18446744073709551616)).mod 18446744073709551616)
noncomputable def ajr (a:Nat)(cs:List Value):=ay cs (qag 0 ((a.add 7).mul 1))
noncomputable def ahP (a:Nat)(cs:List Value):=qaa (ajr a cs)
noncomputable def acB (a:Nat):=(a.add 8).ble 9223372036854775807
noncomputable def ahS (a:Nat)(cs:List Value)(t:Bool):=((aiy a cs t).mod 18446744073709551616).lor ((blk (some t) (((((ajr a cs).mod 128).mod 18446744073709551616).mul 562949953421312).mod 18446744073709551616)).mod 18446744073709551616)
noncomputable def ajR (a:Nat)(cs:List Value):=ay cs (qag 0 ((a.add 8).mul 1))
noncomputable def agU (a:Nat)(cs:List Value):=qaa (ajR a cs)
noncomputable def ac8 (a:Nat):=(a.add 9).ble 9223372036854775807
noncomputable def aip (a:Nat)(cs:List Value)(t:Bool):=((ahS a cs t).mod 18446744073709551616).lor ((blk (some t) (((((ajR a cs).mod 128).mod 18446744073709551616).mul 72057594037927936).mod 18446744073709551616)).mod 18446744073709551616)
noncomputable def akF (a:Nat)(cs:List Value):=ay cs (qag 0 ((a.add 9).mul 1))
noncomputable def ac5 (a:Nat)(cs:List Value):=qaa (akF a cs)
noncomputable def BD (a:Nat):Option cO:=some { val:=[.one amG,.one anA,.agg [.flat (.int .i64 6),.flat (aq8 a)]],rows:=[] }
theorem awp (t:Bool)(n a:Nat)(cs:List Value):(runK (fH t) C1 16).1 78 [.slice (some ⟨32,0,none⟩) n aC,.int .i64 (qaa a)] (aH [.one (.sl cs 5 n)]) (bP Tryz.prog)=sel (ltI (qaa n) (qaa a)) (some { val:=[.one amG,.one anA,.agg [.flat (.int .i64 3),.flat (.int .i64 0)]],rows:=[] }) (sel (asq a) (sel (ltI (qaa (a.add 0)) (qaa n)) (sel (asq a) (sel (ltN (a.add 0) n) (sel (iD (.int .u8 0) (nth cs (qag 0 ((a.add 0).mul 1)))) (sel (ltI (qaa (asX a cs)) 128) (sel (anT a) (some { val:=[.one (.flat (.int .u64 (qaa (apX a cs t)))),.one (.flat (.int .i64 (qaa (a.add 1)))),.agg [.flat (.int .i64 0),.flat (.int .i64 0)]],rows:=[] }) none) (sel (anT a) (sel (ltI (qaa (a.add 1)) (qaa n)) (sel (anT a) (sel (ltN (a.add 1) n) (sel (iD (.int .u8 0) (nth cs (qag 0 ((a.add 1).mul 1)))) (sel (eqI (aqh a cs) 0) (Pz a) (sel (ltI (aqh a cs) 128) (sel (adt a) (some { val:=[.one (.flat (.int .u64 (qaa (ai3 a cs t)))),.one (.flat (.int .i64 (qaa (a.add 2)))),.agg [.flat (.int .i64 0),.flat (.int .i64 0)]],rows:=[] }) none) (sel (adt a) (sel (ltI (qaa (a.add 2)) (qaa n)) (sel (adt a) (sel (ltN (a.add 2) n) (sel (iD (.int .u8 0) (nth cs (qag 0 ((a.add 2).mul 1)))) (sel (eqI (akb a cs) 0) (Pz a) (sel (ltI (akb a cs) 128) (sel (adq a) (some { val:=[.one (.flat (.int .u64 (qaa (agY a cs t)))),.one (.flat (.int .i64 (qaa (a.add 3)))),.agg [.flat (.int .i64 0),.flat (.int .i64 0)]],rows:=[] }) none) (sel (adq a) (sel (ltI (qaa (a.add 3)) (qaa n)) (sel (adq a) (sel (ltN (a.add 3) n) (sel (iD (.int .u8 0) (nth cs (qag 0 ((a.add 3).mul 1)))) (sel (eqI (ajV a cs) 0) (Pz a) (sel (ltI (ajV a cs) 128) (sel (adx a) (some { val:=[.one (.flat (.int .u64 (qaa (aiA a cs t)))),.one (.flat (.int .i64 (qaa (a.add 4)))),.agg [.flat (.int .i64 0),.flat (.int .i64 0)]],rows:=[] }) none) (sel (adx a) (sel (ltI (qaa (a.add 4)) (qaa n)) (sel (adx a) (sel (ltN (a.add 4) n) (sel (iD (.int .u8 0) (nth cs (qag 0 ((a.add 4).mul 1)))) (sel (eqI (ajW a cs) 0) (Pz a) (sel (ltI (ajW a cs) 128) (sel (acW a) (some { val:=[.one (.flat (.int .u64 (qaa (ahs a cs t)))),.one (.flat (.int .i64 (qaa (a.add 5)))),.agg [.flat (.int .i64 0),.flat (.int .i64 0)]],rows:=[] }) none) (sel (acW a) (sel (ltI (qaa (a.add 5)) (qaa n)) (sel (acW a) (sel (ltN (a.add 5) n) (sel (iD (.int .u8 0) (nth cs (qag 0 ((a.add 5).mul 1)))) (sel (eqI (alb a cs) 0) (Pz a) (sel (ltI (alb a cs) 128) (sel (acQ a) (some { val:=[.one (.flat (.int .u64 (qaa (aku a cs t)))),.one (.flat (.int .i64 (qaa (a.add 6)))),.agg [.flat (.int .i64 0),.flat (.int .i64 0)]],rows:=[] }) none) (sel (acQ a) (sel (ltI (qaa (a.add 6)) (qaa n)) (sel (acQ a) (sel (ltN (a.add 6) n) (sel (iD (.int .u8 0) (nth cs (qag 0 ((a.add 6).mul 1)))) (sel (eqI (ag4 a cs) 0) (Pz a) (sel (ltI (ag4 a cs) 128) (sel (adu a) (some { val:=[.one (.flat (.int .u64 (qaa (aiy a cs t)))),.one (.flat (.int .i64 (qaa (a.add 7)))),.agg [.flat (.int .i64 0),.flat (.int .i64 0)]],rows:=[] }) none) (sel (adu a) (sel (ltI (qaa (a.add 7)) (qaa n)) (sel (adu a) (sel (ltN (a.add 7) n) (sel (iD (.int .u8 0) (nth cs (qag 0 ((a.add 7).mul 1)))) (sel (eqI (ahP a cs) 0) (Pz a) (sel (ltI (ahP a cs) 128) (sel (acB a) (some { val:=[.one (.flat (.int .u64 (qaa (ahS a cs t)))),.one (.flat (.int .i64 (qaa (a.add 8)))),.agg [.flat (.int .i64 0),.flat (.int .i64 0)]],rows:=[] }) none) (sel (acB a) (sel (ltI (qaa (a.add 8)) (qaa n)) (sel (acB a) (sel (ltN (a.add 8) n) (sel (iD (.int .u8 0) (nth cs (qag 0 ((a.add 8).mul 1)))) (sel (eqI (agU a cs) 0) (Pz a) (sel (ltI (agU a cs) 128) (sel (ac8 a) (some { val:=[.one (.flat (.int .u64 (qaa (aip a cs t)))),.one (.flat (.int .i64 (qaa (a.add 9)))),.agg [.flat (.int .i64 0),.flat (.int .i64 0)]],rows:=[] }) none) (sel (ac8 a) (sel (ltI (qaa (a.add 9)) (qaa n)) (sel (ac8 a) (sel (ltN (a.add 9) n) (sel (iD (.int .u8 0) (nth cs (qag 0 ((a.add 9).mul 1)))) (sel (ltI 1 (ac5 a cs)) (Pz a) (sel (eqI (ac5 a cs) 0) (Pz a) (sel (ltI (ac5 a cs) 128) (sel ((a.add 10).ble 9223372036854775807) (some { val:=[.one (.flat (.int .u64 (qaa (((aip a cs t).mod 18446744073709551616).lor ((blk (some t) (((((akF a cs).mod 128).mod 18446744073709551616).mul 9223372036854775808).mod 18446744073709551616)).mod 18446744073709551616))))),.one (.flat (.int .i64 (qaa (a.add 10)))),.agg [.flat (.int .i64 0),.flat (.int .i64 0)]],rows:=[] }) none) none))) none) none) none) (BD a)) none))) none) none) none) (BD a)) none))) none) none) none) (BD a)) none))) none) none) none) (BD a)) none))) none) none) none) (BD a)) none))) none) none) none) (BD a)) none))) none) none) none) (BD a)) none))) none) none) none) (BD a)) none))) none) none) none) (BD a)) none)) none) none) none) (BD a)) none):=by kernel_rfl
end Go.Ax
namespace Go.Ax
open Go Go.Proofs
noncomputable section
def az8 (cs:List Value):Tree cO:=.test (qal (Fn.alh cs) 0) (.leaf (Iz (Fn.aiw cs) (Fn.aql cs) 0)) (.test (qal (Fn.alh cs) 5) (.leaf (Iz 0 0 5)) (.leaf (Iz 0 0 6)))
def ayM (l:List fK):Tree cO:=
 match l with
 |[.one (.sl cs e _)]=>bU (qal e 5&&gI cs) (az8 cs)
 |[.one (.raw (.slice _ n _))]=>bU (qal n 0) (.leaf (Iz 0 0 6))
 |_=>.fail
theorem num_nil (c:Nat):(runK (fH true) C1 16).1 74 [.slice none 0 c] (aH []) (bP Tryz.prog)=some (Iz 0 0 6):=by kernel_rfl
theorem am6:(runK (fH true) C1 16).1 74 [bY] (aH []) (bP Tryz.prog)=some (Iz 0 0 6):=by kernel_rfl
theorem IU (cs:List Value)(o n:Nat):∀ k j,(mX cs o n k j).2.2=0∨mX cs o n k j=(0,0,5)∨mX cs o n k j=(0,0,6)
 |0,j=>.inr (.inr rfl)
 |k+1,j=>by
  have e:mX cs o n (k+1) j=if o+j<n then (if (j=9∧1<ay cs (o+j))∨(0<j∧ay cs (o+j)=0) then (0,0,5) else if ay cs (o+j)<128 then (Fn.acc cs o j,j+1,0) else mX cs o n k (j+1)) else (0,0,6):=rfl
  rw [e]
  split
  ·split
   ·exact .inr (.inl rfl)
   ·split
    ·exact .inl rfl
    ·exact IU cs o n k (j+1)
  ·exact .inr (.inr rfl)
theorem anK (cs:List Value):(az8 cs).run=some (adX cs):=by
 unfold az8 adX Fn.aiw Fn.aql Fn.alh
 rcases IU cs 0 cs.length 10 0 with h|h|h
 ·show sel (qal (mX cs 0 cs.length 10 0).2.2 0) _ _=_
  rw [h];rfl
 ·rw [h];rfl
 ·rw [h];rfl
theorem aqS:vF Tryz.prog C1 16 74 ayM:=by
 intro comps r kL hr
 unfold ayM at hr
 split at hr
 ·rename_i cs e n
  obtain ⟨hg,h2⟩:=aJ hr
  simp only [qad] at hg
  have he:e=5:=qac hg.1
  subst he
  rw [anK] at h2
  cases h2
  have hf:jw.fine Tryz.prog (.sl cs 5 n):=kL (.one (.sl cs 5 n)) qaw
  obtain ⟨_,sz,h3,_,h5⟩:=hf
  have hsz:sz=1:=by
   have:size Tryz.prog 5=some 1:=by kernel_rfl
   rw [this] at h3;cases h3;rfl
  subst hsz
  refine ⟨(fun p hp=>by cases hp),?_⟩
  exact bV (K:=fH true) (by decide) bF aT (afQ n cs (by omega) hg.2)
 ·rename_i a n c
  obtain ⟨hg,h2⟩:=aJ hr
  cases h2
  have hn:n=0:=qac hg
  subst hn
  have hf:o7 (.slice a 0 c)=true:=kL (.one (.raw (.slice a 0 c))) qaw
  refine ⟨(fun p hp=>by cases hp),?_⟩
  cases a with
  |none=>exact bV (K:=fH true) (by decide) bF aT (num_nil c)
  |some a=>
   obtain ⟨b,o,sp⟩:=a
   have hf:(sp.isNone&&(qal b fP&&(qal o 0&&(qal 0 0&&qal c aC))))=true:=hf
   simp only [qad] at hf
   obtain ⟨f1,f2,f3,_,f5⟩:=hf
   have f2:=qac f2
   have f3:=qac f3
   have f5:=qac f5
   subst f2 f3 f5
   cases sp with
   |some x=>cases f1
   |none=>exact bV (K:=fH true) (by decide) bF aT am6
 ·cases hr
def yZ (v k e a:Nat):cO:=⟨[.one (.flat (.int .u64 (qaa v))),.one (.flat (.int .i64 (qaa k))),.agg [.flat (.int .i64 (qaa e)),.flat (.int .i64 (qaa a))]],[]⟩
theorem qX {v v' k e a:Nat}(h:v=v'):yZ v k e a=yZ v' k e a:=by rw [h]
def akS (a:Nat)(q:Nat × Nat × Nat):cO:=if q.2.2=0 then yZ q.1 (a+q.2.1) 0 0 else yZ 0 0 q.2.2 a
def acZ (cs:List Value)(a n k j:Nat):Option cO:=some (akS a (mX cs a n k j))
theorem gB (cs:List Value)(a n k j:Nat):acZ cs a n (k+1) j=if a+j<n then (if (j=9∧1<ay cs (a+j))∨(0<j∧ay cs (a+j)=0) then some (yZ 0 0 5 a) else if ay cs (a+j)<128 then some (yZ (Fn.acc cs a j) (a+(j+1)) 0 0) else acZ cs a n k (j+1)) else some (yZ 0 0 6 a):=by
 have e:mX cs a n (k+1) j=if a+j<n then (if (j=9∧1<ay cs (a+j))∨(0<j∧ay cs (a+j)=0) then (0,0,5) else if ay cs (a+j)<128 then (Fn.acc cs a j,j+1,0) else mX cs a n k (j+1)) else (0,0,6):=rfl
 unfold acZ
 rw [e]
 split
 ·split
  ·rfl
  ·split <;> rfl
 ·rfl
theorem alS (n a:Nat)(cs:List Value)(hn:n=cs.length)(hb:gI cs=true)(ha:a≤n)(hbig:n≤4611686018427387904) :
  (runK (fH true) C1 16).1 78 [.slice (some ⟨32,0,none⟩) n aC,.int .i64 (qaa a)] (aH [.one (.sl cs 5 n)]) (bP Tryz.prog)=acZ cs a n 10 0:=by
 rw [awp];unfold BD ac5 akF aip ac8 agU ajR ahS acB ahP ajr aiy adu ag4 akY aku acQ alb ahC ahs acW ajW ahq aiA adx ajV aiT agY adq akb agW ai3 adt Pz aq8 aqh arb apX anT asX asq anA amG
 have hl:∀ a b:Nat,qaJ a b=a ||| b:=fun _ _=>rfl
 have hm:∀ a b:Nat,qaK a b=a%b:=fun _ _=>rfl
 have hd:∀ a b:Nat,qaL a b=a*b:=fun _ _=>rfl
 have had:∀ a b:Nat,qag a b=a+b:=fun _ _=>rfl
 have aBM:∀ a b:Nat,(qao a b=true)=(a≤b):=fun a b=>propext ⟨qai,qas⟩
 have hok:∀ j,j<n→iD (.int .u8 0) (nth cs j)=true:=fun j hj=>GU hb (hn▸hj)
 have hbd:∀ j,a+j<n→a+j≤9223372036854775807:=fun j hj=>by omega
 have hbd1:∀ j,a+j<n→a+(j+1)≤9223372036854775807:=fun j hj=>by omega
 have h1:∀ a:Nat,ltI 1 (qaa a)=decide (1<a):=fun a=>wK 1 a
 have h128:∀ a:Nat,ltI (qaa a) 128=decide (a<128):=fun a=>wK a 128
 have he:∀ a:Nat,eqI (qaa a) 0=decide (a=0):=fun a=>by rw [jm];simp
 simp only [acy,hl,hm,hd,had,aBM,h1,h128,he,wK,oN,aG,decide_eq_true_eq,qar,qak]
 rw [if_neg (by omega)]
 by_cases p0:a+0<n
 ·rw [if_pos (hbd 0 p0),if_pos p0,if_pos (hbd 0 p0),if_pos p0,if_pos (hok (a+0) p0),gB,if_pos p0]
  rw [if_neg (show ¬((0=9∧1<ay cs (a+0))∨(0<0∧ay cs (a+0)=0)) from by omega)]
  by_cases s0:ay cs (a+0)<128
  ·rw [if_pos s0,if_pos s0,if_pos (hbd1 0 p0)]
   exact congrArg some (qX (by simp only [jS,orW,qap,qaq,jT,Fn.ig,Fn.iE,Fn.dig,qak,qar,Nat.reduceAdd,Nat.reducePow]))
  rw [if_neg s0,if_neg s0]
  show _=acZ cs a n 9 1
  by_cases p1:a+1<n
  ·rw [if_pos (hbd 1 p1),if_pos p1,if_pos (hbd 1 p1),if_pos p1,if_pos (hok (a+1) p1),gB,if_pos p1]
   by_cases z1:ay cs (a+1)=0
   ·rw [if_pos z1,if_pos (show (1=9∧1<ay cs (a+1))∨(0<1∧ay cs (a+1)=0) from by omega)];rfl
   rw [if_neg z1,if_neg (show ¬((1=9∧1<ay cs (a+1))∨(0<1∧ay cs (a+1)=0)) from by omega)]
   by_cases s1:ay cs (a+1)<128
   ·rw [if_pos s1,if_pos s1,if_pos (hbd1 1 p1)]
    exact congrArg some (qX (by simp only [jS,orW,qap,qaq,jT,Fn.ig,Fn.iE,Fn.dig,qak,qar,Nat.reduceAdd,Nat.reducePow]))
   rw [if_neg s1,if_neg s1]
   show _=acZ cs a n 8 2
   by_cases p2:a+2<n
   ·rw [if_pos (hbd 2 p2),if_pos p2,if_pos (hbd 2 p2),if_pos p2,if_pos (hok (a+2) p2),gB,if_pos p2]
    by_cases z2:ay cs (a+2)=0
    ·rw [if_pos z2,if_pos (show (2=9∧1<ay cs (a+2))∨(0<2∧ay cs (a+2)=0) from by omega)];rfl
    rw [if_neg z2,if_neg (show ¬((2=9∧1<ay cs (a+2))∨(0<2∧ay cs (a+2)=0)) from by omega)]
    by_cases s2:ay cs (a+2)<128
    ·rw [if_pos s2,if_pos s2,if_pos (hbd1 2 p2)]
     exact congrArg some (qX (by simp only [jS,orW,qap,qaq,jT,Fn.ig,Fn.iE,Fn.dig,qak,qar,Nat.reduceAdd,Nat.reducePow]))
    rw [if_neg s2,if_neg s2]
    show _=acZ cs a n 7 3
    by_cases p3:a+3<n
    ·rw [if_pos (hbd 3 p3),if_pos p3,if_pos (hbd 3 p3),if_pos p3,if_pos (hok (a+3) p3),gB,if_pos p3]
     by_cases z3:ay cs (a+3)=0
     ·rw [if_pos z3,if_pos (show (3=9∧1<ay cs (a+3))∨(0<3∧ay cs (a+3)=0) from by omega)];rfl
     rw [if_neg z3,if_neg (show ¬((3=9∧1<ay cs (a+3))∨(0<3∧ay cs (a+3)=0)) from by omega)]
     by_cases s3:ay cs (a+3)<128
     ·rw [if_pos s3,if_pos s3,if_pos (hbd1 3 p3)]
      exact congrArg some (qX (by simp only [jS,orW,qap,qaq,jT,Fn.ig,Fn.iE,Fn.dig,qak,qar,Nat.reduceAdd,Nat.reducePow]))
     rw [if_neg s3,if_neg s3]
     show _=acZ cs a n 6 4
     by_cases p4:a+4<n
     ·rw [if_pos (hbd 4 p4),if_pos p4,if_pos (hbd 4 p4),if_pos p4,if_pos (hok (a+4) p4),gB,if_pos p4]
      by_cases z4:ay cs (a+4)=0
      ·rw [if_pos z4,if_pos (show (4=9∧1<ay cs (a+4))∨(0<4∧ay cs (a+4)=0) from by omega)];rfl
      rw [if_neg z4,if_neg (show ¬((4=9∧1<ay cs (a+4))∨(0<4∧ay cs (a+4)=0)) from by omega)]
      by_cases s4:ay cs (a+4)<128
      ·rw [if_pos s4,if_pos s4,if_pos (hbd1 4 p4)]
       exact congrArg some (qX (by simp only [jS,orW,qap,qaq,jT,Fn.ig,Fn.iE,Fn.dig,qak,qar,Nat.reduceAdd,Nat.reducePow]))
      rw [if_neg s4,if_neg s4]
      show _=acZ cs a n 5 5
      by_cases p5:a+5<n
      ·rw [if_pos (hbd 5 p5),if_pos p5,if_pos (hbd 5 p5),if_pos p5,if_pos (hok (a+5) p5),gB,if_pos p5]
       by_cases z5:ay cs (a+5)=0
       ·rw [if_pos z5,if_pos (show (5=9∧1<ay cs (a+5))∨(0<5∧ay cs (a+5)=0) from by omega)];rfl
       rw [if_neg z5,if_neg (show ¬((5=9∧1<ay cs (a+5))∨(0<5∧ay cs (a+5)=0)) from by omega)]
       by_cases s5:ay cs (a+5)<128
       ·rw [if_pos s5,if_pos s5,if_pos (hbd1 5 p5)]
        exact congrArg some (qX (by simp only [jS,orW,qap,qaq,jT,Fn.ig,Fn.iE,Fn.dig,qak,qar,Nat.reduceAdd,Nat.reducePow]))
       rw [if_neg s5,if_neg s5]
       show _=acZ cs a n 4 6
       by_cases p6:a+6<n
       ·rw [if_pos (hbd 6 p6),if_pos p6,if_pos (hbd 6 p6),if_pos p6,if_pos (hok (a+6) p6),gB,if_pos p6]
        by_cases z6:ay cs (a+6)=0
        ·rw [if_pos z6,if_pos (show (6=9∧1<ay cs (a+6))∨(0<6∧ay cs (a+6)=0) from by omega)];rfl
        rw [if_neg z6,if_neg (show ¬((6=9∧1<ay cs (a+6))∨(0<6∧ay cs (a+6)=0)) from by omega)]
        by_cases s6:ay cs (a+6)<128
        ·rw [if_pos s6,if_pos s6,if_pos (hbd1 6 p6)]
         exact congrArg some (qX (by simp only [jS,orW,qap,qaq,jT,Fn.ig,Fn.iE,Fn.dig,qak,qar,Nat.reduceAdd,Nat.reducePow]))
        rw [if_neg s6,if_neg s6]
        show _=acZ cs a n 3 7
        by_cases p7:a+7<n
        ·rw [if_pos (hbd 7 p7),if_pos p7,if_pos (hbd 7 p7),if_pos p7,if_pos (hok (a+7) p7),gB,if_pos p7]
         by_cases z7:ay cs (a+7)=0
         ·rw [if_pos z7,if_pos (show (7=9∧1<ay cs (a+7))∨(0<7∧ay cs (a+7)=0) from by omega)];rfl
         rw [if_neg z7,if_neg (show ¬((7=9∧1<ay cs (a+7))∨(0<7∧ay cs (a+7)=0)) from by omega)]
         by_cases s7:ay cs (a+7)<128
         ·rw [if_pos s7,if_pos s7,if_pos (hbd1 7 p7)]
          exact congrArg some (qX (by simp only [jS,orW,qap,qaq,jT,Fn.ig,Fn.iE,Fn.dig,qak,qar,Nat.reduceAdd,Nat.reducePow]))
         rw [if_neg s7,if_neg s7]
         show _=acZ cs a n 2 8
         by_cases p8:a+8<n
         ·rw [if_pos (hbd 8 p8),if_pos p8,if_pos (hbd 8 p8),if_pos p8,if_pos (hok (a+8) p8),gB,if_pos p8]
          by_cases z8:ay cs (a+8)=0
          ·rw [if_pos z8,if_pos (show (8=9∧1<ay cs (a+8))∨(0<8∧ay cs (a+8)=0) from by omega)];rfl
          rw [if_neg z8,if_neg (show ¬((8=9∧1<ay cs (a+8))∨(0<8∧ay cs (a+8)=0)) from by omega)]
          by_cases s8:ay cs (a+8)<128
          ·rw [if_pos s8,if_pos s8,if_pos (hbd1 8 p8)]
           exact congrArg some (qX (by simp only [jS,orW,qap,qaq,jT,Fn.ig,Fn.iE,Fn.dig,qak,qar,Nat.reduceAdd,Nat.reducePow]))
          rw [if_neg s8,if_neg s8]
          show _=acZ cs a n 1 9
          by_cases p9:a+9<n
          ·rw [if_pos (hbd 9 p9),if_pos p9,if_pos (hbd 9 p9),if_pos p9,if_pos (hok (a+9) p9),gB,if_pos p9]
           by_cases w9:1<ay cs (a+9)
           ·rw [if_pos w9,if_pos (show (9=9∧1<ay cs (a+9))∨(0<9∧ay cs (a+9)=0) from by omega)];rfl
           rw [if_neg w9]
           by_cases z9:ay cs (a+9)=0
           ·rw [if_pos z9,if_pos (show (9=9∧1<ay cs (a+9))∨(0<9∧ay cs (a+9)=0) from by omega)];rfl
           rw [if_neg z9,if_neg (show ¬((9=9∧1<ay cs (a+9))∨(0<9∧ay cs (a+9)=0)) from by omega)]
           by_cases s9:ay cs (a+9)<128
           ·rw [if_pos s9,if_pos s9,if_pos (hbd1 9 p9)]
            exact congrArg some (qX (by simp only [jS,orW,qap,qaq,jT,Fn.ig,Fn.iE,Fn.dig,qak,qar,Nat.reduceAdd,Nat.reducePow]))
           rw [if_neg s9,if_neg s9]
           exfalso;omega
          ·rw [if_pos (by omega),if_neg p9,gB,if_neg p9];rfl
         ·rw [if_pos (by omega),if_neg p8,gB,if_neg p8];rfl
        ·rw [if_pos (by omega),if_neg p7,gB,if_neg p7];rfl
       ·rw [if_pos (by omega),if_neg p6,gB,if_neg p6];rfl
      ·rw [if_pos (by omega),if_neg p5,gB,if_neg p5];rfl
     ·rw [if_pos (by omega),if_neg p4,gB,if_neg p4];rfl
    ·rw [if_pos (by omega),if_neg p3,gB,if_neg p3];rfl
   ·rw [if_pos (by omega),if_neg p2,gB,if_neg p2];rfl
  ·rw [if_pos (by omega),if_neg p1,gB,if_neg p1];rfl
 ·rw [if_pos (by omega),if_neg p0,gB,if_neg p0];rfl
def av3:List (Nat × Con):=(74,.tree (vW Tryz.prog ayM))::axD
def C2:Cfg:={ CB with ext:=fQ [],insert:=fQ av3 }
variable [Lo]
theorem adW:eu Tryz.prog C2 av3:=eu.vW (fun lo=>@auc lo) aqS.gives (eu.to ao6 rfl)
theorem agn:eX C2 Tryz.prog:=Ba (ext:=fQ []) (ins:=fQ av3) rfl (fun f t h=>adW f t h) (fun f e h=>by cases h)
theorem Zr:∀ k n,1≤aQ (tZ k n)∧aQ (tZ k n)≤k+1
 |0,n=>⟨Nat.le_refl _,Nat.le_refl _⟩
 |k+1,n=>by
  rw [dI]
  split
  ·have h:=Zr k (n/128)
   show 1≤qaf (aQ (tZ k (n/128)))∧qaf (aQ (tZ k (n/128)))≤k+1+1
   omega
  ·show 1≤1∧1≤k+1+1
   omega
theorem vX (n:Nat):1≤aQ (Fn.iQ n)∧aQ (Fn.iQ n)≤10:=Zr 9 n
theorem Eh:∀ l:List Value,flatAll l=true→rV l=true
 |[],_=>rfl
 |a::l,h=>by
  have h:sel (lZ a) (flatAll l) false=true:=h
  rw [aG] at h
  split at h
  ·rename_i h1
   show sel _ (rV l) false=true
   rw [Eh l h]
   cases a <;> first|rfl|cases h1
  ·cases h
theorem P7 {α:Type}(l:List α):aA (aQ l) l=l:=by
 rw [qU,aW,List.take_length]
theorem ZA {cs:List Value}{i x:Nat}(h:cs[i]? = some (qb8 x)):ay cs i=x:=by
 rw [←jk] at h
 exact congrArg (fun o:Option Value=>(match o with|some (.int _ (.ofNat z))=>z|_=>0)) h
theorem IY (cs:List Value)(a i:Nat):ay (cs.drop a) i=ay cs (a+i):=by
 have h:nth (cs.drop a) i=nth cs (a+i):=by rw [jk,jk,List.getElem?_drop]
 exact congrArg (fun o:Option Value=>(match o with|some (.int _ (.ofNat z))=>z|_=>0)) h
def isB (v:Value):Bool:=
 match v with
 |.int k (.ofNat n)=>gY .u8 k&&ltN n 256
 |_=>false
def allB:List Value→Bool:=fun l=>List.rec true (fun v _ ih=>sel (isB v) ih false) l
theorem acR {v:Value}(h:isB v=true):∃ x,v=qb8 x∧x<256:=by
 unfold isB at h
 split at h
 ·rename_i k n
  simp only [qad] at h
  have h1:=mM h.1
  subst h1
  exact ⟨n,rfl,bD h.2⟩
 ·cases h
theorem UH:∀ {cs:List Value} {i:Nat},allB cs=true→i<cs.length→∃ x,cs[i]? = some (qb8 x)∧x<256
 |[],i,_,h=>by simp at h
 |v::cs,0,hb,_=>by
  obtain ⟨h1,_⟩:=dG (show sel (isB v) (allB cs) false=true from hb)
  obtain ⟨x,rfl,hx⟩:=acR h1
  exact ⟨x,rfl,hx⟩
 |v::cs,i+1,hb,h=>by
  obtain ⟨_,h2⟩:=dG (show sel (isB v) (allB cs) false=true from hb)
  obtain ⟨x,hx,hlt⟩:=UH (cs:=cs) (i:=i) h2 (by simpa using h)
  exact ⟨x,by simpa using hx,hlt⟩
theorem Hg:∀ {cs:List Value},allB cs=true→gI cs=true
 |[],_=>rfl
 |v::cs,h=>by
  obtain ⟨h1,h2⟩:=dG (show sel (isB v) (allB cs) false=true from h)
  obtain ⟨x,rfl,_⟩:=acR h1
  show sel true (gI cs) false=true
  rw [aN]
  exact Hg h2
theorem qW:∀ {a b:List Value},allB a=true→allB b=true→allB (a++b)=true
 |[],b,_,hb=>hb
 |v::a,b,h,hb=>by
  obtain ⟨h1,h2⟩:=dG (show sel (isB v) (allB a) false=true from h)
  show sel (isB v) (allB (a++b)) false=true
  rw [h1,qW h2 hb]
  rfl
theorem xY:∀ {cs:List Value} (n:Nat),allB cs=true→allB (cs.drop n)=true
 |[],n,_=>by rw [List.drop_nil];rfl
 |v::cs,0,h=>h
 |v::cs,n+1,h=>by
  obtain ⟨_,h2⟩:=dG (show sel (isB v) (allB cs) false=true from h)
  exact xY n h2
theorem acN {x:Nat}(h:x<256):isB (qb8 x)=true:=by
 show (true&&ltN x 256)=true
 rw [qam]
 exact qas h
theorem Sm:∀ k n,allB (tZ k n)=true
 |0,n=>by
  show sel (isB (qb8 (n%256))) true false=true
  rw [acN (qaF _ (by omega))]
  rfl
 |k+1,n=>by
  rw [dI]
  split
  ·show sel (isB (qb8 (n%128+128))) (allB (tZ k (n/128))) false=true
   rw [acN (by omega),Sm k]
   rfl
  ·show sel (isB (qb8 (n%256))) true false=true
   rw [acN (qaF _ (by omega))]
   rfl
theorem oL (n:Nat):allB (Fn.iQ n)=true:=Sm 9 n
theorem yV {k x:Nat}(h:x<128):tZ k x=[qb8 x]:=by
 have e:x%256=x:=qat (by omega)
 cases k with
 |zero=>
  show [qb8 (x%256)]=_
  rw [e]
 |succ k=>rw [dI,if_neg (by omega),e]
theorem atK (j:Nat):128 ^ j=2 ^ (7*j):=by
 have e:(128:Nat)=2 ^ 7:=by decide
 rw [e,←Nat.pow_mul]
theorem akD {A d j:Nat}(hA:A<128 ^ j):A ||| (d*128 ^ j)=A+d*128 ^ j:=by
 rw [atK] at hA ⊢
 rw [Nat.or_comm,qaG d,←Nat.two_pow_add_eq_or_of_lt hA,Nat.add_comm]
theorem akR {d j:Nat}(hd:d<128)(hj:j≤8):d*128 ^ j<18446744073709551616:=by
 have h1:128 ^ j≤128 ^ 8:=qau (by omega) hj
 have h2:d*128 ^ j≤127*128 ^ 8:=Nat.mul_le_mul (by omega) h1
 exact Nat.lt_of_le_of_lt h2 (by decide)
theorem ajD {cs:List Value}{i j x:Nat}(h:ay cs i=x)(hb:x%128*128 ^ j<18446744073709551616):Fn.dig cs i j=x%128*128 ^ j:=by
 unfold Fn.dig
 rw [h,qat hb]
theorem VA {cs:List Value}{o j A:Nat}(h0:j=0→A=0)(h1:∀ i,j=i+1→Fn.acc cs o i=A):Fn.acc cs o j=A ||| Fn.dig cs (o+j) j:=by
 cases j with
 |zero=>rw [h0 rfl,qaq,Fn.ig]
 |succ i=>rw [Fn.iE,h1 i rfl]
theorem xQ (cs:List Value)(o n k j:Nat):mX cs o n (k+1) j=if o+j<n then (if (j=9∧1<ay cs (o+j))∨(0<j∧ay cs (o+j)=0) then (0,0,5) else if ay cs (o+j)<128 then (Fn.acc cs o j,j+1,0) else mX cs o n k (j+1)) else (0,0,6):=rfl
theorem aun {A d j:Nat}(hA:A<128 ^ j)(hd:d<128):A+d*128 ^ j<128 ^ (j+1):=by
 rw [qaz,qaG (128 ^ j) 128]
 have h3:(d+1)*128 ^ j≤128*128 ^ j:=Nat.mul_le_mul_right _ (by omega)
 rw [Nat.add_mul,Nat.one_mul] at h3
 exact Nat.lt_of_lt_of_le (by omega) h3
theorem ajE:∀ (k:Nat) {cs:List Value} {o j A v c:Nat},k+j=9→allB cs=true→A<128 ^ j→(j=0→A=0)→(∀ i,j=i+1→Fn.acc cs o i=A)→mX cs o cs.length (k+1) j=(v,c,0)→
  ∃ m,v=A+m*128 ^ j∧c=j+(tZ k m).length∧(cs.drop (o+j)).take (tZ k m).length=tZ k m∧(0<j→0<m)∧m<128 ^ k*2∧o+c≤cs.length:=by
 intro k
 induction k with
 |zero=>
  intro cs o j A v c hk hb hA h0 h1 h
  obtain rfl:j=9:=by omega
  rw [xQ] at h
  split at h
  ·rename_i hlt
   obtain ⟨x,hx,_⟩:=UH hb hlt
   have hn:=ZA hx
   rw [hn] at h
   split at h
   ·simp at h
   ·rename_i hc
    have hx1:x=1:=by omega
    subst hx1
    have hdrop:cs.drop (o+9)=qb8 1::cs.drop (o+9+1):=by
     rw [qaA hlt]
     congr 1
     have:=qaB hlt
     rw [hx] at this
     exact (Option.some.inj this).symm
    rw [if_pos (by omega)] at h
    cases h
    refine ⟨1,?_,rfl,?_,fun _=>by omega,by decide,by omega⟩
    ·rw [VA h0 h1,ajD (j:=9) hn (by decide),akD hA]
    ·rw [hdrop];rfl
  ·simp at h
 |succ k ih=>
  intro cs o j A v c hk hb hA h0 h1 h
  have hj:j≤8:=by omega
  rw [xQ] at h
  split at h
  ·rename_i hlt
   obtain ⟨x,hx,hx256⟩:=UH hb hlt
   have hn:=ZA hx
   have hdrop:cs.drop (o+j)=qb8 x::cs.drop (o+j+1):=by
    rw [qaA hlt]
    congr 1
    have:=qaB hlt
    rw [hx] at this
    exact (Option.some.inj this).symm
   rw [hn] at h
   split at h
   ·simp at h
   ·rename_i hc
    split at h
    ·rename_i hs
     cases h
     have e1:x%128=x:=qat hs
     refine ⟨x,?_,?_,?_,fun _=>by omega,?_,by omega⟩
     ·rw [VA h0 h1,ajD (j:=j) hn (by rw [e1];exact akR hs hj),e1,akD hA]
     ·rw [yV hs];rfl
     ·rw [yV hs,hdrop];rfl
     ·have:128 ^ 1≤128 ^ (k+1):=qau (by omega) (by omega)
      omega
    ·rename_i hs
     have hy:x-128<128:=by omega
     have hacc:Fn.acc cs o j=A+(x-128)*128 ^ j:=by
      have e:x%128=x-128:=by omega
      rw [VA h0 h1,ajD (j:=j) hn (by rw [e];exact akR hy hj),e,akD hA]
     obtain ⟨m,g1,g2,g3,g4,g5,g6⟩:=ih (by omega) hb (aun hA hy) (fun h=>by omega) (fun i hi=>by
      obtain rfl:i=j:=by omega
      exact hacc) h
     have hm:=g4 (by omega)
     have hp:tZ (k+1) (m*128+(x-128))=qb8 x::tZ k m:=by
      rw [dI,if_pos (by omega)]
      have a1:(m*128+(x-128))%128+128=x:=by omega
      have a2:(m*128+(x-128))/128=m:=by omega
      rw [a1,a2]
     refine ⟨m*128+(x-128),?_,?_,?_,fun _=>by omega,?_,g6⟩
     ·rw [g1,qaz,Nat.add_mul,Nat.mul_assoc,qaG 128 (128 ^ j)]
      omega
     ·rw [hp,g2,qaD];omega
     ·have g3':(cs.drop (o+j+1)).take (tZ k m).length=tZ k m:=g3
      rw [hp,hdrop,qaD,List.take_succ_cons,g3']
     ·rw [qaz];omega
  ·simp at h
theorem Vt {cs:List Value}{o v c:Nat}(hb:allB cs=true)(h:mX cs o cs.length 10 0=(v,c,0)) :
  v<18446744073709551616∧c=(Fn.iQ v).length∧(cs.drop o).take c=Fn.iQ v∧o+c≤cs.length:=by
 obtain ⟨m,g1,g2,g3,_,g5,g6⟩:=ajE 9 (j:=0) (A:=0) rfl hb (by decide) (fun _=>rfl) (fun i hi=>by omega) h
 have e:v=m:=by
  have g1:v=0+m*1:=g1
  omega
 subst e
 have g2:c=(Fn.iQ v).length:=by
  have g2:c=0+(Fn.iQ v).length:=g2
  omega
 refine ⟨by show v<128 ^ 9*2;exact g5,g2,?_,g6⟩
 rw [g2]
 exact g3
theorem ade (cs:List Value)(a:Nat):∀ j,Fn.acc (cs.drop a) 0 j=Fn.acc cs a j
 |0=>by
  rw [Fn.ig,Fn.ig]
  unfold Fn.dig
  rw [IY]
 |j+1=>by
  rw [Fn.iE,Fn.iE,ade cs a j]
  unfold Fn.dig
  rw [IY,qak]
theorem Zx (cs:List Value)(a n:Nat):∀ k j,mX (cs.drop a) 0 (n-a) k j=mX cs a n k j
 |0,j=>rfl
 |k+1,j=>by
  rw [xQ,xQ,Zx cs a n k (j+1),IY,ade,qak]
  by_cases h:a+j<n
  ·rw [if_pos h,if_pos (show j<n-a by omega)]
  ·rw [if_neg h,if_neg (show ¬j<n-a by omega)]
def rdN (cs:List Value)(lo hi:Nat)(p:Nat × Nat):Nat × (Nat × Nat):=
 if p.2≠0 then (0,p)
 else if (mX cs p.1 cs.length 10 0).2.2≠0 then (0,(p.1,(mX cs p.1 cs.length 10 0).2.2))
 else if (mX cs p.1 cs.length 10 0).1<lo∨hi<(mX cs p.1 cs.length 10 0).1 then (0,(p.1,3))
 else ((mX cs p.1 cs.length 10 0).1,(p.1+(mX cs p.1 cs.length 10 0).2.1,0))
def vT (cs:List Value):List (Nat × Nat)→(Nat × Nat)→List Nat × (Nat × Nat)
 |[],p=>([],p)
 |b::l,p=>((rdN cs b.1 b.2 p).1::(vT cs l (rdN cs b.1 b.2 p).2).1,(vT cs l (rdN cs b.1 b.2 p).2).2)
def Fits:List (Nat × Nat)→List Nat→Prop
 |[],[]=>True
 |b::l,v::vs=>b.1≤v∧v≤b.2∧v<18446744073709551616∧Fits l vs
 |_,_=>False
def ng:List Nat→List Value
 |[]=>[]
 |v::vs=>Fn.iQ v++ng vs
theorem nX:∀ vs,allB (ng vs)=true
 |[]=>rfl
 |v::vs=>qW (oL v) (nX vs)
theorem Zb:∀ a b,ng (a++b)=ng a++ng b
 |[],b=>rfl
 |v::a,b=>by
  show Fn.iQ v++ng (a++b)=(Fn.iQ v++ng a)++ng b
  rw [Zb a b,qax]
theorem ap4 {cs:List Value}{lo hi:Nat}{p:Nat × Nat}(h:p.2≠0):rdN cs lo hi p=(0,p):=by
 unfold rdN
 rw [if_pos h]
theorem LD {cs:List Value}:∀ {l:List (Nat × Nat)} {p:Nat × Nat},p.2≠0→(vT cs l p).2=p
 |[],p,h=>rfl
 |b::l,p,h=>by
  unfold vT
  rw [ap4 h]
  exact LD h
theorem CQ {cs:List Value}{lo hi v a a':Nat}(hb:allB cs=true)(h:rdN cs lo hi (a,0)=(v,(a',0))) :
  lo≤v∧v≤hi∧v<18446744073709551616∧cs.drop a=Fn.iQ v++cs.drop a'∧a'≤cs.length∧a'=a+(Fn.iQ v).length:=by
 unfold rdN at h
 rw [if_neg (by show ¬(0:Nat)≠0;omega)] at h
 by_cases he:(mX cs a cs.length 10 0).2.2=0
 ·have h:(if (mX cs a cs.length 10 0).2.2≠0 then (0,(a,(mX cs a cs.length 10 0).2.2)) else if (mX cs a cs.length 10 0).1<lo∨hi<(mX cs a cs.length 10 0).1 then (0,(a,3)) else ((mX cs a cs.length 10 0).1,(a+(mX cs a cs.length 10 0).2.1,0)))=(v,(a',0)):=h
  rw [if_neg (by omega)] at h
  split at h
  ·simp at h
  ·rename_i hr
   have hn:mX cs a cs.length 10 0=((mX cs a cs.length 10 0).1,(mX cs a cs.length 10 0).2.1,0):=by
    conv=>lhs;rw [show mX cs a cs.length 10 0=((mX cs a cs.length 10 0).1,(mX cs a cs.length 10 0).2.1,(mX cs a cs.length 10 0).2.2) from rfl,he]
   obtain ⟨g1,g2,g3,g4⟩:=Vt hb hn
   have e1:(mX cs a cs.length 10 0).1=v:=congrArg (fun q=>q.1) h
   have e2:a+(mX cs a cs.length 10 0).2.1=a':=congrArg (fun q=>q.2.1) h
   rw [e1] at g1 g2 g3 hr
   refine ⟨by omega,by omega,g1,?_,by omega,by omega⟩
   rw [←e2,←g3,←List.drop_drop]
   exact (List.take_append_drop _ _).symm
 ·have h:(if (mX cs a cs.length 10 0).2.2≠0 then (0,(a,(mX cs a cs.length 10 0).2.2)) else if (mX cs a cs.length 10 0).1<lo∨hi<(mX cs a cs.length 10 0).1 then (0,(a,3)) else ((mX cs a cs.length 10 0).1,(a+(mX cs a cs.length 10 0).2.1,0)))=(v,(a',0)):=h
  rw [if_pos he] at h
  have e:(mX cs a cs.length 10 0).2.2=0:=congrArg (fun q=>q.2.2) h
  exact absurd e he
theorem YV:∀ {l:List (Nat × Nat)} {vs:List Nat} {cs:List Value} {a a':Nat},allB cs=true→a≤cs.length→vT cs l (a,0)=(vs,(a',0))→Fits l vs∧cs.drop a=ng vs++cs.drop a'∧a'≤cs.length
 |[],vs,cs,a,a',hb,ha,h=>by
  unfold vT at h
  cases h
  exact ⟨trivial,rfl,ha⟩
 |b::l,vs,cs,a,a',hb,ha,h=>by
  unfold vT at h
  have h1:(rdN cs b.1 b.2 (a,0)).1::(vT cs l (rdN cs b.1 b.2 (a,0)).2).1=vs:=congrArg (fun q=>q.1) h
  have h2:(vT cs l (rdN cs b.1 b.2 (a,0)).2).2=(a',0):=congrArg (fun q=>q.2) h
  by_cases he:(rdN cs b.1 b.2 (a,0)).2.2=0
  ·have e:rdN cs b.1 b.2 (a,0)=((rdN cs b.1 b.2 (a,0)).1,((rdN cs b.1 b.2 (a,0)).2.1,0)):=by
    conv=>lhs;rw [show rdN cs b.1 b.2 (a,0)=((rdN cs b.1 b.2 (a,0)).1,((rdN cs b.1 b.2 (a,0)).2.1,(rdN cs b.1 b.2 (a,0)).2.2)) from rfl,he]
   obtain ⟨g1,g2,g3,g4,g5,g6⟩:=CQ hb e
   have e2:(rdN cs b.1 b.2 (a,0)).2=((rdN cs b.1 b.2 (a,0)).2.1,0):=congrArg (fun q=>q.2) e
   rw [e2] at h1 h2
   have e3:vT cs l ((rdN cs b.1 b.2 (a,0)).2.1,0)=((vT cs l ((rdN cs b.1 b.2 (a,0)).2.1,0)).1,(a',0)):=by rw [←h2]
   obtain ⟨f1,f2,f3⟩:=YV hb g5 e3
   subst h1
   refine ⟨⟨g1,g2,g3,f1⟩,?_,f3⟩
   rw [g4,f2]
   show _=(Fn.iQ _++ng _)++_
   rw [qax]
  ·have:=LD (cs:=cs) (l:=l) he
   rw [this] at h2
   have h3:(rdN cs b.1 b.2 (a,0)).2.2=0:=congrArg (fun q=>q.2) h2
   exact absurd h3 he
def Ws (cs:List Value)(p:Nat × Nat):Nat × Nat:=if p.2≠0 then (p.2,p.1) else if p.1<cs.length then (4,p.1) else (0,0)
def qBs:Nat→List (Nat × Nat)
 |1=>[(0,63)]
 |2=>[(0,63)]
 |3=>[(0,63)]
 |4=>[(0,31)]
 |5=>[(0,31),(1,4294967296)]
 |6=>[(0,31),(1,2),(1,4294967296)]
 |7=>[(0,31)]
 |_=>[]
def qOf:Nat→List Nat→Nat × Nat × Nat × Nat
 |1,[a]=>(a,0,0,0)
 |2,[a]=>(a,0,0,0)
 |3,[a]=>(a,0,0,0)
 |4,[v]=>(0,v,0,0)
 |5,[v,h]=>(0,v,0,h)
 |6,[v,c,h]=>(0,v,c,h)
 |7,[v]=>(0,v,0,0)
 |_,_=>(0,0,0,0)
namespace Fn
def qE (k a v c h:Int):Nat:=
 if k=1∨k=2∨k=3 then (if a<0∨63<a then 3 else if v≠0∨c≠0∨h≠0 then 2 else 0)
 else if k=4∨k=7 then (if v<0∨31<v then 3 else if a≠0∨c≠0∨h≠0 then 2 else 0)
 else if k=5 then (if v<0∨31<v∨h<1∨4294967296<h then 3 else if a≠0∨c≠0 then 2 else 0)
 else if k=6 then (if v<0∨31<v∨c<1∨2<c∨h<1∨4294967296<h then 3 else if a≠0 then 2 else 0)
 else if k=8∨k=9∨k=10 then (if a≠0∨v≠0∨c≠0∨h≠0 then 2 else 0)
 else 5
end Fn
def qVs (k a v c h:Int):List Nat:=
 if k=1∨k=2∨k=3 then [a.toNat] else if k=4∨k=7 then [v.toNat] else if k=5 then [v.toNat,h.toNat] else if k=6 then [v.toNat,c.toNat,h.toNat] else []
namespace Fn
def qL (k a v c h:Int):List Value:=ng (k.toNat::qVs k a v c h)
def qK (cs:List Value):Nat × (Nat × Nat):=rdN cs 1 10 (0,0)
def qF (cs:List Value):List Nat × (Nat × Nat):=vT cs (qBs (qK cs).1) (qK cs).2
def qT (cs:List Value):Nat × Nat:=Ws cs (qF cs).2
def qQ (cs:List Value):Nat × Nat × Nat × Nat × Nat:=if (qT cs).1=0 then ((qK cs).1,qOf (qK cs).1 (qF cs).1) else (0,0,0,0,0)
end Fn
theorem aox {cs:List Value}{p:Nat × Nat}(hp:p.2=0→p.1≤cs.length):(Ws cs p).1=0↔p=(cs.length,0):=by
 obtain ⟨a,e⟩:=p
 unfold Ws
 by_cases he:e=0
 ·subst he
  rw [if_neg (by show ¬(0:Nat)≠0;omega)]
  have hp:a≤cs.length:=hp rfl
  split
  ·rename_i hlt
   have hlt:a<cs.length:=hlt
   constructor
   ·intro h;have h:(4:Nat)=0:=h;omega
   ·intro h
    have:a=cs.length:=congrArg (fun q=>q.1) h
    omega
  ·rename_i hlt
   have hlt:¬a<cs.length:=hlt
   constructor
   ·intro _
    have:a=cs.length:=by omega
    rw [this]
   ·intro _;rfl
 ·rw [if_pos (show (a,e).2≠0 from he)]
  constructor
  ·intro h;exact absurd h he
  ·intro h
   exact absurd (congrArg (fun q=>q.2) h) he
namespace Fn
def aE (e:Int)(ns:List Nat):Nat:=if e<0∨99<e then 3 else if e≠0∧ns≠[] then 2 else if 100000<ns.length then 4 else 0
def aL (e:Nat)(ns:List Nat):List Value:=ng (e::(if e=0 then ns.length::ns else []))
def gK (cs:List Value):Nat × (Nat × Nat):=rdN cs 0 99 (0,0)
def gN (cs:List Value):Nat × (Nat × Nat):=if (gK cs).2.2≠0∨(gK cs).1≠0 then (0,(gK cs).2) else rdN cs 0 100000 (gK cs).2
def gF (cs:List Value):List Nat × (Nat × Nat):=vT cs (qay (gN cs).1 (0,18446744073709551615)) (gN cs).2
def gT (cs:List Value):Nat × Nat:=Ws cs (gF cs).2
def Qb (cs:List Value):Nat:=if (gT cs).1=0 then (gK cs).1 else 0
def gNs (cs:List Value):List Nat:=if (gT cs).1=0 then (gF cs).1 else []
end Fn
theorem adp:∀ {n:Nat} {b:Nat × Nat} {vs:List Nat},Fits (qay n b) vs→vs.length=n∧∀ v∈vs,v<18446744073709551616
 |0,b,[],_=>⟨rfl,fun v hv=>by cases hv⟩
 |n+1,b,v::vs,h=>by
  obtain ⟨_,_,h3,h4⟩:=(show b.1≤v∧v≤b.2∧v<18446744073709551616∧Fits (qay n b) vs from h)
  obtain ⟨g1,g2⟩:=adp h4
  refine ⟨by rw [qaD,g1],fun u hu=>?_⟩
  rcases List.mem_cons.1 hu with rfl|hu
  ·exact h3
  ·exact g2 u hu
 |0,b,_::_,h=>h.elim
 |n+1,b,[],h=>h.elim
theorem P6 {α β γ:Type}(q:α × (β × γ)){c:γ}(h:q.2.2=c):q=(q.1,(q.2.1,c)):=by
 obtain ⟨a,b,d⟩:=q
 have h:d=c:=h
 rw [h]
theorem aus {cs:List Value}(hb:allB cs=true)(he:(Fn.gF cs).2.2=0) :
  (Fn.gF cs).2.1≤cs.length∧Fn.aE (qaa (Fn.gK cs).1) (Fn.gF cs).1=0∧cs=Fn.aL (Fn.gK cs).1 (Fn.gF cs).1++cs.drop (Fn.gF cs).2.1∧∀ v∈(Fn.gF cs).1,v<18446744073709551616:=by
 have hN0:(Fn.gN cs).2.2=0:=by
  rcases qaE (Fn.gN cs).2.2 with h|h
  ·exact h
  ·have:=LD (cs:=cs) (l:=qay (Fn.gN cs).1 (0,18446744073709551615)) (p:=(Fn.gN cs).2) (by omega)
   have e:(Fn.gF cs).2=(Fn.gN cs).2:=this
   rw [e] at he
   omega
 have hK0:(Fn.gK cs).2.2=0:=by
  rcases qaE (Fn.gK cs).2.2 with h|h
  ·exact h
  ·have e:Fn.gN cs=(0,(Fn.gK cs).2):=by unfold Fn.gN;rw [if_pos (.inl (by omega))]
   rw [e] at hN0
   exact hN0
 obtain ⟨g1,g2,g3,g4,g5,g6⟩:=CQ (v:=(Fn.gK cs).1) (a':=(Fn.gK cs).2.1) hb (P6 (rdN cs 0 99 (0,0)) hK0)
 rw [List.drop_zero] at g4
 by_cases hz:(Fn.gK cs).1=0
 ·have eN:Fn.gN cs=rdN cs 0 100000 ((Fn.gK cs).2.1,0):=by
   unfold Fn.gN
   rw [if_neg (by omega)]
   conv=>lhs;rw [show (Fn.gK cs).2=((Fn.gK cs).2.1,(Fn.gK cs).2.2) from rfl,hK0]
  have eN2:=P6 (rdN cs 0 100000 ((Fn.gK cs).2.1,0)) (c:=0) (by rw [←eN];exact hN0)
  rw [←eN] at eN2
  obtain ⟨n1,n2,n3,n4,n5,n6⟩:=CQ (v:=(Fn.gN cs).1) (a':=(Fn.gN cs).2.1) hb (eN.symm.trans eN2)
  have eF2:=P6 (Fn.gF cs) he
  have eF:Fn.gF cs=vT cs (qay (Fn.gN cs).1 (0,18446744073709551615)) ((Fn.gN cs).2.1,0):=by
   unfold Fn.gF
   conv=>lhs;rw [show (Fn.gN cs).2=((Fn.gN cs).2.1,(Fn.gN cs).2.2) from rfl,hN0]
  obtain ⟨f1,f2,f3⟩:=YV (vs:=(Fn.gF cs).1) (a':=(Fn.gF cs).2.1) hb n5 (eF.symm.trans eF2)
  obtain ⟨l1,l2⟩:=adp f1
  refine ⟨f3,?_,?_,l2⟩
  ·unfold Fn.aE
   rw [hz,if_neg (by simp),if_neg (by simp),if_neg (by omega)]
  ·have e:Fn.aL (Fn.gK cs).1 (Fn.gF cs).1=Fn.iQ 0++(Fn.iQ (Fn.gF cs).1.length++ng (Fn.gF cs).1):=by
    unfold Fn.aL
    rw [hz]
    rfl
   rw [hz] at g4
   rw [e,l1,qax,qax,←f2,←n4]
   exact g4
 ·have eN:Fn.gN cs=(0,(Fn.gK cs).2):=by unfold Fn.gN;rw [if_pos (.inr hz)]
  have eF:Fn.gF cs=([],(Fn.gK cs).2):=by unfold Fn.gF;rw [eN];rfl
  rw [eF]
  refine ⟨g5,?_,?_,fun v hv=>by cases hv⟩
  ·unfold Fn.aE
   rw [if_neg (by simp only [qab];omega),if_neg (by simp),if_neg (by simp)]
  ·have e:Fn.aL (Fn.gK cs).1 []=Fn.iQ (Fn.gK cs).1:=by
    unfold Fn.aL
    rw [if_neg hz]
    show _++[]=_
    rw [qaI]
   rw [e]
   exact g4
theorem akM {cs:List Value}(hb:allB cs=true)(h:(Fn.gT cs).1=0) :
  Fn.aE (qaa (Fn.Qb cs)) (Fn.gNs cs)=0∧Fn.aL (Fn.Qb cs) (Fn.gNs cs)=cs∧∀ v∈Fn.gNs cs,v<18446744073709551616:=by
 have hp:(Fn.gF cs).2=(cs.length,0):=(aox (fun he=>(aus hb he).1)).1 h
 have he:(Fn.gF cs).2.2=0:=by rw [hp]
 obtain ⟨_,g1,g2,g3⟩:=aus hb he
 have e1:Fn.Qb cs=(Fn.gK cs).1:=by unfold Fn.Qb;rw [if_pos h]
 have e2:Fn.gNs cs=(Fn.gF cs).1:=by unfold Fn.gNs;rw [if_pos h]
 rw [e1,e2]
 refine ⟨g1,?_,g3⟩
 rw [hp] at g2
 have e:cs.drop cs.length=[]:=List.drop_length
 have g2:cs=Fn.aL (Fn.gK cs).1 (Fn.gF cs).1++cs.drop cs.length:=g2
 rw [e,qaI] at g2
 exact g2.symm
end
end Go.Ax
namespace Go.Ax
open Go Go.Proofs
noncomputable def qv (k a v c h:Int):Value:=.agg ⟨[.int .i64 k,.int .i64 a,.int .i64 v,.int .i64 c,.int .i64 h]⟩
noncomputable def jP:Option cO:=some { val:=[.one (.flat (.int .i64 3))],rows:=[] }
noncomputable def YR (c h v:Int):=eqI v 0&&(eqI c 0&&(eqI h 0&&true))
noncomputable def lW:Option cO:=some { val:=[.one (.flat (.int .i64 2))],rows:=[] }
noncomputable def pU:Option cO:=some { val:=[.one (.flat (.int .i64 0))],rows:=[] }
noncomputable def amz (a c h v:Int):Option cO:=sel (ltI (qaa 63) a) jP (sel (!(true&&(true&&(YR c h v)))) lW pU)
noncomputable def Rz (t:Bool)(a v c h:Int):Option cO:=sel (ltI a (qaa 0)) jP (amz a c h v)
theorem azM (t:Bool)(a v c h:Int):(runK (fH t) C2 40).1 24 [qv 1 a v c h] (aH []) (bP Tryz.prog)=Rz t a v c h:=by kernel_rfl
theorem ax7 (t:Bool)(a v c h:Int):(runK (fH t) C2 40).1 24 [qv 2 a v c h] (aH []) (bP Tryz.prog)=Rz t a v c h:=by kernel_rfl
theorem azl (t:Bool)(a v c h:Int):(runK (fH t) C2 40).1 24 [qv 3 a v c h] (aH []) (bP Tryz.prog)=Rz t a v c h:=by kernel_rfl
noncomputable def ari (a c h v:Int):Option cO:=sel (ltI (qaa 31) v) jP (sel (!(true&&(eqI a 0&&(true&&(eqI c 0&&(eqI h 0&&true)))))) lW pU)
noncomputable def aev (t:Bool)(a v c h:Int):Option cO:=sel (ltI v (qaa 0)) jP (ari a c h v)
theorem ayB (t:Bool)(a v c h:Int):(runK (fH t) C2 40).1 24 [qv 4 a v c h] (aH []) (bP Tryz.prog)=aev t a v c h:=by kernel_rfl
theorem aAb (t:Bool)(a v c h:Int):(runK (fH t) C2 40).1 24 [qv 5 a v c h] (aH []) (bP Tryz.prog)=sel (ltI v (qaa 0)) jP (sel (ltI (qaa 31) v) jP (sel (ltI h (qaa 1)) jP (sel (ltI (qaa 4294967296) h) jP (sel (!(true&&(eqI a 0&&(true&&(eqI c 0&&true))))) lW pU)))):=by kernel_rfl
theorem azk (t:Bool)(a v c h:Int):(runK (fH t) C2 40).1 24 [qv 6 a v c h] (aH []) (bP Tryz.prog)=sel (ltI v (qaa 0)) jP (sel (ltI (qaa 31) v) jP (sel (ltI c (qaa 1)) jP (sel (ltI (qaa 2) c) jP (sel (ltI h (qaa 1)) jP (sel (ltI (qaa 4294967296) h) jP (sel (!(true&&(eqI a 0&&true))) lW pU)))))):=by kernel_rfl
theorem az6 (t:Bool)(a v c h:Int):(runK (fH t) C2 40).1 24 [qv 7 a v c h] (aH []) (bP Tryz.prog)=aev t a v c h:=by kernel_rfl
noncomputable def an7 (a c h v:Int):=!(true&&(eqI a 0&&(YR c h v)))
noncomputable def Rf (t:Bool)(a v c h:Int):Option cO:=sel (an7 a c h v) lW pU
theorem aAa (t:Bool)(a v c h:Int):(runK (fH t) C2 40).1 24 [qv 8 a v c h] (aH []) (bP Tryz.prog)=Rf t a v c h:=by kernel_rfl
theorem aye (t:Bool)(a v c h:Int):(runK (fH t) C2 40).1 24 [qv 9 a v c h] (aH []) (bP Tryz.prog)=Rf t a v c h:=by kernel_rfl
theorem auk (t:Bool)(a v c h:Int):(runK (fH t) C2 40).1 24 [qv 10 a v c h] (aH []) (bP Tryz.prog)=Rf t a v c h:=by kernel_rfl
theorem ano (t:Bool)(m:Nat)(a v c h:Int):(runK (fH t) C2 40).1 24 [qv (qaH m) a v c h] (aH []) (bP Tryz.prog)=some { val:=[gq.one (dZ.flat (Value.int IntKind.i64 5))],rows:=[] }:=by kernel_rfl
theorem aom (t:Bool)(a v c h:Int):(runK (fH t) C2 40).1 24 [qv 0 a v c h] (aH []) (bP Tryz.prog)=some { val:=[gq.one (dZ.flat (Value.int IntKind.i64 5))],rows:=[] }:=by kernel_rfl
theorem am1 (t:Bool)(m:Nat)(a v c h:Int):(runK (fH t) C2 40).1 24 [qv (qaa (qag m 11)) a v c h] (aH []) (bP Tryz.prog)=some { val:=[gq.one (dZ.flat (Value.int IntKind.i64 5))],rows:=[] }:=by kernel_rfl
noncomputable def Qh (c h:Int):Option cO:=sel (!eqI c 0) lW (sel (!eqI h 0) lW pU)
noncomputable def Z4 (c h v:Int):Option cO:=sel (!eqI v 0) lW (Qh c h)
noncomputable def alB (a c h v:Int):Option cO:=sel (ltI (qaa 63) a) jP (Z4 c h v)
noncomputable def RD (t:Bool)(a v c h:Int):Option cO:=sel (ltI a (qaa 0)) jP (alB a c h v)
theorem ayv (t:Bool)(a v c h:Int):(runK (fH t) C2 40).1 29 [qv 1 a v c h] (aH []) (bP Tryz.prog)=RD t a v c h:=by kernel_rfl
theorem azB (t:Bool)(a v c h:Int):(runK (fH t) C2 40).1 29 [qv 2 a v c h] (aH []) (bP Tryz.prog)=RD t a v c h:=by kernel_rfl
theorem azv (t:Bool)(a v c h:Int):(runK (fH t) C2 40).1 29 [qv 3 a v c h] (aH []) (bP Tryz.prog)=RD t a v c h:=by kernel_rfl
noncomputable def ajF (a c h v:Int):Option cO:=sel (ltI (qaa 31) v) jP (sel (!eqI a 0) lW (Qh c h))
noncomputable def acO (t:Bool)(a v c h:Int):Option cO:=sel (ltI v (qaa 0)) jP (ajF a c h v)
theorem ay0 (t:Bool)(a v c h:Int):(runK (fH t) C2 40).1 29 [qv 4 a v c h] (aH []) (bP Tryz.prog)=acO t a v c h:=by kernel_rfl
theorem azj (t:Bool)(a v c h:Int):(runK (fH t) C2 40).1 29 [qv 5 a v c h] (aH []) (bP Tryz.prog)=sel (ltI v (qaa 0)) jP (sel (ltI (qaa 31) v) jP (sel (ltI h (qaa 1)) jP (sel (ltI (qaa 4294967296) h) jP (sel (!eqI a 0) lW (sel (!eqI c 0) lW pU))))):=by kernel_rfl
theorem ayI (t:Bool)(a v c h:Int):(runK (fH t) C2 40).1 29 [qv 6 a v c h] (aH []) (bP Tryz.prog)=sel (ltI v (qaa 0)) jP (sel (ltI (qaa 31) v) jP (sel (ltI c (qaa 1)) jP (sel (ltI (qaa 2) c) jP (sel (ltI h (qaa 1)) jP (sel (ltI (qaa 4294967296) h) jP (sel (!eqI a 0) lW pU)))))):=by kernel_rfl
theorem ay6 (t:Bool)(a v c h:Int):(runK (fH t) C2 40).1 29 [qv 7 a v c h] (aH []) (bP Tryz.prog)=acO t a v c h:=by kernel_rfl
noncomputable def Q7 (t:Bool)(a v c h:Int):Option cO:=sel (!eqI a 0) lW (Z4 c h v)
theorem azo (t:Bool)(a v c h:Int):(runK (fH t) C2 40).1 29 [qv 8 a v c h] (aH []) (bP Tryz.prog)=Q7 t a v c h:=by kernel_rfl
theorem aAl (t:Bool)(a v c h:Int):(runK (fH t) C2 40).1 29 [qv 9 a v c h] (aH []) (bP Tryz.prog)=Q7 t a v c h:=by kernel_rfl
theorem axl (t:Bool)(a v c h:Int):(runK (fH t) C2 40).1 29 [qv 10 a v c h] (aH []) (bP Tryz.prog)=Q7 t a v c h:=by kernel_rfl
theorem anZ (t:Bool)(m:Nat)(a v c h:Int):(runK (fH t) C2 40).1 29 [qv (qaH m) a v c h] (aH []) (bP Tryz.prog)=some { val:=[gq.one (dZ.flat (Value.int IntKind.i64 5))],rows:=[] }:=by kernel_rfl
theorem an9 (t:Bool)(a v c h:Int):(runK (fH t) C2 40).1 29 [qv 0 a v c h] (aH []) (bP Tryz.prog)=some { val:=[gq.one (dZ.flat (Value.int IntKind.i64 5))],rows:=[] }:=by kernel_rfl
theorem alA (t:Bool)(m:Nat)(a v c h:Int):(runK (fH t) C2 40).1 29 [qv (qaa (qag m 11)) a v c h] (aH []) (bP Tryz.prog)=some { val:=[gq.one (dZ.flat (Value.int IntKind.i64 5))],rows:=[] }:=by kernel_rfl
end Go.Ax
namespace Go.Ax
open Go Go.Proofs
noncomputable section
def mJ (e:Nat):cO:=⟨[.one (.flat (.int .i64 (qaa e)))],[]⟩
theorem La (k a v c h:Int):Fn.qE k a v c h=0∨Fn.qE k a v c h=2∨Fn.qE k a v c h=3∨Fn.qE k a v c h=5:=by
 unfold Fn.qE
 repeat' split
 all_goals first|exact .inl rfl|exact .inr (.inl rfl)|exact .inr (.inr (.inl rfl))|exact .inr (.inr (.inr rfl))
theorem as4 (a v c h:Int):(runK (fH true) C2 40).1 24 [qv 1 a v c h] (aH []) (bP Tryz.prog)=some (mJ (Fn.qE 1 a v c h)):=by
 rw [azM];unfold Rz amz pU lW YR jP
 simp only [kX,lS,jm,aG,qad,qaj,qah,qae,decide_eq_true_eq,decide_eq_false_iff_not,qam,qan,qab]
 unfold Fn.qE
 repeat' split
 all_goals first|rfl|(exfalso;omega)
theorem as9 (a v c h:Int):(runK (fH true) C2 40).1 24 [qv 2 a v c h] (aH []) (bP Tryz.prog)=some (mJ (Fn.qE 2 a v c h)):=by
 rw [ax7];unfold Rz amz pU lW YR jP
 simp only [kX,lS,jm,aG,qad,qaj,qah,qae,decide_eq_true_eq,decide_eq_false_iff_not,qam,qan,qab]
 unfold Fn.qE
 repeat' split
 all_goals first|rfl|(exfalso;omega)
theorem arQ (a v c h:Int):(runK (fH true) C2 40).1 24 [qv 3 a v c h] (aH []) (bP Tryz.prog)=some (mJ (Fn.qE 3 a v c h)):=by
 rw [azl];unfold Rz amz pU lW YR jP
 simp only [kX,lS,jm,aG,qad,qaj,qah,qae,decide_eq_true_eq,decide_eq_false_iff_not,qam,qan,qab]
 unfold Fn.qE
 repeat' split
 all_goals first|rfl|(exfalso;omega)
theorem arP (a v c h:Int):(runK (fH true) C2 40).1 24 [qv 4 a v c h] (aH []) (bP Tryz.prog)=some (mJ (Fn.qE 4 a v c h)):=by
 rw [ayB];unfold aev ari pU lW jP
 simp only [kX,lS,jm,aG,qad,qaj,qah,qae,decide_eq_true_eq,decide_eq_false_iff_not,qam,qan,qab]
 unfold Fn.qE
 repeat' split
 all_goals first|rfl|(exfalso;omega)
theorem arD (a v c h:Int):(runK (fH true) C2 40).1 24 [qv 5 a v c h] (aH []) (bP Tryz.prog)=some (mJ (Fn.qE 5 a v c h)):=by
 rw [aAb];unfold pU lW jP
 simp only [kX,lS,jm,aG,qad,qaj,qah,qae,decide_eq_true_eq,decide_eq_false_iff_not,qam,qan,qab]
 unfold Fn.qE
 repeat' split
 all_goals first|rfl|(exfalso;omega)
theorem arl (a v c h:Int):(runK (fH true) C2 40).1 24 [qv 6 a v c h] (aH []) (bP Tryz.prog)=some (mJ (Fn.qE 6 a v c h)):=by
 rw [azk];unfold pU lW jP
 simp only [kX,lS,jm,aG,qad,qaj,qah,qae,decide_eq_true_eq,decide_eq_false_iff_not,qam,qan,qab]
 unfold Fn.qE
 repeat' split
 all_goals first|rfl|(exfalso;omega)
theorem as3 (a v c h:Int):(runK (fH true) C2 40).1 24 [qv 7 a v c h] (aH []) (bP Tryz.prog)=some (mJ (Fn.qE 7 a v c h)):=by
 rw [az6];unfold aev ari pU lW jP
 simp only [kX,lS,jm,aG,qad,qaj,qah,qae,decide_eq_true_eq,decide_eq_false_iff_not,qam,qan,qab]
 unfold Fn.qE
 repeat' split
 all_goals first|rfl|(exfalso;omega)
theorem arL (a v c h:Int):(runK (fH true) C2 40).1 24 [qv 8 a v c h] (aH []) (bP Tryz.prog)=some (mJ (Fn.qE 8 a v c h)):=by
 rw [aAa];unfold Rf pU lW an7 YR
 simp only [kX,lS,jm,aG,qad,qaj,qah,qae,decide_eq_true_eq,decide_eq_false_iff_not,qam,qan,qab]
 unfold Fn.qE
 repeat' split
 all_goals first|rfl|(exfalso;omega)
theorem as1 (a v c h:Int):(runK (fH true) C2 40).1 24 [qv 9 a v c h] (aH []) (bP Tryz.prog)=some (mJ (Fn.qE 9 a v c h)):=by
 rw [aye];unfold Rf pU lW an7 YR
 simp only [kX,lS,jm,aG,qad,qaj,qah,qae,decide_eq_true_eq,decide_eq_false_iff_not,qam,qan,qab]
 unfold Fn.qE
 repeat' split
 all_goals first|rfl|(exfalso;omega)
theorem alW (a v c h:Int):(runK (fH true) C2 40).1 24 [qv 10 a v c h] (aH []) (bP Tryz.prog)=some (mJ (Fn.qE 10 a v c h)):=by
 rw [auk];unfold Rf pU lW an7 YR
 simp only [kX,lS,jm,aG,qad,qaj,qah,qae,decide_eq_true_eq,decide_eq_false_iff_not,qam,qan,qab]
 unfold Fn.qE
 repeat' split
 all_goals first|rfl|(exfalso;omega)
theorem ajo (k a v c h:Int):(runK (fH true) C2 40).1 24 [qv k a v c h] (aH []) (bP Tryz.prog)=some (mJ (Fn.qE k a v c h)):=by
 by_cases hk:k<1∨10<k
 ·have e:Fn.qE k a v c h=5:=by
   unfold Fn.qE
   repeat' split
   all_goals first|rfl|(exfalso;omega)
  rw [e]
  cases k with
  |negSucc m=>exact ano true m a v c h
  |ofNat n=>
   by_cases h0:n=0
   ·subst h0;exact aom true a v c h
   ·have hn:11≤n:=by simp only [qab] at hk;omega
    obtain ⟨m,rfl⟩:∃ m,n=qag m 11:=⟨n-11,by show n=n-11+11;omega⟩
    exact am1 true m a v c h
 ·have hc:k=1∨k=2∨k=3∨k=4∨k=5∨k=6∨k=7∨k=8∨k=9∨k=10:=by omega
  rcases hc with rfl|rfl|rfl|rfl|rfl|rfl|rfl|rfl|rfl|rfl
  ·exact as4 a v c h
  ·exact as9 a v c h
  ·exact arQ a v c h
  ·exact arP a v c h
  ·exact arD a v c h
  ·exact arl a v c h
  ·exact as3 a v c h
  ·exact arL a v c h
  ·exact as1 a v c h
  ·exact alW a v c h
theorem as2 (a v c h:Int):(runK (fH true) C2 40).1 29 [qv 1 a v c h] (aH []) (bP Tryz.prog)=some (mJ (Fn.qE 1 a v c h)):=by
 rw [ayv];unfold RD alB Z4 Qh pU lW jP
 simp only [kX,lS,jm,aG,qad,qaj,qah,qae,decide_eq_true_eq,decide_eq_false_iff_not,qam,qan,qab]
 unfold Fn.qE
 repeat' split
 all_goals first|rfl|(exfalso;omega)
theorem ar5 (a v c h:Int):(runK (fH true) C2 40).1 29 [qv 2 a v c h] (aH []) (bP Tryz.prog)=some (mJ (Fn.qE 2 a v c h)):=by
 rw [azB];unfold RD alB Z4 Qh pU lW jP
 simp only [kX,lS,jm,aG,qad,qaj,qah,qae,decide_eq_true_eq,decide_eq_false_iff_not,qam,qan,qab]
 unfold Fn.qE
 repeat' split
 all_goals first|rfl|(exfalso;omega)
theorem aq6 (a v c h:Int):(runK (fH true) C2 40).1 29 [qv 3 a v c h] (aH []) (bP Tryz.prog)=some (mJ (Fn.qE 3 a v c h)):=by
 rw [azv];unfold RD alB Z4 Qh pU lW jP
 simp only [kX,lS,jm,aG,qad,qaj,qah,qae,decide_eq_true_eq,decide_eq_false_iff_not,qam,qan,qab]
 unfold Fn.qE
 repeat' split
 all_goals first|rfl|(exfalso;omega)
theorem aqw (a v c h:Int):(runK (fH true) C2 40).1 29 [qv 4 a v c h] (aH []) (bP Tryz.prog)=some (mJ (Fn.qE 4 a v c h)):=by
 rw [ay0];unfold acO ajF Qh pU lW jP
 simp only [kX,lS,jm,aG,qad,qaj,qah,qae,decide_eq_true_eq,decide_eq_false_iff_not,qam,qan,qab]
 unfold Fn.qE
 repeat' split
 all_goals first|rfl|(exfalso;omega)
theorem aqz (a v c h:Int):(runK (fH true) C2 40).1 29 [qv 5 a v c h] (aH []) (bP Tryz.prog)=some (mJ (Fn.qE 5 a v c h)):=by
 rw [azj];unfold pU lW jP
 simp only [kX,lS,jm,aG,qad,qaj,qah,qae,decide_eq_true_eq,decide_eq_false_iff_not,qam,qan,qab]
 unfold Fn.qE
 repeat' split
 all_goals first|rfl|(exfalso;omega)
theorem arv (a v c h:Int):(runK (fH true) C2 40).1 29 [qv 6 a v c h] (aH []) (bP Tryz.prog)=some (mJ (Fn.qE 6 a v c h)):=by
 rw [ayI];unfold pU lW jP
 simp only [kX,lS,jm,aG,qad,qaj,qah,qae,decide_eq_true_eq,decide_eq_false_iff_not,qam,qan,qab]
 unfold Fn.qE
 repeat' split
 all_goals first|rfl|(exfalso;omega)
theorem arK (a v c h:Int):(runK (fH true) C2 40).1 29 [qv 7 a v c h] (aH []) (bP Tryz.prog)=some (mJ (Fn.qE 7 a v c h)):=by
 rw [ay6];unfold acO ajF Qh pU lW jP
 simp only [kX,lS,jm,aG,qad,qaj,qah,qae,decide_eq_true_eq,decide_eq_false_iff_not,qam,qan,qab]
 unfold Fn.qE
 repeat' split
 all_goals first|rfl|(exfalso;omega)
theorem asP (a v c h:Int):(runK (fH true) C2 40).1 29 [qv 8 a v c h] (aH []) (bP Tryz.prog)=some (mJ (Fn.qE 8 a v c h)):=by
 rw [azo];unfold Q7 Z4 Qh pU lW
 simp only [kX,lS,jm,aG,qad,qaj,qah,qae,decide_eq_true_eq,decide_eq_false_iff_not,qam,qan,qab]
 unfold Fn.qE
 repeat' split
 all_goals first|rfl|(exfalso;omega)
theorem aqb (a v c h:Int):(runK (fH true) C2 40).1 29 [qv 9 a v c h] (aH []) (bP Tryz.prog)=some (mJ (Fn.qE 9 a v c h)):=by
 rw [aAl];unfold Q7 Z4 Qh pU lW
 simp only [kX,lS,jm,aG,qad,qaj,qah,qae,decide_eq_true_eq,decide_eq_false_iff_not,qam,qan,qab]
 unfold Fn.qE
 repeat' split
 all_goals first|rfl|(exfalso;omega)
theorem alu (a v c h:Int):(runK (fH true) C2 40).1 29 [qv 10 a v c h] (aH []) (bP Tryz.prog)=some (mJ (Fn.qE 10 a v c h)):=by
 rw [axl];unfold Q7 Z4 Qh pU lW
 simp only [kX,lS,jm,aG,qad,qaj,qah,qae,decide_eq_true_eq,decide_eq_false_iff_not,qam,qan,qab]
 unfold Fn.qE
 repeat' split
 all_goals first|rfl|(exfalso;omega)
theorem aiU (k a v c h:Int):(runK (fH true) C2 40).1 29 [qv k a v c h] (aH []) (bP Tryz.prog)=some (mJ (Fn.qE k a v c h)):=by
 by_cases hk:k<1∨10<k
 ·have e:Fn.qE k a v c h=5:=by
   unfold Fn.qE
   repeat' split
   all_goals first|rfl|(exfalso;omega)
  rw [e]
  cases k with
  |negSucc m=>exact anZ true m a v c h
  |ofNat n=>
   by_cases h0:n=0
   ·subst h0;exact an9 true a v c h
   ·have hn:11≤n:=by simp only [qab] at hk;omega
    obtain ⟨m,rfl⟩:∃ m,n=qag m 11:=⟨n-11,by show n=n-11+11;omega⟩
    exact alA true m a v c h
 ·have hc:k=1∨k=2∨k=3∨k=4∨k=5∨k=6∨k=7∨k=8∨k=9∨k=10:=by omega
  rcases hc with rfl|rfl|rfl|rfl|rfl|rfl|rfl|rfl|rfl|rfl
  ·exact as2 a v c h
  ·exact ar5 a v c h
  ·exact aq6 a v c h
  ·exact aqw a v c h
  ·exact aqz a v c h
  ·exact arv a v c h
  ·exact arK a v c h
  ·exact asP a v c h
  ·exact aqb a v c h
  ·exact alu a v c h
def okG (l:List fK):Tree cO:=
 match l with
 |[.agg [.raw (.int .i64 k),.raw (.int .i64 a),.raw (.int .i64 v),.raw (.int .i64 c),.raw (.int .i64 h)]]=>bU (qal (Fn.qE k a v c h) 0) (.leaf (mJ 0))
 |_=>.fail
def noG (l:List fK):Tree cO:=
 match l with
 |[.agg [.raw (.int .i64 k),.raw (.int .i64 a),.raw (.int .i64 v),.raw (.int .i64 c),.raw (.int .i64 h)]]=>
  .test (qal (Fn.qE k a v c h) 2) (.leaf (mJ 2)) (.test (qal (Fn.qE k a v c h) 3) (.leaf (mJ 3)) (bU (qal (Fn.qE k a v c h) 5) (.leaf (mJ 5))))
 |_=>.fail
theorem VF {f:FuncId}(hf:∀ k a v c h:Int,(runK (fH true) C2 40).1 f [qv k a v c h] (aH []) (bP Tryz.prog)=some (mJ (Fn.qE k a v c h))):vF Tryz.prog C2 40 f okG:=by
 intro comps r kL hr
 clear kL
 unfold okG at hr
 split at hr
 ·rename_i k a v c h
  obtain ⟨hg,h2⟩:=aJ hr
  cases h2
  have he:Fn.qE k a v c h=0:=qac hg
  refine ⟨(fun p hp=>by cases hp),?_⟩
  exact bV (K:=fH true) (by decide) bF aT ((hf k a v c h).trans (by rw [he]))
 ·cases hr
theorem aj9 {f:FuncId}(hf:∀ k a v c h:Int,(runK (fH true) C2 40).1 f [qv k a v c h] (aH []) (bP Tryz.prog)=some (mJ (Fn.qE k a v c h))):vF Tryz.prog C2 40 f noG:=by
 intro comps r kL hr
 clear kL
 unfold noG at hr
 split at hr
 ·rename_i k a v c h
  have hr:sel (qal (Fn.qE k a v c h) 2) (some (mJ 2)) (sel (qal (Fn.qE k a v c h) 3) (some (mJ 3)) (bU (qal (Fn.qE k a v c h) 5) (.leaf (mJ 5))).run)=some r:=hr
  have key:r=mJ (Fn.qE k a v c h):=by
   cases h1:qal (Fn.qE k a v c h) 2 with
   |true=>rw [h1] at hr;cases hr;rw [qac h1]
   |false=>
    rw [h1,aP] at hr
    cases h2:qal (Fn.qE k a v c h) 3 with
    |true=>rw [h2] at hr;cases hr;rw [qac h2]
    |false=>
     rw [h2,aP] at hr
     obtain ⟨h3,h4⟩:=aJ hr
     cases h4
     rw [qac h3]
  subst key
  refine ⟨(fun p hp=>by cases hp),?_⟩
  exact bV (K:=fH true) (by decide) bF aT (hf k a v c h)
 ·cases hr
def azV (b:Bool):List (Nat × Con):=(24,.tree (vW Tryz.prog (Bool.rec noG okG b)))::(29,.tree (vW Tryz.prog (Bool.rec noG okG b)))::av3
def C3 (b:Bool):Cfg:={ CB with ext:=fQ [],insert:=fQ (azV b) }
variable [Lo]
theorem auL (b:Bool):eu Tryz.prog (C3 b) (azV b):=by
 cases b with
 |true=>exact eu.vW (fun lo=>@agn lo) (VF ajo).gives (eu.vW (fun lo=>@agn lo) (VF aiU).gives (eu.to adW rfl))
 |false=>exact eu.vW (fun lo=>@agn lo) (aj9 ajo).gives (eu.vW (fun lo=>@agn lo) (aj9 aiU).gives (eu.to adW rfl))
theorem aza (b:Bool):eX (C3 b) Tryz.prog:=Ba (ext:=fQ []) (ins:=fQ (azV b)) rfl (fun f t h=>auL b f t h) (fun f e h=>by cases h)
end
end Go.Ax
namespace Go.Ax
open Go Go.Proofs
noncomputable section
def Qc:Nat→Nat→List Value:=fun k=>Nat.rec (fun n=>[qb8 (n%256)]) (fun _ ih n=>qb8 (n%128+128)::ih (n/128)) k
theorem ahE (k n:Nat):Qc (k+1) n=qb8 (n%128+128)::Qc k (n/128):=rfl
theorem VU:∀ (k j n:Nat),k≤j→(k≠0→128 ^ k≤n)→n<128 ^ (k+1)→tZ j n=Qc k n
 |0,j,n,_,_,h=>by
  have h:n<128:=by simpa using h
  rw [yV h]
  show [qb8 n]=[qb8 (n%256)]
  rw [qat (by omega)]
 |k+1,j,n,hj,hlo,hhi=>by
  have hlo:=hlo (by omega)
  obtain ⟨i,rfl⟩:∃ i,j=i+1:=⟨j-1,by omega⟩
  have h1:128 ^ 1≤128 ^ (k+1):=qau (by omega) (by omega)
  have hq:n/128<128 ^ (k+1):=by
   rw [qaz] at hhi
   exact Nat.div_lt_of_lt_mul (by omega)
  rw [dI,if_pos (by omega),ahE,VU k i (n/128) (by omega) (fun _=>?_) hq]
  rw [qaz] at hlo
  exact (Nat.le_div_iff_mul_le (by omega)).2 hlo
theorem OQ:∀ k n,flatAll (Qc k n)=true
 |0,n=>rfl
 |k+1,n=>by
  show sel true (flatAll (Qc k (n/128))) false=true
  rw [aN];exact OQ k _
theorem adg:∀ k n,aQ (Qc k n)=k+1
 |0,n=>rfl
 |k+1,n=>by
  show qaf (aQ (Qc k (n/128)))=_
  rw [adg k]
def Ye (k n:Nat):cO:=⟨[.one (.sl 0 (qaf k))],[(Qc k n,5)]⟩
def gk (k:Nat)(l:List fK):Tree cO:=
 match l with
 |[.one (.raw (.int .u64 z))]=>Int.casesOn (motive:=fun _=>Tree cO) z (fun n=>.test (ltN n 128) (.leaf (Ye 0 n)) (bU (qao (qaM 128 k) n&&(ltN n (qaM 128 (qaf k))&&qao k 8)) (.leaf (Ye k n)))) (fun _=>.fail)
 |_=>.fail
theorem auq {k n:Nat}(h:tZ 9 n=Qc k n):yN n=Ye k n:=by
 unfold yN Ye
 have e:Fn.iQ n=Qc k n:=h
 rw [e,adg]
theorem apk {f:FuncId}(h:∀ n,n<18446744073709551616→(runK KQ CB 16).1 f [.int .u64 (qaa n)] (aH []) (bP Tryz.prog)=some (yN n))(k:Nat):vF Tryz.prog CB 16 f (gk k):=by
 intro comps r kL hr
 clear kL
 unfold gk at hr
 split at hr
 ·rename_i z
  cases z with
  |ofNat n=>
   have hr:sel (ltN n 128) (some (Ye 0 n)) (bU (qao (qaM 128 k) n&&(ltN n (qaM 128 (qaf k))&&qao k 8)) (Tree.leaf (Ye k n))).run=some r:=hr
   cases hb:ltN n 128 with
   |true=>
    rw [hb] at hr
    cases hr
    have hn:=bD hb
    refine ⟨(fun p hp=>?_),?_⟩
    ·obtain rfl:p=(Qc 0 n,5):=by simpa [Ye] using hp
     exact OQ 0 n
    ·have:=h n (by omega)
     rw [auq (VU 0 9 n (by omega) (fun h=>absurd rfl h) (by simpa using hn))] at this
     exact bV (K:=KQ) (by decide) bF aT this
   |false=>
    rw [hb,aP] at hr
    obtain ⟨hg,h2⟩:=aJ hr
    cases h2
    simp only [qad] at hg
    have g1:128 ^ k≤n:=qai hg.1
    have g2:n<128 ^ (k+1):=bD hg.2.1
    have g3:k≤8:=qai hg.2.2
    have g4:128 ^ (k+1)≤128 ^ 9:=qau (by omega) (by omega)
    have g5:(128:Nat) ^ 9<18446744073709551616:=by decide
    refine ⟨(fun p hp=>?_),?_⟩
    ·obtain rfl:p=(Qc k n,5):=by simpa [Ye] using hp
     exact OQ k n
    ·have:=h n (by omega)
     rw [auq (VU k 9 n (by omega) (fun _=>g1) g2)] at this
     exact bV (K:=KQ) (by decide) bF aT this
  |negSucc n=>cases hr
 ·cases hr
def azR (k:Nat):List (Nat × Con):=[(52,.tree (vW Tryz.prog (gk k))),(30,.tree (vW Tryz.prog (gk k))),(24,.tree (vW Tryz.prog okG)),(29,.tree (vW Tryz.prog okG))]
def C4 (k:Nat):Cfg:={ CB with ext:=fQ [],insert:=fQ (azR k) }
variable [Lo]
theorem auQ (k:Nat):eu Tryz.prog (C4 k) (azR k):=
 eu.vW (fun lo=>@pR lo) (apk ag7 k).gives (eu.vW (fun lo=>@pR lo) (apk ada k).gives (eu.vW (fun lo=>@agn lo) (VF ajo).gives (eu.vW (fun lo=>@agn lo) (VF aiU).gives eu.nil)))
theorem azc (k:Nat):eX (C4 k) Tryz.prog:=Ba (ext:=fQ []) (ins:=fQ (azR k)) rfl (fun f t h=>auQ k f t h) (fun f e h=>by cases h)
end
end Go.Ax
namespace Go.Ax
open Go Go.Proofs
noncomputable def adA (a:Nat):=(Fn.qE (qaa 1) (qaa a) (qaa 0) (qaa 0) (qaa 0)).beq 0
noncomputable def zx (a:Nat):=ltN (a.mod 18446744073709551616) 128
noncomputable def bJ:dZ:=.flat (.int .i64 0)
noncomputable def zD (a:Nat):=qaa ((a.mod 18446744073709551616).mod 256)
noncomputable def zn (a:Nat):=qao 128 (a.mod 18446744073709551616)&&(ltN (a.mod 18446744073709551616) 16384&&true)
noncomputable def zl (a:Nat):=qaa (((a.mod 18446744073709551616).mod 128).add 128)
noncomputable def zk (a:Nat):=qaa (((a.mod 18446744073709551616).div 128).mod 256)
noncomputable def adU (a:Nat):Option cO:=sel (zx a) (some { val:=[.one (.sl 0 2),.one bJ],rows:=[([.int .u8 (qaa 1),.int .u8 (zD a)],5)] }) (sel (zn a) (some { val:=[.one (.sl 0 3),.one bJ],rows:=[([.int .u8 (qaa 1),.int .u8 (zl a),.int .u8 (zk a)],5)] }) none)
noncomputable def Pn (a:Nat):Option cO:=sel (adA a) (adU a) none
theorem as8 (a:Nat):(runK (fH true) (C4 1) 40).1 6 [qv 1 (qaa a) 0 0 0] (aH []) (bP Tryz.prog)=Pn a:=by kernel_rfl
theorem amh (a:Nat):type_of% (by have h_:=as8 a;unfold Pn adU zk zl zn zD bJ zx adA at h_;exact h_):=as8 a
noncomputable def ad4 (a:Nat):=(Fn.qE (qaa 2) (qaa a) (qaa 0) (qaa 0) (qaa 0)).beq 0
noncomputable def aex (a:Nat):Option cO:=sel (zx a) (some { val:=[.one (.sl 0 2),.one bJ],rows:=[([.int .u8 (qaa 2),.int .u8 (zD a)],5)] }) (sel (zn a) (some { val:=[.one (.sl 0 3),.one bJ],rows:=[([.int .u8 (qaa 2),.int .u8 (zl a),.int .u8 (zk a)],5)] }) none)
noncomputable def Ot (a:Nat):Option cO:=sel (ad4 a) (aex a) none
theorem ap0 (a:Nat):(runK (fH true) (C4 1) 40).1 6 [qv 2 (qaa a) 0 0 0] (aH []) (bP Tryz.prog)=Ot a:=by kernel_rfl
theorem amj (a:Nat):type_of% (by have h_:=ap0 a;unfold Ot aex zk zl zn zD bJ zx ad4 at h_;exact h_):=ap0 a
noncomputable def Ub (a:Nat):=(Fn.qE (qaa 3) (qaa a) (qaa 0) (qaa 0) (qaa 0)).beq 0
noncomputable def V8 (a:Nat):Option cO:=sel (zx a) (some { val:=[.one (.sl 0 2),.one bJ],rows:=[([.int .u8 (qaa 3),.int .u8 (zD a)],5)] }) (sel (zn a) (some { val:=[.one (.sl 0 3),.one bJ],rows:=[([.int .u8 (qaa 3),.int .u8 (zl a),.int .u8 (zk a)],5)] }) none)
noncomputable def OM (a:Nat):Option cO:=sel (Ub a) (V8 a) none
theorem aqc (a:Nat):(runK (fH true) (C4 1) 40).1 6 [qv 3 (qaa a) 0 0 0] (aH []) (bP Tryz.prog)=OM a:=by kernel_rfl
theorem anR (a:Nat):type_of% (by have h_:=aqc a;unfold OM V8 zk zl zn zD bJ zx Ub at h_;exact h_):=aqc a
noncomputable def VX (v:Nat):=(Fn.qE (qaa 4) (qaa 0) (qaa v) (qaa 0) (qaa 0)).beq 0
noncomputable def dN (v:Nat):=ltN (v.mod 18446744073709551616) 128
noncomputable def dn (v:Nat):=qaa ((v.mod 18446744073709551616).mod 256)
noncomputable def kQ (v:Nat):=qao 128 (v.mod 18446744073709551616)&&(ltN (v.mod 18446744073709551616) 16384&&true)
noncomputable def bT (v:Nat):=qaa (((v.mod 18446744073709551616).mod 128).add 128)
noncomputable def fG (v:Nat):=(v.mod 18446744073709551616).div 128
noncomputable def jA (v:Nat):=qaa ((fG v).mod 256)
noncomputable def Vr (v:Nat):Option cO:=sel (dN v) (some { val:=[.one (.sl 0 2),.one bJ],rows:=[([.int .u8 (qaa 4),.int .u8 (dn v)],5)] }) (sel (kQ v) (some { val:=[.one (.sl 0 3),.one bJ],rows:=[([.int .u8 (qaa 4),.int .u8 (bT v),.int .u8 (jA v)],5)] }) none)
noncomputable def NY (v:Nat):Option cO:=sel (VX v) (Vr v) none
theorem arn (v:Nat):(runK (fH true) (C4 1) 40).1 6 [qv 4 0 (qaa v) 0 0] (aH []) (bP Tryz.prog)=NY v:=by kernel_rfl
theorem anw (v:Nat):type_of% (by have h_:=arn v;unfold NY Vr jA fG bT kQ dn bJ dN VX at h_;exact h_):=arn v
noncomputable def lq (h v:Nat):=(Fn.qE (qaa 5) (qaa 0) (qaa v) (qaa 0) (qaa h)).beq 0
noncomputable def dA (h:Nat):=ltN (h.mod 18446744073709551616) 128
noncomputable def dL (h:Nat):=qaa ((h.mod 18446744073709551616).mod 256)
noncomputable def lI (h v:Nat):Option cO:=some { val:=[.one (.sl 0 3),.one bJ],rows:=[([.int .u8 (qaa 5),.int .u8 (dn v),.int .u8 (dL h)],5)] }
noncomputable def oZ (h:Nat):=qao 128 (h.mod 18446744073709551616)&&(ltN (h.mod 18446744073709551616) 16384&&true)
noncomputable def dB (h:Nat):=qaa (((h.mod 18446744073709551616).mod 128).add 128)
noncomputable def iw (h:Nat):=(h.mod 18446744073709551616).div 128
noncomputable def oO (h:Nat):=qaa ((iw h).mod 256)
noncomputable def PD (h v:Nat):Option cO:=sel (dN v) (sel (dA h) (lI h v) (sel (oZ h) (some { val:=[.one (.sl 0 4),.one bJ],rows:=[([.int .u8 (qaa 5),.int .u8 (dn v),.int .u8 (dB h),.int .u8 (oO h)],5)] }) none)) (sel (kQ v) (sel (dA h) (some { val:=[.one (.sl 0 4),.one bJ],rows:=[([.int .u8 (qaa 5),.int .u8 (bT v),.int .u8 (jA v),.int .u8 (dL h)],5)] }) (sel (oZ h) (some { val:=[.one (.sl 0 5),.one bJ],rows:=[([.int .u8 (qaa 5),.int .u8 (bT v),.int .u8 (jA v),.int .u8 (dB h),.int .u8 (oO h)],5)] }) none)) none)
noncomputable def Iy (v h:Nat):Option cO:=sel (lq h v) (PD h v) none
theorem Uz (v h:Nat):(runK (fH true) (C4 1) 40).1 6 [qv 5 0 (qaa v) 0 (qaa h)] (aH []) (bP Tryz.prog)=Iy v h:=by kernel_rfl
theorem Qy (v h:Nat):type_of% (by have h_:=Uz v h;unfold Iy PD jA fG bT kQ oO iw dB oZ lI dL dn bJ dA dN lq at h_;exact h_):=Uz v h
noncomputable def sF (h:Nat):=qao 16384 (h.mod 18446744073709551616)&&(ltN (h.mod 18446744073709551616) 2097152&&true)
noncomputable def fD (h:Nat):=qaa (((iw h).mod 128).add 128)
noncomputable def jG (h:Nat):=(iw h).div 128
noncomputable def tq (h:Nat):=qaa ((jG h).mod 256)
noncomputable def Bl (v:Nat):=qao 16384 (v.mod 18446744073709551616)&&(ltN (v.mod 18446744073709551616) 2097152&&true)
noncomputable def eY (v:Nat):=qaa (((fG v).mod 128).add 128)
noncomputable def jM (v:Nat):=(fG v).div 128
noncomputable def sD (v:Nat):=qaa ((jM v).mod 256)
noncomputable def Uo (h v:Nat):Option cO:=sel (dN v) (sel (dA h) (lI h v) (sel (sF h) (some { val:=[.one (.sl 0 5),.one bJ],rows:=[([.int .u8 (qaa 5),.int .u8 (dn v),.int .u8 (dB h),.int .u8 (fD h),.int .u8 (tq h)],5)] }) none)) (sel (Bl v) (sel (dA h) (some { val:=[.one (.sl 0 5),.one bJ],rows:=[([.int .u8 (qaa 5),.int .u8 (bT v),.int .u8 (eY v),.int .u8 (sD v),.int .u8 (dL h)],5)] }) (sel (sF h) (some { val:=[.one (.sl 0 7),.one bJ],rows:=[([.int .u8 (qaa 5),.int .u8 (bT v),.int .u8 (eY v),.int .u8 (sD v),.int .u8 (dB h),.int .u8 (fD h),.int .u8 (tq h)],5)] }) none)) none)
noncomputable def ND (v h:Nat):Option cO:=sel (lq h v) (Uo h v) none
theorem aa5 (v h:Nat):(runK (fH true) (C4 2) 40).1 6 [qv 5 0 (qaa v) 0 (qaa h)] (aH []) (bP Tryz.prog)=ND v h:=by kernel_rfl
theorem agb (v h:Nat):type_of% (by have h_:=aa5 v h;unfold ND Uo sD jM eY fG bT Bl tq jG fD iw dB sF lI dL dn bJ dA dN lq at h_;exact h_):=aa5 v h
noncomputable def rZ (h:Nat):=qao 2097152 (h.mod 18446744073709551616)&&(ltN (h.mod 18446744073709551616) 268435456&&true)
noncomputable def jd (h:Nat):=qaa (((jG h).mod 128).add 128)
noncomputable def nM (h:Nat):=(jG h).div 128
noncomputable def sK (h:Nat):=qaa ((nM h).mod 256)
noncomputable def Ai (v:Nat):=qao 2097152 (v.mod 18446744073709551616)&&(ltN (v.mod 18446744073709551616) 268435456&&true)
noncomputable def jf (v:Nat):=qaa (((jM v).mod 128).add 128)
noncomputable def nD (v:Nat):=(jM v).div 128
noncomputable def sV (v:Nat):=qaa ((nD v).mod 256)
noncomputable def Uj (h v:Nat):Option cO:=sel (dN v) (sel (dA h) (lI h v) (sel (rZ h) (some { val:=[.one (.sl 0 6),.one bJ],rows:=[([.int .u8 (qaa 5),.int .u8 (dn v),.int .u8 (dB h),.int .u8 (fD h),.int .u8 (jd h),.int .u8 (sK h)],5)] }) none)) (sel (Ai v) (sel (dA h) (some { val:=[.one (.sl 0 6),.one bJ],rows:=[([.int .u8 (qaa 5),.int .u8 (bT v),.int .u8 (eY v),.int .u8 (jf v),.int .u8 (sV v),.int .u8 (dL h)],5)] }) (sel (rZ h) (some { val:=[.one (.sl 0 9),.one bJ],rows:=[([.int .u8 (qaa 5),.int .u8 (bT v),.int .u8 (eY v),.int .u8 (jf v),.int .u8 (sV v),.int .u8 (dB h),.int .u8 (fD h),.int .u8 (jd h),.int .u8 (sK h)],5)] }) none)) none)
noncomputable def OD (v h:Nat):Option cO:=sel (lq h v) (Uj h v) none
theorem abx (v h:Nat):(runK (fH true) (C4 3) 40).1 6 [qv 5 0 (qaa v) 0 (qaa h)] (aH []) (bP Tryz.prog)=OD v h:=by kernel_rfl
theorem aeF (v h:Nat):type_of% (by have h_:=abx v h;unfold OD Uj sV nD jf jM eY fG bT Ai sK nM jd jG fD iw dB rZ lI dL dn bJ dA dN lq at h_;exact h_):=abx v h
noncomputable def sU (h:Nat):=qao 268435456 (h.mod 18446744073709551616)&&(ltN (h.mod 18446744073709551616) 34359738368&&true)
noncomputable def sH (h:Nat):=qaa (((nM h).mod 128).add 128)
noncomputable def sQ (h:Nat):=qaa (((nM h).div 128).mod 256)
noncomputable def AB (v:Nat):=qao 268435456 (v.mod 18446744073709551616)&&(ltN (v.mod 18446744073709551616) 34359738368&&true)
noncomputable def sZ (v:Nat):=qaa (((nD v).mod 128).add 128)
noncomputable def sS (v:Nat):=qaa (((nD v).div 128).mod 256)
noncomputable def Ui (h v:Nat):Option cO:=sel (dN v) (sel (dA h) (lI h v) (sel (sU h) (some { val:=[.one (.sl 0 7),.one bJ],rows:=[([.int .u8 (qaa 5),.int .u8 (dn v),.int .u8 (dB h),.int .u8 (fD h),.int .u8 (jd h),.int .u8 (sH h),.int .u8 (sQ h)],5)] }) none)) (sel (AB v) (sel (dA h) (some { val:=[.one (.sl 0 7),.one bJ],rows:=[([.int .u8 (qaa 5),.int .u8 (bT v),.int .u8 (eY v),.int .u8 (jf v),.int .u8 (sZ v),.int .u8 (sS v),.int .u8 (dL h)],5)] }) (sel (sU h) (some { val:=[.one (.sl 0 11),.one bJ],rows:=[([.int .u8 (qaa 5),.int .u8 (bT v),.int .u8 (eY v),.int .u8 (jf v),.int .u8 (sZ v),.int .u8 (sS v),.int .u8 (dB h),.int .u8 (fD h),.int .u8 (jd h),.int .u8 (sH h),.int .u8 (sQ h)],5)] }) none)) none)
noncomputable def OA (v h:Nat):Option cO:=sel (lq h v) (Ui h v) none
theorem ab8 (v h:Nat):(runK (fH true) (C4 4) 40).1 6 [qv 5 0 (qaa v) 0 (qaa h)] (aH []) (bP Tryz.prog)=OA v h:=by kernel_rfl
theorem ae7 (v h:Nat):type_of% (by have h_:=ab8 v h;unfold OA Ui sS sZ nD jf jM eY fG bT AB sQ sH nM jd jG fD iw dB sU lI dL dn bJ dA dN lq at h_;exact h_):=ab8 v h
noncomputable def lu (c h v:Nat):=(Fn.qE (qaa 6) (qaa 0) (qaa v) (qaa c) (qaa h)).beq 0
noncomputable def jL (c:Nat):=ltN (c.mod 18446744073709551616) 128
noncomputable def iT (c:Nat):=qaa ((c.mod 18446744073709551616).mod 256)
noncomputable def lF (c h v:Nat):Option cO:=some { val:=[.one (.sl 0 4),.one bJ],rows:=[([.int .u8 (qaa 6),.int .u8 (dn v),.int .u8 (iT c),.int .u8 (dL h)],5)] }
noncomputable def Ho (c:Nat):=qao 128 (c.mod 18446744073709551616)&&(ltN (c.mod 18446744073709551616) 16384&&true)
noncomputable def iq (c:Nat):=qaa (((c.mod 18446744073709551616).mod 128).add 128)
noncomputable def lV (c:Nat):=(c.mod 18446744073709551616).div 128
noncomputable def zX (c:Nat):=qaa ((lV c).mod 256)
noncomputable def L8 (c h v:Nat):Option cO:=sel (dN v) (sel (jL c) (sel (dA h) (lF c h v) (sel (oZ h) (some { val:=[.one (.sl 0 5),.one bJ],rows:=[([.int .u8 (qaa 6),.int .u8 (dn v),.int .u8 (iT c),.int .u8 (dB h),.int .u8 (oO h)],5)] }) none)) (sel (Ho c) (sel (dA h) (some { val:=[.one (.sl 0 5),.one bJ],rows:=[([.int .u8 (qaa 6),.int .u8 (dn v),.int .u8 (iq c),.int .u8 (zX c),.int .u8 (dL h)],5)] }) (sel (oZ h) (some { val:=[.one (.sl 0 6),.one bJ],rows:=[([.int .u8 (qaa 6),.int .u8 (dn v),.int .u8 (iq c),.int .u8 (zX c),.int .u8 (dB h),.int .u8 (oO h)],5)] }) none)) none)) (sel (kQ v) (sel (jL c) (sel (dA h) (some { val:=[.one (.sl 0 5),.one bJ],rows:=[([.int .u8 (qaa 6),.int .u8 (bT v),.int .u8 (jA v),.int .u8 (iT c),.int .u8 (dL h)],5)] }) (sel (oZ h) (some { val:=[.one (.sl 0 6),.one bJ],rows:=[([.int .u8 (qaa 6),.int .u8 (bT v),.int .u8 (jA v),.int .u8 (iT c),.int .u8 (dB h),.int .u8 (oO h)],5)] }) none)) (sel (Ho c) (sel (dA h) (some { val:=[.one (.sl 0 6),.one bJ],rows:=[([.int .u8 (qaa 6),.int .u8 (bT v),.int .u8 (jA v),.int .u8 (iq c),.int .u8 (zX c),.int .u8 (dL h)],5)] }) (sel (oZ h) (some { val:=[.one (.sl 0 7),.one bJ],rows:=[([.int .u8 (qaa 6),.int .u8 (bT v),.int .u8 (jA v),.int .u8 (iq c),.int .u8 (zX c),.int .u8 (dB h),.int .u8 (oO h)],5)] }) none)) none)) none)
noncomputable def GK (v c h:Nat):Option cO:=sel (lu c h v) (L8 c h v) none
theorem VY (v c h:Nat):(runK (fH true) (C4 1) 40).1 6 [qv 6 0 (qaa v) (qaa c) (qaa h)] (aH []) (bP Tryz.prog)=GK v c h:=by kernel_rfl
theorem Si (v c h:Nat):type_of% (by have h_:=VY v c h;unfold GK L8 jA fG bT kQ zX lV iq Ho oO iw dB oZ lF dL iT dn bJ dA jL dN lu at h_;exact h_):=VY v c h
noncomputable def Ns (c:Nat):=qao 16384 (c.mod 18446744073709551616)&&(ltN (c.mod 18446744073709551616) 2097152&&true)
noncomputable def jJ (c:Nat):=qaa (((lV c).mod 128).add 128)
noncomputable def sO (c:Nat):=(lV c).div 128
noncomputable def D8 (c:Nat):=qaa ((sO c).mod 256)
noncomputable def U8 (c h v:Nat):Option cO:=sel (dN v) (sel (jL c) (sel (dA h) (lF c h v) (sel (sF h) (some { val:=[.one (.sl 0 6),.one bJ],rows:=[([.int .u8 (qaa 6),.int .u8 (dn v),.int .u8 (iT c),.int .u8 (dB h),.int .u8 (fD h),.int .u8 (tq h)],5)] }) none)) (sel (Ns c) (sel (dA h) (some { val:=[.one (.sl 0 6),.one bJ],rows:=[([.int .u8 (qaa 6),.int .u8 (dn v),.int .u8 (iq c),.int .u8 (jJ c),.int .u8 (D8 c),.int .u8 (dL h)],5)] }) (sel (sF h) (some { val:=[.one (.sl 0 8),.one bJ],rows:=[([.int .u8 (qaa 6),.int .u8 (dn v),.int .u8 (iq c),.int .u8 (jJ c),.int .u8 (D8 c),.int .u8 (dB h),.int .u8 (fD h),.int .u8 (tq h)],5)] }) none)) none)) (sel (Bl v) (sel (jL c) (sel (dA h) (some { val:=[.one (.sl 0 6),.one bJ],rows:=[([.int .u8 (qaa 6),.int .u8 (bT v),.int .u8 (eY v),.int .u8 (sD v),.int .u8 (iT c),.int .u8 (dL h)],5)] }) (sel (sF h) (some { val:=[.one (.sl 0 8),.one bJ],rows:=[([.int .u8 (qaa 6),.int .u8 (bT v),.int .u8 (eY v),.int .u8 (sD v),.int .u8 (iT c),.int .u8 (dB h),.int .u8 (fD h),.int .u8 (tq h)],5)] }) none)) (sel (Ns c) (sel (dA h) (some { val:=[.one (.sl 0 8),.one bJ],rows:=[([.int .u8 (qaa 6),.int .u8 (bT v),.int .u8 (eY v),.int .u8 (sD v),.int .u8 (iq c),.int .u8 (jJ c),.int .u8 (D8 c),.int .u8 (dL h)],5)] }) (sel (sF h) (some { val:=[.one (.sl 0 10),.one bJ],rows:=[([.int .u8 (qaa 6),.int .u8 (bT v),.int .u8 (eY v),.int .u8 (sD v),.int .u8 (iq c),.int .u8 (jJ c),.int .u8 (D8 c),.int .u8 (dB h),.int .u8 (fD h),.int .u8 (tq h)],5)] }) none)) none)) none)
noncomputable def PE (v c h:Nat):Option cO:=sel (lu c h v) (U8 c h v) none
theorem ab5 (v c h:Nat):(runK (fH true) (C4 2) 40).1 6 [qv 6 0 (qaa v) (qaa c) (qaa h)] (aH []) (bP Tryz.prog)=PE v c h:=by kernel_rfl
theorem af8 (v c h:Nat):type_of% (by have h_:=ab5 v c h;unfold PE U8 sD jM eY fG bT Bl D8 sO jJ lV iq Ns tq jG fD iw dB sF lF dL iT dn bJ dA jL dN lu at h_;exact h_):=ab5 v c h
noncomputable def PO (c:Nat):=qao 2097152 (c.mod 18446744073709551616)&&(ltN (c.mod 18446744073709551616) 268435456&&true)
noncomputable def oU (c:Nat):=qaa (((sO c).mod 128).add 128)
noncomputable def yY (c:Nat):=(sO c).div 128
noncomputable def En (c:Nat):=qaa ((yY c).mod 256)
noncomputable def VB (c h v:Nat):Option cO:=sel (dN v) (sel (jL c) (sel (dA h) (lF c h v) (sel (rZ h) (some { val:=[.one (.sl 0 7),.one bJ],rows:=[([.int .u8 (qaa 6),.int .u8 (dn v),.int .u8 (iT c),.int .u8 (dB h),.int .u8 (fD h),.int .u8 (jd h),.int .u8 (sK h)],5)] }) none)) (sel (PO c) (sel (dA h) (some { val:=[.one (.sl 0 7),.one bJ],rows:=[([.int .u8 (qaa 6),.int .u8 (dn v),.int .u8 (iq c),.int .u8 (jJ c),.int .u8 (oU c),.int .u8 (En c),.int .u8 (dL h)],5)] }) (sel (rZ h) (some { val:=[.one (.sl 0 10),.one bJ],rows:=[([.int .u8 (qaa 6),.int .u8 (dn v),.int .u8 (iq c),.int .u8 (jJ c),.int .u8 (oU c),.int .u8 (En c),.int .u8 (dB h),.int .u8 (fD h),.int .u8 (jd h),.int .u8 (sK h)],5)] }) none)) none)) (sel (Ai v) (sel (jL c) (sel (dA h) (some { val:=[.one (.sl 0 7),.one bJ],rows:=[([.int .u8 (qaa 6),.int .u8 (bT v),.int .u8 (eY v),.int .u8 (jf v),.int .u8 (sV v),.int .u8 (iT c),.int .u8 (dL h)],5)] }) (sel (rZ h) (some { val:=[.one (.sl 0 10),.one bJ],rows:=[([.int .u8 (qaa 6),.int .u8 (bT v),.int .u8 (eY v),.int .u8 (jf v),.int .u8 (sV v),.int .u8 (iT c),.int .u8 (dB h),.int .u8 (fD h),.int .u8 (jd h),.int .u8 (sK h)],5)] }) none)) (sel (PO c) (sel (dA h) (some { val:=[.one (.sl 0 10),.one bJ],rows:=[([.int .u8 (qaa 6),.int .u8 (bT v),.int .u8 (eY v),.int .u8 (jf v),.int .u8 (sV v),.int .u8 (iq c),.int .u8 (jJ c),.int .u8 (oU c),.int .u8 (En c),.int .u8 (dL h)],5)] }) (sel (rZ h) (some { val:=[.one (.sl 0 13),.one bJ],rows:=[([.int .u8 (qaa 6),.int .u8 (bT v),.int .u8 (eY v),.int .u8 (jf v),.int .u8 (sV v),.int .u8 (iq c),.int .u8 (jJ c),.int .u8 (oU c),.int .u8 (En c),.int .u8 (dB h),.int .u8 (fD h),.int .u8 (jd h),.int .u8 (sK h)],5)] }) none)) none)) none)
noncomputable def Fg (v c h:Nat):Option cO:=sel (lu c h v) (VB c h v) none
theorem abu (v c h:Nat):(runK (fH true) (C4 3) 40).1 6 [qv 6 0 (qaa v) (qaa c) (qaa h)] (aH []) (bP Tryz.prog)=Fg v c h:=by kernel_rfl
theorem aeX (v c h:Nat):type_of% (by have h_:=abu v c h;unfold Fg VB sV nD jf jM eY fG bT Ai En yY oU sO jJ lV iq PO sK nM jd jG fD iw dB rZ lF dL iT dn bJ dA jL dN lu at h_;exact h_):=abu v c h
noncomputable def O1 (c:Nat):=qao 268435456 (c.mod 18446744073709551616)&&(ltN (c.mod 18446744073709551616) 34359738368&&true)
noncomputable def Ep (c:Nat):=qaa (((yY c).mod 128).add 128)
noncomputable def D5 (c:Nat):=qaa (((yY c).div 128).mod 256)
noncomputable def U0 (c h v:Nat):Option cO:=sel (dN v) (sel (jL c) (sel (dA h) (lF c h v) (sel (sU h) (some { val:=[.one (.sl 0 8),.one bJ],rows:=[([.int .u8 (qaa 6),.int .u8 (dn v),.int .u8 (iT c),.int .u8 (dB h),.int .u8 (fD h),.int .u8 (jd h),.int .u8 (sH h),.int .u8 (sQ h)],5)] }) none)) (sel (O1 c) (sel (dA h) (some { val:=[.one (.sl 0 8),.one bJ],rows:=[([.int .u8 (qaa 6),.int .u8 (dn v),.int .u8 (iq c),.int .u8 (jJ c),.int .u8 (oU c),.int .u8 (Ep c),.int .u8 (D5 c),.int .u8 (dL h)],5)] }) (sel (sU h) (some { val:=[.one (.sl 0 12),.one bJ],rows:=[([.int .u8 (qaa 6),.int .u8 (dn v),.int .u8 (iq c),.int .u8 (jJ c),.int .u8 (oU c),.int .u8 (Ep c),.int .u8 (D5 c),.int .u8 (dB h),.int .u8 (fD h),.int .u8 (jd h),.int .u8 (sH h),.int .u8 (sQ h)],5)] }) none)) none)) (sel (AB v) (sel (jL c) (sel (dA h) (some { val:=[.one (.sl 0 8),.one bJ],rows:=[([.int .u8 (qaa 6),.int .u8 (bT v),.int .u8 (eY v),.int .u8 (jf v),.int .u8 (sZ v),.int .u8 (sS v),.int .u8 (iT c),.int .u8 (dL h)],5)] }) (sel (sU h) (some { val:=[.one (.sl 0 12),.one bJ],rows:=[([.int .u8 (qaa 6),.int .u8 (bT v),.int .u8 (eY v),.int .u8 (jf v),.int .u8 (sZ v),.int .u8 (sS v),.int .u8 (iT c),.int .u8 (dB h),.int .u8 (fD h),.int .u8 (jd h),.int .u8 (sH h),.int .u8 (sQ h)],5)] }) none)) (sel (O1 c) (sel (dA h) (some { val:=[.one (.sl 0 12),.one bJ],rows:=[([.int .u8 (qaa 6),.int .u8 (bT v),.int .u8 (eY v),.int .u8 (jf v),.int .u8 (sZ v),.int .u8 (sS v),.int .u8 (iq c),.int .u8 (jJ c),.int .u8 (oU c),.int .u8 (Ep c),.int .u8 (D5 c),.int .u8 (dL h)],5)] }) (sel (sU h) (some { val:=[.one (.sl 0 16),.one bJ],rows:=[([.int .u8 (qaa 6),.int .u8 (bT v),.int .u8 (eY v),.int .u8 (jf v),.int .u8 (sZ v),.int .u8 (sS v),.int .u8 (iq c),.int .u8 (jJ c),.int .u8 (oU c),.int .u8 (Ep c),.int .u8 (D5 c),.int .u8 (dB h),.int .u8 (fD h),.int .u8 (jd h),.int .u8 (sH h),.int .u8 (sQ h)],5)] }) none)) none)) none)
noncomputable def F9 (v c h:Nat):Option cO:=sel (lu c h v) (U0 c h v) none
theorem aaS (v c h:Nat):(runK (fH true) (C4 4) 40).1 6 [qv 6 0 (qaa v) (qaa c) (qaa h)] (aH []) (bP Tryz.prog)=F9 v c h:=by kernel_rfl
theorem afb (v c h:Nat):type_of% (by have h_:=aaS v c h;unfold F9 U0 sS sZ nD jf jM eY fG bT AB D5 Ep yY oU sO jJ lV iq O1 sQ sH nM jd jG fD iw dB sU lF dL iT dn bJ dA jL dN lu at h_;exact h_):=aaS v c h
noncomputable def Vg (v:Nat):=(Fn.qE (qaa 7) (qaa 0) (qaa v) (qaa 0) (qaa 0)).beq 0
noncomputable def Uk (v:Nat):Option cO:=sel (dN v) (some { val:=[.one (.sl 0 2),.one bJ],rows:=[([.int .u8 (qaa 7),.int .u8 (dn v)],5)] }) (sel (kQ v) (some { val:=[.one (.sl 0 3),.one bJ],rows:=[([.int .u8 (qaa 7),.int .u8 (bT v),.int .u8 (jA v)],5)] }) none)
noncomputable def Gs (v:Nat):Option cO:=sel (Vg v) (Uk v) none
theorem aqQ (v:Nat):(runK (fH true) (C4 1) 40).1 6 [qv 7 0 (qaa v) 0 0] (aH []) (bP Tryz.prog)=Gs v:=by kernel_rfl
theorem amq (v:Nat):type_of% (by have h_:=aqQ v;unfold Gs Uk jA fG bT kQ dn bJ dN Vg at h_;exact h_):=aqQ v
theorem aey (t:Bool):(runK (fH true) (C4 1) 40).1 6 [qv 8 0 0 0 0] (aH []) (bP Tryz.prog)=some { val:=[gq.one (dZ.sl 0 1),gq.one (dZ.flat (Value.int IntKind.i64 0))],rows:=[([Value.int IntKind.u8 (qaa 8)],5)] }:=by kernel_rfl
theorem aeD (t:Bool):(runK (fH true) (C4 1) 40).1 6 [qv 9 0 0 0 0] (aH []) (bP Tryz.prog)=some { val:=[gq.one (dZ.sl 0 1),gq.one (dZ.flat (Value.int IntKind.i64 0))],rows:=[([Value.int IntKind.u8 (qaa 9)],5)] }:=by kernel_rfl
theorem Yd (t:Bool):(runK (fH true) (C4 1) 40).1 6 [qv 10 0 0 0 0] (aH []) (bP Tryz.prog)=some { val:=[gq.one (dZ.sl 0 1),gq.one (dZ.flat (Value.int IntKind.i64 0))],rows:=[([Value.int IntKind.u8 (qaa 10)],5)] }:=by kernel_rfl
noncomputable def NT:dZ:=.flat (.slice none 0 0)
noncomputable def abj:Option cO:=some { val:=[.one NT,.one (.flat (.int .i64 (qaa 2)))],rows:=[] }
noncomputable def aaW (a c h k v:Int):Option cO:=sel ((Fn.qE k a v c h).beq 3) (some { val:=[.one NT,.one (.flat (.int .i64 (qaa 3)))],rows:=[] }) (sel ((Fn.qE k a v c h).beq 5) (some { val:=[.one NT,.one (.flat (.int .i64 (qaa 5)))],rows:=[] }) none)
noncomputable def LC (k a v c h:Int):Option cO:=sel ((Fn.qE k a v c h).beq 2) abj (aaW a c h k v)
theorem ayA (k a v c h:Int):(runK (fH true) (C3 false) 40).1 6 [qv k a v c h] (aH []) (bP Tryz.prog)=LC k a v c h:=by kernel_rfl
theorem awW (a:Nat):(runK (fH true) (C4 1) 40).1 7 [qv 1 (qaa a) 0 0 0] (aH []) (bP Tryz.prog)=Pn a:=by kernel_rfl
theorem amx (a:Nat):type_of% (by have h_:=awW a;unfold Pn adU zk zl zn zD bJ zx adA at h_;exact h_):=awW a
theorem auz (a:Nat):(runK (fH true) (C4 1) 40).1 7 [qv 2 (qaa a) 0 0 0] (aH []) (bP Tryz.prog)=Ot a:=by kernel_rfl
theorem amY (a:Nat):type_of% (by have h_:=auz a;unfold Ot aex zk zl zn zD bJ zx ad4 at h_;exact h_):=auz a
theorem au3 (a:Nat):(runK (fH true) (C4 1) 40).1 7 [qv 3 (qaa a) 0 0 0] (aH []) (bP Tryz.prog)=OM a:=by kernel_rfl
theorem amV (a:Nat):type_of% (by have h_:=au3 a;unfold OM V8 zk zl zn zD bJ zx Ub at h_;exact h_):=au3 a
theorem atM (v:Nat):(runK (fH true) (C4 1) 40).1 7 [qv 4 0 (qaa v) 0 0] (aH []) (bP Tryz.prog)=NY v:=by kernel_rfl
theorem aof (v:Nat):type_of% (by have h_:=atM v;unfold NY Vr jA fG bT kQ dn bJ dN VX at h_;exact h_):=atM v
theorem aiX (v h:Nat):(runK (fH true) (C4 1) 40).1 7 [qv 5 0 (qaa v) 0 (qaa h)] (aH []) (bP Tryz.prog)=Iy v h:=by kernel_rfl
theorem QW (v h:Nat):type_of% (by have h_:=aiX v h;unfold Iy PD jA fG bT kQ oO iw dB oZ lI dL dn bJ dA dN lq at h_;exact h_):=aiX v h
theorem aha (v h:Nat):(runK (fH true) (C4 2) 40).1 7 [qv 5 0 (qaa v) 0 (qaa h)] (aH []) (bP Tryz.prog)=ND v h:=by kernel_rfl
theorem ae5 (v h:Nat):type_of% (by have h_:=aha v h;unfold ND Uo sD jM eY fG bT Bl tq jG fD iw dB sF lI dL dn bJ dA dN lq at h_;exact h_):=aha v h
theorem ajg (v h:Nat):(runK (fH true) (C4 3) 40).1 7 [qv 5 0 (qaa v) 0 (qaa h)] (aH []) (bP Tryz.prog)=OD v h:=by kernel_rfl
theorem afo (v h:Nat):type_of% (by have h_:=ajg v h;unfold OD Uj sV nD jf jM eY fG bT Ai sK nM jd jG fD iw dB rZ lI dL dn bJ dA dN lq at h_;exact h_):=ajg v h
theorem aho (v h:Nat):(runK (fH true) (C4 4) 40).1 7 [qv 5 0 (qaa v) 0 (qaa h)] (aH []) (bP Tryz.prog)=OA v h:=by kernel_rfl
theorem ae8 (v h:Nat):type_of% (by have h_:=aho v h;unfold OA Ui sS sZ nD jf jM eY fG bT AB sQ sH nM jd jG fD iw dB sU lI dL dn bJ dA dN lq at h_;exact h_):=aho v h
theorem ah8 (v c h:Nat):(runK (fH true) (C4 1) 40).1 7 [qv 6 0 (qaa v) (qaa c) (qaa h)] (aH []) (bP Tryz.prog)=GK v c h:=by kernel_rfl
theorem QK (v c h:Nat):type_of% (by have h_:=ah8 v c h;unfold GK L8 jA fG bT kQ zX lV iq Ho oO iw dB oZ lF dL iT dn bJ dA jL dN lu at h_;exact h_):=ah8 v c h
theorem ajO (v c h:Nat):(runK (fH true) (C4 2) 40).1 7 [qv 6 0 (qaa v) (qaa c) (qaa h)] (aH []) (bP Tryz.prog)=PE v c h:=by kernel_rfl
theorem afK (v c h:Nat):type_of% (by have h_:=ajO v c h;unfold PE U8 sD jM eY fG bT Bl D8 sO jJ lV iq Ns tq jG fD iw dB sF lF dL iT dn bJ dA jL dN lu at h_;exact h_):=ajO v c h
theorem ajS (v c h:Nat):(runK (fH true) (C4 3) 40).1 7 [qv 6 0 (qaa v) (qaa c) (qaa h)] (aH []) (bP Tryz.prog)=Fg v c h:=by kernel_rfl
theorem agf (v c h:Nat):type_of% (by have h_:=ajS v c h;unfold Fg VB sV nD jf jM eY fG bT Ai En yY oU sO jJ lV iq PO sK nM jd jG fD iw dB rZ lF dL iT dn bJ dA jL dN lu at h_;exact h_):=ajS v c h
theorem ah0 (v c h:Nat):(runK (fH true) (C4 4) 40).1 7 [qv 6 0 (qaa v) (qaa c) (qaa h)] (aH []) (bP Tryz.prog)=F9 v c h:=by kernel_rfl
theorem afq (v c h:Nat):type_of% (by have h_:=ah0 v c h;unfold F9 U0 sS sZ nD jf jM eY fG bT AB D5 Ep yY oU sO jJ lV iq O1 sQ sH nM jd jG fD iw dB sU lF dL iT dn bJ dA jL dN lu at h_;exact h_):=ah0 v c h
theorem avw (v:Nat):(runK (fH true) (C4 1) 40).1 7 [qv 7 0 (qaa v) 0 0] (aH []) (bP Tryz.prog)=Gs v:=by kernel_rfl
theorem aoi (v:Nat):type_of% (by have h_:=avw v;unfold Gs Uk jA fG bT kQ dn bJ dN Vg at h_;exact h_):=avw v
theorem amo (t:Bool):(runK (fH true) (C4 1) 40).1 7 [qv 8 0 0 0 0] (aH []) (bP Tryz.prog)=some { val:=[gq.one (dZ.sl 0 1),gq.one (dZ.flat (Value.int IntKind.i64 0))],rows:=[([Value.int IntKind.u8 (qaa 8)],5)] }:=by kernel_rfl
theorem al5 (t:Bool):(runK (fH true) (C4 1) 40).1 7 [qv 9 0 0 0 0] (aH []) (bP Tryz.prog)=some { val:=[gq.one (dZ.sl 0 1),gq.one (dZ.flat (Value.int IntKind.i64 0))],rows:=[([Value.int IntKind.u8 (qaa 9)],5)] }:=by kernel_rfl
theorem agQ (t:Bool):(runK (fH true) (C4 1) 40).1 7 [qv 10 0 0 0 0] (aH []) (bP Tryz.prog)=some { val:=[gq.one (dZ.sl 0 1),gq.one (dZ.flat (Value.int IntKind.i64 0))],rows:=[([Value.int IntKind.u8 (qaa 10)],5)] }:=by kernel_rfl
theorem azQ (k a v c h:Int):(runK (fH true) (C3 false) 40).1 7 [qv k a v c h] (aH []) (bP Tryz.prog)=LC k a v c h:=by kernel_rfl
end Go.Ax
namespace Go.Ax
open Go Go.Proofs
noncomputable section
def zN (k a v c h:Int):cO:=⟨[.one (.sl 0 (aQ (Fn.qL k a v c h))),.one (.flat (.int .i64 0))],[(Fn.qL k a v c h,5)]⟩
def aep (e:Nat):cO:=⟨[.one (.flat (.slice none 0 0)),.one (.flat (.int .i64 (qaa e)))],[]⟩
theorem J5 (k n:Nat)(hk:k≤9)(h1:k≠0→128 ^ k≤n)(h2:n<128 ^ (k+1)):Fn.iQ n=Qc k n:=VU k 9 n hk h1 h2
theorem bH {n:Nat}(h:n<128):Fn.iQ n=[qb8 n]:=yV h
theorem DJ {a:Int}(h:0≤a):∃ n:Nat,a=qaa n:=⟨a.toNat,by simp only [qab];omega⟩
theorem oD {n:Nat}(h:n<18446744073709551616):qaK n 18446744073709551616=n:=qat h
theorem lN {n:Nat}(h:n<256):qaK n 256=n:=qat h
theorem oG {a b:Nat}(h:a<b):ltN a b=true:=qas h
theorem WQ {a b:Nat}(h:¬a<b):ltN a b=false:=by
 rw [←qav];exact fun e=>h (bD e)
theorem YQ {a b:Nat}(h:a≤b):qao a b=true:=qas h
theorem apA (a v c h:Int)(he:Fn.qE 1 a v c h=0):∃ w,(runK (fH true) (C4 w) 40).1 6 [qv 1 a v c h] (aH []) (bP Tryz.prog)=some (zN 1 a v c h)∧(runK (fH true) (C4 w) 40).1 7 [qv 1 a v c h] (aH []) (bP Tryz.prog)=(runK (fH true) (C4 w) 40).1 6 [qv 1 a v c h] (aH []) (bP Tryz.prog):=by
 have hf:0≤a∧a≤63∧v=0∧c=0∧h=0:=by
  unfold Fn.qE at he
  repeat' split at he
  all_goals omega
 obtain ⟨la,ua,rfl,rfl,rfl⟩:=hf
 obtain ⟨a,rfl⟩:=DJ (show 0≤a by omega)
 simp only [qab] at la ua
 have e1:qal (Fn.qE (qaa 1) (qaa a) (qaa 0) (qaa 0) (qaa 0)) 0=true:=by
  rw [show Fn.qE (qaa 1) (qaa a) (qaa 0) (qaa 0) (qaa 0)=0 from he]
  rfl
 refine ⟨1,?_,(amx a).trans (amh a).symm⟩
 rw [as8 a];unfold Pn adU zk zl zn zD bJ zx adA;rw [e1,aN,oD (show a<18446744073709551616 by omega)]
 rw [oG (show a<128 by omega),aN,lN (show a<256 by omega)]
 unfold zN
 have hq:Fn.qL 1 (qaa a) 0 0 0=qb8 1::(qb8 a::[]):=by
  show Fn.iQ 1++(Fn.iQ a++[])=_
  rw [bH (show 1<128 by omega),bH (show a<128 by omega)]
  rfl
 rw [hq]
 rfl
theorem aoE (a v c h:Int)(he:Fn.qE 2 a v c h=0):∃ w,(runK (fH true) (C4 w) 40).1 6 [qv 2 a v c h] (aH []) (bP Tryz.prog)=some (zN 2 a v c h)∧(runK (fH true) (C4 w) 40).1 7 [qv 2 a v c h] (aH []) (bP Tryz.prog)=(runK (fH true) (C4 w) 40).1 6 [qv 2 a v c h] (aH []) (bP Tryz.prog):=by
 have hf:0≤a∧a≤63∧v=0∧c=0∧h=0:=by
  unfold Fn.qE at he
  repeat' split at he
  all_goals omega
 obtain ⟨la,ua,rfl,rfl,rfl⟩:=hf
 obtain ⟨a,rfl⟩:=DJ (show 0≤a by omega)
 simp only [qab] at la ua
 have e1:qal (Fn.qE (qaa 2) (qaa a) (qaa 0) (qaa 0) (qaa 0)) 0=true:=by
  rw [show Fn.qE (qaa 2) (qaa a) (qaa 0) (qaa 0) (qaa 0)=0 from he]
  rfl
 refine ⟨1,?_,(amY a).trans (amj a).symm⟩
 rw [ap0 a];unfold Ot aex zk zl zn zD bJ zx ad4;rw [e1,aN,oD (show a<18446744073709551616 by omega)]
 rw [oG (show a<128 by omega),aN,lN (show a<256 by omega)]
 unfold zN
 have hq:Fn.qL 2 (qaa a) 0 0 0=qb8 2::(qb8 a::[]):=by
  show Fn.iQ 2++(Fn.iQ a++[])=_
  rw [bH (show 2<128 by omega),bH (show a<128 by omega)]
  rfl
 rw [hq]
 rfl
theorem aoI (a v c h:Int)(he:Fn.qE 3 a v c h=0):∃ w,(runK (fH true) (C4 w) 40).1 6 [qv 3 a v c h] (aH []) (bP Tryz.prog)=some (zN 3 a v c h)∧(runK (fH true) (C4 w) 40).1 7 [qv 3 a v c h] (aH []) (bP Tryz.prog)=(runK (fH true) (C4 w) 40).1 6 [qv 3 a v c h] (aH []) (bP Tryz.prog):=by
 have hf:0≤a∧a≤63∧v=0∧c=0∧h=0:=by
  unfold Fn.qE at he
  repeat' split at he
  all_goals omega
 obtain ⟨la,ua,rfl,rfl,rfl⟩:=hf
 obtain ⟨a,rfl⟩:=DJ (show 0≤a by omega)
 simp only [qab] at la ua
 have e1:qal (Fn.qE (qaa 3) (qaa a) (qaa 0) (qaa 0) (qaa 0)) 0=true:=by
  rw [show Fn.qE (qaa 3) (qaa a) (qaa 0) (qaa 0) (qaa 0)=0 from he]
  rfl
 refine ⟨1,?_,(amV a).trans (anR a).symm⟩
 rw [aqc a];unfold OM V8 zk zl zn zD bJ zx Ub;rw [e1,aN,oD (show a<18446744073709551616 by omega)]
 rw [oG (show a<128 by omega),aN,lN (show a<256 by omega)]
 unfold zN
 have hq:Fn.qL 3 (qaa a) 0 0 0=qb8 3::(qb8 a::[]):=by
  show Fn.iQ 3++(Fn.iQ a++[])=_
  rw [bH (show 3<128 by omega),bH (show a<128 by omega)]
  rfl
 rw [hq]
 rfl
theorem ao1 (a v c h:Int)(he:Fn.qE 4 a v c h=0):∃ w,(runK (fH true) (C4 w) 40).1 6 [qv 4 a v c h] (aH []) (bP Tryz.prog)=some (zN 4 a v c h)∧(runK (fH true) (C4 w) 40).1 7 [qv 4 a v c h] (aH []) (bP Tryz.prog)=(runK (fH true) (C4 w) 40).1 6 [qv 4 a v c h] (aH []) (bP Tryz.prog):=by
 have hf:0≤v∧v≤31∧a=0∧c=0∧h=0:=by
  unfold Fn.qE at he
  repeat' split at he
  all_goals omega
 obtain ⟨lv,uv,rfl,rfl,rfl⟩:=hf
 obtain ⟨v,rfl⟩:=DJ (show 0≤v by omega)
 simp only [qab] at lv uv
 have e1:qal (Fn.qE (qaa 4) (qaa 0) (qaa v) (qaa 0) (qaa 0)) 0=true:=by
  rw [show Fn.qE (qaa 4) (qaa 0) (qaa v) (qaa 0) (qaa 0)=0 from he]
  rfl
 refine ⟨1,?_,(aof v).trans (anw v).symm⟩
 rw [arn v];unfold NY Vr jA fG bT kQ dn bJ dN VX;rw [e1,aN,oD (show v<18446744073709551616 by omega)]
 rw [oG (show v<128 by omega),aN,lN (show v<256 by omega)]
 unfold zN
 have hq:Fn.qL 4 0 (qaa v) 0 0=qb8 4::(qb8 v::[]):=by
  show Fn.iQ 4++(Fn.iQ v++[])=_
  rw [bH (show 4<128 by omega),bH (show v<128 by omega)]
  rfl
 rw [hq]
 rfl
theorem aoT (a v c h:Int)(he:Fn.qE 5 a v c h=0):∃ w,(runK (fH true) (C4 w) 40).1 6 [qv 5 a v c h] (aH []) (bP Tryz.prog)=some (zN 5 a v c h)∧(runK (fH true) (C4 w) 40).1 7 [qv 5 a v c h] (aH []) (bP Tryz.prog)=(runK (fH true) (C4 w) 40).1 6 [qv 5 a v c h] (aH []) (bP Tryz.prog):=by
 have hf:0≤v∧v≤31∧1≤h∧h≤4294967296∧a=0∧c=0:=by
  unfold Fn.qE at he
  repeat' split at he
  all_goals omega
 obtain ⟨lv,uv,lh,uh,rfl,rfl⟩:=hf
 obtain ⟨v,rfl⟩:=DJ (show 0≤v by omega)
 obtain ⟨h,rfl⟩:=DJ (show 0≤h by omega)
 simp only [qab] at lv uv
 simp only [qab] at lh uh
 have e1:qal (Fn.qE (qaa 5) (qaa 0) (qaa v) (qaa 0) (qaa h)) 0=true:=by
  rw [show Fn.qE (qaa 5) (qaa 0) (qaa v) (qaa 0) (qaa h)=0 from he]
  rfl
 by_cases h1:h<128
 ·refine ⟨1,?_,(QW v h).trans (Qy v h).symm⟩
  rw [Uz v h];unfold Iy PD jA fG bT kQ oO iw dB oZ lI dL dn bJ dA dN lq;rw [e1,aN,oD (show v<18446744073709551616 by omega),oD (show h<18446744073709551616 by omega)]
  rw [oG (show v<128 by omega),aN,lN (show v<256 by omega)]
  rw [oG (show h<128 by omega),aN,lN (show h<256 by omega)]
  unfold zN
  have hq:Fn.qL 5 0 (qaa v) 0 (qaa h)=qb8 5::(qb8 v::(qb8 h::[])):=by
   show Fn.iQ 5++(Fn.iQ v++(Fn.iQ h++[]))=_
   rw [bH (show 5<128 by omega),bH (show v<128 by omega),bH (show h<128 by omega)]
   rfl
  rw [hq]
  rfl
 by_cases h2:h<16384
 ·refine ⟨1,?_,(QW v h).trans (Qy v h).symm⟩
  rw [Uz v h];unfold Iy PD jA fG bT kQ oO iw dB oZ lI dL dn bJ dA dN lq;rw [e1,aN,oD (show v<18446744073709551616 by omega),oD (show h<18446744073709551616 by omega)]
  rw [oG (show v<128 by omega),aN,lN (show v<256 by omega)]
  rw [WQ (show ¬h<128 by omega),aP,YQ (show 128≤h by omega),oG (show h<16384 by omega)]
  unfold zN
  have hq:Fn.qL 5 0 (qaa v) 0 (qaa h)=qb8 5::(qb8 v::(Qc 1 h++[])):=by
   show Fn.iQ 5++(Fn.iQ v++(Fn.iQ h++[]))=_
   rw [bH (show 5<128 by omega),bH (show v<128 by omega),J5 1 h (by omega) (fun _=>by show 128≤h;omega) (by show h<16384;omega)]
   rfl
  rw [hq]
  rfl
 by_cases h3:h<2097152
 ·refine ⟨2,?_,(ae5 v h).trans (agb v h).symm⟩
  rw [aa5 v h];unfold ND Uo sD jM eY fG bT Bl tq jG fD iw dB sF lI dL dn bJ dA dN lq;rw [e1,aN,oD (show v<18446744073709551616 by omega),oD (show h<18446744073709551616 by omega)]
  rw [oG (show v<128 by omega),aN,lN (show v<256 by omega)]
  rw [WQ (show ¬h<128 by omega),aP,YQ (show 16384≤h by omega),oG (show h<2097152 by omega)]
  unfold zN
  have hq:Fn.qL 5 0 (qaa v) 0 (qaa h)=qb8 5::(qb8 v::(Qc 2 h++[])):=by
   show Fn.iQ 5++(Fn.iQ v++(Fn.iQ h++[]))=_
   rw [bH (show 5<128 by omega),bH (show v<128 by omega),J5 2 h (by omega) (fun _=>by show 16384≤h;omega) (by show h<2097152;omega)]
   rfl
  rw [hq]
  rfl
 by_cases h4:h<268435456
 ·refine ⟨3,?_,(afo v h).trans (aeF v h).symm⟩
  rw [abx v h];unfold OD Uj sV nD jf jM eY fG bT Ai sK nM jd jG fD iw dB rZ lI dL dn bJ dA dN lq;rw [e1,aN,oD (show v<18446744073709551616 by omega),oD (show h<18446744073709551616 by omega)]
  rw [oG (show v<128 by omega),aN,lN (show v<256 by omega)]
  rw [WQ (show ¬h<128 by omega),aP,YQ (show 2097152≤h by omega),oG (show h<268435456 by omega)]
  unfold zN
  have hq:Fn.qL 5 0 (qaa v) 0 (qaa h)=qb8 5::(qb8 v::(Qc 3 h++[])):=by
   show Fn.iQ 5++(Fn.iQ v++(Fn.iQ h++[]))=_
   rw [bH (show 5<128 by omega),bH (show v<128 by omega),J5 3 h (by omega) (fun _=>by show 2097152≤h;omega) (by show h<268435456;omega)]
   rfl
  rw [hq]
  rfl
 refine ⟨4,?_,(ae8 v h).trans (ae7 v h).symm⟩
 rw [ab8 v h];unfold OA Ui sS sZ nD jf jM eY fG bT AB sQ sH nM jd jG fD iw dB sU lI dL dn bJ dA dN lq;rw [e1,aN,oD (show v<18446744073709551616 by omega),oD (show h<18446744073709551616 by omega)]
 rw [oG (show v<128 by omega),aN,lN (show v<256 by omega)]
 rw [WQ (show ¬h<128 by omega),aP,YQ (show 268435456≤h by omega),oG (show h<34359738368 by omega)]
 unfold zN
 have hq:Fn.qL 5 0 (qaa v) 0 (qaa h)=qb8 5::(qb8 v::(Qc 4 h++[])):=by
  show Fn.iQ 5++(Fn.iQ v++(Fn.iQ h++[]))=_
  rw [bH (show 5<128 by omega),bH (show v<128 by omega),J5 4 h (by omega) (fun _=>by show 268435456≤h;omega) (by show h<34359738368;omega)]
  rfl
 rw [hq]
 rfl
theorem ao7 (a v c h:Int)(he:Fn.qE 6 a v c h=0):∃ w,(runK (fH true) (C4 w) 40).1 6 [qv 6 a v c h] (aH []) (bP Tryz.prog)=some (zN 6 a v c h)∧(runK (fH true) (C4 w) 40).1 7 [qv 6 a v c h] (aH []) (bP Tryz.prog)=(runK (fH true) (C4 w) 40).1 6 [qv 6 a v c h] (aH []) (bP Tryz.prog):=by
 have hf:0≤v∧v≤31∧1≤c∧c≤2∧1≤h∧h≤4294967296∧a=0:=by
  unfold Fn.qE at he
  repeat' split at he
  all_goals omega
 obtain ⟨lv,uv,lc,uc,lh,uh,rfl⟩:=hf
 obtain ⟨v,rfl⟩:=DJ (show 0≤v by omega)
 obtain ⟨c,rfl⟩:=DJ (show 0≤c by omega)
 obtain ⟨h,rfl⟩:=DJ (show 0≤h by omega)
 simp only [qab] at lv uv
 simp only [qab] at lc uc
 simp only [qab] at lh uh
 have e1:qal (Fn.qE (qaa 6) (qaa 0) (qaa v) (qaa c) (qaa h)) 0=true:=by
  rw [show Fn.qE (qaa 6) (qaa 0) (qaa v) (qaa c) (qaa h)=0 from he]
  rfl
 by_cases h1:h<128
 ·refine ⟨1,?_,(QK v c h).trans (Si v c h).symm⟩
  rw [VY v c h];unfold GK L8 jA fG bT kQ zX lV iq Ho oO iw dB oZ lF dL iT dn bJ dA jL dN lu;rw [e1,aN,oD (show v<18446744073709551616 by omega),oD (show c<18446744073709551616 by omega),oD (show h<18446744073709551616 by omega)]
  rw [oG (show v<128 by omega),aN,lN (show v<256 by omega)]
  rw [oG (show c<128 by omega),aN,lN (show c<256 by omega)]
  rw [oG (show h<128 by omega),aN,lN (show h<256 by omega)]
  unfold zN
  have hq:Fn.qL 6 0 (qaa v) (qaa c) (qaa h)=qb8 6::(qb8 v::(qb8 c::(qb8 h::[]))):=by
   show Fn.iQ 6++(Fn.iQ v++(Fn.iQ c++(Fn.iQ h++[])))=_
   rw [bH (show 6<128 by omega),bH (show v<128 by omega),bH (show c<128 by omega),bH (show h<128 by omega)]
   rfl
  rw [hq]
  rfl
 by_cases h2:h<16384
 ·refine ⟨1,?_,(QK v c h).trans (Si v c h).symm⟩
  rw [VY v c h];unfold GK L8 jA fG bT kQ zX lV iq Ho oO iw dB oZ lF dL iT dn bJ dA jL dN lu;rw [e1,aN,oD (show v<18446744073709551616 by omega),oD (show c<18446744073709551616 by omega),oD (show h<18446744073709551616 by omega)]
  rw [oG (show v<128 by omega),aN,lN (show v<256 by omega)]
  rw [oG (show c<128 by omega),aN,lN (show c<256 by omega)]
  rw [WQ (show ¬h<128 by omega),aP,YQ (show 128≤h by omega),oG (show h<16384 by omega)]
  unfold zN
  have hq:Fn.qL 6 0 (qaa v) (qaa c) (qaa h)=qb8 6::(qb8 v::(qb8 c::(Qc 1 h++[]))):=by
   show Fn.iQ 6++(Fn.iQ v++(Fn.iQ c++(Fn.iQ h++[])))=_
   rw [bH (show 6<128 by omega),bH (show v<128 by omega),bH (show c<128 by omega),J5 1 h (by omega) (fun _=>by show 128≤h;omega) (by show h<16384;omega)]
   rfl
  rw [hq]
  rfl
 by_cases h3:h<2097152
 ·refine ⟨2,?_,(afK v c h).trans (af8 v c h).symm⟩
  rw [ab5 v c h];unfold PE U8 sD jM eY fG bT Bl D8 sO jJ lV iq Ns tq jG fD iw dB sF lF dL iT dn bJ dA jL dN lu;rw [e1,aN,oD (show v<18446744073709551616 by omega),oD (show c<18446744073709551616 by omega),oD (show h<18446744073709551616 by omega)]
  rw [oG (show v<128 by omega),aN,lN (show v<256 by omega)]
  rw [oG (show c<128 by omega),aN,lN (show c<256 by omega)]
  rw [WQ (show ¬h<128 by omega),aP,YQ (show 16384≤h by omega),oG (show h<2097152 by omega)]
  unfold zN
  have hq:Fn.qL 6 0 (qaa v) (qaa c) (qaa h)=qb8 6::(qb8 v::(qb8 c::(Qc 2 h++[]))):=by
   show Fn.iQ 6++(Fn.iQ v++(Fn.iQ c++(Fn.iQ h++[])))=_
   rw [bH (show 6<128 by omega),bH (show v<128 by omega),bH (show c<128 by omega),J5 2 h (by omega) (fun _=>by show 16384≤h;omega) (by show h<2097152;omega)]
   rfl
  rw [hq]
  rfl
 by_cases h4:h<268435456
 ·refine ⟨3,?_,(agf v c h).trans (aeX v c h).symm⟩
  rw [abu v c h];unfold Fg VB sV nD jf jM eY fG bT Ai En yY oU sO jJ lV iq PO sK nM jd jG fD iw dB rZ lF dL iT dn bJ dA jL dN lu;rw [e1,aN,oD (show v<18446744073709551616 by omega),oD (show c<18446744073709551616 by omega),oD (show h<18446744073709551616 by omega)]
  rw [oG (show v<128 by omega),aN,lN (show v<256 by omega)]
  rw [oG (show c<128 by omega),aN,lN (show c<256 by omega)]
  rw [WQ (show ¬h<128 by omega),aP,YQ (show 2097152≤h by omega),oG (show h<268435456 by omega)]
  unfold zN
  have hq:Fn.qL 6 0 (qaa v) (qaa c) (qaa h)=qb8 6::(qb8 v::(qb8 c::(Qc 3 h++[]))):=by
   show Fn.iQ 6++(Fn.iQ v++(Fn.iQ c++(Fn.iQ h++[])))=_
   rw [bH (show 6<128 by omega),bH (show v<128 by omega),bH (show c<128 by omega),J5 3 h (by omega) (fun _=>by show 2097152≤h;omega) (by show h<268435456;omega)]
   rfl
  rw [hq]
  rfl
 refine ⟨4,?_,(afq v c h).trans (afb v c h).symm⟩
 rw [aaS v c h];unfold F9 U0 sS sZ nD jf jM eY fG bT AB D5 Ep yY oU sO jJ lV iq O1 sQ sH nM jd jG fD iw dB sU lF dL iT dn bJ dA jL dN lu;rw [e1,aN,oD (show v<18446744073709551616 by omega),oD (show c<18446744073709551616 by omega),oD (show h<18446744073709551616 by omega)]
 rw [oG (show v<128 by omega),aN,lN (show v<256 by omega)]
 rw [oG (show c<128 by omega),aN,lN (show c<256 by omega)]
 rw [WQ (show ¬h<128 by omega),aP,YQ (show 268435456≤h by omega),oG (show h<34359738368 by omega)]
 unfold zN
 have hq:Fn.qL 6 0 (qaa v) (qaa c) (qaa h)=qb8 6::(qb8 v::(qb8 c::(Qc 4 h++[]))):=by
  show Fn.iQ 6++(Fn.iQ v++(Fn.iQ c++(Fn.iQ h++[])))=_
  rw [bH (show 6<128 by omega),bH (show v<128 by omega),bH (show c<128 by omega),J5 4 h (by omega) (fun _=>by show 268435456≤h;omega) (by show h<34359738368;omega)]
  rfl
 rw [hq]
 rfl
theorem aoG (a v c h:Int)(he:Fn.qE 7 a v c h=0):∃ w,(runK (fH true) (C4 w) 40).1 6 [qv 7 a v c h] (aH []) (bP Tryz.prog)=some (zN 7 a v c h)∧(runK (fH true) (C4 w) 40).1 7 [qv 7 a v c h] (aH []) (bP Tryz.prog)=(runK (fH true) (C4 w) 40).1 6 [qv 7 a v c h] (aH []) (bP Tryz.prog):=by
 have hf:0≤v∧v≤31∧a=0∧c=0∧h=0:=by
  unfold Fn.qE at he
  repeat' split at he
  all_goals omega
 obtain ⟨lv,uv,rfl,rfl,rfl⟩:=hf
 obtain ⟨v,rfl⟩:=DJ (show 0≤v by omega)
 simp only [qab] at lv uv
 have e1:qal (Fn.qE (qaa 7) (qaa 0) (qaa v) (qaa 0) (qaa 0)) 0=true:=by
  rw [show Fn.qE (qaa 7) (qaa 0) (qaa v) (qaa 0) (qaa 0)=0 from he]
  rfl
 refine ⟨1,?_,(aoi v).trans (amq v).symm⟩
 rw [aqQ v];unfold Gs Uk jA fG bT kQ dn bJ dN Vg;rw [e1,aN,oD (show v<18446744073709551616 by omega)]
 rw [oG (show v<128 by omega),aN,lN (show v<256 by omega)]
 unfold zN
 have hq:Fn.qL 7 0 (qaa v) 0 0=qb8 7::(qb8 v::[]):=by
  show Fn.iQ 7++(Fn.iQ v++[])=_
  rw [bH (show 7<128 by omega),bH (show v<128 by omega)]
  rfl
 rw [hq]
 rfl
theorem apS (a v c h:Int)(he:Fn.qE 8 a v c h=0):∃ w,(runK (fH true) (C4 w) 40).1 6 [qv 8 a v c h] (aH []) (bP Tryz.prog)=some (zN 8 a v c h)∧(runK (fH true) (C4 w) 40).1 7 [qv 8 a v c h] (aH []) (bP Tryz.prog)=(runK (fH true) (C4 w) 40).1 6 [qv 8 a v c h] (aH []) (bP Tryz.prog):=by
 have hf:a=0∧v=0∧c=0∧h=0:=by
  unfold Fn.qE at he
  repeat' split at he
  all_goals omega
 obtain ⟨rfl,rfl,rfl,rfl⟩:=hf
 have e1:qal (Fn.qE (qaa 8) (qaa 0) (qaa 0) (qaa 0) (qaa 0)) 0=true:=by
  rw [show Fn.qE (qaa 8) (qaa 0) (qaa 0) (qaa 0) (qaa 0)=0 from he]
  rfl
 refine ⟨1,?_,(amo true).trans (aey true).symm⟩
 rw [aey true]
 unfold zN
 have hq:Fn.qL 8 0 0 0 0=qb8 8::[]:=by
  show Fn.iQ 8++[]=_
  rw [bH (show 8<128 by omega)]
  rfl
 rw [hq]
 rfl
theorem apI (a v c h:Int)(he:Fn.qE 9 a v c h=0):∃ w,(runK (fH true) (C4 w) 40).1 6 [qv 9 a v c h] (aH []) (bP Tryz.prog)=some (zN 9 a v c h)∧(runK (fH true) (C4 w) 40).1 7 [qv 9 a v c h] (aH []) (bP Tryz.prog)=(runK (fH true) (C4 w) 40).1 6 [qv 9 a v c h] (aH []) (bP Tryz.prog):=by
 have hf:a=0∧v=0∧c=0∧h=0:=by
  unfold Fn.qE at he
  repeat' split at he
  all_goals omega
 obtain ⟨rfl,rfl,rfl,rfl⟩:=hf
 have e1:qal (Fn.qE (qaa 9) (qaa 0) (qaa 0) (qaa 0) (qaa 0)) 0=true:=by
  rw [show Fn.qE (qaa 9) (qaa 0) (qaa 0) (qaa 0) (qaa 0)=0 from he]
  rfl
 refine ⟨1,?_,(al5 true).trans (aeD true).symm⟩
 rw [aeD true]
 unfold zN
 have hq:Fn.qL 9 0 0 0 0=qb8 9::[]:=by
  show Fn.iQ 9++[]=_
  rw [bH (show 9<128 by omega)]
  rfl
 rw [hq]
 rfl
theorem ahh (a v c h:Int)(he:Fn.qE 10 a v c h=0):∃ w,(runK (fH true) (C4 w) 40).1 6 [qv 10 a v c h] (aH []) (bP Tryz.prog)=some (zN 10 a v c h)∧(runK (fH true) (C4 w) 40).1 7 [qv 10 a v c h] (aH []) (bP Tryz.prog)=(runK (fH true) (C4 w) 40).1 6 [qv 10 a v c h] (aH []) (bP Tryz.prog):=by
 have hf:a=0∧v=0∧c=0∧h=0:=by
  unfold Fn.qE at he
  repeat' split at he
  all_goals omega
 obtain ⟨rfl,rfl,rfl,rfl⟩:=hf
 have e1:qal (Fn.qE (qaa 10) (qaa 0) (qaa 0) (qaa 0) (qaa 0)) 0=true:=by
  rw [show Fn.qE (qaa 10) (qaa 0) (qaa 0) (qaa 0) (qaa 0)=0 from he]
  rfl
 refine ⟨1,?_,(agQ true).trans (Yd true).symm⟩
 rw [Yd true]
 unfold zN
 have hq:Fn.qL 10 0 0 0 0=qb8 10::[]:=by
  show Fn.iQ 10++[]=_
  rw [bH (show 10<128 by omega)]
  rfl
 rw [hq]
 rfl
theorem ay7 (k a v c h:Int)(he:Fn.qE k a v c h=0):∃ w,(runK (fH true) (C4 w) 40).1 6 [qv k a v c h] (aH []) (bP Tryz.prog)=some (zN k a v c h):=by
 have hc:k=1∨k=2∨k=3∨k=4∨k=5∨k=6∨k=7∨k=8∨k=9∨k=10:=by
  unfold Fn.qE at he
  repeat' split at he
  all_goals omega
 rcases hc with rfl|rfl|rfl|rfl|rfl|rfl|rfl|rfl|rfl|rfl
 ·obtain ⟨w,h1,h2⟩:=apA a v c h he;exact ⟨w,h1⟩
 ·obtain ⟨w,h1,h2⟩:=aoE a v c h he;exact ⟨w,h1⟩
 ·obtain ⟨w,h1,h2⟩:=aoI a v c h he;exact ⟨w,h1⟩
 ·obtain ⟨w,h1,h2⟩:=ao1 a v c h he;exact ⟨w,h1⟩
 ·obtain ⟨w,h1,h2⟩:=aoT a v c h he;exact ⟨w,h1⟩
 ·obtain ⟨w,h1,h2⟩:=ao7 a v c h he;exact ⟨w,h1⟩
 ·obtain ⟨w,h1,h2⟩:=aoG a v c h he;exact ⟨w,h1⟩
 ·obtain ⟨w,h1,h2⟩:=apS a v c h he;exact ⟨w,h1⟩
 ·obtain ⟨w,h1,h2⟩:=apI a v c h he;exact ⟨w,h1⟩
 ·obtain ⟨w,h1,h2⟩:=ahh a v c h he;exact ⟨w,h1⟩
theorem ayN (k a v c h:Int)(he:Fn.qE k a v c h≠0):(runK (fH true) (C3 false) 40).1 6 [qv k a v c h] (aH []) (bP Tryz.prog)=some (aep (Fn.qE k a v c h)):=by
 rw [ayA];unfold LC aaW abj NT
 rcases La k a v c h with e|e|e|e
 ·exact absurd e he
 ·rw [e];rfl
 ·rw [e];rfl
 ·rw [e];rfl
theorem ax9 (k a v c h:Int)(he:Fn.qE k a v c h=0):∃ w,(runK (fH true) (C4 w) 40).1 7 [qv k a v c h] (aH []) (bP Tryz.prog)=some (zN k a v c h):=by
 have hc:k=1∨k=2∨k=3∨k=4∨k=5∨k=6∨k=7∨k=8∨k=9∨k=10:=by
  unfold Fn.qE at he
  repeat' split at he
  all_goals omega
 rcases hc with rfl|rfl|rfl|rfl|rfl|rfl|rfl|rfl|rfl|rfl
 ·obtain ⟨w,h1,h2⟩:=apA a v c h he;exact ⟨w,h2.trans h1⟩
 ·obtain ⟨w,h1,h2⟩:=aoE a v c h he;exact ⟨w,h2.trans h1⟩
 ·obtain ⟨w,h1,h2⟩:=aoI a v c h he;exact ⟨w,h2.trans h1⟩
 ·obtain ⟨w,h1,h2⟩:=ao1 a v c h he;exact ⟨w,h2.trans h1⟩
 ·obtain ⟨w,h1,h2⟩:=aoT a v c h he;exact ⟨w,h2.trans h1⟩
 ·obtain ⟨w,h1,h2⟩:=ao7 a v c h he;exact ⟨w,h2.trans h1⟩
 ·obtain ⟨w,h1,h2⟩:=aoG a v c h he;exact ⟨w,h2.trans h1⟩
 ·obtain ⟨w,h1,h2⟩:=apS a v c h he;exact ⟨w,h2.trans h1⟩
 ·obtain ⟨w,h1,h2⟩:=apI a v c h he;exact ⟨w,h2.trans h1⟩
 ·obtain ⟨w,h1,h2⟩:=ahh a v c h he;exact ⟨w,h2.trans h1⟩
theorem ay9 (k a v c h:Int)(he:Fn.qE k a v c h≠0):(runK (fH true) (C3 false) 40).1 7 [qv k a v c h] (aH []) (bP Tryz.prog)=some (aep (Fn.qE k a v c h)):=by
 rw [azQ];unfold LC aaW abj NT
 rcases La k a v c h with e|e|e|e
 ·exact absurd e he
 ·rw [e];rfl
 ·rw [e];rfl
 ·rw [e];rfl
theorem jD:∀ {l:List Value},allB l=true→flatAll l=true
 |[],_=>rfl
 |v::l,h=>by
  obtain ⟨h1,h2⟩:=dG (show sel (isB v) (allB l) false=true from h)
  obtain ⟨x,rfl,_⟩:=acR h1
  show sel true (flatAll l) false=true
  rw [aN]
  exact jD h2
def akZ (l:List fK):Tree cO:=
 match l with
 |[.agg [.raw (.int .i64 k),.raw (.int .i64 a),.raw (.int .i64 v),.raw (.int .i64 c),.raw (.int .i64 h)]]=>bU (qal (Fn.qE k a v c h) 0) (.leaf (zN k a v c h))
 |_=>.fail
def ak3 (l:List fK):Tree cO:=
 match l with
 |[.agg [.raw (.int .i64 k),.raw (.int .i64 a),.raw (.int .i64 v),.raw (.int .i64 c),.raw (.int .i64 h)]]=>
  .test (qal (Fn.qE k a v c h) 2) (.leaf (aep 2)) (.test (qal (Fn.qE k a v c h) 3) (.leaf (aep 3)) (bU (qal (Fn.qE k a v c h) 5) (.leaf (aep 5))))
 |_=>.fail
theorem ajM (k a v c h:Int):flatAll (Fn.qL k a v c h)=true:=jD (nX _)
theorem aau {f:FuncId}(hf:∀ k a v c h:Int,Fn.qE k a v c h=0→∃ w,(runK (fH true) (C4 w) 40).1 f [qv k a v c h] (aH []) (bP Tryz.prog)=some (zN k a v c h)):TA Tryz.prog f akZ:=by
 intro comps r kL hr
 clear kL
 unfold akZ at hr
 split at hr
 ·rename_i k a v c h
  obtain ⟨hg,h2⟩:=aJ hr
  cases h2
  obtain ⟨w,hw⟩:=hf k a v c h (qac hg)
  refine ⟨C4 w,40,fun lo=>@azc lo w,fun p hp=>?_,bV (K:=fH true) (by decide) bF aT hw⟩
  obtain rfl:p=(Fn.qL k a v c h,5):=by simpa [zN] using hp
  exact ajM k a v c h
 ·cases hr
theorem abf {f:FuncId}(hf:∀ k a v c h:Int,Fn.qE k a v c h≠0→(runK (fH true) (C3 false) 40).1 f [qv k a v c h] (aH []) (bP Tryz.prog)=some (aep (Fn.qE k a v c h))):TA Tryz.prog f ak3:=by
 intro comps r kL hr
 clear kL
 unfold ak3 at hr
 split at hr
 ·rename_i k a v c h
  have hr:sel (qal (Fn.qE k a v c h) 2) (some (aep 2)) (sel (qal (Fn.qE k a v c h) 3) (some (aep 3)) (bU (qal (Fn.qE k a v c h) 5) (.leaf (aep 5))).run)=some r:=hr
  have key:Fn.qE k a v c h≠0∧r=aep (Fn.qE k a v c h):=by
   rcases La k a v c h with e|e|e|e
   ·rw [e] at hr;cases hr
   ·rw [e] at hr ⊢;cases hr;exact ⟨by omega,rfl⟩
   ·rw [e] at hr ⊢;cases hr;exact ⟨by omega,rfl⟩
   ·rw [e] at hr ⊢;cases hr;exact ⟨by omega,rfl⟩
  obtain ⟨h1,rfl⟩:=key
  exact ⟨C3 false,40,fun lo=>@aza lo false,(fun p hp=>by cases hp),bV (K:=fH true) (by decide) bF aT (hf k a v c h h1)⟩
 ·cases hr
namespace Fn
def nV (cs:List Value)(a:Nat):Nat:=(mX cs a cs.length 10 0).1
def nK (cs:List Value)(a:Nat):Nat:=(mX cs a cs.length 10 0).2.1
def nE (cs:List Value)(a:Nat):Nat:=(mX cs a cs.length 10 0).2.2
end Fn
theorem ajH (cs:List Value)(a:Nat):Fn.nE cs a=0∨(Fn.nE cs a=5∧Fn.nV cs a=0∧Fn.nK cs a=0)∨(Fn.nE cs a=6∧Fn.nV cs a=0∧Fn.nK cs a=0):=by
 unfold Fn.nE Fn.nV Fn.nK
 rcases IU cs a cs.length 10 0 with h|h|h
 ·exact .inl h
 ·rw [h];exact .inr (.inl ⟨rfl,rfl,rfl⟩)
 ·rw [h];exact .inr (.inr ⟨rfl,rfl,rfl⟩)
def axZ (cs:List Value)(a:Nat):Tree cO:=.test (qal (Fn.nE cs a) 0) (.leaf (yZ (Fn.nV cs a) (qag a (Fn.nK cs a)) 0 0)) (.test (qal (Fn.nE cs a) 5) (.leaf (yZ 0 0 5 a)) (.leaf (yZ 0 0 6 a)))
def ay3 (l:List fK):Tree cO:=
 match l with
 |[.one (.sl cs e n),.one (.raw (.int .i64 z))]=>Int.casesOn (motive:=fun _=>Tree cO) z (fun a=>bU (qal e 5&&(gI cs&&(qao a n&&qao n 4611686018427387904))) (axZ cs a)) (fun _=>.fail)
 |[.one (.raw (.slice _ n _)),.one (.raw (.int .i64 z))]=>Int.casesOn (motive:=fun _=>Tree cO) z (fun a=>bU (qal n 0&&qal a 0) (.leaf (yZ 0 0 6 0))) (fun _=>.fail)
 |_=>.fail
theorem adN (cs:List Value)(a:Nat):some (akS a (mX cs a cs.length 10 0))=(axZ cs a).run:=by
 have e:akS a (mX cs a cs.length 10 0)=if Fn.nE cs a=0 then yZ (Fn.nV cs a) (a+Fn.nK cs a) 0 0 else yZ 0 0 (Fn.nE cs a) a:=rfl
 show _=sel (qal (Fn.nE cs a) 0) (some (yZ (Fn.nV cs a) (qag a (Fn.nK cs a)) 0 0)) (sel (qal (Fn.nE cs a) 5) (some (yZ 0 0 5 a)) (some (yZ 0 0 6 a)))
 rw [e]
 rcases ajH cs a with h|⟨h,_⟩|⟨h,_⟩
 ·rw [h];rfl
 ·rw [h];rfl
 ·rw [h];rfl
theorem get_nil (c:Nat):(runK (fH true) C1 16).1 78 [.slice none 0 c,.int .i64 (qaa 0)] (aH []) (bP Tryz.prog)=some (yZ 0 0 6 0):=by kernel_rfl
theorem alH:(runK (fH true) C1 16).1 78 [bY,.int .i64 (qaa 0)] (aH []) (bP Tryz.prog)=some (yZ 0 0 6 0):=by kernel_rfl
theorem aqR:vF Tryz.prog C1 16 78 ay3:=by
 intro comps r kL hr
 unfold ay3 at hr
 split at hr
 ·rename_i cs e n z
  cases z with
  |negSucc a=>cases hr
  |ofNat a=>
   obtain ⟨hg,h2⟩:=aJ (show (bU (qal e 5&&(gI cs&&(qao a n&&qao n 4611686018427387904))) (axZ cs a)).run=some r from hr)
   simp only [qad] at hg
   obtain ⟨g1,g2,g3,g4⟩:=hg
   have he:e=5:=qac g1
   subst he
   have hf:jw.fine Tryz.prog (.sl cs 5 n):=kL (.one (.sl cs 5 n)) qaw
   obtain ⟨_,sz,h3,_,h5⟩:=hf
   have hsz:sz=1:=by
    have:size Tryz.prog 5=some 1:=by kernel_rfl
    rw [this] at h3;cases h3;rfl
   subst hsz
   have hn:n=cs.length:=by omega
   have key:=alS n a cs hn g2 (qai g3) (qai g4)
   have key2:acZ cs a n 10 0=some r:=by
    rw [←h2,←adN,hn]
    rfl
   refine ⟨?_,bV (K:=fH true) (by decide) bF aT (key.trans key2)⟩
   have h6:some (akS a (mX cs a cs.length 10 0))=some r:=(adN cs a).trans h2
   cases h6
   unfold akS
   intro p hp
   split at hp <;> cases hp
 ·rename_i a n c z
  cases z with
  |negSucc a=>cases hr
  |ofNat x=>
   obtain ⟨hg,h2⟩:=aJ (show (bU (qal n 0&&qal x 0) (.leaf (yZ 0 0 6 0))).run=some r from hr)
   simp only [qad] at hg
   cases h2
   have hn:n=0:=qac hg.1
   have hx:x=0:=qac hg.2
   subst hn hx
   have hf:o7 (.slice a 0 c)=true:=kL (.one (.raw (.slice a 0 c))) qaw
   refine ⟨(fun p hp=>by cases hp),?_⟩
   cases a with
   |none=>exact bV (K:=fH true) (by decide) bF aT (get_nil c)
   |some a=>
    obtain ⟨b,o,sp⟩:=a
    have hf:(sp.isNone&&(qal b fP&&(qal o 0&&(qal 0 0&&qal c aC))))=true:=hf
    simp only [qad] at hf
    obtain ⟨f1,f2,f3,_,f5⟩:=hf
    have f2:=qac f2
    have f3:=qac f3
    have f5:=qac f5
    subst f2 f3 f5
    cases sp with
    |some x=>cases f1
    |none=>exact bV (K:=fH true) (by decide) bF aT alH
 ·cases hr
def axE:List (Nat × Con):=(78,.tree (vW Tryz.prog ay3))::av3
def C5:Cfg:={ CB with ext:=fQ [],insert:=fQ axE }
variable [Lo]
theorem apa:eu Tryz.prog C5 axE:=eu.vW (fun lo=>@auc lo) aqR.gives (eu.to adW rfl)
theorem asK:eX C5 Tryz.prog:=Ba (ext:=fQ []) (ins:=fQ axE) rfl (fun f t h=>apa f t h) (fun f e h=>by cases h)
end
end Go.Ax
namespace Go.Ax
open Go Go.Proofs
noncomputable section
def KM:KP:={ L:=12,B:=some true }
def pRd:bM:={ N:=64,need:=[],low:=[],keep:=[],new:=[⟨.var 0 0,false,true⟩,⟨.row 0 0,true,false⟩] }
def pRf:bM:={ N:=64,need:=[],low:=[],keep:=[],new:=[⟨.var 0 0,false,true⟩,⟨.row 0 0,true,false⟩,⟨.row 0 3,false,true⟩] }
def eRd:bM:={ N:=66,need:=[],low:=[],keep:=[(64,false,true),(65,true,false)],new:=[] }
def eRn:bM:={ N:=66,need:=[],low:=[],keep:=[(64,false,true),(65,true,false)],new:=[⟨.old 64 3,false,true⟩] }
def eRf:bM:={ N:=67,need:=[],low:=[],keep:=[(64,false,true),(65,true,false),(66,false,true)],new:=[] }
def mRd:wO:={ pre:=pRd,ends:=[eRn,eRd] }
def mRf:wO:={ pre:=pRf,ends:=[eRf] }
def mRr:wO:={ pre:=pRd,ends:=[eRd] }
abbrev tRd:TypeId:=153
abbrev tFa:TypeId:=38
abbrev tRr:TypeId:=108
abbrev tB:TypeId:=5
def og (X:List Value)(n to:Nat):List (Nat × Row):=[(64,.row [.slice (some ⟨65,0,none⟩) n aC,.int .i64 (qaa to),.bool true,.pointer none] tRd 0),(65,.row X tB 65)]
def pY (X:List Value)(n to:Nat)(e a:Int):List (Nat × Row):=[(64,.row [.slice (some ⟨65,0,none⟩) n aC,.int .i64 (qaa to),.bool true,.pointer (some ⟨66,0,none⟩)] tRd 0),(65,.row X tB 65),(66,.row [.int .i64 e,.int .i64 a] tFa 0)]
def kK (X:List Value)(n to:Nat)(e a:Int):List (Nat × Row):=[(64,.row [.slice (some ⟨65,0,none⟩) n aC,.int .i64 (qaa to),.int .i64 e,.int .i64 a] tRr 0),(65,.row X tB 65)]
def iH:Value:=.pointer (some ⟨64,0,none⟩)
def iN (n:Nat):Value:=.int .i64 (qaa n)
def adF (n to:Nat):=to.ble n&&n.ble 18446744073709551616&&true
def acT (X:List Value)(n to:Nat):=true&&(false||qao 9223372036854775808 (qaC 18446744073709551616 to))&&(qag 0 (n.mul 1)).ble (aQ X)
def adf (X:List Value)(n to:Nat):=false||ltN to n||ltN (qag 0 (to.mul 1)) (aQ X)||to.beq 0
def ad6 (to:Nat):=(qaC 18446744073709551616 (qaC 18446744073709551616 to)).mul 1
def adG (X:List Value)(n to:Nat):=true&&(qal 0 (ad6 to)&&(qao 9223372036854775808 (qaC 18446744073709551616 to)&&true)&&(((n.sub to).mul 1).beq (aQ X)&&flatAll X))
def XM (hi:Nat):=qaa (hi.mod 18446744073709551616)
def aj2 (X:List Value):=qao 9223372036854775808 (Fn.aiw X)
def uV (n to:Nat):Nat × Row:=(64,.row [.slice (some ⟨65,0,none⟩) n 18446744073709551616,.int .i64 (qaa to),.bool true,.pointer (some ⟨66,0,none⟩)] 153 0)
def Ze (X:List Value)(n to:Nat):Option (Nat × bg):=some (0,{ vals:=[.int .i64 0],rows:=[(uV n to),(65,.row X 5 65),(66,.row [.int .i64 3,.int .i64 (qaa to)] 38 0)] })
def ajP (X:List Value)(n to:Nat):Option (Nat × bg):=sel (aj2 X) (Ze X n to) (Ze X n to)
def Om (lo:Nat):=qaa (lo.mod 18446744073709551616)
def Pq (X:List Value)(to:Nat):=(to.add (Fn.aql X)).ble 9223372036854775807
def OY (X:List Value)(n to:Nat):Nat × Row:=(64,.row [.slice (some ⟨65,0,none⟩) n 18446744073709551616,.int .i64 (qaa (to.add (Fn.aql X))),.bool true,.pointer none] 153 0)
def acf (X:List Value)(n to:Nat):Option (Nat × bg):=sel (aj2 X) (sel (Pq X to) (some (1,{ vals:=[.int .i64 (wrap .i64 (qaa (Fn.aiw X)))],rows:=[(OY X n to),(65,.row X 5 65)] })) none) (sel (Pq X to) (some (1,{ vals:=[.int .i64 (qaa (Fn.aiw X))],rows:=[(OY X n to),(65,.row X 5 65)] })) none)
def U6 (to:Nat):Nat × Row:=(66,.row [.int .i64 (qaa 5),.int .i64 (qaa to)] 38 0)
def aaJ (X:List Value)(n to:Nat):Option (Nat × bg):=some (0,{ vals:=[.int .i64 0],rows:=[(uV n to),(65,.row X 5 65),(U6 to)] })
def SL (to:Nat):Nat × Row:=(66,.row [.int .i64 (qaa 6),.int .i64 (qaa to)] 38 0)
def Ua (X:List Value)(n to:Nat):Option (Nat × bg):=some (0,{ vals:=[.int .i64 0],rows:=[(uV n to),(65,.row X 5 65),(SL to)] })
def Vy (X:List Value)(n to:Nat):=true&&((qag 0 (to.mul 1)).beq (ad6 to)&&(qao 9223372036854775808 (qaC 18446744073709551616 to)&&(qag 0 (to.mul 1)).ble (aQ X))&&(((n.sub to).mul 1).beq (aQ (eH (qag 0 (to.mul 1)) X))&&flatAll (eH (qag 0 (to.mul 1)) X)))
def TG (X:List Value)(to:Nat):=true&&gI (eH (qag 0 (to.mul 1)) X)
def Vu (X:List Value)(to:Nat):=Fn.alh (eH (qag 0 (to.mul 1)) X)
def Tn (X:List Value)(to:Nat):=(Vu X to).beq 0
def SN (X:List Value)(to:Nat):=Fn.aiw (eH (qag 0 (to.mul 1)) X)
def Ec (X:List Value)(to:Nat):=qaa (SN X to)
def aa4 (X:List Value)(to:Nat):=qao 9223372036854775808 (SN X to)
def ab2 (X:List Value)(n to:Nat):Option (Nat × bg):=sel (aa4 X to) (Ze X n to) (Ze X n to)
def Tt (X:List Value)(to:Nat):=to.add (Fn.aql (eH (qag 0 (to.mul 1)) X))
def NZ (X:List Value)(to:Nat):=(Tt X to).ble 9223372036854775807
def Ox (X:List Value)(n to:Nat):Nat × Row:=(64,.row [.slice (some ⟨65,0,none⟩) n 18446744073709551616,.int .i64 (qaa (Tt X to)),.bool true,.pointer none] 153 0)
def abV (X:List Value)(n to:Nat):Option (Nat × bg):=sel (aa4 X to) (sel (NZ X to) (some (1,{ vals:=[.int .i64 (wrap .i64 (Ec X to))],rows:=[(Ox X n to),(65,.row X 5 65)] })) none) (sel (NZ X to) (some (1,{ vals:=[.int .i64 (Ec X to)],rows:=[(Ox X n to),(65,.row X 5 65)] })) none)
def TN (X:List Value)(to:Nat):=(Vu X to).beq 5
theorem auC (X:List Value)(n to lo hi:Nat):(runK KM C5 30).1 39 [iH,iN lo,iN hi] (lQ mRd.pre.next ⟨[iH,iN lo,iN hi],og X n to⟩) (fun r=>(dU Tryz.prog mRd.ends 0 r).vS some)=sel (adF n to) (sel (acT X n to) (sel (adf X n to) (sel (qal 18446744073709551616 to) (sel (adG X n to) (sel (true&&gI X) (sel ((Fn.alh X).beq 0) (sel (ltI (XM hi) (qaa (Fn.aiw X))) (ajP X n to) (sel (ltI 0 (qaa lo)) (sel (ltI (qaa (Fn.aiw X)) (Om lo)) (ajP X n to) (acf X n to)) (acf X n to))) (sel ((Fn.alh X).beq 5) (aaJ X n to) (Ua X n to))) none) none) (sel (Vy X n to) (sel (TG X to) (sel (Tn X to) (sel (ltI (XM hi) (Ec X to)) (ab2 X n to) (sel (ltI 0 (qaa lo)) (sel (ltI (Ec X to) (Om lo)) (ab2 X n to) (abV X n to)) (abV X n to))) (sel (TN X to) (aaJ X n to) (Ua X n to))) none) none)) (Ua X n to)) none) none:=by kernel_rfl
def Bv (a e:Int):Nat × Row:=(66,.row [.int .i64 e,.int .i64 a] 38 0)
theorem apj (X:List Value)(n to lo hi:Nat)(e a:Int):(runK KM C5 30).1 39 [iH,iN lo,iN hi] (lQ mRf.pre.next ⟨[iH,iN lo,iN hi],pY X n to e a⟩) (fun r=>(dU Tryz.prog mRf.ends 0 r).vS some)=some (0,{ vals:=[.int .i64 0],rows:=[(uV n to),(65,.row X 5 65),(Bv a e)] }):=by kernel_rfl
theorem akQ (X:List Value)(n to lo hi:Nat)(e a:Int):type_of% (by have h_:=apj X n to lo hi e a;unfold Bv uV at h_;exact h_):=apj X n to lo hi e a
def aby (X:List Value)(n to:Nat):Option (Nat × bg):=some (0,{ vals:=[.int .u64 0],rows:=[(uV n to),(65,.row X 5 65),(U6 to)] })
def VQ (X:List Value)(n to:Nat):Option (Nat × bg):=some (0,{ vals:=[.int .u64 0],rows:=[(uV n to),(65,.row X 5 65),(SL to)] })
theorem avA (X:List Value)(n to:Nat):(runK KM C5 30).1 44 [iH] (lQ mRd.pre.next ⟨[iH],og X n to⟩) (fun r=>(dU Tryz.prog mRd.ends 0 r).vS some)=sel (adF n to) (sel (acT X n to) (sel (adf X n to) (sel (qal 18446744073709551616 to) (sel (adG X n to) (sel (true&&gI X) (sel ((Fn.alh X).beq 0) (sel (Pq X to) (some (1,{ vals:=[.int .u64 (qaa (Fn.aiw X))],rows:=[(OY X n to),(65,.row X 5 65)] })) none) (sel ((Fn.alh X).beq 5) (aby X n to) (VQ X n to))) none) none) (sel (Vy X n to) (sel (TG X to) (sel (Tn X to) (sel (NZ X to) (some (1,{ vals:=[.int .u64 (Ec X to)],rows:=[(Ox X n to),(65,.row X 5 65)] })) none) (sel (TN X to) (aby X n to) (VQ X n to))) none) none)) (VQ X n to)) none) none:=by kernel_rfl
theorem apm (X:List Value)(n to:Nat)(e a:Int):(runK KM C5 30).1 44 [iH] (lQ mRf.pre.next ⟨[iH],pY X n to e a⟩) (fun r=>(dU Tryz.prog mRf.ends 0 r).vS some)=some (0,{ vals:=[.int .u64 0],rows:=[(uV n to),(65,.row X 5 65),(Bv a e)] }):=by kernel_rfl
theorem ahB (X:List Value)(n to:Nat)(e a:Int):type_of% (by have h_:=apm X n to e a;unfold Bv uV at h_;exact h_):=apm X n to e a
def TW (n to:Nat):=ltI (qaa to) (qaa n)
def Ik (n to:Nat):Nat × Row:=(64,.row [.slice (some ⟨65,0,none⟩) n 18446744073709551616,.int .i64 (qaa to),.bool true,.pointer none] 153 0)
theorem apv (X:List Value)(n to:Nat):(runK KM C5 30).1 40 [iH] (lQ mRd.pre.next ⟨[iH],og X n to⟩) (fun r=>(dU Tryz.prog mRd.ends 0 r).vS some)=sel (TW n to) (some (1,{ vals:=[.agg { toList:=[.int .i64 4,.int .i64 (qaa to)] }],rows:=[(Ik n to),(65,.row X 5 65)] })) (some (1,{ vals:=[.agg { toList:=[.int .i64 0,.int .i64 0] }],rows:=[(Ik n to),(65,.row X 5 65)] })):=by kernel_rfl
theorem ajA (X:List Value)(n to:Nat):type_of% (by have h_:=apv X n to;unfold Ik TW at h_;exact h_):=apv X n to
theorem apn (X:List Value)(n to:Nat)(e a:Int):(runK KM C5 30).1 40 [iH] (lQ mRf.pre.next ⟨[iH],pY X n to e a⟩) (fun r=>(dU Tryz.prog mRf.ends 0 r).vS some)=some (0,{ vals:=[.agg { toList:=[.int .i64 e,.int .i64 a] }],rows:=[(uV n to),(65,.row X 5 65),(Bv a e)] }):=by kernel_rfl
theorem ajk (X:List Value)(n to:Nat)(e a:Int):type_of% (by have h_:=apn X n to e a;unfold Bv uV at h_;exact h_):=apn X n to e a
theorem apU (X:List Value)(n to:Nat):(runK KM C5 30).1 45 [iH] (lQ mRd.pre.next ⟨[iH],og X n to⟩) (fun r=>(dU Tryz.prog mRd.ends 0 r).vS some)=sel (to.ble n) (sel ((n.sub to).ble 9223372036854775807) (some (1,{ vals:=[.int .i64 (qaa (n.sub to))],rows:=[(Ik n to),(65,.row X 5 65)] })) none) (sel ((to.sub n).ble 9223372036854775808) (some (1,{ vals:=[.int .i64 (qaH ((to.sub n).sub 1))],rows:=[(Ik n to),(65,.row X 5 65)] })) none):=by kernel_rfl
theorem ai8 (X:List Value)(n to:Nat):type_of% (by have h_:=apU X n to;unfold Ik at h_;exact h_):=apU X n to
theorem aoH (X:List Value)(n to:Nat)(e a:Int):(runK KM C5 30).1 45 [iH] (lQ mRf.pre.next ⟨[iH],pY X n to e a⟩) (fun r=>(dU Tryz.prog mRf.ends 0 r).vS some)=some (0,{ vals:=[.int .i64 0],rows:=[(uV n to),(65,.row X 5 65),(Bv a e)] }):=by kernel_rfl
theorem ag8 (X:List Value)(n to:Nat)(e a:Int):type_of% (by have h_:=aoH X n to e a;unfold Bv uV at h_;exact h_):=aoH X n to e a
def Ve (X:List Value)(n:Nat):=true&&(true&&((n.mul 1).beq (aQ X)&&flatAll X))
def Tc (X:List Value)(n to:Nat):=true&&(gI X&&(to.ble n&&n.ble 4611686018427387904))
def abA (X:List Value)(n to:Nat):Option (Nat × bg):=some (0,{ vals:=[.int .i64 0],rows:=[(64,.row [.slice (some ⟨65,0,none⟩) n 18446744073709551616,.int .i64 (qaa (to.add (Fn.nK X to))),.int .i64 3,.int .i64 (qaa to)] 108 0),(65,.row X 5 65)] })
def MP (X:List Value)(a:Int)(n to:Nat):Nat × Row:=(64,.row [.slice (some ⟨65,0,none⟩) n 18446744073709551616,.int .i64 (qaa (to.add (Fn.nK X to))),.int .i64 0,.int .i64 a] 108 0)
def aaE (X:List Value)(a:Int)(n to:Nat):Option (Nat × bg):=sel (qao 9223372036854775808 (Fn.nV X to)) (some (0,{ vals:=[.int .i64 (wrap .i64 (qaa (Fn.nV X to)))],rows:=[(MP X a n to),(65,.row X 5 65)] })) (some (0,{ vals:=[.int .i64 (qaa (Fn.nV X to))],rows:=[(MP X a n to),(65,.row X 5 65)] }))
def UG (n to:Nat):Nat × Row:=(64,.row [.slice (some ⟨65,0,none⟩) n 18446744073709551616,.int .i64 (qaa to),.int .i64 (qaa 5),.int .i64 (qaa to)] 108 0)
def Tv (n to:Nat):Nat × Row:=(64,.row [.slice (some ⟨65,0,none⟩) n 18446744073709551616,.int .i64 (qaa to),.int .i64 (qaa 6),.int .i64 (qaa to)] 108 0)
theorem auy (X:List Value)(n to lo hi e:Nat)(a:Int):(runK KM C5 30).1 42 [iH,iN lo,iN hi] (lQ mRr.pre.next ⟨[iH,iN lo,iN hi],kK X n to 0 a⟩) (fun r=>(dU Tryz.prog mRr.ends 0 r).vS some)=sel (Ve X n) (sel (Tc X n to) (sel ((Fn.nE X to).beq 0) (sel (ltI (XM hi) (qaa (Fn.nV X to))) (abA X n to) (sel (ltI 0 (qaa lo)) (sel (ltI (qaa (Fn.nV X to)) (Om lo)) (abA X n to) (aaE X a n to)) (aaE X a n to))) (sel ((Fn.nE X to).beq 5) (some (0,{ vals:=[.int .i64 0],rows:=[(UG n to),(65,.row X 5 65)] })) (some (0,{ vals:=[.int .i64 0],rows:=[(Tv n to),(65,.row X 5 65)] })))) none) none:=by kernel_rfl
theorem at7 (X:List Value)(n to e:Nat)(a:Int):(runK KM C5 30).1 46 [iH] (lQ mRr.pre.next ⟨[iH],kK X n to 0 a⟩) (fun r=>(dU Tryz.prog mRr.ends 0 r).vS some)=sel (Ve X n) (sel (Tc X n to) (sel ((Fn.nE X to).beq 0) (some (0,{ vals:=[.int .u64 (qaa (Fn.nV X to))],rows:=[(MP X a n to),(65,.row X 5 65)] })) (sel ((Fn.nE X to).beq 5) (some (0,{ vals:=[.int .u64 0],rows:=[(UG n to),(65,.row X 5 65)] })) (some (0,{ vals:=[.int .u64 0],rows:=[(Tv n to),(65,.row X 5 65)] })))) none) none:=by kernel_rfl
def aaM (a:Int)(n to:Nat):Nat × Row:=(64,.row [.slice (some ⟨65,0,none⟩) n 18446744073709551616,.int .i64 (qaa to),.int .i64 0,.int .i64 a] 108 0)
theorem aoU (X:List Value)(n to e:Nat)(a:Int):(runK KM C5 30).1 43 [iH] (lQ mRr.pre.next ⟨[iH],kK X n to 0 a⟩) (fun r=>(dU Tryz.prog mRr.ends 0 r).vS some)=sel (TW n to) (some (0,{ vals:=[.agg { toList:=[.int .i64 4,.int .i64 (qaa to)] }],rows:=[(aaM a n to),(65,.row X 5 65)] })) (some (0,{ vals:=[.agg { toList:=[.int .i64 (qaa 0),.int .i64 a] }],rows:=[(aaM a n to),(65,.row X 5 65)] })):=by kernel_rfl
theorem ahl (X:List Value)(n to e:Nat)(a:Int):type_of% (by have h_:=aoU X n to e a;unfold aaM TW at h_;exact h_):=aoU X n to e a
def He (a:Int)(e n to:Nat):Nat × Row:=(64,.row [.slice (some ⟨65,0,none⟩) n 18446744073709551616,.int .i64 (qaa to),.int .i64 (qaa e.succ),.int .i64 a] 108 0)
theorem aoY (X:List Value)(n to lo hi e:Nat)(a:Int):(runK KM C5 30).1 42 [iH,iN lo,iN hi] (lQ mRr.pre.next ⟨[iH,iN lo,iN hi],kK X n to (qaa (qaf e)) a⟩) (fun r=>(dU Tryz.prog mRr.ends 0 r).vS some)=some (0,{ vals:=[.int .i64 0],rows:=[(He a e n to),(65,.row X 5 65)] }):=by kernel_rfl
theorem akT (X:List Value)(n to lo hi e:Nat)(a:Int):type_of% (by have h_:=aoY X n to lo hi e a;unfold He at h_;exact h_):=aoY X n to lo hi e a
theorem aoZ (X:List Value)(n to e:Nat)(a:Int):(runK KM C5 30).1 46 [iH] (lQ mRr.pre.next ⟨[iH],kK X n to (qaa (qaf e)) a⟩) (fun r=>(dU Tryz.prog mRr.ends 0 r).vS some)=some (0,{ vals:=[.int .u64 0],rows:=[(He a e n to),(65,.row X 5 65)] }):=by kernel_rfl
theorem ak8 (X:List Value)(n to e:Nat)(a:Int):type_of% (by have h_:=aoZ X n to e a;unfold He at h_;exact h_):=aoZ X n to e a
theorem apb (X:List Value)(n to e:Nat)(a:Int):(runK KM C5 30).1 43 [iH] (lQ mRr.pre.next ⟨[iH],kK X n to (qaa (qaf e)) a⟩) (fun r=>(dU Tryz.prog mRr.ends 0 r).vS some)=some (0,{ vals:=[.agg { toList:=[.int .i64 (qaa e.succ),.int .i64 a] }],rows:=[(He a e n to),(65,.row X 5 65)] }):=by kernel_rfl
theorem ahX (X:List Value)(n to e:Nat)(a:Int):type_of% (by have h_:=apb X n to e a;unfold He at h_;exact h_):=apb X n to e a
theorem pI {N:Nat}:∀ {cs:List Value},allB cs=true→mg N cs=true
 |[],_=>rfl
 |v::cs,h=>by
  obtain ⟨h1,h2⟩:=dG (show sel (isB v) (allB cs) false=true from h)
  obtain ⟨x,rfl,_⟩:=acR h1
  show sel true (mg N cs) false=true
  rw [aN]
  exact pI h2
namespace Fn
def okX (X:List Value):Bool:=allB X
def rN (X:List Value)(lo hi to:Nat):Nat:=(rdN X lo hi (to,0)).1
def rP (X:List Value)(lo hi to:Nat):Nat:=(rdN X lo hi (to,0)).2.1
def rF (X:List Value)(lo hi to:Nat):Nat:=(rdN X lo hi (to,0)).2.2
def rG (X:List Value)(lo hi to:Nat):Nat:=rF X lo hi to-1
def rT (X:List Value)(lo hi to:Nat):Nat:=if nE X to=0 then to+nK X to else to
def okR (X:List Value)(n to:Nat):Bool:=allB X&&(qal n (aQ X)&&(qao n 4611686018427387904&&qao to n))
end Fn
theorem Cc (X:List Value)(lo hi to:Nat) :
  (Fn.nE X to=0∧lo≤Fn.nV X to∧Fn.nV X to≤hi∧Fn.rF X lo hi to=0∧Fn.rN X lo hi to=Fn.nV X to∧Fn.rP X lo hi to=to+Fn.nK X to)∨(Fn.nE X to=0∧hi<Fn.nV X to∧Fn.rF X lo hi to=3)∨
  (Fn.nE X to=0∧Fn.nV X to≤hi∧Fn.nV X to<lo∧Fn.rF X lo hi to=3)∨(Fn.nE X to=5∧Fn.rF X lo hi to=5)∨(Fn.nE X to=6∧Fn.rF X lo hi to=6):=by
 have e1:rdN X lo hi (to,0)=if Fn.nE X to≠0 then (0,(to,Fn.nE X to)) else if Fn.nV X to<lo∨hi<Fn.nV X to then (0,(to,3)) else (Fn.nV X to,(to+Fn.nK X to,0)):=by
  unfold rdN
  rw [if_neg (show ¬(to,0).2≠0 from fun h=>h rfl)]
  rfl
 unfold Fn.rF Fn.rN Fn.rP
 rw [e1]
 rcases ajH X to with h|⟨h,_⟩|⟨h,_⟩
 ·rw [h,if_neg (by omega)]
  by_cases h1:hi<Fn.nV X to
  ·rw [if_pos (.inr h1)];exact .inr (.inl ⟨rfl,h1,rfl⟩)
  ·by_cases h2:Fn.nV X to<lo
   ·rw [if_pos (.inl h2)];exact .inr (.inr (.inl ⟨rfl,by omega,h2,rfl⟩))
   ·rw [if_neg (by omega)];exact .inl ⟨rfl,by omega,by omega,rfl,rfl,rfl⟩
 ·rw [h,if_pos (by omega)];exact .inr (.inr (.inr (.inl ⟨rfl,rfl⟩)))
 ·rw [h,if_pos (by omega)];exact .inr (.inr (.inr (.inr ⟨rfl,rfl⟩)))
theorem qV {X:List Value}{n to:Nat}(h:Fn.okR X n to=true):allB X=true∧n=X.length∧n≤4611686018427387904∧to≤n:=by
 unfold Fn.okR at h
 simp only [qad] at h
 obtain ⟨h1,h2,h3,h4⟩:=h
 exact ⟨h1,by rw [←aW];exact qac h2,qai h3,qai h4⟩
theorem adv (X:List Value)(to:Nat):Fn.alh (X.drop to)=Fn.nE X to∧Fn.aiw (X.drop to)=Fn.nV X to∧Fn.aql (X.drop to)=Fn.nK X to:=by
 have e:=Zx X to X.length 10 0
 have el:(X.drop to).length=X.length-to:=by simp
 refine ⟨?_,?_,?_⟩
 ·show (mX (X.drop to) 0 (X.drop to).length 10 0).2.2=_;rw [el,e];rfl
 ·show (mX (X.drop to) 0 (X.drop to).length 10 0).1=_;rw [el,e];rfl
 ·show (mX (X.drop to) 0 (X.drop to).length 10 0).2.1=_;rw [el,e];rfl
theorem atV {X:List Value}{to:Nat}(hX:allB X=true)(h:Fn.nE X to=0):to+Fn.nK X to≤X.length:=by
 have e:mX X to X.length 10 0=(Fn.nV X to,Fn.nK X to,0):=P6 (mX X to X.length 10 0) h
 exact (Vt hX e).2.2.2
theorem gQ {a b:Nat}(h:a≤b):qao a b=true:=qas h
theorem Fh {a b:Nat}(h:b<a):qao a b=false:=by rw [←qav];exact fun e=>absurd (qai e) (by omega)
theorem kC {a b:Nat}(h:a=b):qal a b=true:=by simp [h]
theorem uq {a b:Nat}(h:a≠b):qal a b=false:=by rw [←qav];exact fun e=>h (qac e)
theorem aam {a b:Nat}(h:a<b):ltI (qaa a) (qaa b)=true:=(wK a b).trans (by simpa using h)
theorem VK {a b:Nat}(h:b≤a):ltI (qaa a) (qaa b)=false:=(wK a b).trans (by simpa using h)
theorem anH {X:List Value}{n to lo hi:Nat}(h:Fn.okR X n to=true)(hlo:lo≤hi)(hhi:hi≤9223372036854775807) :
  (runK KM C5 30).1 39 [iH,iN lo,iN hi] (lQ mRd.pre.next ⟨[iH,iN lo,iN hi],og X n to⟩) (fun r=>(dU Tryz.prog mRd.ends 0 r).vS some) =
   if Fn.rF X lo hi to=0 then some (1,⟨[iN (Fn.rN X lo hi to)],og X n (Fn.rP X lo hi to)⟩) else some (0,⟨[iN 0],pY X n to (qaa (Fn.rF X lo hi to)) (qaa to)⟩):=by
 obtain ⟨hX,hn,hbig,hto⟩:=qV h
 have e0:qag 0 (to.mul 1)=to:=by show 0+to*1=to;omega
 have e1:qag 0 (n.mul 1)=n:=by show 0+n*1=n;omega
 have e2:(qaC 18446744073709551616 (qaC 18446744073709551616 to)).mul 1=to:=by
  show (18446744073709551616-(18446744073709551616-to))*1=to;omega
 have e3:(n.sub to).mul 1=X.length-to:=by show (n-to)*1=_;omega
 have f1:=gQ hto
 have f2:n.ble 18446744073709551616=true:=gQ (by omega)
 have f3:qao 9223372036854775808 (qaC 18446744073709551616 to)=true:=gQ (by show _≤18446744073709551616-to;omega)
 have f4:n.ble (aQ X)=true:=gQ (by rw [aW];omega)
 have f5:qal 18446744073709551616 to=false:=uq (by omega)
 have f6:to.beq to=true:=kC rfl
 have f7:to.ble (aQ X)=true:=gQ (by rw [aW];omega)
 have f8:(X.length-to).beq (aQ (eH to X))=true:=kC (by rw [aW,iy];simp)
 have f9:flatAll (eH to X)=true:=by rw [iy];exact jD (xY to hX)
 have f10:gI (eH to X)=true:=by rw [iy];exact Hg (xY to hX)
 have g:=adv X to
 rw [←iy] at g
 have m1:hi.mod 18446744073709551616=hi:=qat (by omega)
 have m2:lo.mod 18446744073709551616=lo:=qat (by omega)
 rw [auC];unfold TN abV Ox NZ Tt ab2 aa4 Ec SN Tn Vu TG Vy Ua SL aaJ U6 acf OY Pq Om ajP Ze uV aj2 XM adG ad6 adf acT adF;rw [e0,e1,e2,e3,f1,f2,f3,f4,f5,f6,f7,f8,f9,f10,g.1,g.2.1,g.2.2,m1,m2]
 by_cases ht:to<n∨to=0
 ·have f11:(false||ltN to n||ltN to (aQ X)||to.beq 0)=true:=by
   rcases ht with ht|ht
   ·rw [show ltN to n=true from gQ ht];rfl
   ·subst ht;simp
  rw [f11]
  rcases Cc X lo hi to with ⟨h1,h2,h3,h4,h5,h6⟩|⟨h1,h2,h3⟩|⟨h1,h2,h3,h4⟩|⟨h1,h2⟩|⟨h1,h2⟩
  ·have hk:=atV hX h1
   rw [h4,h5,h6,h1,VK h3,VK h2,if_pos rfl,Fh (show Fn.nV X to<9223372036854775808 by omega),show (to.add (Fn.nK X to)).ble 9223372036854775807=true from gQ (by show to+Fn.nK X to≤_;omega)]
   cases ltI 0 (qaa lo) <;> rfl
  ·rw [h3,h1,aam h2,if_neg (by omega)]
   cases qao 9223372036854775808 (Fn.nV X to) <;> rfl
  ·rw [h4,h1,VK h2,aam h3,show ltI 0 (qaa lo)=true from aam (a:=0) (by omega),if_neg (by omega)]
   cases qao 9223372036854775808 (Fn.nV X to) <;> rfl
  ·rw [h2,h1,if_neg (by omega)];rfl
  ·rw [h2,h1,if_neg (by omega)];rfl
 ·have e:to=X.length:=by omega
  have f11:(false||ltN to n||ltN to (aQ X)||to.beq 0)=false:=by
   rw [show ltN to n=false from Fh (by omega),show ltN to (aQ X)=false from Fh (by rw [aW];omega),uq (show to≠0 by omega)];rfl
  rw [f11]
  have h6:Fn.nE X to=6:=by
   unfold Fn.nE
   rw [xQ,if_neg (by omega)]
  rcases Cc X lo hi to with ⟨h1,_⟩|⟨h1,_⟩|⟨h1,_⟩|⟨h1,_⟩|⟨h1,h2⟩
  ·omega
  ·omega
  ·omega
  ·omega
  ·rw [h2,if_neg (by omega)];rfl
theorem au7 {X:List Value}{to:Nat}(hX:allB X=true)(h:Fn.nE X to=0):Fn.nV X to<18446744073709551616:=by
 have e:mX X to X.length 10 0=(Fn.nV X to,Fn.nK X to,0):=P6 (mX X to X.length 10 0) h
 exact (Vt hX e).1
def uN (n:Nat):Value:=.int .u64 (qaa n)
theorem alV {X:List Value}{n to:Nat}(h:Fn.okR X n to=true) :
  (runK KM C5 30).1 44 [iH] (lQ mRd.pre.next ⟨[iH],og X n to⟩) (fun r=>(dU Tryz.prog mRd.ends 0 r).vS some) =
   if Fn.rF X 0 18446744073709551615 to=0 then some (1,⟨[uN (Fn.rN X 0 18446744073709551615 to)],og X n (Fn.rP X 0 18446744073709551615 to)⟩) else some (0,⟨[uN 0],pY X n to (qaa (Fn.rF X 0 18446744073709551615 to)) (qaa to)⟩):=by
 obtain ⟨hX,hn,hbig,hto⟩:=qV h
 have e0:qag 0 (to.mul 1)=to:=by show 0+to*1=to;omega
 have e1:qag 0 (n.mul 1)=n:=by show 0+n*1=n;omega
 have e2:(qaC 18446744073709551616 (qaC 18446744073709551616 to)).mul 1=to:=by
  show (18446744073709551616-(18446744073709551616-to))*1=to;omega
 have e3:(n.sub to).mul 1=X.length-to:=by show (n-to)*1=_;omega
 have f1:=gQ hto
 have f2:n.ble 18446744073709551616=true:=gQ (by omega)
 have f3:qao 9223372036854775808 (qaC 18446744073709551616 to)=true:=gQ (by show _≤18446744073709551616-to;omega)
 have f4:n.ble (aQ X)=true:=gQ (by rw [aW];omega)
 have f5:qal 18446744073709551616 to=false:=uq (by omega)
 have f6:to.beq to=true:=kC rfl
 have f7:to.ble (aQ X)=true:=gQ (by rw [aW];omega)
 have f8:(X.length-to).beq (aQ (eH to X))=true:=kC (by rw [aW,iy];simp)
 have f9:flatAll (eH to X)=true:=by rw [iy];exact jD (xY to hX)
 have f10:gI (eH to X)=true:=by rw [iy];exact Hg (xY to hX)
 have g:=adv X to
 rw [←iy] at g
 rw [avA];unfold TN Ox Ec SN NZ Tt Tn Vu TG Vy VQ SL aby U6 uV OY Pq adG ad6 adf acT adF;rw [e0,e1,e2,e3,f1,f2,f3,f4,f5,f6,f7,f8,f9,f10,g.1,g.2.1,g.2.2]
 by_cases ht:to<n∨to=0
 ·have f11:(false||ltN to n||ltN to (aQ X)||to.beq 0)=true:=by
   rcases ht with ht|ht
   ·rw [show ltN to n=true from gQ ht];rfl
   ·subst ht;simp
  rw [f11]
  rcases Cc X 0 18446744073709551615 to with ⟨h1,h2,h3,h4,h5,h6⟩|⟨h1,h2,h3⟩|⟨h1,h2,h3,h4⟩|⟨h1,h2⟩|⟨h1,h2⟩
  ·have hk:=atV hX h1
   rw [h4,h5,h6,h1,if_pos rfl,show (to.add (Fn.nK X to)).ble 9223372036854775807=true from gQ (by show to+Fn.nK X to≤_;omega)]
   rfl
  ·exact absurd h2 (by have:=au7 hX h1;omega)
  ·omega
  ·rw [h2,h1,if_neg (by omega)];rfl
  ·rw [h2,h1,if_neg (by omega)];rfl
 ·have e:to=X.length:=by omega
  have f11:(false||ltN to n||ltN to (aQ X)||to.beq 0)=false:=by
   rw [show ltN to n=false from Fh (by omega),show ltN to (aQ X)=false from Fh (by rw [aW];omega),uq (show to≠0 by omega)];rfl
  rw [f11]
  have h6:Fn.nE X to=6:=by
   unfold Fn.nE
   rw [xQ,if_neg (by omega)]
  rcases Cc X 0 18446744073709551615 to with ⟨h1,_⟩|⟨h1,_⟩|⟨h1,_⟩|⟨h1,_⟩|⟨h1,h2⟩
  ·omega
  ·omega
  ·omega
  ·omega
  ·rw [h2,if_neg (by omega)];rfl
theorem an5 {X:List Value}{n to lo hi:Nat}{a:Int}(h:Fn.okR X n to=true)(hlo:lo≤hi)(hhi:hi≤9223372036854775807) :
  (runK KM C5 30).1 42 [iH,iN lo,iN hi] (lQ mRr.pre.next ⟨[iH,iN lo,iN hi],kK X n to 0 a⟩) (fun r=>(dU Tryz.prog mRr.ends 0 r).vS some) =
   if Fn.rF X lo hi to=0 then some (0,⟨[iN (Fn.rN X lo hi to)],kK X n (Fn.rP X lo hi to) 0 a⟩) else some (0,⟨[iN 0],kK X n (Fn.rT X lo hi to) (qaa (Fn.rF X lo hi to)) (qaa to)⟩):=by
 obtain ⟨hX,hn,hbig,hto⟩:=qV h
 have f1:=gQ hto
 have f2:n.ble 4611686018427387904=true:=gQ hbig
 have f4:(n.mul 1).beq (aQ X)=true:=kC (by rw [aW];show n*1=_;omega)
 have f9:flatAll X=true:=jD hX
 have f10:gI X=true:=Hg hX
 have m1:hi.mod 18446744073709551616=hi:=qat (by omega)
 have m2:lo.mod 18446744073709551616=lo:=qat (by omega)
 rw [auy (e:=0)];unfold Tv UG aaE MP Om abA XM Tc Ve;rw [f1,f2,f4,f9,f10,m1,m2]
 unfold Fn.rT
 rcases Cc X lo hi to with ⟨h1,h2,h3,h4,h5,h6⟩|⟨h1,h2,h3⟩|⟨h1,h2,h3,h4⟩|⟨h1,h2⟩|⟨h1,h2⟩
 ·rw [h4,h5,h6,h1,VK h3,VK h2,if_pos rfl,Fh (show Fn.nV X to<9223372036854775808 by omega)]
  cases ltI 0 (qaa lo) <;> rfl
 ·rw [h3,h1,aam h2,if_neg (by omega),if_pos rfl]
  rfl
 ·rw [h4,h1,VK h2,aam h3,show ltI 0 (qaa lo)=true from aam (a:=0) (by omega),if_neg (by omega),if_pos rfl]
  rfl
 ·rw [h2,h1,if_neg (by omega),if_neg (by omega)];rfl
 ·rw [h2,h1,if_neg (by omega),if_neg (by omega)];rfl
theorem alE {X:List Value}{n to:Nat}{a:Int}(h:Fn.okR X n to=true) :
  (runK KM C5 30).1 46 [iH] (lQ mRr.pre.next ⟨[iH],kK X n to 0 a⟩) (fun r=>(dU Tryz.prog mRr.ends 0 r).vS some) =
   if Fn.rF X 0 18446744073709551615 to=0 then some (0,⟨[uN (Fn.rN X 0 18446744073709551615 to)],kK X n (Fn.rP X 0 18446744073709551615 to) 0 a⟩) else some (0,⟨[uN 0],kK X n (Fn.rT X 0 18446744073709551615 to) (qaa (Fn.rF X 0 18446744073709551615 to)) (qaa to)⟩):=by
 obtain ⟨hX,hn,hbig,hto⟩:=qV h
 have f1:=gQ hto
 have f2:n.ble 4611686018427387904=true:=gQ hbig
 have f4:(n.mul 1).beq (aQ X)=true:=kC (by rw [aW];show n*1=_;omega)
 have f9:flatAll X=true:=jD hX
 have f10:gI X=true:=Hg hX
 rw [at7 (e:=0)];unfold Tv UG MP Tc Ve;rw [f1,f2,f4,f9,f10]
 unfold Fn.rT
 rcases Cc X 0 18446744073709551615 to with ⟨h1,h2,h3,h4,h5,h6⟩|⟨h1,h2,h3⟩|⟨h1,h2,h3,h4⟩|⟨h1,h2⟩|⟨h1,h2⟩
 ·rw [h4,h5,h6,h1,if_pos rfl]
  rfl
 ·exact absurd h2 (by have:=au7 hX h1;omega)
 ·omega
 ·rw [h2,h1,if_neg (by omega),if_neg (by omega)];rfl
 ·rw [h2,h1,if_neg (by omega),if_neg (by omega)];rfl
def afT {R:Type}(b:Nat)(v:Value)(k:Tree R):Tree R:=
 match v with
 |.pointer (some a)=>sel (a.spot.isNone&&(qal a.block b&&qal a.off 0)) k .fail
 |_=>.fail
def amJ {R:Type}(v:Value)(k:Tree R):Tree R:=
 match v with
 |.pointer none=>k
 |_=>.fail
def pTrue {R:Type}(v:Value)(k:Tree R):Tree R:=
 match v with
 |.bool b=>sel b k .fail
 |_=>.fail
theorem lD {R:Type}{b:Nat}{v:Value}{k:Tree R}{r:R}(h:(afT b v k).run=some r):v = .pointer (some ⟨b,0,none⟩)∧k.run=some r:=by
 unfold afT at h
 split at h
 ·rename_i a
  obtain ⟨b',o,sp⟩:=a
  obtain ⟨h1,h9⟩:=dV h
  clear h
  simp only [qad] at h1
  obtain ⟨h1,h2,h3⟩:=h1
  have h2:b'=b:=qac h2
  have h3:o=0:=qac h3
  subst h2 h3
  cases sp with
  |some x=>cases h1
  |none=>exact ⟨rfl,h9⟩
 ·cases h
theorem RP {R:Type}{v:Value}{k:Tree R}{r:R}(h:(amJ v k).run=some r):v = .pointer none∧k.run=some r:=by
 unfold amJ at h
 split at h
 ·exact ⟨rfl,h⟩
 ·cases h
theorem uy {R:Type}{v:Value}{k:Tree R}{r:R}(h:(pTrue v k).run=some r):v = .bool true∧k.run=some r:=by
 unfold pTrue at h
 split at h
 ·rename_i b
  obtain ⟨rfl,h9⟩:=dV h
  exact ⟨rfl,h9⟩
 ·cases h
abbrev MT:=Tree (Nat × bg)
def awc (l:List (Nat × Row))(k:List Value→Nat→Nat→MT):MT:=
 dh l fun q1 l=>CV 64 tRd 0 q1 fun rd=>dh l fun q2 l=>CV 65 tB 65 q2 fun X=>zq l (dh rd fun a1 l=>pSl 65 aC a1 fun n=>dh l fun a2 l=>Ey .i64 a2 fun to=>dh l fun a3 l=>pTrue a3 (dh l fun a4 l=>amJ a4 (zq l (k X n to))))
theorem Fb {l:List (Nat × Row)}{k:List Value→Nat→Nat→MT}{r:Nat × bg}(w0:(awc l k).run=some r):∃ X n to,l=og X n to∧(k X n to).run=some r:=by
 obtain ⟨q1,l1,rfl,w1⟩:=aB w0
 obtain ⟨rd,rfl,w2⟩:=dF (p:=q1) w1
 obtain ⟨q2,l2,rfl,w3⟩:=aB (l:=l1) w2
 obtain ⟨X,rfl,w4⟩:=dF (p:=q2) w3
 obtain ⟨rfl,w5⟩:=bW w4
 obtain ⟨a1,m1,rfl,w6⟩:=aB w5
 obtain ⟨n,rfl,w7⟩:=jQ w6
 obtain ⟨a2,m2,rfl,w8⟩:=aB w7
 obtain ⟨to,rfl,w9⟩:=dK w8
 obtain ⟨a3,m3,rfl,w10⟩:=aB w9
 obtain ⟨rfl,w11⟩:=uy w10
 obtain ⟨a4,m4,rfl,w12⟩:=aB w11
 obtain ⟨rfl,w13⟩:=RP w12
 obtain ⟨rfl,w14⟩:=bW w13
 exact ⟨X,n,to,rfl,w14⟩
def avt (l:List (Nat × Row))(k:List Value→Nat→Nat→Int→Int→MT):MT:=
 dh l fun q1 l=>CV 64 tRd 0 q1 fun rd=>dh l fun q2 l=>CV 65 tB 65 q2 fun X=>dh l fun q3 l=>CV 66 tFa 0 q3 fun fa=>zq l (dh rd fun a1 l=>pSl 65 aC a1 fun n=>dh l fun a2 l=>Ey .i64 a2 fun to=>dh l fun a3 l=>pTrue a3 (dh l fun a4 l=>afT 66 a4 (zq l (
  dh fa fun b1 l=>asJ .i64 b1 fun e=>dh l fun b2 l=>asJ .i64 b2 fun a=>zq l (k X n to e a)))))
theorem GH {l:List (Nat × Row)}{k:List Value→Nat→Nat→Int→Int→MT}{r:Nat × bg}(w0:(avt l k).run=some r):∃ X n to e a,l=pY X n to e a∧(k X n to e a).run=some r:=by
 obtain ⟨q1,l1,rfl,w1⟩:=aB w0
 obtain ⟨rd,rfl,w2⟩:=dF (p:=q1) w1
 obtain ⟨q2,l2,rfl,w3⟩:=aB (l:=l1) w2
 obtain ⟨X,rfl,w4⟩:=dF (p:=q2) w3
 obtain ⟨q3,l3,rfl,w5⟩:=aB (l:=l2) w4
 obtain ⟨fa,rfl,w6⟩:=dF (p:=q3) w5
 obtain ⟨rfl,w7⟩:=bW w6
 obtain ⟨a1,m1,rfl,w8⟩:=aB w7
 obtain ⟨n,rfl,w9⟩:=jQ w8
 obtain ⟨a2,m2,rfl,w10⟩:=aB w9
 obtain ⟨to,rfl,w11⟩:=dK w10
 obtain ⟨a3,m3,rfl,w12⟩:=aB w11
 obtain ⟨rfl,w13⟩:=uy w12
 obtain ⟨a4,m4,rfl,w14⟩:=aB w13
 obtain ⟨rfl,w15⟩:=lD w14
 obtain ⟨rfl,w16⟩:=bW w15
 obtain ⟨b1,k1,rfl,w17⟩:=aB w16
 obtain ⟨e,rfl,w18⟩:=BA w17
 obtain ⟨b2,k2,rfl,w19⟩:=aB w18
 obtain ⟨a,rfl,w20⟩:=BA w19
 obtain ⟨rfl,w21⟩:=bW w20
 exact ⟨X,n,to,e,a,rfl,w21⟩
def axG (l:List (Nat × Row))(k:List Value→Nat→Nat→Nat→Int→MT):MT:=
 dh l fun q1 l=>CV 64 tRr 0 q1 fun rd=>dh l fun q2 l=>CV 65 tB 65 q2 fun X=>zq l (dh rd fun a1 l=>pSl 65 aC a1 fun n=>dh l fun a2 l=>Ey .i64 a2 fun to=>dh l fun a3 l=>Ey .i64 a3 fun e=>dh l fun a4 l=>asJ .i64 a4 fun a=>zq l (k X n to e a))
theorem PY {l:List (Nat × Row)}{k:List Value→Nat→Nat→Nat→Int→MT}{r:Nat × bg}(w0:(axG l k).run=some r):∃ X n to e a,l=kK X n to (qaa e) a∧(k X n to e a).run=some r:=by
 obtain ⟨q1,l1,rfl,w1⟩:=aB w0
 obtain ⟨rd,rfl,w2⟩:=dF (p:=q1) w1
 obtain ⟨q2,l2,rfl,w3⟩:=aB (l:=l1) w2
 obtain ⟨X,rfl,w4⟩:=dF (p:=q2) w3
 obtain ⟨rfl,w5⟩:=bW w4
 obtain ⟨a1,m1,rfl,w6⟩:=aB w5
 obtain ⟨n,rfl,w7⟩:=jQ w6
 obtain ⟨a2,m2,rfl,w8⟩:=aB w7
 obtain ⟨to,rfl,w9⟩:=dK w8
 obtain ⟨a3,m3,rfl,w10⟩:=aB w9
 obtain ⟨e,rfl,w11⟩:=dK w10
 obtain ⟨a4,m4,rfl,w12⟩:=aB w11
 obtain ⟨a,rfl,w13⟩:=BA w12
 obtain ⟨rfl,w14⟩:=bW w13
 exact ⟨X,n,to,e,a,rfl,w14⟩
def ahb (e:Nat)(z:MT)(s:Nat→MT):MT:=Nat.casesOn (motive:=fun _=>MT) e z s
def YL (X:List Value)(lo hi to:Nat)(x y:Nat × bg):MT:=.test (qal (Fn.rF X lo hi to) 0) (.leaf x) (.leaf y)
theorem zh {X:List Value}{lo hi to:Nat}{x y r:Nat × bg}(h:(YL X lo hi to x y).run=some r):r=if Fn.rF X lo hi to=0 then x else y:=by
 have h:sel (qal (Fn.rF X lo hi to) 0) (some x) (some y)=some r:=h
 rw [aG] at h
 split at h
 ·rename_i e;rw [if_pos (qac e)];cases h;rfl
 ·rename_i e;rw [if_neg (fun h=>e (kC h))];cases h;rfl
def fE (X:List Value)(lo hi to:Nat):Int:=qaa (qaf (Fn.rG X lo hi to))
theorem anv {X:List Value}{lo hi to:Nat}(h:Fn.rF X lo hi to≠0):fE X lo hi to=qaa (Fn.rF X lo hi to):=by
 unfold fE Fn.rG
 rw [show qaf (Fn.rF X lo hi to-1)=Fn.rF X lo hi to by omega]
def pN3 (o:bg)(k:Nat→Nat→MT):MT:=dh o.vals fun u l=>afT 64 u (dh l fun a l=>Ey .i64 a fun lo=>dh l fun b l=>Ey .i64 b fun hi=>zq l (k lo hi))
theorem TT {o:bg}{k:Nat→Nat→MT}{r:Nat × bg}(h:(pN3 o k).run=some r):∃ lo hi,o.vals=[iH,iN lo,iN hi]∧(k lo hi).run=some r:=by
 obtain ⟨u,l1,hv,h⟩:=aB h
 obtain ⟨rfl,h⟩:=lD h
 obtain ⟨c,l2,rfl,h⟩:=aB h
 obtain ⟨lo,rfl,h⟩:=dK h
 obtain ⟨d,l3,rfl,h⟩:=aB h
 obtain ⟨hi,rfl,h⟩:=dK h
 obtain ⟨rfl,h⟩:=bW h
 exact ⟨lo,hi,hv,h⟩
def p1 (o:bg)(k:MT):MT:=dh o.vals fun u l=>afT 64 u (zq l k)
theorem wI {o:bg}{k:MT}{r:Nat × bg}(h:(p1 o k).run=some r):o.vals=[iH]∧k.run=some r:=by
 obtain ⟨u,l1,hv,h⟩:=aB h
 obtain ⟨rfl,h⟩:=lD h
 obtain ⟨rfl,h⟩:=bW h
 exact ⟨hv,h⟩
def okN (lo hi:Nat):Bool:=qao lo hi&&qao hi 9223372036854775807
theorem Ll {lo hi:Nat}(h:okN lo hi=true):lo≤hi∧hi≤9223372036854775807:=by
 unfold okN at h
 simp only [qad] at h
 exact ⟨qai h.1,qai h.2⟩
def gN0 (o:bg):MT:=pN3 o fun lo hi=>awc o.rows fun X n to=>KR (okN lo hi) (bU (Fn.okR X n to) (YL X lo hi to (1,⟨[iN (Fn.rN X lo hi to)],og X n (Fn.rP X lo hi to)⟩) (0,⟨[iN 0],pY X n to (fE X lo hi to) (qaa to)⟩)))
def gN1 (o:bg):MT:=pN3 o fun lo hi=>avt o.rows fun X n to e a=>bU (Fn.okX X) (.leaf (0,⟨[iN 0],pY X n to e a⟩))
def gU0 (o:bg):MT:=p1 o (awc o.rows fun X n to=>bU (Fn.okR X n to) (YL X 0 18446744073709551615 to (1,⟨[uN (Fn.rN X 0 18446744073709551615 to)],og X n (Fn.rP X 0 18446744073709551615 to)⟩) (0,⟨[uN 0],pY X n to (fE X 0 18446744073709551615 to) (qaa to)⟩)))
def gU1 (o:bg):MT:=p1 o (avt o.rows fun X n to e a=>bU (Fn.okX X) (.leaf (0,⟨[uN 0],pY X n to e a⟩)))
def gE0 (o:bg):MT:=p1 o (awc o.rows fun X n to=>bU (Fn.okX X) (.test (ltN to n) (.leaf (1,⟨[.agg ⟨[.int .i64 4,iN to]⟩],og X n to⟩)) (.leaf (1,⟨[.agg ⟨[.int .i64 0,.int .i64 0]⟩],og X n to⟩))))
def gE1 (o:bg):MT:=p1 o (avt o.rows fun X n to e a=>bU (Fn.okX X) (.leaf (0,⟨[.agg ⟨[.int .i64 e,.int .i64 a]⟩],pY X n to e a⟩)))
def gL0 (o:bg):MT:=p1 o (awc o.rows fun X n to=>bU (Fn.okR X n to) (.leaf (1,⟨[iN (qaC n to)],og X n to⟩)))
def gL1 (o:bg):MT:=p1 o (avt o.rows fun X n to e a=>bU (Fn.okX X) (.leaf (0,⟨[iN 0],pY X n to e a⟩)))
def gRN (o:bg):MT:=pN3 o fun lo hi=>axG o.rows fun X n to e a=>ahb e
 (KR (okN lo hi) (bU (Fn.okR X n to) (YL X lo hi to (0,⟨[iN (Fn.rN X lo hi to)],kK X n (Fn.rP X lo hi to) 0 a⟩) (0,⟨[iN 0],kK X n (Fn.rT X lo hi to) (fE X lo hi to) (qaa to)⟩))))
 fun e=>bU (Fn.okX X) (.leaf (0,⟨[iN 0],kK X n to (qaa (qaf e)) a⟩))
def gRU (o:bg):MT:=p1 o (axG o.rows fun X n to e a=>ahb e
 (bU (Fn.okR X n to) (YL X 0 18446744073709551615 to (0,⟨[uN (Fn.rN X 0 18446744073709551615 to)],kK X n (Fn.rP X 0 18446744073709551615 to) 0 a⟩) (0,⟨[uN 0],kK X n (Fn.rT X 0 18446744073709551615 to) (fE X 0 18446744073709551615 to) (qaa to)⟩)))
 fun e=>bU (Fn.okX X) (.leaf (0,⟨[uN 0],kK X n to (qaa (qaf e)) a⟩)))
def gRE (o:bg):MT:=p1 o (axG o.rows fun X n to e a=>bU (Fn.okX X) (ahb e
 (.test (ltN to n) (.leaf (0,⟨[.agg ⟨[.int .i64 4,iN to]⟩],kK X n to 0 a⟩)) (.leaf (0,⟨[.agg ⟨[.int .i64 0,.int .i64 a]⟩],kK X n to 0 a⟩)))
 fun e=>(.leaf (0,⟨[.agg ⟨[.int .i64 (qaa (qaf e)),.int .i64 a]⟩],kK X n to (qaa (qaf e)) a⟩))))
theorem ag9 {X:List Value}{n to:Nat}(hX:allB X=true){sp:bM}(h:flagsOf sp=[true,false]):vP (og X n to) (flagsOf sp):=by
 rw [h];exact ⟨fun e=>(by cases e),fun _ cs e f h=>(by cases h;exact pI hX),trivial⟩
theorem aa8 {X:List Value}{n to:Nat}{e a:Int}(hX:allB X=true){sp:bM}(h:flagsOf sp=[true,false]):vP (kK X n to e a) (flagsOf sp):=by
 rw [h];exact ⟨fun e=>(by cases e),fun _ cs e f h=>(by cases h;exact pI hX),trivial⟩
theorem afh {X:List Value}{n to:Nat}{e a:Int}(hX:allB X=true){sp:bM}(h:flagsOf sp=[true,false,true]):vP (pY X n to e a) (flagsOf sp):=by
 rw [h];exact ⟨fun e=>(by cases e),fun _ cs e f h=>(by cases h;exact pI hX),(fun e=>by cases e),trivial⟩
theorem Xj {X:List Value}{n to:Nat}{e a:Int}{v:List Value}(hX:allB X=true):∀ spe,nth mRd.ends (0,(⟨v,pY X n to e a⟩:bg)).1=some spe→vP (0,(⟨v,pY X n to e a⟩:bg)).2.rows (flagsOf spe):=fun spe h=>by
 have h:some eRn=some spe:=h
 cases h
 exact afh hX rfl
theorem Ar {X:List Value}{n to:Nat}{v:List Value}(hX:allB X=true):∀ spe,nth mRd.ends (1,(⟨v,og X n to⟩:bg)).1=some spe→vP (1,(⟨v,og X n to⟩:bg)).2.rows (flagsOf spe):=fun spe h=>by
 have h:some eRd=some spe:=h
 cases h
 exact ag9 hX rfl
theorem KZ {X:List Value}{n to:Nat}{e a:Int}{v:List Value}(hX:allB X=true):∀ spe,nth mRf.ends (0,(⟨v,pY X n to e a⟩:bg)).1=some spe→vP (0,(⟨v,pY X n to e a⟩:bg)).2.rows (flagsOf spe):=fun spe h=>by
 have h:some eRf=some spe:=h
 cases h
 exact afh hX rfl
theorem tN {X:List Value}{n to:Nat}{e a:Int}{v:List Value}(hX:allB X=true):∀ spe,nth mRr.ends (0,(⟨v,kK X n to e a⟩:bg)).1=some spe→vP (0,(⟨v,kK X n to e a⟩:bg)).2.rows (flagsOf spe):=fun spe h=>by
 have h:some eRd=some spe:=h
 cases h
 exact aa8 hX rfl
theorem byK {f:FuncId}{args:List Value}{s:St}{l:List bM}{q:Nat × bg}(h:(runK KM C5 30).1 f args s (fun r=>(dU Tryz.prog l 0 r).vS some)=some q) :
  aj ((runN C5 30).1 f args s) (fun r=>(dU Tryz.prog l 0 r).run)=some q:=D7 (K:=KM) (by decide) bF aT h
theorem axg:iZ Tryz.prog C5 30 39 mRd gN0:=by
 rintro ⟨vals,rows⟩ q h
 obtain ⟨lo,hi,hv,z0⟩:=TT h
 obtain ⟨X,n,to,hr,z1⟩:=Fb z0
 obtain ⟨h1,z2⟩:=gu z1
 obtain ⟨h2,z3⟩:=aJ z2
 have z4:=zh z3
 have hv:vals=_:=hv
 have hr:rows=_:=hr
 subst hv hr
 obtain ⟨hX,_⟩:=qV h2
 refine ⟨ag9 hX rfl,?_,byK ?_⟩
 ·rw [z4];split
  ·exact Ar hX
  ·exact Xj hX
 ·rw [show (⟨[iH,iN lo,iN hi],og X n to⟩:bg).vals=[iH,iN lo,iN hi] from rfl,anH h2 (Ll h1).1 (Ll h1).2,z4]
  split
  ·rfl
  ·rename_i hne;rw [anv hne]
theorem awl:iZ Tryz.prog C5 30 39 mRf gN1:=by
 rintro ⟨vals,rows⟩ q h
 obtain ⟨lo,hi,hv,z0⟩:=TT h
 obtain ⟨X,n,to,e,a,hr,z1⟩:=GH z0
 obtain ⟨hX,z2⟩:=aJ z1
 have hv:vals=_:=hv
 have hr:rows=_:=hr
 subst hv hr
 cases z2
 exact ⟨afh hX rfl,KZ hX,byK (akQ ..)⟩
theorem axe:iZ Tryz.prog C5 30 44 mRd gU0:=by
 rintro ⟨vals,rows⟩ q h
 obtain ⟨hv,z0⟩:=wI h
 obtain ⟨X,n,to,hr,z1⟩:=Fb z0
 obtain ⟨h2,z2⟩:=aJ z1
 have z3:=zh z2
 have hv:vals=_:=hv
 have hr:rows=_:=hr
 subst hv hr
 obtain ⟨hX,_⟩:=qV h2
 refine ⟨ag9 hX rfl,?_,byK ?_⟩
 ·rw [z3];split
  ·exact Ar hX
  ·exact Xj hX
 ·rw [show (⟨[iH],og X n to⟩:bg).vals=[iH] from rfl,alV h2,z3]
  split
  ·rfl
  ·rename_i hne;rw [anv hne]
theorem awq:iZ Tryz.prog C5 30 44 mRf gU1:=by
 rintro ⟨vals,rows⟩ q h
 obtain ⟨hv,z0⟩:=wI h
 obtain ⟨X,n,to,e,a,hr,z1⟩:=GH z0
 obtain ⟨hX,z2⟩:=aJ z1
 have hv:vals=_:=hv
 have hr:rows=_:=hr
 subst hv hr
 cases z2
 exact ⟨afh hX rfl,KZ hX,byK (ahB ..)⟩
theorem avy:iZ Tryz.prog C5 30 40 mRd gE0:=by
 rintro ⟨vals,rows⟩ q h
 obtain ⟨hv,z0⟩:=wI h
 obtain ⟨X,n,to,hr,z1⟩:=Fb z0
 obtain ⟨hX,z2⟩:=aJ z1
 have hv:vals=_:=hv
 have hr:rows=_:=hr
 subst hv hr
 have z3:sel (ltN to n) _ _=some q:=z2
 refine ⟨ag9 hX rfl,?_,byK ((ajA ..).trans z3)⟩
 rw [aG] at z3
 split at z3
 ·cases z3;exact Ar hX
 ·cases z3;exact Ar hX
theorem avh:iZ Tryz.prog C5 30 40 mRf gE1:=by
 rintro ⟨vals,rows⟩ q h
 obtain ⟨hv,z0⟩:=wI h
 obtain ⟨X,n,to,e,a,hr,z1⟩:=GH z0
 obtain ⟨hX,z2⟩:=aJ z1
 have hv:vals=_:=hv
 have hr:rows=_:=hr
 subst hv hr
 cases z2
 exact ⟨afh hX rfl,KZ hX,byK (ajk ..)⟩
theorem av7:iZ Tryz.prog C5 30 45 mRd gL0:=by
 rintro ⟨vals,rows⟩ q h
 obtain ⟨hv,z0⟩:=wI h
 obtain ⟨X,n,to,hr,z1⟩:=Fb z0
 obtain ⟨h2,z2⟩:=aJ z1
 have hv:vals=_:=hv
 have hr:rows=_:=hr
 subst hv hr
 obtain ⟨hX,hn,hbig,hto⟩:=qV h2
 cases z2
 refine ⟨ag9 hX rfl,Ar hX,byK ?_⟩
 rw [show (⟨[iH],og X n to⟩:bg).vals=[iH] from rfl,ai8,gQ hto,gQ (show n.sub to≤9223372036854775807 by show n-to≤_;omega)]
 rfl
theorem aw7:iZ Tryz.prog C5 30 45 mRf gL1:=by
 rintro ⟨vals,rows⟩ q h
 obtain ⟨hv,z0⟩:=wI h
 obtain ⟨X,n,to,e,a,hr,z1⟩:=GH z0
 obtain ⟨hX,z2⟩:=aJ z1
 have hv:vals=_:=hv
 have hr:rows=_:=hr
 subst hv hr
 cases z2
 exact ⟨afh hX rfl,KZ hX,byK (ag8 ..)⟩
theorem avb:iZ Tryz.prog C5 30 42 mRr gRN:=by
 rintro ⟨vals,rows⟩ q h
 obtain ⟨lo,hi,hv,z0⟩:=TT h
 obtain ⟨X,n,to,e,a,hr,z1⟩:=PY z0
 have hv:vals=_:=hv
 have hr:rows=_:=hr
 subst hv hr
 cases e with
 |zero=>
  obtain ⟨h1,z2⟩:=gu z1
  obtain ⟨h2,z3⟩:=aJ z2
  have z4:=zh z3
  obtain ⟨hX,_⟩:=qV h2
  refine ⟨aa8 hX rfl,?_,byK ?_⟩
  ·rw [z4];split
   ·exact tN hX
   ·exact tN hX
  ·refine (an5 h2 (Ll h1).1 (Ll h1).2).trans ?_
   rw [z4]
   split
   ·rfl
   ·rename_i hne;rw [anv hne]
 |succ e=>
  obtain ⟨hX,z5⟩:=aJ z1
  cases z5
  exact ⟨aa8 hX rfl,tN hX,byK (akT (e:=e) (lo:=lo) (hi:=hi) ..)⟩
theorem awE:iZ Tryz.prog C5 30 46 mRr gRU:=by
 rintro ⟨vals,rows⟩ q h
 obtain ⟨hv,z0⟩:=wI h
 obtain ⟨X,n,to,e,a,hr,z1⟩:=PY z0
 have hv:vals=_:=hv
 have hr:rows=_:=hr
 subst hv hr
 cases e with
 |zero=>
  obtain ⟨h2,z2⟩:=aJ z1
  have z3:=zh z2
  obtain ⟨hX,_⟩:=qV h2
  refine ⟨aa8 hX rfl,?_,byK ?_⟩
  ·rw [z3];split
   ·exact tN hX
   ·exact tN hX
  ·refine (alE h2).trans ?_
   rw [z3]
   split
   ·rfl
   ·rename_i hne;rw [anv hne]
 |succ e=>
  obtain ⟨hX,z5⟩:=aJ z1
  cases z5
  exact ⟨aa8 hX rfl,tN hX,byK (ak8 (e:=e) ..)⟩
theorem avR:iZ Tryz.prog C5 30 43 mRr gRE:=by
 rintro ⟨vals,rows⟩ q h
 obtain ⟨hv,z0⟩:=wI h
 obtain ⟨X,n,to,e,a,hr,z1⟩:=PY z0
 obtain ⟨hX,z2⟩:=aJ z1
 have hv:vals=_:=hv
 have hr:rows=_:=hr
 subst hv hr
 cases e with
 |zero=>
  have z3:sel (ltN to n) _ _=some q:=z2
  refine ⟨aa8 hX rfl,?_,byK ((ahl (e:=0) ..).trans z3)⟩
  rw [aG] at z3
  split at z3
  ·cases z3;exact tN hX
  ·cases z3;exact tN hX
 |succ e=>
  cases z2
  exact ⟨aa8 hX rfl,tN hX,byK (ahX (e:=e) ..)⟩
variable [Lo]
theorem adK {f:FuncId}{m1 m2:wO}{g1 g2:bg→MT}(h1:iZ Tryz.prog C5 30 f m1 g1)(h2:iZ Tryz.prog C5 30 f m2 g2):∀ p∈[(m1,g1),(m2,g2)],∃ C n,eX C Tryz.prog∧iZ Tryz.prog C n f p.1 p.2:=by
 intro p hp
 rcases List.mem_cons.1 hp with rfl|hp
 ·exact ⟨C5,30,asK,h1⟩
 ·rcases List.mem_cons.1 hp with rfl|hp
  ·exact ⟨C5,30,asK,h2⟩
  ·cases hp
theorem aia {f:FuncId}{m1:wO}{g1:bg→MT}(h1:iZ Tryz.prog C5 30 f m1 g1):∀ p∈[(m1,g1)],∃ C n,eX C Tryz.prog∧iZ Tryz.prog C n f p.1 p.2:=by
 intro p hp
 rcases List.mem_cons.1 hp with rfl|hp
 ·exact ⟨C5,30,asK,h1⟩
 ·cases hp
def ato:List (Nat × Con):=
 (39,.tree (o9 Tryz.prog [(mRd,gN0),(mRf,gN1)]))::(44,.tree (o9 Tryz.prog [(mRd,gU0),(mRf,gU1)]))::(40,.tree (o9 Tryz.prog [(mRd,gE0),(mRf,gE1)])) ::
 (45,.tree (o9 Tryz.prog [(mRd,gL0),(mRf,gL1)]))::(42,.tree (o9 Tryz.prog [(mRr,gRN)]))::(46,.tree (o9 Tryz.prog [(mRr,gRU)]))::(43,.tree (o9 Tryz.prog [(mRr,gRE)]))::axE
def C7:Cfg:={ CB with ext:=fQ [],insert:=fQ ato }
theorem agT:eu Tryz.prog C7 ato:=
 eu.o9 (adK axg awl) (eu.o9 (adK axe awq) (eu.o9 (adK avy avh) (eu.o9 (adK av7 aw7) (eu.o9 (aia avb) (eu.o9 (aia awE) (eu.o9 (aia avR) (eu.to apa rfl)))))))
theorem Qo:eX C7 Tryz.prog:=Ba (ext:=fQ []) (ins:=fQ ato) rfl (fun f t h=>agT f t h) (fun f e h=>by cases h)
end
end Go.Ax
namespace Go.Ax
open Go Go.Proofs
noncomputable section
def ayW (c:Int)(f:FuncId)(args:List Value):List Int:=
 sel (qal f 39||qal f 42) (jB args [] fun _ l=>jB l [] fun a l=>jB l [] fun b _=>match a with
  |.int _ x=>match b with
   |.int _ y=>sel (eqI x 1&&eqI y 10) [c,0] []
   |_=>[]
  |_=>[]) []
def KPk (c:Int):KP:={ L:=12,B:=some true,post:=ayW c }
abbrev tAn:TypeId:=27
abbrev tW:TypeId:=45
def kG:List (Nat × Bool × Bool):=[(64,false,true),(65,false,true),(67,true,false),(68,false,true),(69,false,true)]
def kF:List (Nat × Bool × Bool):=[(64,false,true),(65,false,true),(67,true,false),(68,false,true)]
def sG0:bM:={ N:=70,need:=[2,3,4,5,16,17],low:=[],keep:=kG,new:=[] }
def sG1:bM:={ N:=70,need:=[2,3,4,5,16,17],low:=[],keep:=kG,new:=[⟨.old 69 1,true,false⟩] }
def eG0:bM:={ N:=70,need:=[2,3,4,5],low:=[],keep:=kG,new:=[] }
def eG1:bM:={ N:=70,need:=[2,3,4,5],low:=[],keep:=kG,new:=[⟨.old 69 1,true,false⟩] }
def eGF:bM:={ N:=70,need:=[2,3,4],low:=[],keep:=kF,new:=[⟨.old 68 3,false,true⟩] }
def eRF:bM:={ N:=70,need:=[2,3,4],low:=[],keep:=kF,new:=[] }
def tG0:bM:={ N:=70,need:=[2,3,4,5,6,7],low:=[],keep:=kG,new:=[] }
def tG1:bM:={ N:=70,need:=[2,3,4,5,6,7],low:=[],keep:=kG,new:=[⟨.old 69 1,true,false⟩] }
def pt (b:Nat):Value:=.pointer (some ⟨b,0,none⟩)
def ah9 (X:List Value)(n to:Nat)(q:Value)(a:List Value):List (Nat × Row):=
 [(64,.row [.int .i64 0,.slice none 0 0] tAn 0),(65,.row [.int .i64 0,.int .i64 0] tFa 0),(67,.row X tB 67),(68,.row [.slice (some ⟨67,0,none⟩) n aC,iN to,.bool true,q] tRd 0)]
def akN (X:List Value)(n to:Nat)(e:Nat)(a:Int):List (Nat × Row):=
 [(64,.row [.int .i64 0,.slice none 0 0] tAn 0),(65,.row [.int .i64 0,.int .i64 0] tFa 0),(67,.row X tB 67),(68,.row [.slice (some ⟨67,0,none⟩) n aC,iN to,iN e,.int .i64 a] tRr 0)]
def aos (e0:Int):List (Nat × Row):=[(69,.row [.int .i64 e0,.slice none 0 0] tAn 0)]
def alG (e0:Int)(L:List Value)(k:Nat):List (Nat × Row):=[(69,.row [.int .i64 e0,.slice (some ⟨70,0,none⟩) k aC] tAn 0),(70,.row L tW 70)]
def hG0 (X:List Value)(n to:Nat)(e0:Int)(c i:Nat):bg:=⟨[pt 64,pt 65,pt 68,pt 69,iN c,iN i],aK (ah9 X n to (.pointer none) []) (aos e0)⟩
def hG1 (X:List Value)(n to:Nat)(e0:Int)(L:List Value)(k:Nat)(c i:Nat):bg:=⟨[pt 64,pt 65,pt 68,pt 69,iN c,iN i],aK (ah9 X n to (.pointer none) []) (alG e0 L k)⟩
def jG0 (X:List Value)(n to:Nat)(e:Nat)(a e0:Int)(c i:Nat):bg:=⟨[pt 64,pt 65,pt 68,pt 69,iN c,iN i],aK (akN X n to e a) (aos e0)⟩
def jG1 (X:List Value)(n to:Nat)(e:Nat)(a e0:Int)(L:List Value)(k:Nat)(c i:Nat):bg:=⟨[pt 64,pt 65,pt 68,pt 69,iN c,iN i],aK (akN X n to e a) (alG e0 L k)⟩
def mV (X:List Value)(to:Nat):=(Fn.rF X 0 18446744073709551615 to).beq 0
def pW (X:List Value)(to:Nat):=Fn.rP X 0 18446744073709551615 to
def x9 (X:List Value)(n to:Nat):=Fn.okR X n (pW X to)
def xW (X:List Value)(n to:Nat):=eqI (qaa (n.sub (pW X to))) 0
def yu (X:List Value)(n to:Nat):=ltN (pW X to) n
def iL:Nat × Row:=(64,.row [.int .i64 0,.slice none 0 0] 27 0)
def iI:Nat × Row:=(65,.row [.int .i64 0,.int .i64 0] 38 0)
def tu (X:List Value)(to:Nat):=qaa (pW X to)
def xI (X:List Value)(n to:Nat):Nat × Row:=(68,.row [.slice (some ⟨67,0,none⟩) n 18446744073709551616,.int .i64 (tu X to),.bool true,.pointer none] 153 0)
def Di (e0:Int):Nat × Row:=(69,.row [.int .i64 e0,.slice (some ⟨70,0,none⟩) 1 18446744073709551616] 27 0)
def fZ (X:List Value)(to:Nat):=qaa (Fn.rN X 0 18446744073709551615 to)
def yL (X:List Value)(to:Nat):Nat × Row:=(70,.row [.int .u64 (fZ X to)] 45 70)
def EH (X:List Value)(c:Nat)(e0:Int)(n to:Nat):Option (Ex × bg):=some (.normal,{ vals:=[.pointer (some ⟨64,0,none⟩),.pointer (some ⟨65,0,none⟩),.pointer (some ⟨68,0,none⟩),.pointer (some ⟨69,0,none⟩),.int .i64 (qaa c.succ),.int .i64 (qaa 1)],rows:=[iL,iI,(67,.row X 5 67),(xI X n to),(Di e0),(yL X to)] })
def qw (X:List Value)(to:Nat):=qaa (Fn.rG X 0 18446744073709551615 to).succ
def EI (X:List Value)(n to:Nat):Option (Ex × bg):=some (.exit 0,{ vals:=[.pointer (some ⟨64,0,none⟩),.pointer (some ⟨65,0,none⟩),.pointer (some ⟨68,0,none⟩)],rows:=[iL,iI,(67,.row X 5 67),(68,.row [.slice (some ⟨67,0,none⟩) n 18446744073709551616,.int .i64 (qaa to),.bool true,.pointer (some ⟨70,0,none⟩)] 153 0),(70,.row [.int .i64 (qw X to),.int .i64 (qaa to)] 38 0)] })
theorem avk (X:List Value)(n to c:Nat)(e0:Int):jO KM.plain C7 (runK KM C7 20).1 (runK KM C7 20).2 (C7.vars 16) 16 false (fU C7 16 5) (gJ Tryz.prog (C7.vars 16) sG1 eGF) (CX sG0.need (hG0 X n to e0 (qaf c) 0)) (lQ sG0.next (hG0 X n to e0 (qaf c) 0))=sel (Fn.okR X n to) (sel (mV X to) (sel (x9 X n to) (sel (xW X n to) (sel (Fn.okX X) (sel (yu X n to) none (sel (List.rec true (fun v x ih=>sel (aX sG1.N v) ih false) X) (EH X c e0 n to) none)) none) (sel (List.rec true (fun v x ih=>sel (aX sG1.N v) ih false) X) (EH X c e0 n to) none)) none) (sel (Fn.okX X) (sel (Fn.okX X) (sel (List.rec true (fun v x ih=>sel (aX eGF.N v) ih false) X) (EI X n to) none) none) none)) none:=by kernel_rfl
theorem aAe (X:List Value)(n to c:Nat)(e0:Int):jO KM.plain C7 (runK KM C7 20).1 (runK KM C7 20).2 (C7.vars 16) 16 false (fU C7 16 5) (gJ Tryz.prog (C7.vars 16) sG1 eG1) (CX sG0.need (hG0 X n to e0 (qaf c) 0)) (lQ sG0.next (hG0 X n to e0 (qaf c) 0))=sel (Fn.okR X n to) (sel (mV X to) (sel (x9 X n to) (sel (xW X n to) (sel (Fn.okX X) (sel (yu X n to) (sel (List.rec true (fun v x ih=>sel (aX eG1.N v) ih false) X) (some (.exit 0,{ vals:=[.pointer (some ⟨64,0,none⟩),.pointer (some ⟨65,0,none⟩),.pointer (some ⟨68,0,none⟩),.pointer (some ⟨69,0,none⟩)],rows:=[iL,iI,(67,.row X 5 67),(xI X n to),(Di e0),(yL X to)] })) none) (sel (List.rec true (fun v x ih=>sel (aX sG1.N v) ih false) X) (EH X c e0 n to) none)) none) (sel (List.rec true (fun v x ih=>sel (aX sG1.N v) ih false) X) (EH X c e0 n to) none)) none) (sel (Fn.okX X) (sel (Fn.okX X) (sel (List.rec true (fun v x ih=>sel (aX eG1.N v) ih false) X) none none) none) none)) none:=by kernel_rfl
def PK (n to:Nat):Nat × Row:=(68,.row [.slice (some ⟨67,0,none⟩) n 18446744073709551616,.int .i64 (qaa to),.bool true,.pointer none] 153 0)
def UJ (e0:Int):Nat × Row:=(69,.row [.int .i64 e0,.slice none 0 0] 27 0)
theorem ayR (X:List Value)(n to c:Nat)(e0:Int):jO KM.plain C7 (runK KM C7 20).1 (runK KM C7 20).2 (C7.vars 16) 16 false (fU C7 16 5) (gJ Tryz.prog (C7.vars 16) sG1 eG0) (CX sG0.need (hG0 X n to e0 0 0)) (lQ sG0.next (hG0 X n to e0 0 0))=sel (List.rec true (fun v x ih=>sel (aX eG0.N v) ih false) X) (some (.exit 0,{ vals:=[.pointer (some ⟨64,0,none⟩),.pointer (some ⟨65,0,none⟩),.pointer (some ⟨68,0,none⟩),.pointer (some ⟨69,0,none⟩)],rows:=[iL,iI,(67,.row X 5 67),(PK n to),(UJ e0)] })) none:=by kernel_rfl
def l7 (k:Nat):=sel (false||true&&(true&&k.beq k&&true)) true false&&true
def l9 (L:List Value)(k:Nat):=(k.add 1).ble 18446744073709551616&&((qag 0 (k.mul 1)).add 1).ble (aQ L)
def lX (L:List Value)(k:Nat):=((qag 0 (k.mul 1)).add 1).ble (aQ L)
def jc (i:Nat):=(i.add 1).ble 9223372036854775807
def mD (e0:Int)(k:Nat):Nat × Row:=(69,.row [.int .i64 e0,.slice (some ⟨70,0,none⟩) (k.add 1) 18446744073709551616] 27 0)
def vC (L X:List Value)(k to:Nat):Nat × Row:=(70,.row (zi [.int .u64 (fZ X to)] (qag 0 (k.mul 1)) L) 45 70)
def Au (L X:List Value)(c:Nat)(e0:Int)(i k n to:Nat):Option (Ex × bg):=some (.normal,{ vals:=[.pointer (some ⟨64,0,none⟩),.pointer (some ⟨65,0,none⟩),.pointer (some ⟨68,0,none⟩),.pointer (some ⟨69,0,none⟩),.int .i64 (qaa c),.int .i64 (qaa (i.add 1))],rows:=[iL,iI,(67,.row X 5 67),(xI X n to),(mD e0 k),(vC L X k to)] })
def lT (k:Nat):=(k.add 1).ble 281474976710656&&(((qaL 2 (k.add 1)).add 768).mul 8).ble 281474976710656&&true&&true
def lY (L:List Value)(k:Nat):=(qag 0 (k.mul 1)).beq (aQ L)&&true&&true
def vg (L X:List Value)(k to:Nat):Nat × Row:=(70,.row (aK (aA (k.mul 1) L) [.int .u64 (fZ X to)]) 45 70)
def Ad (L X:List Value)(c:Nat)(e0:Int)(i k n to:Nat):Option (Ex × bg):=some (.normal,{ vals:=[.pointer (some ⟨64,0,none⟩),.pointer (some ⟨65,0,none⟩),.pointer (some ⟨68,0,none⟩),.pointer (some ⟨69,0,none⟩),.int .i64 (qaa c),.int .i64 (qaa (i.add 1))],rows:=[iL,iI,(67,.row X 5 67),(xI X n to),(mD e0 k),(vg L X k to)] })
theorem avP (X L:List Value)(n to k c i:Nat)(e0:Int):jO KM.plain C7 (runK KM C7 20).1 (runK KM C7 20).2 (C7.vars 16) 16 false (fU C7 16 5) (gJ Tryz.prog (C7.vars 16) sG1 eGF) (CX sG1.need (hG1 X n to e0 L k c i)) (lQ sG1.next (hG1 X n to e0 L k c i))=sel (ltI (qaa i) (qaa c)) (sel (Fn.okR X n to) (sel (mV X to) (sel (l7 k) (sel (l9 L k) (sel (lX L k) (sel (x9 X n to) (sel (xW X n to) (sel (Fn.okX X) (sel (yu X n to) none (sel (jc i) (sel (List.rec true (fun v x ih=>sel (aX sG1.N v) ih false) X) (sel (List.rec true (fun v x ih=>sel (aX sG1.N v) ih false) (zi [.int .u64 (fZ X to)] (qag 0 (k.mul 1)) L)) (Au L X c e0 i k n to) none) none) none)) none) (sel (jc i) (sel (List.rec true (fun v x ih=>sel (aX sG1.N v) ih false) X) (sel (List.rec true (fun v x ih=>sel (aX sG1.N v) ih false) (zi [.int .u64 (fZ X to)] (qag 0 (k.mul 1)) L)) (Au L X c e0 i k n to) none) none) none)) none) none) (sel (lT k) (sel ((k.mul 1).ble (aQ L)) (sel (lY L k) (sel (x9 X n to) (sel (xW X n to) (sel (Fn.okX X) (sel (yu X n to) none (sel (jc i) (sel (List.rec true (fun v x ih=>sel (aX sG1.N v) ih false) X) (sel (List.rec true (fun v x ih=>sel (aX sG1.N v) ih false) (aK (aA (k.mul 1) L) [.int .u64 (fZ X to)])) (Ad L X c e0 i k n to) none) none) none)) none) (sel (jc i) (sel (List.rec true (fun v x ih=>sel (aX sG1.N v) ih false) X) (sel (List.rec true (fun v x ih=>sel (aX sG1.N v) ih false) (aK (aA (k.mul 1) L) [.int .u64 (fZ X to)])) (Ad L X c e0 i k n to) none) none) none)) none) none) none) none)) none) (sel (l7 k) (sel (l9 L k) (sel (lX L k) (sel (Fn.okX X) (sel (Fn.okX X) (sel (List.rec true (fun v x ih=>sel (aX eGF.N v) ih false) X) (EI X n to) none) none) none) none) (sel (lT k) (sel ((k.mul 1).ble (aQ L)) (sel (lY L k) (sel (Fn.okX X) (sel (Fn.okX X) (sel (List.rec true (fun v x ih=>sel (aX eGF.N v) ih false) X) (EI X n to) none) none) none) none) none) none)) none)) none) none:=by kernel_rfl
def Ip (e0:Int)(k:Nat):Nat × Row:=(69,.row [.int .i64 e0,.slice (some ⟨70,0,none⟩) k 18446744073709551616] 27 0)
theorem atP (X L:List Value)(n to k c i:Nat)(e0:Int):jO KM.plain C7 (runK KM C7 20).1 (runK KM C7 20).2 (C7.vars 16) 16 false (fU C7 16 5) (gJ Tryz.prog (C7.vars 16) sG1 eG1) (CX sG1.need (hG1 X n to e0 L k c i)) (lQ sG1.next (hG1 X n to e0 L k c i))=sel (ltI (qaa i) (qaa c)) (sel (Fn.okR X n to) (sel (mV X to) (sel (l7 k) (sel (l9 L k) (sel (lX L k) (sel (x9 X n to) (sel (xW X n to) (sel (Fn.okX X) (sel (yu X n to) (sel (List.rec true (fun v x ih=>sel (aX eG1.N v) ih false) X) (sel (List.rec true (fun v x ih=>sel (aX eG1.N v) ih false) (zi [.int .u64 (fZ X to)] (qag 0 (k.mul 1)) L)) (some (.exit 0,{ vals:=[.pointer (some ⟨64,0,none⟩),.pointer (some ⟨65,0,none⟩),.pointer (some ⟨68,0,none⟩),.pointer (some ⟨69,0,none⟩)],rows:=[iL,iI,(67,.row X 5 67),(xI X n to),(mD e0 k),(vC L X k to)] })) none) none) (sel (jc i) (sel (List.rec true (fun v x ih=>sel (aX sG1.N v) ih false) X) (sel (List.rec true (fun v x ih=>sel (aX sG1.N v) ih false) (zi [.int .u64 (fZ X to)] (qag 0 (k.mul 1)) L)) (Au L X c e0 i k n to) none) none) none)) none) (sel (jc i) (sel (List.rec true (fun v x ih=>sel (aX sG1.N v) ih false) X) (sel (List.rec true (fun v x ih=>sel (aX sG1.N v) ih false) (zi [.int .u64 (fZ X to)] (qag 0 (k.mul 1)) L)) (Au L X c e0 i k n to) none) none) none)) none) none) (sel (lT k) (sel ((k.mul 1).ble (aQ L)) (sel (lY L k) (sel (x9 X n to) (sel (xW X n to) (sel (Fn.okX X) (sel (yu X n to) (sel (List.rec true (fun v x ih=>sel (aX eG1.N v) ih false) X) (sel (List.rec true (fun v x ih=>sel (aX eG1.N v) ih false) (aK (aA (k.mul 1) L) [.int .u64 (fZ X to)])) (some (.exit 0,{ vals:=[.pointer (some ⟨64,0,none⟩),.pointer (some ⟨65,0,none⟩),.pointer (some ⟨68,0,none⟩),.pointer (some ⟨69,0,none⟩)],rows:=[iL,iI,(67,.row X 5 67),(xI X n to),(mD e0 k),(vg L X k to)] })) none) none) (sel (jc i) (sel (List.rec true (fun v x ih=>sel (aX sG1.N v) ih false) X) (sel (List.rec true (fun v x ih=>sel (aX sG1.N v) ih false) (aK (aA (k.mul 1) L) [.int .u64 (fZ X to)])) (Ad L X c e0 i k n to) none) none) none)) none) (sel (jc i) (sel (List.rec true (fun v x ih=>sel (aX sG1.N v) ih false) X) (sel (List.rec true (fun v x ih=>sel (aX sG1.N v) ih false) (aK (aA (k.mul 1) L) [.int .u64 (fZ X to)])) (Ad L X c e0 i k n to) none) none) none)) none) none) none) none)) none) (sel (l7 k) (sel (l9 L k) (sel (lX L k) (sel (Fn.okX X) (sel (Fn.okX X) (sel (List.rec true (fun v x ih=>sel (aX eG1.N v) ih false) X) none none) none) none) none) (sel (lT k) (sel ((k.mul 1).ble (aQ L)) (sel (lY L k) (sel (Fn.okX X) (sel (Fn.okX X) (sel (List.rec true (fun v x ih=>sel (aX eG1.N v) ih false) X) none none) none) none) none) none) none)) none)) none) (sel (List.rec true (fun v x ih=>sel (aX eG1.N v) ih false) X) (sel (List.rec true (fun v x ih=>sel (aX eG1.N v) ih false) L) (some (.exit 0,{ vals:=[.pointer (some ⟨64,0,none⟩),.pointer (some ⟨65,0,none⟩),.pointer (some ⟨68,0,none⟩),.pointer (some ⟨69,0,none⟩)],rows:=[iL,iI,(67,.row X 5 67),(PK n to),(Ip e0 k),(70,.row L 45 70)] })) none) none):=by kernel_rfl
def xq (X:List Value)(a:Int)(n to:Nat):Nat × Row:=(68,.row [.slice (some ⟨67,0,none⟩) n 18446744073709551616,.int .i64 (tu X to),.int .i64 0,.int .i64 a] 108 0)
def Vp (X:List Value)(a:Int)(c:Nat)(e0:Int)(n to:Nat):Option (Ex × bg):=some (.normal,{ vals:=[.pointer (some ⟨64,0,none⟩),.pointer (some ⟨65,0,none⟩),.pointer (some ⟨68,0,none⟩),.pointer (some ⟨69,0,none⟩),.int .i64 (qaa c.succ),.int .i64 (qaa 1)],rows:=[iL,iI,(67,.row X 5 67),(xq X a n to),(Di e0),(yL X to)] })
def wM (X:List Value)(n to:Nat):Nat × Row:=(68,.row [.slice (some ⟨67,0,none⟩) n 18446744073709551616,.int .i64 (qaa (Fn.rT X 0 18446744073709551615 to)),.int .i64 (qw X to),.int .i64 (qaa to)] 108 0)
def V4 (X:List Value)(c:Nat)(e0:Int)(n to:Nat):Option (Ex × bg):=some (.normal,{ vals:=[.pointer (some ⟨64,0,none⟩),.pointer (some ⟨65,0,none⟩),.pointer (some ⟨68,0,none⟩),.pointer (some ⟨69,0,none⟩),.int .i64 (qaa c.succ),.int .i64 (qaa 1)],rows:=[iL,iI,(67,.row X 5 67),(wM X n to),(Di e0),(70,.row [.int .u64 (qaa 0)] 45 70)] })
def MC (X:List Value)(n to c:Nat)(a e0:Int):Option (Ex × bg):=sel (Fn.okR X n to) (sel (mV X to) (sel (List.rec true (fun v x ih=>sel (aX tG1.N v) ih false) X) (Vp X a c e0 n to) none) (sel (List.rec true (fun v x ih=>sel (aX tG1.N v) ih false) X) (V4 X c e0 n to) none)) none
theorem avr (X:List Value)(n to c:Nat)(a e0:Int):jO KM.plain C7 (runK KM C7 20).1 (runK KM C7 20).2 (C7.vars 17) 17 false (fU C7 17 6) (gJ Tryz.prog (C7.vars 17) tG1 eRF) (CX tG0.need (jG0 X n to 0 a e0 (qaf c) 0)) (lQ tG0.next (jG0 X n to 0 a e0 (qaf c) 0))=MC X n to c a e0:=by kernel_rfl
theorem ax1 (X:List Value)(n to c:Nat)(a e0:Int):jO KM.plain C7 (runK KM C7 20).1 (runK KM C7 20).2 (C7.vars 17) 17 false (fU C7 17 6) (gJ Tryz.prog (C7.vars 17) tG1 eG1) (CX tG0.need (jG0 X n to 0 a e0 (qaf c) 0)) (lQ tG0.next (jG0 X n to 0 a e0 (qaf c) 0))=MC X n to c a e0:=by kernel_rfl
def Bj (a:Int)(n to:Nat):Nat × Row:=(68,.row [.slice (some ⟨67,0,none⟩) n 18446744073709551616,.int .i64 (qaa to),.int .i64 (qaa 0),.int .i64 a] 108 0)
theorem ay4 (X:List Value)(n to c:Nat)(a e0:Int):jO KM.plain C7 (runK KM C7 20).1 (runK KM C7 20).2 (C7.vars 17) 17 false (fU C7 17 6) (gJ Tryz.prog (C7.vars 17) tG1 eG0) (CX tG0.need (jG0 X n to 0 a e0 0 0)) (lQ tG0.next (jG0 X n to 0 a e0 0 0))=sel (List.rec true (fun v x ih=>sel (aX eG0.N v) ih false) X) (some (.exit 0,{ vals:=[.pointer (some ⟨64,0,none⟩),.pointer (some ⟨65,0,none⟩),.pointer (some ⟨68,0,none⟩),.pointer (some ⟨69,0,none⟩)],rows:=[iL,iI,(67,.row X 5 67),(Bj a n to),(UJ e0)] })) none:=by kernel_rfl
def G6 (X:List Value)(a:Int)(e n to:Nat):Option (Ex × bg):=some (.exit 0,{ vals:=[.pointer (some ⟨64,0,none⟩),.pointer (some ⟨65,0,none⟩),.pointer (some ⟨68,0,none⟩)],rows:=[iL,iI,(67,.row X 5 67),(68,.row [.slice (some ⟨67,0,none⟩) n 18446744073709551616,.int .i64 (qaa to),.int .i64 (qaa e.succ),.int .i64 a] 108 0)] })
theorem ayP (X:List Value)(n to e c i:Nat)(a e0:Int):jO KM.plain C7 (runK KM C7 20).1 (runK KM C7 20).2 (C7.vars 17) 17 false (fU C7 17 6) (gJ Tryz.prog (C7.vars 17) tG1 eRF) (CX tG0.need (jG0 X n to (qaf e) a e0 c i)) (lQ tG0.next (jG0 X n to (qaf e) a e0 c i))=sel (ltI (qaa i) (qaa c)) (sel (List.rec true (fun v x ih=>sel (aX eRF.N v) ih false) X) (G6 X a e n to) none) (sel (List.rec true (fun v x ih=>sel (aX eRF.N v) ih false) X) (G6 X a e n to) none):=by kernel_rfl
def IQ (L X:List Value)(a:Int)(c:Nat)(e0:Int)(i k n to:Nat):Option (Ex × bg):=some (.normal,{ vals:=[.pointer (some ⟨64,0,none⟩),.pointer (some ⟨65,0,none⟩),.pointer (some ⟨68,0,none⟩),.pointer (some ⟨69,0,none⟩),.int .i64 (qaa c),.int .i64 (qaa (i.add 1))],rows:=[iL,iI,(67,.row X 5 67),(xq X a n to),(mD e0 k),(vC L X k to)] })
def Ic (L X:List Value)(a:Int)(c:Nat)(e0:Int)(i k n to:Nat):Option (Ex × bg):=some (.normal,{ vals:=[.pointer (some ⟨64,0,none⟩),.pointer (some ⟨65,0,none⟩),.pointer (some ⟨68,0,none⟩),.pointer (some ⟨69,0,none⟩),.int .i64 (qaa c),.int .i64 (qaa (i.add 1))],rows:=[iL,iI,(67,.row X 5 67),(xq X a n to),(mD e0 k),(vg L X k to)] })
def IB (L X:List Value)(c:Nat)(e0:Int)(i k n to:Nat):Option (Ex × bg):=some (.normal,{ vals:=[.pointer (some ⟨64,0,none⟩),.pointer (some ⟨65,0,none⟩),.pointer (some ⟨68,0,none⟩),.pointer (some ⟨69,0,none⟩),.int .i64 (qaa c),.int .i64 (qaa (i.add 1))],rows:=[iL,iI,(67,.row X 5 67),(wM X n to),(mD e0 k),(70,.row (zi [.int .u64 (qaa 0)] (qag 0 (k.mul 1)) L) 45 70)] })
def Hl (L X:List Value)(c:Nat)(e0:Int)(i k n to:Nat):Option (Ex × bg):=some (.normal,{ vals:=[.pointer (some ⟨64,0,none⟩),.pointer (some ⟨65,0,none⟩),.pointer (some ⟨68,0,none⟩),.pointer (some ⟨69,0,none⟩),.int .i64 (qaa c),.int .i64 (qaa (i.add 1))],rows:=[iL,iI,(67,.row X 5 67),(wM X n to),(mD e0 k),(70,.row (aK (aA (k.mul 1) L) [.int .u64 (qaa 0)]) 45 70)] })
theorem awd (X L:List Value)(n to k c i:Nat)(a e0:Int):jO KM.plain C7 (runK KM C7 20).1 (runK KM C7 20).2 (C7.vars 17) 17 false (fU C7 17 6) (gJ Tryz.prog (C7.vars 17) tG1 eRF) (CX tG1.need (jG1 X n to 0 a e0 L k c i)) (lQ tG1.next (jG1 X n to 0 a e0 L k c i))=sel (ltI (qaa i) (qaa c)) (sel (Fn.okR X n to) (sel (mV X to) (sel (l7 k) (sel (l9 L k) (sel (lX L k) (sel (jc i) (sel (List.rec true (fun v x ih=>sel (aX tG1.N v) ih false) X) (sel (List.rec true (fun v x ih=>sel (aX tG1.N v) ih false) (zi [.int .u64 (fZ X to)] (qag 0 (k.mul 1)) L)) (IQ L X a c e0 i k n to) none) none) none) none) (sel (lT k) (sel ((k.mul 1).ble (aQ L)) (sel (lY L k) (sel (jc i) (sel (List.rec true (fun v x ih=>sel (aX tG1.N v) ih false) X) (sel (List.rec true (fun v x ih=>sel (aX tG1.N v) ih false) (aK (aA (k.mul 1) L) [.int .u64 (fZ X to)])) (Ic L X a c e0 i k n to) none) none) none) none) none) none)) none) (sel (l7 k) (sel (l9 L k) (sel (lX L k) (sel (jc i) (sel (List.rec true (fun v x ih=>sel (aX tG1.N v) ih false) X) (sel (List.rec true (fun v x ih=>sel (aX tG1.N v) ih false) (zi [.int .u64 (qaa 0)] (qag 0 (k.mul 1)) L)) (IB L X c e0 i k n to) none) none) none) none) (sel (lT k) (sel ((k.mul 1).ble (aQ L)) (sel (lY L k) (sel (jc i) (sel (List.rec true (fun v x ih=>sel (aX tG1.N v) ih false) X) (sel (List.rec true (fun v x ih=>sel (aX tG1.N v) ih false) (aK (aA (k.mul 1) L) [.int .u64 (qaa 0)])) (Hl L X c e0 i k n to) none) none) none) none) none) none)) none)) none) (sel (List.rec true (fun v x ih=>sel (aX eRF.N v) ih false) X) (some (.exit 0,{ vals:=[.pointer (some ⟨64,0,none⟩),.pointer (some ⟨65,0,none⟩),.pointer (some ⟨68,0,none⟩)],rows:=[iL,iI,(67,.row X 5 67),(Bj a n to)] })) none):=by kernel_rfl
theorem atA (X L:List Value)(n to k c i:Nat)(a e0:Int):jO KM.plain C7 (runK KM C7 20).1 (runK KM C7 20).2 (C7.vars 17) 17 false (fU C7 17 6) (gJ Tryz.prog (C7.vars 17) tG1 eG1) (CX tG1.need (jG1 X n to 0 a e0 L k c i)) (lQ tG1.next (jG1 X n to 0 a e0 L k c i))=sel (ltI (qaa i) (qaa c)) (sel (Fn.okR X n to) (sel (mV X to) (sel (l7 k) (sel (l9 L k) (sel (lX L k) (sel (jc i) (sel (List.rec true (fun v x ih=>sel (aX tG1.N v) ih false) X) (sel (List.rec true (fun v x ih=>sel (aX tG1.N v) ih false) (zi [.int .u64 (fZ X to)] (qag 0 (k.mul 1)) L)) (IQ L X a c e0 i k n to) none) none) none) none) (sel (lT k) (sel ((k.mul 1).ble (aQ L)) (sel (lY L k) (sel (jc i) (sel (List.rec true (fun v x ih=>sel (aX tG1.N v) ih false) X) (sel (List.rec true (fun v x ih=>sel (aX tG1.N v) ih false) (aK (aA (k.mul 1) L) [.int .u64 (fZ X to)])) (Ic L X a c e0 i k n to) none) none) none) none) none) none)) none) (sel (l7 k) (sel (l9 L k) (sel (lX L k) (sel (jc i) (sel (List.rec true (fun v x ih=>sel (aX tG1.N v) ih false) X) (sel (List.rec true (fun v x ih=>sel (aX tG1.N v) ih false) (zi [.int .u64 (qaa 0)] (qag 0 (k.mul 1)) L)) (IB L X c e0 i k n to) none) none) none) none) (sel (lT k) (sel ((k.mul 1).ble (aQ L)) (sel (lY L k) (sel (jc i) (sel (List.rec true (fun v x ih=>sel (aX tG1.N v) ih false) X) (sel (List.rec true (fun v x ih=>sel (aX tG1.N v) ih false) (aK (aA (k.mul 1) L) [.int .u64 (qaa 0)])) (Hl L X c e0 i k n to) none) none) none) none) none) none)) none)) none) (sel (List.rec true (fun v x ih=>sel (aX eG1.N v) ih false) X) (sel (List.rec true (fun v x ih=>sel (aX eG1.N v) ih false) L) (some (.exit 0,{ vals:=[.pointer (some ⟨64,0,none⟩),.pointer (some ⟨65,0,none⟩),.pointer (some ⟨68,0,none⟩),.pointer (some ⟨69,0,none⟩)],rows:=[iL,iI,(67,.row X 5 67),(Bj a n to),(Ip e0 k),(70,.row L 45 70)] })) none) none):=by kernel_rfl
theorem aze (X L:List Value)(n to k c i e:Nat)(a e0:Int):jO KM.plain C7 (runK KM C7 20).1 (runK KM C7 20).2 (C7.vars 17) 17 false (fU C7 17 6) (gJ Tryz.prog (C7.vars 17) tG1 eRF) (CX tG1.need (jG1 X n to (qaf e) a e0 L k c i)) (lQ tG1.next (jG1 X n to (qaf e) a e0 L k c i))=sel (ltI (qaa i) (qaa c)) (sel (List.rec true (fun v x ih=>sel (aX eRF.N v) ih false) X) (G6 X a e n to) none) (sel (List.rec true (fun v x ih=>sel (aX eRF.N v) ih false) X) (G6 X a e n to) none):=by kernel_rfl
def gU (m:Nat):=(qag 0 m.succ).ble 281474976710656&&(((qaL 2 (qag 0 m.succ)).add 768).mul 1).ble 281474976710656&&true&&true
def iP:Value:=.int .i64 (qaa 4)
def zC (X:List Value)(m:Nat):Option cO:=sel (sel (false||true&&sel (true&&eqI (qaa (Fn.rP (aK [] (aA (m.succ.mul 1) X)) 0 63 (Fn.rP (aK [] (aA (m.succ.mul 1) X)) 1 10 0))) (qaa (Fn.rP (aK [] (aA (m.succ.mul 1) X)) 0 63 (Fn.rP (aK [] (aA (m.succ.mul 1) X)) 1 10 0)))) true false) true false&&true) (some { val:=[.agg [.flat (.int .i64 0),.flat (.int .i64 0),.flat (.int .i64 0),.flat (.int .i64 0),.flat (.int .i64 0)],.agg [.flat iP,.flat (.int .i64 (qaa (Fn.rP (aK [] (aA (m.succ.mul 1) X)) 0 63 (Fn.rP (aK [] (aA (m.succ.mul 1) X)) 1 10 0))))]],rows:=[] }) none
def zA (X:List Value)(m:Nat):Value:=.int .i64 (qaa (Fn.rN (aK [] (aA (m.succ.mul 1) X)) 0 63 (Fn.rP (aK [] (aA (m.succ.mul 1) X)) 1 10 0)))
def dD:Value:=.int .i64 (qaa 0)
def iW (X:List Value)(m:Nat):Value:=.int .i64 (qaa (Fn.rP (aK [] (aA (m.succ.mul 1) X)) 1 10 0))
def zB (X:List Value)(m:Nat):Option cO:=sel (Fn.okX (aK [] (aA (m.succ.mul 1) X))) (sel (sel (false||true&&sel (true&&eqI (qaa (Fn.rG (aK [] (aA (m.succ.mul 1) X)) 0 63 (Fn.rP (aK [] (aA (m.succ.mul 1) X)) 1 10 0)).succ) (qaa (Fn.rG (aK [] (aA (m.succ.mul 1) X)) 0 63 (Fn.rP (aK [] (aA (m.succ.mul 1) X)) 1 10 0)).succ)) (sel (true&&eqI (qaa (Fn.rP (aK [] (aA (m.succ.mul 1) X)) 1 10 0)) (qaa (Fn.rP (aK [] (aA (m.succ.mul 1) X)) 1 10 0))) true false) false) true false&&true) (some { val:=[.agg [.flat (.int .i64 0),.flat (.int .i64 0),.flat (.int .i64 0),.flat (.int .i64 0),.flat (.int .i64 0)],.agg [.flat (.int .i64 (qaa (Fn.rG (aK [] (aA (m.succ.mul 1) X)) 0 63 (Fn.rP (aK [] (aA (m.succ.mul 1) X)) 1 10 0)).succ)),.flat (iW X m)]],rows:=[] }) none) none
def iV (X:List Value)(m:Nat):Option cO:=sel (sel (false||true&&sel (true&&eqI (qaa (Fn.rP (aK [] (aA (m.succ.mul 1) X)) 1 10 0)) (qaa (Fn.rP (aK [] (aA (m.succ.mul 1) X)) 1 10 0))) true false) true false&&true) (some { val:=[.agg [.flat (.int .i64 0),.flat (.int .i64 0),.flat (.int .i64 0),.flat (.int .i64 0),.flat (.int .i64 0)],.agg [.flat iP,.flat (iW X m)]],rows:=[] }) none
def gV (X:List Value)(m:Nat):Option cO:=sel (eqI (qaa (Fn.rN (aK [] (aA (m.succ.mul 1) X)) 1 10 0)) 0) (sel (Fn.okX (aK [] (aA (m.succ.mul 1) X))) (sel (ltN (Fn.rP (aK [] (aA (m.succ.mul 1) X)) 1 10 0) (qag 0 m.succ)) (iV X m) (some { val:=[.agg [.flat dD,.flat dD,.flat dD,.flat dD,.flat dD],.agg [.flat (.int .i64 0),.flat (.int .i64 0)]],rows:=[] })) none) none
def gW (X:List Value)(m:Nat):Option cO:=sel (Fn.okX (aK [] (aA (m.succ.mul 1) X))) (sel (sel (false||true&&sel (true&&eqI (qaa (Fn.rG (aK [] (aA (m.succ.mul 1) X)) 1 10 0).succ) (qaa (Fn.rG (aK [] (aA (m.succ.mul 1) X)) 1 10 0).succ)) true false) true false&&true) (some { val:=[.agg [.flat (.int .i64 0),.flat (.int .i64 0),.flat (.int .i64 0),.flat (.int .i64 0),.flat (.int .i64 0)],.agg [.flat (.int .i64 (qaa (Fn.rG (aK [] (aA (m.succ.mul 1) X)) 1 10 0).succ)),.flat dD]],rows:=[] }) none) none
def Uu (X:List Value)(m:Nat):Option cO:=sel (gU m) (sel (Fn.okR (aK [] (aA (m.succ.mul 1) X)) (qag 0 m.succ) 0) (sel ((Fn.rF (aK [] (aA (m.succ.mul 1) X)) 1 10 0).beq 0) (sel (eqI (qaa (Fn.rN (aK [] (aA (m.succ.mul 1) X)) 1 10 0)) 1) (sel (Fn.okR (aK [] (aA (m.succ.mul 1) X)) (qag 0 m.succ) (Fn.rP (aK [] (aA (m.succ.mul 1) X)) 1 10 0)) (sel ((Fn.rF (aK [] (aA (m.succ.mul 1) X)) 0 63 (Fn.rP (aK [] (aA (m.succ.mul 1) X)) 1 10 0)).beq 0) (sel (Fn.okX (aK [] (aA (m.succ.mul 1) X))) (sel (ltN (Fn.rP (aK [] (aA (m.succ.mul 1) X)) 0 63 (Fn.rP (aK [] (aA (m.succ.mul 1) X)) 1 10 0)) (qag 0 m.succ)) (zC X m) (some { val:=[.agg [.flat (.int .i64 (qaa 1)),.flat (zA X m),.flat dD,.flat dD,.flat dD],.agg [.flat (.int .i64 0),.flat (.int .i64 0)]],rows:=[] })) none) (zB X m)) none) (gV X m)) (gW X m)) none) none
def Nj (X:List Value)(m:Nat):Option cO:=sel ((m.succ.mul 1).ble (aQ X)) (Uu X m) none
theorem aqG (X:List Value)(m:Nat):(runK (KPk 1) C7 40).1 14 [.slice (some ⟨32,0,none⟩) (qaf m) aC] (aH [.one (.sl X 5 (qaf m))]) (bP Tryz.prog)=Nj X m:=by kernel_rfl
theorem anJ (X:List Value)(m:Nat):type_of% (by have h_:=aqG X m;unfold Nj Uu gW gV iV zB iW dD zA zC iP gU at h_;exact h_):=aqG X m
def TV (X:List Value)(m:Nat):Option cO:=sel (gU m) (sel (Fn.okR (aK [] (aA (m.succ.mul 1) X)) (qag 0 m.succ) 0) (sel ((Fn.rF (aK [] (aA (m.succ.mul 1) X)) 1 10 0).beq 0) (sel (eqI (qaa (Fn.rN (aK [] (aA (m.succ.mul 1) X)) 1 10 0)) 2) (sel (Fn.okR (aK [] (aA (m.succ.mul 1) X)) (qag 0 m.succ) (Fn.rP (aK [] (aA (m.succ.mul 1) X)) 1 10 0)) (sel ((Fn.rF (aK [] (aA (m.succ.mul 1) X)) 0 63 (Fn.rP (aK [] (aA (m.succ.mul 1) X)) 1 10 0)).beq 0) (sel (Fn.okX (aK [] (aA (m.succ.mul 1) X))) (sel (ltN (Fn.rP (aK [] (aA (m.succ.mul 1) X)) 0 63 (Fn.rP (aK [] (aA (m.succ.mul 1) X)) 1 10 0)) (qag 0 m.succ)) (zC X m) (some { val:=[.agg [.flat (.int .i64 (qaa 2)),.flat (zA X m),.flat dD,.flat dD,.flat dD],.agg [.flat (.int .i64 0),.flat (.int .i64 0)]],rows:=[] })) none) (zB X m)) none) (gV X m)) (gW X m)) none) none
def LP (X:List Value)(m:Nat):Option cO:=sel ((m.succ.mul 1).ble (aQ X)) (TV X m) none
theorem ar7 (X:List Value)(m:Nat):(runK (KPk 2) C7 40).1 14 [.slice (some ⟨32,0,none⟩) (qaf m) aC] (aH [.one (.sl X 5 (qaf m))]) (bP Tryz.prog)=LP X m:=by kernel_rfl
theorem ami (X:List Value)(m:Nat):type_of% (by have h_:=ar7 X m;unfold LP TV gW gV iV zB iW dD zA zC iP gU at h_;exact h_):=ar7 X m
def TB (X:List Value)(m:Nat):Option cO:=sel (gU m) (sel (Fn.okR (aK [] (aA (m.succ.mul 1) X)) (qag 0 m.succ) 0) (sel ((Fn.rF (aK [] (aA (m.succ.mul 1) X)) 1 10 0).beq 0) (sel (eqI (qaa (Fn.rN (aK [] (aA (m.succ.mul 1) X)) 1 10 0)) 3) (sel (Fn.okR (aK [] (aA (m.succ.mul 1) X)) (qag 0 m.succ) (Fn.rP (aK [] (aA (m.succ.mul 1) X)) 1 10 0)) (sel ((Fn.rF (aK [] (aA (m.succ.mul 1) X)) 0 63 (Fn.rP (aK [] (aA (m.succ.mul 1) X)) 1 10 0)).beq 0) (sel (Fn.okX (aK [] (aA (m.succ.mul 1) X))) (sel (ltN (Fn.rP (aK [] (aA (m.succ.mul 1) X)) 0 63 (Fn.rP (aK [] (aA (m.succ.mul 1) X)) 1 10 0)) (qag 0 m.succ)) (zC X m) (some { val:=[.agg [.flat (.int .i64 (qaa 3)),.flat (zA X m),.flat dD,.flat dD,.flat dD],.agg [.flat (.int .i64 0),.flat (.int .i64 0)]],rows:=[] })) none) (zB X m)) none) (gV X m)) (gW X m)) none) none
def Pv (X:List Value)(m:Nat):Option cO:=sel ((m.succ.mul 1).ble (aQ X)) (TB X m) none
theorem apZ (X:List Value)(m:Nat):(runK (KPk 3) C7 40).1 14 [.slice (some ⟨32,0,none⟩) (qaf m) aC] (aH [.one (.sl X 5 (qaf m))]) (bP Tryz.prog)=Pv X m:=by kernel_rfl
theorem am3 (X:List Value)(m:Nat):type_of% (by have h_:=apZ X m;unfold Pv TB gW gV iV zB iW dD zA zC iP gU at h_;exact h_):=apZ X m
def TJ (X:List Value)(m:Nat):Option cO:=sel (gU m) (sel (Fn.okR (aK [] (aA (m.succ.mul 1) X)) (qag 0 m.succ) 0) (sel ((Fn.rF (aK [] (aA (m.succ.mul 1) X)) 1 10 0).beq 0) (sel (eqI (qaa (Fn.rN (aK [] (aA (m.succ.mul 1) X)) 1 10 0)) 8) (sel (Fn.okX (aK [] (aA (m.succ.mul 1) X))) (sel (ltN (Fn.rP (aK [] (aA (m.succ.mul 1) X)) 1 10 0) (qag 0 m.succ)) (iV X m) (some { val:=[.agg [.flat (.int .i64 (qaa 8)),.flat dD,.flat dD,.flat dD,.flat dD],.agg [.flat (.int .i64 0),.flat (.int .i64 0)]],rows:=[] })) none) (gV X m)) (gW X m)) none) none
def NC (X:List Value)(m:Nat):Option cO:=sel ((m.succ.mul 1).ble (aQ X)) (TJ X m) none
theorem aqP (X:List Value)(m:Nat):(runK (KPk 8) C7 40).1 14 [.slice (some ⟨32,0,none⟩) (qaf m) aC] (aH [.one (.sl X 5 (qaf m))]) (bP Tryz.prog)=NC X m:=by kernel_rfl
theorem anp (X:List Value)(m:Nat):type_of% (by have h_:=aqP X m;unfold NC TJ gW gV dD iV iW iP gU at h_;exact h_):=aqP X m
def nJ (X:List Value)(m:Nat):Value:=.int .i64 (qaa (Fn.rP (aK [] (aA (m.succ.mul 1) X)) 0 31 (Fn.rP (aK [] (aA (m.succ.mul 1) X)) 1 10 0)))
def Bf (X:List Value)(m:Nat):Option cO:=sel (sel (false||true&&sel (true&&eqI (qaa (Fn.rP (aK [] (aA (m.succ.mul 1) X)) 0 31 (Fn.rP (aK [] (aA (m.succ.mul 1) X)) 1 10 0))) (qaa (Fn.rP (aK [] (aA (m.succ.mul 1) X)) 0 31 (Fn.rP (aK [] (aA (m.succ.mul 1) X)) 1 10 0)))) true false) true false&&true) (some { val:=[.agg [.flat (.int .i64 0),.flat (.int .i64 0),.flat (.int .i64 0),.flat (.int .i64 0),.flat (.int .i64 0)],.agg [.flat iP,.flat (nJ X m)]],rows:=[] }) none
def lU (X:List Value)(m:Nat):Value:=.int .i64 (qaa (Fn.rN (aK [] (aA (m.succ.mul 1) X)) 0 31 (Fn.rP (aK [] (aA (m.succ.mul 1) X)) 1 10 0)))
def nI (X:List Value)(m:Nat):Option cO:=sel (Fn.okX (aK [] (aA (m.succ.mul 1) X))) (sel (sel (false||true&&sel (true&&eqI (qaa (Fn.rG (aK [] (aA (m.succ.mul 1) X)) 0 31 (Fn.rP (aK [] (aA (m.succ.mul 1) X)) 1 10 0)).succ) (qaa (Fn.rG (aK [] (aA (m.succ.mul 1) X)) 0 31 (Fn.rP (aK [] (aA (m.succ.mul 1) X)) 1 10 0)).succ)) (sel (true&&eqI (qaa (Fn.rP (aK [] (aA (m.succ.mul 1) X)) 1 10 0)) (qaa (Fn.rP (aK [] (aA (m.succ.mul 1) X)) 1 10 0))) true false) false) true false&&true) (some { val:=[.agg [.flat (.int .i64 0),.flat (.int .i64 0),.flat (.int .i64 0),.flat (.int .i64 0),.flat (.int .i64 0)],.agg [.flat (.int .i64 (qaa (Fn.rG (aK [] (aA (m.succ.mul 1) X)) 0 31 (Fn.rP (aK [] (aA (m.succ.mul 1) X)) 1 10 0)).succ)),.flat (iW X m)]],rows:=[] }) none) none
def Vx (X:List Value)(m:Nat):Option cO:=sel (gU m) (sel (Fn.okR (aK [] (aA (m.succ.mul 1) X)) (qag 0 m.succ) 0) (sel ((Fn.rF (aK [] (aA (m.succ.mul 1) X)) 1 10 0).beq 0) (sel (eqI (qaa (Fn.rN (aK [] (aA (m.succ.mul 1) X)) 1 10 0)) 4) (sel (Fn.okR (aK [] (aA (m.succ.mul 1) X)) (qag 0 m.succ) (Fn.rP (aK [] (aA (m.succ.mul 1) X)) 1 10 0)) (sel ((Fn.rF (aK [] (aA (m.succ.mul 1) X)) 0 31 (Fn.rP (aK [] (aA (m.succ.mul 1) X)) 1 10 0)).beq 0) (sel (Fn.okX (aK [] (aA (m.succ.mul 1) X))) (sel (ltN (Fn.rP (aK [] (aA (m.succ.mul 1) X)) 0 31 (Fn.rP (aK [] (aA (m.succ.mul 1) X)) 1 10 0)) (qag 0 m.succ)) (Bf X m) (some { val:=[.agg [.flat iP,.flat dD,.flat (lU X m),.flat dD,.flat dD],.agg [.flat (.int .i64 0),.flat (.int .i64 0)]],rows:=[] })) none) (nI X m)) none) (gV X m)) (gW X m)) none) none
def Np (X:List Value)(m:Nat):Option cO:=sel ((m.succ.mul 1).ble (aQ X)) (Vx X m) none
theorem asc (X:List Value)(m:Nat):(runK (KPk 4) C7 40).1 14 [.slice (some ⟨32,0,none⟩) (qaf m) aC] (aH [.one (.sl X 5 (qaf m))]) (bP Tryz.prog)=Np X m:=by kernel_rfl
theorem aml (X:List Value)(m:Nat):type_of% (by have h_:=asc X m;unfold Np Vx gW gV iV nI iW lU dD Bf nJ iP gU at h_;exact h_):=asc X m
def AP (X:List Value)(m:Nat):Option cO:=sel (Fn.okX (aK [] (aA (m.succ.mul 1) X))) (nI X m) none
def Tz (X:List Value)(m:Nat):Option cO:=sel (gU m) (sel (Fn.okR (aK [] (aA (m.succ.mul 1) X)) (qag 0 m.succ) 0) (sel ((Fn.rF (aK [] (aA (m.succ.mul 1) X)) 1 10 0).beq 0) (sel (eqI (qaa (Fn.rN (aK [] (aA (m.succ.mul 1) X)) 1 10 0)) 5) (sel (Fn.okR (aK [] (aA (m.succ.mul 1) X)) (qag 0 m.succ) (Fn.rP (aK [] (aA (m.succ.mul 1) X)) 1 10 0)) (sel ((Fn.rF (aK [] (aA (m.succ.mul 1) X)) 0 31 (Fn.rP (aK [] (aA (m.succ.mul 1) X)) 1 10 0)).beq 0) (sel (Fn.okR (aK [] (aA (m.succ.mul 1) X)) (qag 0 m.succ) (Fn.rP (aK [] (aA (m.succ.mul 1) X)) 0 31 (Fn.rP (aK [] (aA (m.succ.mul 1) X)) 1 10 0))) (sel ((Fn.rF (aK [] (aA (m.succ.mul 1) X)) 1 4294967296 (Fn.rP (aK [] (aA (m.succ.mul 1) X)) 0 31 (Fn.rP (aK [] (aA (m.succ.mul 1) X)) 1 10 0))).beq 0) (sel (Fn.okX (aK [] (aA (m.succ.mul 1) X))) (sel (ltN (Fn.rP (aK [] (aA (m.succ.mul 1) X)) 1 4294967296 (Fn.rP (aK [] (aA (m.succ.mul 1) X)) 0 31 (Fn.rP (aK [] (aA (m.succ.mul 1) X)) 1 10 0))) (qag 0 m.succ)) (sel (sel (false||true&&sel (true&&eqI (qaa (Fn.rP (aK [] (aA (m.succ.mul 1) X)) 1 4294967296 (Fn.rP (aK [] (aA (m.succ.mul 1) X)) 0 31 (Fn.rP (aK [] (aA (m.succ.mul 1) X)) 1 10 0)))) (qaa (Fn.rP (aK [] (aA (m.succ.mul 1) X)) 1 4294967296 (Fn.rP (aK [] (aA (m.succ.mul 1) X)) 0 31 (Fn.rP (aK [] (aA (m.succ.mul 1) X)) 1 10 0))))) true false) true false&&true) (some { val:=[.agg [.flat (.int .i64 0),.flat (.int .i64 0),.flat (.int .i64 0),.flat (.int .i64 0),.flat (.int .i64 0)],.agg [.flat iP,.flat (.int .i64 (qaa (Fn.rP (aK [] (aA (m.succ.mul 1) X)) 1 4294967296 (Fn.rP (aK [] (aA (m.succ.mul 1) X)) 0 31 (Fn.rP (aK [] (aA (m.succ.mul 1) X)) 1 10 0)))))]],rows:=[] }) none) (some { val:=[.agg [.flat (.int .i64 (qaa 5)),.flat dD,.flat (lU X m),.flat dD,.flat (.int .i64 (qaa (Fn.rN (aK [] (aA (m.succ.mul 1) X)) 1 4294967296 (Fn.rP (aK [] (aA (m.succ.mul 1) X)) 0 31 (Fn.rP (aK [] (aA (m.succ.mul 1) X)) 1 10 0)))))],.agg [.flat (.int .i64 0),.flat (.int .i64 0)]],rows:=[] })) none) (sel (Fn.okX (aK [] (aA (m.succ.mul 1) X))) (sel (sel (false||true&&sel (true&&eqI (qaa (Fn.rG (aK [] (aA (m.succ.mul 1) X)) 1 4294967296 (Fn.rP (aK [] (aA (m.succ.mul 1) X)) 0 31 (Fn.rP (aK [] (aA (m.succ.mul 1) X)) 1 10 0))).succ) (qaa (Fn.rG (aK [] (aA (m.succ.mul 1) X)) 1 4294967296 (Fn.rP (aK [] (aA (m.succ.mul 1) X)) 0 31 (Fn.rP (aK [] (aA (m.succ.mul 1) X)) 1 10 0))).succ)) (sel (true&&eqI (qaa (Fn.rP (aK [] (aA (m.succ.mul 1) X)) 0 31 (Fn.rP (aK [] (aA (m.succ.mul 1) X)) 1 10 0))) (qaa (Fn.rP (aK [] (aA (m.succ.mul 1) X)) 0 31 (Fn.rP (aK [] (aA (m.succ.mul 1) X)) 1 10 0)))) true false) false) true false&&true) (some { val:=[.agg [.flat (.int .i64 0),.flat (.int .i64 0),.flat (.int .i64 0),.flat (.int .i64 0),.flat (.int .i64 0)],.agg [.flat (.int .i64 (qaa (Fn.rG (aK [] (aA (m.succ.mul 1) X)) 1 4294967296 (Fn.rP (aK [] (aA (m.succ.mul 1) X)) 0 31 (Fn.rP (aK [] (aA (m.succ.mul 1) X)) 1 10 0))).succ)),.flat (nJ X m)]],rows:=[] }) none) none)) none) (AP X m)) none) (gV X m)) (gW X m)) none) none
def MJ (X:List Value)(m:Nat):Option cO:=sel ((m.succ.mul 1).ble (aQ X)) (Tz X m) none
theorem as5 (X:List Value)(m:Nat):(runK (KPk 5) C7 40).1 14 [.slice (some ⟨32,0,none⟩) (qaf m) aC] (aH [.one (.sl X 5 (qaf m))]) (bP Tryz.prog)=MJ X m:=by kernel_rfl
theorem ant (X:List Value)(m:Nat):type_of% (by have h_:=as5 X m;unfold MJ Tz gW gV iV AP nI iW nJ lU dD iP gU at h_;exact h_):=as5 X m
def SQ (X:List Value)(m:Nat):Option cO:=sel (gU m) (sel (Fn.okR (aK [] (aA (m.succ.mul 1) X)) (qag 0 m.succ) 0) (sel ((Fn.rF (aK [] (aA (m.succ.mul 1) X)) 1 10 0).beq 0) (sel (eqI (qaa (Fn.rN (aK [] (aA (m.succ.mul 1) X)) 1 10 0)) 9) (sel (Fn.okX (aK [] (aA (m.succ.mul 1) X))) (sel (ltN (Fn.rP (aK [] (aA (m.succ.mul 1) X)) 1 10 0) (qag 0 m.succ)) (iV X m) (some { val:=[.agg [.flat (.int .i64 (qaa 9)),.flat dD,.flat dD,.flat dD,.flat dD],.agg [.flat (.int .i64 0),.flat (.int .i64 0)]],rows:=[] })) none) (gV X m)) (gW X m)) none) none
def O0 (X:List Value)(m:Nat):Option cO:=sel ((m.succ.mul 1).ble (aQ X)) (SQ X m) none
theorem ap8 (X:List Value)(m:Nat):(runK (KPk 9) C7 40).1 14 [.slice (some ⟨32,0,none⟩) (qaf m) aC] (aH [.one (.sl X 5 (qaf m))]) (bP Tryz.prog)=O0 X m:=by kernel_rfl
theorem am0 (X:List Value)(m:Nat):type_of% (by have h_:=ap8 X m;unfold O0 SQ gW gV dD iV iW iP gU at h_;exact h_):=ap8 X m
def Td (X:List Value)(m:Nat):Option cO:=sel (gU m) (sel (Fn.okR (aK [] (aA (m.succ.mul 1) X)) (qag 0 m.succ) 0) (sel ((Fn.rF (aK [] (aA (m.succ.mul 1) X)) 1 10 0).beq 0) (sel (eqI (qaa (Fn.rN (aK [] (aA (m.succ.mul 1) X)) 1 10 0)) 10) (sel (Fn.okX (aK [] (aA (m.succ.mul 1) X))) (sel (ltN (Fn.rP (aK [] (aA (m.succ.mul 1) X)) 1 10 0) (qag 0 m.succ)) (iV X m) (some { val:=[.agg [.flat (.int .i64 (qaa 10)),.flat dD,.flat dD,.flat dD,.flat dD],.agg [.flat (.int .i64 0),.flat (.int .i64 0)]],rows:=[] })) none) (gV X m)) (gW X m)) none) none
def Oj (X:List Value)(m:Nat):Option cO:=sel ((m.succ.mul 1).ble (aQ X)) (Td X m) none
theorem akc (X:List Value)(m:Nat):(runK (KPk 10) C7 40).1 14 [.slice (some ⟨32,0,none⟩) (qaf m) aC] (aH [.one (.sl X 5 (qaf m))]) (bP Tryz.prog)=Oj X m:=by kernel_rfl
theorem aiL (X:List Value)(m:Nat):type_of% (by have h_:=akc X m;unfold Oj Td gW gV dD iV iW iP gU at h_;exact h_):=akc X m
def Uf (X:List Value)(m:Nat):Option cO:=sel (gU m) (sel (Fn.okR (aK [] (aA (m.succ.mul 1) X)) (qag 0 m.succ) 0) (sel ((Fn.rF (aK [] (aA (m.succ.mul 1) X)) 1 10 0).beq 0) (sel (eqI (qaa (Fn.rN (aK [] (aA (m.succ.mul 1) X)) 1 10 0)) 6) (sel (Fn.okR (aK [] (aA (m.succ.mul 1) X)) (qag 0 m.succ) (Fn.rP (aK [] (aA (m.succ.mul 1) X)) 1 10 0)) (sel ((Fn.rF (aK [] (aA (m.succ.mul 1) X)) 0 31 (Fn.rP (aK [] (aA (m.succ.mul 1) X)) 1 10 0)).beq 0) (sel (Fn.okR (aK [] (aA (m.succ.mul 1) X)) (qag 0 m.succ) (Fn.rP (aK [] (aA (m.succ.mul 1) X)) 0 31 (Fn.rP (aK [] (aA (m.succ.mul 1) X)) 1 10 0))) (sel ((Fn.rF (aK [] (aA (m.succ.mul 1) X)) 1 2 (Fn.rP (aK [] (aA (m.succ.mul 1) X)) 0 31 (Fn.rP (aK [] (aA (m.succ.mul 1) X)) 1 10 0))).beq 0) (sel (Fn.okR (aK [] (aA (m.succ.mul 1) X)) (qag 0 m.succ) (Fn.rP (aK [] (aA (m.succ.mul 1) X)) 1 2 (Fn.rP (aK [] (aA (m.succ.mul 1) X)) 0 31 (Fn.rP (aK [] (aA (m.succ.mul 1) X)) 1 10 0)))) (sel ((Fn.rF (aK [] (aA (m.succ.mul 1) X)) 1 4294967296 (Fn.rP (aK [] (aA (m.succ.mul 1) X)) 1 2 (Fn.rP (aK [] (aA (m.succ.mul 1) X)) 0 31 (Fn.rP (aK [] (aA (m.succ.mul 1) X)) 1 10 0)))).beq 0) (sel (Fn.okX (aK [] (aA (m.succ.mul 1) X))) (sel (ltN (Fn.rP (aK [] (aA (m.succ.mul 1) X)) 1 4294967296 (Fn.rP (aK [] (aA (m.succ.mul 1) X)) 1 2 (Fn.rP (aK [] (aA (m.succ.mul 1) X)) 0 31 (Fn.rP (aK [] (aA (m.succ.mul 1) X)) 1 10 0)))) (qag 0 m.succ)) (sel (sel (false||true&&sel (true&&eqI (qaa (Fn.rP (aK [] (aA (m.succ.mul 1) X)) 1 4294967296 (Fn.rP (aK [] (aA (m.succ.mul 1) X)) 1 2 (Fn.rP (aK [] (aA (m.succ.mul 1) X)) 0 31 (Fn.rP (aK [] (aA (m.succ.mul 1) X)) 1 10 0))))) (qaa (Fn.rP (aK [] (aA (m.succ.mul 1) X)) 1 4294967296 (Fn.rP (aK [] (aA (m.succ.mul 1) X)) 1 2 (Fn.rP (aK [] (aA (m.succ.mul 1) X)) 0 31 (Fn.rP (aK [] (aA (m.succ.mul 1) X)) 1 10 0)))))) true false) true false&&true) (some { val:=[.agg [.flat (.int .i64 0),.flat (.int .i64 0),.flat (.int .i64 0),.flat (.int .i64 0),.flat (.int .i64 0)],.agg [.flat iP,.flat (.int .i64 (qaa (Fn.rP (aK [] (aA (m.succ.mul 1) X)) 1 4294967296 (Fn.rP (aK [] (aA (m.succ.mul 1) X)) 1 2 (Fn.rP (aK [] (aA (m.succ.mul 1) X)) 0 31 (Fn.rP (aK [] (aA (m.succ.mul 1) X)) 1 10 0))))))]],rows:=[] }) none) (some { val:=[.agg [.flat (.int .i64 (qaa 6)),.flat dD,.flat (lU X m),.flat (.int .i64 (qaa (Fn.rN (aK [] (aA (m.succ.mul 1) X)) 1 2 (Fn.rP (aK [] (aA (m.succ.mul 1) X)) 0 31 (Fn.rP (aK [] (aA (m.succ.mul 1) X)) 1 10 0))))),.flat (.int .i64 (qaa (Fn.rN (aK [] (aA (m.succ.mul 1) X)) 1 4294967296 (Fn.rP (aK [] (aA (m.succ.mul 1) X)) 1 2 (Fn.rP (aK [] (aA (m.succ.mul 1) X)) 0 31 (Fn.rP (aK [] (aA (m.succ.mul 1) X)) 1 10 0))))))],.agg [.flat (.int .i64 0),.flat (.int .i64 0)]],rows:=[] })) none) (sel (Fn.okX (aK [] (aA (m.succ.mul 1) X))) (sel (sel (false||true&&sel (true&&eqI (qaa (Fn.rG (aK [] (aA (m.succ.mul 1) X)) 1 4294967296 (Fn.rP (aK [] (aA (m.succ.mul 1) X)) 1 2 (Fn.rP (aK [] (aA (m.succ.mul 1) X)) 0 31 (Fn.rP (aK [] (aA (m.succ.mul 1) X)) 1 10 0)))).succ) (qaa (Fn.rG (aK [] (aA (m.succ.mul 1) X)) 1 4294967296 (Fn.rP (aK [] (aA (m.succ.mul 1) X)) 1 2 (Fn.rP (aK [] (aA (m.succ.mul 1) X)) 0 31 (Fn.rP (aK [] (aA (m.succ.mul 1) X)) 1 10 0)))).succ)) (sel (true&&eqI (qaa (Fn.rP (aK [] (aA (m.succ.mul 1) X)) 1 2 (Fn.rP (aK [] (aA (m.succ.mul 1) X)) 0 31 (Fn.rP (aK [] (aA (m.succ.mul 1) X)) 1 10 0)))) (qaa (Fn.rP (aK [] (aA (m.succ.mul 1) X)) 1 2 (Fn.rP (aK [] (aA (m.succ.mul 1) X)) 0 31 (Fn.rP (aK [] (aA (m.succ.mul 1) X)) 1 10 0))))) true false) false) true false&&true) (some { val:=[.agg [.flat (.int .i64 0),.flat (.int .i64 0),.flat (.int .i64 0),.flat (.int .i64 0),.flat (.int .i64 0)],.agg [.flat (.int .i64 (qaa (Fn.rG (aK [] (aA (m.succ.mul 1) X)) 1 4294967296 (Fn.rP (aK [] (aA (m.succ.mul 1) X)) 1 2 (Fn.rP (aK [] (aA (m.succ.mul 1) X)) 0 31 (Fn.rP (aK [] (aA (m.succ.mul 1) X)) 1 10 0)))).succ)),.flat (.int .i64 (qaa (Fn.rP (aK [] (aA (m.succ.mul 1) X)) 1 2 (Fn.rP (aK [] (aA (m.succ.mul 1) X)) 0 31 (Fn.rP (aK [] (aA (m.succ.mul 1) X)) 1 10 0)))))]],rows:=[] }) none) none)) none) (sel (Fn.okX (aK [] (aA (m.succ.mul 1) X))) (sel (Fn.okX (aK [] (aA (m.succ.mul 1) X))) (sel (sel (false||true&&sel (true&&eqI (qaa (Fn.rG (aK [] (aA (m.succ.mul 1) X)) 1 2 (Fn.rP (aK [] (aA (m.succ.mul 1) X)) 0 31 (Fn.rP (aK [] (aA (m.succ.mul 1) X)) 1 10 0))).succ) (qaa (Fn.rG (aK [] (aA (m.succ.mul 1) X)) 1 2 (Fn.rP (aK [] (aA (m.succ.mul 1) X)) 0 31 (Fn.rP (aK [] (aA (m.succ.mul 1) X)) 1 10 0))).succ)) (sel (true&&eqI (qaa (Fn.rP (aK [] (aA (m.succ.mul 1) X)) 0 31 (Fn.rP (aK [] (aA (m.succ.mul 1) X)) 1 10 0))) (qaa (Fn.rP (aK [] (aA (m.succ.mul 1) X)) 0 31 (Fn.rP (aK [] (aA (m.succ.mul 1) X)) 1 10 0)))) true false) false) true false&&true) (some { val:=[.agg [.flat (.int .i64 0),.flat (.int .i64 0),.flat (.int .i64 0),.flat (.int .i64 0),.flat (.int .i64 0)],.agg [.flat (.int .i64 (qaa (Fn.rG (aK [] (aA (m.succ.mul 1) X)) 1 2 (Fn.rP (aK [] (aA (m.succ.mul 1) X)) 0 31 (Fn.rP (aK [] (aA (m.succ.mul 1) X)) 1 10 0))).succ)),.flat (nJ X m)]],rows:=[] }) none) none) none)) none) (sel (Fn.okX (aK [] (aA (m.succ.mul 1) X))) (AP X m) none)) none) (gV X m)) (gW X m)) none) none
def MB (X:List Value)(m:Nat):Option cO:=sel ((m.succ.mul 1).ble (aQ X)) (Uf X m) none
theorem aqf (X:List Value)(m:Nat):(runK (KPk 6) C7 40).1 14 [.slice (some ⟨32,0,none⟩) (qaf m) aC] (aH [.one (.sl X 5 (qaf m))]) (bP Tryz.prog)=MB X m:=by kernel_rfl
theorem alT (X:List Value)(m:Nat):type_of% (by have h_:=aqf X m;unfold MB Uf gW gV iV AP nI iW nJ lU dD iP gU at h_;exact h_):=aqf X m
def Tm (X:List Value)(m:Nat):Option cO:=sel (gU m) (sel (Fn.okR (aK [] (aA (m.succ.mul 1) X)) (qag 0 m.succ) 0) (sel ((Fn.rF (aK [] (aA (m.succ.mul 1) X)) 1 10 0).beq 0) (sel (eqI (qaa (Fn.rN (aK [] (aA (m.succ.mul 1) X)) 1 10 0)) 7) (sel (Fn.okR (aK [] (aA (m.succ.mul 1) X)) (qag 0 m.succ) (Fn.rP (aK [] (aA (m.succ.mul 1) X)) 1 10 0)) (sel ((Fn.rF (aK [] (aA (m.succ.mul 1) X)) 0 31 (Fn.rP (aK [] (aA (m.succ.mul 1) X)) 1 10 0)).beq 0) (sel (Fn.okX (aK [] (aA (m.succ.mul 1) X))) (sel (ltN (Fn.rP (aK [] (aA (m.succ.mul 1) X)) 0 31 (Fn.rP (aK [] (aA (m.succ.mul 1) X)) 1 10 0)) (qag 0 m.succ)) (Bf X m) (some { val:=[.agg [.flat (.int .i64 (qaa 7)),.flat dD,.flat (lU X m),.flat dD,.flat dD],.agg [.flat (.int .i64 0),.flat (.int .i64 0)]],rows:=[] })) none) (nI X m)) none) (gV X m)) (gW X m)) none) none
def OO (X:List Value)(m:Nat):Option cO:=sel ((m.succ.mul 1).ble (aQ X)) (Tm X m) none
theorem aqZ (X:List Value)(m:Nat):(runK (KPk 7) C7 40).1 14 [.slice (some ⟨32,0,none⟩) (qaf m) aC] (aH [.one (.sl X 5 (qaf m))]) (bP Tryz.prog)=OO X m:=by kernel_rfl
theorem al4 (X:List Value)(m:Nat):type_of% (by have h_:=aqZ X m;unfold OO Tm gW gV iV nI iW lU dD Bf nJ iP gU at h_;exact h_):=aqZ X m
theorem avO (X:List Value)(m:Nat):(runK (KPk 1) C7 40).1 15 [.slice (some ⟨32,0,none⟩) (qaf m) aC] (aH [.one (.sl X 5 (qaf m))]) (bP Tryz.prog)=Nj X m:=by kernel_rfl
theorem amC (X:List Value)(m:Nat):type_of% (by have h_:=avO X m;unfold Nj Uu gW gV iV zB iW dD zA zC iP gU at h_;exact h_):=avO X m
theorem avF (X:List Value)(m:Nat):(runK (KPk 2) C7 40).1 15 [.slice (some ⟨32,0,none⟩) (qaf m) aC] (aH [.one (.sl X 5 (qaf m))]) (bP Tryz.prog)=LP X m:=by kernel_rfl
theorem amd (X:List Value)(m:Nat):type_of% (by have h_:=avF X m;unfold LP TV gW gV iV zB iW dD zA zC iP gU at h_;exact h_):=avF X m
theorem axi (X:List Value)(m:Nat):(runK (KPk 3) C7 40).1 15 [.slice (some ⟨32,0,none⟩) (qaf m) aC] (aH [.one (.sl X 5 (qaf m))]) (bP Tryz.prog)=Pv X m:=by kernel_rfl
theorem anG (X:List Value)(m:Nat):type_of% (by have h_:=axi X m;unfold Pv TB gW gV iV zB iW dD zA zC iP gU at h_;exact h_):=axi X m
theorem aw1 (X:List Value)(m:Nat):(runK (KPk 8) C7 40).1 15 [.slice (some ⟨32,0,none⟩) (qaf m) aC] (aH [.one (.sl X 5 (qaf m))]) (bP Tryz.prog)=NC X m:=by kernel_rfl
theorem alX (X:List Value)(m:Nat):type_of% (by have h_:=aw1 X m;unfold NC TJ gW gV dD iV iW iP gU at h_;exact h_):=aw1 X m
theorem awj (X:List Value)(m:Nat):(runK (KPk 9) C7 40).1 15 [.slice (some ⟨32,0,none⟩) (qaf m) aC] (aH [.one (.sl X 5 (qaf m))]) (bP Tryz.prog)=O0 X m:=by kernel_rfl
theorem amu (X:List Value)(m:Nat):type_of% (by have h_:=awj X m;unfold O0 SQ gW gV dD iV iW iP gU at h_;exact h_):=awj X m
theorem aoJ (X:List Value)(m:Nat):(runK (KPk 10) C7 40).1 15 [.slice (some ⟨32,0,none⟩) (qaf m) aC] (aH [.one (.sl X 5 (qaf m))]) (bP Tryz.prog)=Oj X m:=by kernel_rfl
theorem akz (X:List Value)(m:Nat):type_of% (by have h_:=aoJ X m;unfold Oj Td gW gV dD iV iW iP gU at h_;exact h_):=aoJ X m
theorem avQ (X:List Value)(m:Nat):(runK (KPk 4) C7 40).1 15 [.slice (some ⟨32,0,none⟩) (qaf m) aC] (aH [.one (.sl X 5 (qaf m))]) (bP Tryz.prog)=Np X m:=by kernel_rfl
theorem amk (X:List Value)(m:Nat):type_of% (by have h_:=avQ X m;unfold Np Vx gW gV iV nI iW lU dD Bf nJ iP gU at h_;exact h_):=avQ X m
theorem avs (X:List Value)(m:Nat):(runK (KPk 7) C7 40).1 15 [.slice (some ⟨32,0,none⟩) (qaf m) aC] (aH [.one (.sl X 5 (qaf m))]) (bP Tryz.prog)=OO X m:=by kernel_rfl
theorem am5 (X:List Value)(m:Nat):type_of% (by have h_:=avs X m;unfold OO Tm gW gV iV nI iW lU dD Bf nJ iP gU at h_;exact h_):=avs X m
theorem awF (X:List Value)(m:Nat):(runK (KPk 5) C7 40).1 15 [.slice (some ⟨32,0,none⟩) (qaf m) aC] (aH [.one (.sl X 5 (qaf m))]) (bP Tryz.prog)=MJ X m:=by kernel_rfl
theorem alC (X:List Value)(m:Nat):type_of% (by have h_:=awF X m;unfold MJ Tz gW gV iV AP nI iW nJ lU dD iP gU at h_;exact h_):=awF X m
theorem awk (X:List Value)(m:Nat):(runK (KPk 6) C7 40).1 15 [.slice (some ⟨32,0,none⟩) (qaf m) aC] (aH [.one (.sl X 5 (qaf m))]) (bP Tryz.prog)=MB X m:=by kernel_rfl
theorem amA (X:List Value)(m:Nat):type_of% (by have h_:=awk X m;unfold MB Uf gW gV iV AP nI iW nJ lU dD iP gU at h_;exact h_):=awk X m
end
end Go.Ax
