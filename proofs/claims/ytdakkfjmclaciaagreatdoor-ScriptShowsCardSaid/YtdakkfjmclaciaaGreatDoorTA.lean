/- The code is the program's. No conditions. -/
import Derived.Test.YtdakkfjmclaciaaGreatDoorCA
import Derived.Shelf.Strings.Builder1
import Derived.Test.YtdakkfjmclaciaaGreatDoorProg
import Derived.WalkKit
import Derived.WalkLawsBesides
import Derived.WalkSpells
import Derived.Lib.Hide
import Derived.Outline
import Derived.Test.YtdakkfjmclaciaaGreatDoorEC
import Derived.KernelRfl
import Derived.Test.YtdakkfjmclaciaaGreatDoorED
import Derived.Test.YtdakkfjmclaciaaGreatDoorCB
set_option linter.unusedVariables false
set_option linter.unusedSimpArgs false
namespace Go.Ev
def Q (l : List XOp) (c : KC) : KC:=.seq (.ops l) c
def xl (d n x : Nat) : XOp:=o d (.load true n (.t x))
def xf (d x : Nat) : XOp:=o d (.load false 1 (.t x))
def xa (d n x : Nat) : XOp:=o d (.fieldAddr n (.t x))
def xe (d x n : Nat) : XOp:=o d (.extract (.t x) n)
def xs (n x y : Nat) : XOp:=u (.store n (.t x) (.t y))
def vi (n : Int) : AV:=.int .i64 n
def vu (n : Int) : AV:=.int .u8 n
def ve : AV:=.str []
def ci (n : Int) : XA:=.c (.int .i64 n)
def cu (n : Int) : XA:=.c (.int .u8 n)
def cs (l : List UInt8) : XA:=.c (.str l)
def rp (n : Nat) (x : AV) : List AV:=List.replicate n x
def K_legatelaw32_awake : KF:=⟨0,76,[(.tmp 0)],(Q [o 0 (.mv (.c (.bool false)))]
(Q [o 9 (.callF f_script_Read [cs [48,58,44,49,58,48,44,53,58,116,97,98,108,101,44,48,58,44,49,54,58,49,58,48,44,49,58,48,44,49,58,48,44,49,58,48,44,44,48,58,44,48,58,44]]),m 8 9,xe 10 8 0,xe 11 8 1,xe 12 8 2,o 1 (.new [ve,.nils,vi 0,(.bool false),.nils,vi 0,vi 0,vi 0,vi 0,.nils] none),xs 10 1 10,m 2 11,m 3 12]
(Q [o 14 (.build [ve,.nils,vi 0,(.bool false),.nils,vi 0,vi 0,vi 0,vi 0,.nils] []),o 15 (.callF f_script_Show [.t 14]),m 13 15,xe 16 13 0,xe 17 13 1,m 4 16,m 5 17]
(Q [o 19 (.buildSl [ve] 1 1 [(0,1,(cs [97]))]),o 20 (.build [ve,.nils,vi 0,(.bool false),.nils,vi 0,vi 0,vi 0,vi 0,.nils] [(9,1,(.t 19))]),o 21 (.callF f_script_Show [.t 20]),m 18 21,xe 22 18 0,xe 23 18 1,m 6 22,m 7 23]
(Q [m 24 2,o 25 (.bin .eql 0 true (.t 24) (ci 0)),m 26 25,og 27 26 true (.mv (.t 3)),og 28 26 true (.bin .eql 0 true (.t 27) (ci 0)),o 29 (.pick (.t 26) (.t 28) (.c (.bool false))),m 30 29,og 31 30 true (.load true 10 (.t 1)),og 32 30 true (.build [ve,.nils,vi 0,(.bool false),.nils,vi 0,vi 0,vi 0,vi 0,.nils] []),og 33 30 true (.callF f_legateref32_Same [.t 31,.t 32]),o 34 (.pick (.t 30) (.t 33) (.c (.bool false))),m 35 34,og 36 35 true (.mv (.t 4)),og 37 35 true (.bin .eql 0 true (.t 36) (cs [48,58,44,49,58,48,44,53,58,116,97,98,108,101,44,48,58,44,49,54,58,49,58,48,44,49,58,48,44,49,58,48,44,49,58,48,44,44,48,58,44,48,58,44])),o 38 (.pick (.t 35) (.t 37) (.c (.bool false))),m 39 38,og 40 39 true (.mv (.t 5)),og 41 39 true (.bin .eql 0 true (.t 40) (ci 0)),o 42 (.pick (.t 39) (.t 41) (.c (.bool false))),m 43 42,og 44 43 true (.mv (.t 6)),og 45 43 true (.sliceStr (cs [48,58,44,49,58,48,44,53,58,116,97,98,108,101,44,48,58,44,49,54,58,49,58,48,44,49,58,48,44,49,58,48,44,49,58,48,44,44,48,58,44,48,58,44]) none (some (ci 41))),og 46 43 true (.bin .add 0 true (.t 45) (cs [52,58,49,58,97,44,44])),og 47 43 true (.bin .eql 0 false (.t 44) (.t 46)),o 48 (.pick (.t 43) (.t 47) (.c (.bool false))),m 49 48,og 50 49 true (.mv (.t 7)),og 51 49 true (.bin .eql 0 true (.t 50) (ci 0)),o 52 (.pick (.t 49) (.t 51) (.c (.bool false))),m 53 52,og 54 53 true (.callF f_script_Run [cs [48,58,44,49,58,48,44,53,58,116,97,98,108,101,44,48,58,44,49,54,58,49,58,48,44,49,58,48,44,49,58,48,44,49,58,48,44,44,48,58,44,48,58,44]]),og 55 53 true (.bin .eql 0 true (.t 54) (cs [])),o 56 (.pick (.t 53) (.t 55) (.c (.bool false))),m 57 56,og 58 57 true (.mv (.t 6)),og 59 57 true (.callF f_script_Run [.t 58]),og 60 57 true (.bin .eql 0 true (.t 59) (cs [50,52,58,49,58,51,44,49,58,49,44,49,58,48,44,48,58,44,48,58,44,48,58,44,48,58,44,44])),o 61 (.pick (.t 57) (.t 60) (.c (.bool false))),m 62 61,og 63 62 true (.callF f_script_Run [cs []]),og 64 62 true (.bin .eql 0 true (.t 63) (cs [49,54,58,53,58,101,114,114,111,114,44,49,58,52,44,49,58,48,44,44])),o 65 (.pick (.t 62) (.t 64) (.c (.bool false))),m 66 65,og 67 66 true (.sliceStr (cs [48,58,44,49,58,48,44,53,58,116,97,98,108,101,44,48,58,44,49,54,58,49,58,48,44,49,58,48,44,49,58,48,44,49,58,48,44,44,48,58,44,48,58,44]) (some (ci 7)) none),og 68 66 true (.bin .add 0 true (cs [48,58,44,50,58,48,48,44]) (.t 67)),og 69 66 true (.callF f_script_Run [.t 68]),og 70 66 true (.bin .eql 0 true (.t 69) (cs [49,54,58,53,58,101,114,114,111,114,44,49,58,51,44,49,58,51,44,44])),o 71 (.pick (.t 66) (.t 70) (.c (.bool false))),m 72 71,og 73 72 true (.callF f_script_Run [cs [48,58,44,49,58,48,44,53,58,116,97,98,108,101,44,48,58,44,49,54,58,49,58,48,44,49,58,48,44,49,58,48,44,49,58,48,44,44,48,58,44,48,58,44,120]]),og 74 72 true (.bin .eql 0 true (.t 73) (cs [49,56,58,53,58,101,114,114,111,114,44,50,58,49,49,44,50,58,52,52,44,44])),o 75 (.pick (.t 72) (.t 74) (.c (.bool false))),m 0 75]
(.ret [0]))))))⟩
def K_script_Read : KF:=⟨1,64,[(.cell 2 true 10),(.tmp 3),(.tmp 4)],(Q [o 2 (.new [ve,.nils,vi 0,(.bool false),.nils,vi 0,vi 0,vi 0,vi 0,.nils] none),o 3 (.mv (ci 0)),o 4 (.mv (ci 0))]
(.seq (Q [m 7 0,o 8 (.len 0 (.t 7)),o 9 (.bin .gtr 0 true (.t 8) (ci 1048576))]
(.cond (.t 9)
(Q [o 10 (.build [ve,.nils,vi 0,(.bool false),.nils,vi 0,vi 0,vi 0,vi 0,.nils] []),xs 10 2 10,o 3 (.mv (ci 0)),o 4 (.mv (ci 5))]
(.ret [2,3,4]))
.skip))
(Q [m 11 0,o 12 (.build [ve,vi 0,vi 0] [(0,1,(.t 11))]),o 13 (.box (.t 12)),o 5 (.new [.nilp] none),xs 1 5 13]
(Q [m 14 0,o 15 (.len 0 (.t 14)),o 16 (.build [vi 0,vi 0] [(0,1,(ci 0)),(1,1,(.t 15))]),o 17 (.box (.t 16)),m 6 17]
(Q [xf 18 5,m 19 6,o 20 (.callF f_script_reader_bytes [.t 18,.t 19]),xa 21 0 2,xs 1 21 20]
(Q [xf 22 5,m 23 6,o 24 (.callF f_script_reader_number [.t 22,.t 23]),xa 25 2 2,xs 1 25 24]
(Q [xf 26 5,m 27 6,o 28 (.callF f_script_reader_word [.t 26,.t 27]),xa 29 3 2,xs 1 29 28]
(Q [xf 30 5,m 31 6,o 32 (.mkFunc (.func f_script_Read_1) [] [.t 2,.t 5]),o 33 (.callF f_script_reader_each [.t 30,.t 31,.t 32])]
(Q [xf 34 5,m 35 6,o 36 (.callF f_script_reader_bounds [.t 34,.t 35]),xa 37 5 2,xs 4 37 36]
(Q [xf 38 5,m 39 6,o 40 (.mkFunc (.func f_script_Read_2) [] [.t 2,.t 5]),o 41 (.callF f_script_reader_each [.t 38,.t 39,.t 40])]
(Q [xf 42 5,m 43 6,o 44 (.mkFunc (.func f_script_Read_3) [] [.t 2,.t 5]),o 45 (.callF f_script_reader_each [.t 42,.t 43,.t 44])]
(Q [xf 46 5,m 47 6,o 48 (.callF f_script_reader_done [.t 46,.t 47])]
(.seq (Q [xf 49 5,o 50 (.nilck (.t 49)),xa 51 2 50,xf 52 51,o 53 (.bin .neq 0 true (.t 52) (ci 0))]
(.cond (.t 53)
(.seq (.drawn [o 54 (.build [ve,.nils,vi 0,(.bool false),.nils,vi 0,vi 0,vi 0,vi 0,.nils] []),⟨(some 55),(.load false 1 (.t 5)),none,[9]⟩,o 56 (.nilck (.t 55)),xa 57 1 56,⟨(some 58),(.load false 1 (.t 57)),none,[9]⟩,⟨(some 59),(.load false 1 (.t 5)),none,[9]⟩,o 60 (.nilck (.t 59)),xa 61 2 60,⟨(some 62),(.load false 1 (.t 61)),none,[9]⟩,xs 10 2 54,m 3 58,m 4 62])
(.ret [2,3,4]))
.skip))
(Q [xl 63 10 2,xs 10 2 63,o 3 (.mv (ci 0)),o 4 (.mv (ci 0))]
(.ret [2,3,4])))))))))))))))⟩
def K_script_Run : KF:=⟨1,31,[(.tmp 2)],(Q [o 2 (.mv (cs []))]
(Q [m 8 0,o 9 (.callF f_script_Read [.t 8]),m 7 9,xe 10 7 0,xe 11 7 1,xe 12 7 2,o 3 (.new [ve,.nils,vi 0,(.bool false),.nils,vi 0,vi 0,vi 0,vi 0,.nils] none),xs 10 3 10,m 4 11,m 5 12]
(.seq (Q [m 13 5,o 14 (.bin .eql 0 true (.t 13) (ci 0))]
(.cond (.t 14)
(Q [o 6 (.mv (cs []))]
(Q [xl 16 10 3,o 17 (.callF f_script_Play [.t 16]),m 15 17,xe 18 15 0,xe 19 15 1,m 6 18,m 5 19]
(Q [m 20 5,o 21 (.bin .eql 0 true (.t 20) (ci 0))]
(.cond (.t 21)
(Q [m 22 6,m 2 22]
(.ret [2]))
.skip))))
.skip))
(Q [m 23 5,o 24 (.callF f_num_Show [.t 23]),m 25 4,o 26 (.callF f_num_Show [.t 25]),o 27 (.buildSl [ve] 3 1 [(0,1,(cs [101,114,114,111,114])),(1,1,(.t 24)),(2,1,(.t 26))]),o 28 (.callF f_script_nets [.t 27]),o 29 (.buildSl [ve] 1 1 [(0,1,(.t 28))]),o 30 (.callF f_script_nets [.t 29]),m 2 30]
(.ret [2])))))⟩
def K_script_reader_bytes : KF:=⟨2,18,[(.tmp 4)],(Q [o 4 (.mv (cs []))]
(Q [m 6 0,m 7 1,o 8 (.callF f_script_reader_net [.t 6,.t 7]),o 5 (.new [vi 0,vi 0] none),xs 2 5 8]
(.seq (.plain [m 9 0,o 10 (.nilck (.t 9)),xa 11 0 10,xf 12 11,xa 13 0 5,xf 14 13,xa 15 1 5,xf 16 15,o 17 (.sliceStr (.t 12) (some (.t 14)) (some (.t 16))),m 4 17])
(.ret [4]))))⟩
def K_script_reader_number : KF:=⟨2,35,[(.tmp 4)],(Q [o 4 (.mv (ci 0))]
(Q [m 10 1,o 11 (.nilck (.t 10)),xa 12 0 11,xf 13 12,m 5 13]
(Q [m 14 0,m 15 1,o 16 (.callF f_script_reader_bytes [.t 14,.t 15]),m 6 16]
(Q [m 18 6,o 19 (.callF f_num_Read [.t 18,ci 0]),m 17 19,xe 20 17 0,xe 21 17 1,xe 22 17 2,m 7 20,m 8 21,m 9 22]
(.seq (Q [m 23 9,o 24 (.bin .neq 0 true (.t 23) (ci 0)),m 25 24,og 26 25 false (.mv (.t 8)),og 27 25 false (.mv (.t 6)),og 28 25 false (.len 0 (.t 27)),og 29 25 false (.bin .neq 0 false (.t 26) (.t 28)),o 30 (.pick (.t 25) (.c (.bool true)) (.t 29))]
(.cond (.t 30)
(Q [m 31 0,m 32 5,o 33 (.callF f_script_reader_fail [.t 31,ci 3,.t 32])]
(Q [o 4 (.mv (ci 0))]
(.ret [4])))
.skip))
(Q [m 34 7,m 4 34]
(.ret [4])))))))⟩
def K_script_reader_word : KF:=⟨2,25,[(.tmp 4)],(Q [o 4 (.mv (.c (.bool false)))]
(Q [m 7 1,o 8 (.nilck (.t 7)),xa 9 0 8,xf 10 9,m 5 10]
(Q [m 11 0,m 12 1,o 13 (.callF f_script_reader_bytes [.t 11,.t 12]),m 6 13]
(.seq (Q [m 14 6,o 15 (.bin .neq 0 true (.t 14) (cs [104,109,97,99])),m 16 15,og 17 16 true (.mv (.t 6)),og 18 16 true (.bin .neq 0 true (.t 17) (cs [116,97,98,108,101])),o 19 (.pick (.t 16) (.t 18) (.c (.bool false)))]
(.cond (.t 19)
(.ops [m 20 0,m 21 5,o 22 (.callF f_script_reader_fail [.t 20,ci 3,.t 21])])
.skip))
(Q [m 23 6,o 24 (.bin .eql 0 true (.t 23) (cs [104,109,97,99])),m 4 24]
(.ret [4]))))))⟩
def L_script_reader_each_0 : KC:=
(.seq (Q [m 10 0,o 11 (.nilck (.t 10)),xa 12 2 11,xf 13 12,o 14 (.bin .eql 0 true (.t 13) (ci 0)),m 15 14,og 16 15 true (.callF f_script_part_left [.t 6]),o 17 (.pick (.t 15) (.t 16) (.c (.bool false)))]
(.cond (.t 17)
.skip
(.exit [] 0)))
(.block 1
(.ops [m 18 2,o 19 (.callV (.t 18) [.t 6])])))
def K_script_reader_each : KF:=⟨3,20,[],(Q [m 7 0,m 8 1,o 9 (.callF f_script_reader_net [.t 7,.t 8]),o 6 (.new [vi 0,vi 0] none),xs 2 6 9]
(.block 0
(.loop [0,2,6] L_script_reader_each_0)))⟩
def K_script_reader_bounds : KF:=⟨2,22,[(.cell 4 true 4)],(Q [o 4 (.new [vi 0,vi 0,vi 0,vi 0] none)]
(Q [m 7 0,m 8 1,o 9 (.callF f_script_reader_net [.t 7,.t 8]),o 5 (.new [vi 0,vi 0] none),xs 2 5 9]
(Q [m 10 0,o 11 (.callF f_script_reader_number [.t 10,.t 5]),m 12 0,o 13 (.callF f_script_reader_number [.t 12,.t 5]),m 14 0,o 15 (.callF f_script_reader_number [.t 14,.t 5]),m 16 0,o 17 (.callF f_script_reader_number [.t 16,.t 5]),o 18 (.build [vi 0,vi 0,vi 0,vi 0] [(0,1,(.t 11)),(1,1,(.t 13)),(2,1,(.t 15)),(3,1,(.t 17))]),o 6 (.new [vi 0,vi 0,vi 0,vi 0] none),xs 4 6 18]
(Q [m 19 0,o 20 (.callF f_script_reader_done [.t 19,.t 5])]
(Q [xl 21 4 6,xs 4 4 21]
(.ret [4]))))))⟩
def K_script_Read_3 : KF:=⟨3,22,[],(.seq (Q [xa 4 9 1,xf 5 4,o 6 (.len 1 (.t 5)),o 7 (.bin .geq 0 true (.t 6) (ci 64))]
(.cond (.t 7)
(.seq (.plain [xf 8 2,m 9 0,o 10 (.nilck (.t 9)),xa 11 0 10,xf 12 11,o 13 (.callF f_script_reader_fail [.t 8,ci 5,.t 12])])
(.ret []))
.skip))
(.drawn [xa 14 9 1,⟨(some 15),(.load false 1 (.t 14)),none,[4]⟩,xf 16 2,m 17 0,o 18 (.callF f_script_reader_bytes [.t 16,.t 17]),o 19 (.buildSl [ve] 1 1 [(0,1,(.t 18))]),o 20 (.app false 1 16 none (.t 15) (.t 19)),xa 21 9 1,xs 1 21 20]))⟩
def K_script_reader_fail : KF:=⟨3,19,[],(Q [m 6 0,o 7 (.nilck (.t 6)),xa 8 2 7,xf 9 8,o 10 (.bin .eql 0 true (.t 9) (ci 0))]
(.cond (.t 10)
(.ops [m 11 0,m 12 0,m 13 1,m 14 2,o 15 (.nilck (.t 11)),xa 16 2 15,xs 1 16 13,o 17 (.nilck (.t 12)),xa 18 1 17,xs 1 18 14])
.skip))⟩
def K_script_reader_done : KF:=⟨2,12,[],(Q [m 4 1,o 5 (.callF f_script_part_left [.t 4])]
(.cond (.t 5)
(.ops [m 6 0,m 7 1,o 8 (.nilck (.t 7)),xa 9 0 8,xf 10 9,o 11 (.callF f_script_reader_fail [.t 6,ci 11,.t 10])])
.skip))⟩
def L_script_Play_0 : KC:=
(Q [o 21 (.bin .lss 0 false (.t 20) (.t 19))]
(.seq (.cond (.t 21)
.skip
(.exit [5] 0))
(.seq (.block 1
(Q [o 22 (.idxAddrSl 1 (.t 18) (.t 20)),xf 23 22,m 8 23]
(Q [m 24 4,m 25 8,o 26 (.callF f_lookup_Machine_Lookup [.t 24,.t 25]),o 9 (.new [vu 0,vu 0,vu 0,ve,ve,vi 0,.nils,vu 0,vi 0,ve,.nils,.nils] none),xs 12 9 26]
(Q [m 27 4,o 28 (.callF f_lookup_Machine_Fetched [.t 27]),m 10 28]
(.seq (.plain [xl 29 12 9,m 30 10,m 31 6,o 32 (.sliceSl 4 (.t 30) (some (.t 31)) none none),o 33 (.callF f_script_report [.t 29,.t 32]),o 34 (.buildSl [ve] 1 1 [(0,1,(.t 33))]),o 35 (.callF f_script_nets [.t 34]),o 36 (.callF f_strings_Builder_WriteString [.t 5,.t 35])])
(.ops [m 37 10,o 38 (.len 1 (.t 37)),m 6 38]))))))
(.ops [o 39 (.bin .add 0 true (.t 20) (ci 1)),m 20 39]))))
def K_script_Play : KF:=⟨1,41,[(.tmp 2),(.tmp 3)],(Q [o 1 (.box (.t 0)),o 2 (.mv (cs [])),o 3 (.mv (ci 0))]
(.seq (Q [xa 11 9 1,xf 12 11,o 13 (.len 1 (.t 12)),o 14 (.bin .gtr 0 true (.t 13) (ci 64))]
(.cond (.t 14)
(Q [o 2 (.mv (cs [])),o 3 (.mv (ci 5))]
(.ret [2,3]))
.skip))
(Q [xl 15 10 1,o 16 (.callF f_lookup_New [.t 15]),m 4 16]
(Q [o 5 (.new [.nilp,.nils] (some (70,true)))]
(Q [o 6 (.mv (ci 0))]
(.seq (Q [xa 17 9 1,xf 18 17,o 19 (.len 1 (.t 18)),o 20 (.mv (ci 0))]
(.block 0
(.loop [4,5,6,18,19,20] L_script_Play_0)))
(Q [o 40 (.callF f_strings_Builder_String [.t 5]),m 2 40,o 3 (.mv (ci 0))]
(.ret [2,3]))))))))⟩
def K_strings_Builder_String : KF:=⟨1,14,[(.tmp 2)],(Q [o 2 (.mv (cs []))]
(.seq (.plain [m 3 0,o 4 (.nilck (.t 3)),xa 5 1 4,xf 6 5,o 7 .fail,m 8 0,o 9 (.nilck (.t 8)),xa 10 1 9,xf 11 10,o 12 (.len 1 (.t 11)),o 13 .fail,m 2 13])
(.ret [2])))⟩
def K_script_reader_net : KF:=⟨2,38,[(.cell 4 true 2)],(Q [o 4 (.new [vi 0,vi 0] none)]
(.seq (Q [m 7 0,o 8 (.nilck (.t 7)),xa 9 2 8,xf 10 9,o 11 (.bin .neq 0 true (.t 10) (ci 0))]
(.cond (.t 11)
(Q [o 12 (.build [vi 0,vi 0] []),xs 2 4 12]
(.ret [4]))
.skip))
(Q [m 14 0,m 15 1,o 16 (.nilck (.t 15)),xl 17 2 16,o 18 (.callF f_script_reader_frame [.t 14,.t 17]),m 13 18,xe 19 13 0,xe 20 13 1,o 5 (.new [vi 0,vi 0] none),xs 2 5 19,m 6 20]
(.seq (Q [m 21 6,o 22 (.bin .neq 0 true (.t 21) (ci 0))]
(.cond (.t 22)
(Q [m 23 0,m 24 6,m 25 1,o 26 (.nilck (.t 25)),xa 27 0 26,xf 28 27,o 29 (.callF f_script_reader_fail [.t 23,.t 24,.t 28])]
(Q [o 30 (.build [vi 0,vi 0] []),xs 2 4 30]
(.ret [4])))
.skip))
(Q [m 31 1,xa 32 1 5,xf 33 32,o 34 (.bin .add 0 true (.t 33) (ci 1)),o 35 (.nilck (.t 31)),xa 36 0 35,xs 1 36 34]
(Q [xl 37 2 5,xs 2 4 37]
(.ret [4])))))))⟩
def L_num_Read_0 : KC:=
(.seq (Q [m 18 7,m 19 0,o 20 (.len 0 (.t 19)),o 21 (.bin .lss 0 false (.t 18) (.t 20))]
(.cond (.t 21)
.skip
(.exit [0,1,7] 0)))
(.block 1
(Q [m 22 0,m 23 7,o 24 (.idxStr (.t 22) (.t 23))]
(.block 2
(.seq (Q [o 26 (.bin .eql 0 true (.t 24) (cu 48)),m 25 26]
(.cond (.t 25)
.skip
(Q [o 27 (.bin .eql 0 true (.t 24) (cu 49)),m 25 27]
(.cond (.t 25)
.skip
(Q [o 28 (.bin .eql 0 true (.t 24) (cu 50)),m 25 28]
(.cond (.t 25)
.skip
(Q [o 29 (.bin .eql 0 true (.t 24) (cu 51)),m 25 29]
(.cond (.t 25)
.skip
(Q [o 30 (.bin .eql 0 true (.t 24) (cu 52)),m 25 30]
(.cond (.t 25)
.skip
(Q [o 31 (.bin .eql 0 true (.t 24) (cu 53)),m 25 31]
(.cond (.t 25)
.skip
(Q [o 32 (.bin .eql 0 true (.t 24) (cu 54)),m 25 32]
(.cond (.t 25)
.skip
(Q [o 33 (.bin .eql 0 true (.t 24) (cu 55)),m 25 33]
(.cond (.t 25)
.skip
(Q [o 34 (.bin .eql 0 true (.t 24) (cu 56)),m 25 34]
(.cond (.t 25)
.skip
(Q [o 35 (.bin .eql 0 true (.t 24) (cu 57)),m 25 35]
(.cond (.t 25)
.skip
(Q [o 36 (.bin .eql 0 true (.t 24) (cu 45)),m 25 36]
(.cond (.t 25)
.skip
(Q [o 37 (.bin .eql 0 true (.t 24) (cu 43)),m 25 37]
(.cond (.t 25)
.skip
(Q [o 38 (.bin .eql 0 true (.t 24) (cu 46)),m 25 38]
(.cond (.t 25)
.skip
(Q [o 39 (.bin .eql 0 true (.t 24) (cu 101)),m 25 39]
(.cond (.t 25)
.skip
(.ops [o 40 (.bin .eql 0 true (.t 24) (cu 69)),m 25 40])))))))))))))))))))))))))))))
(.cond (.t 25)
(.ops [m 41 7,o 42 (.bin .add 0 true (.t 41) (ci 1)),m 7 42])
(.exit [0,1,7] 0)))))))
def K_num_Read : KF:=⟨2,61,[(.tmp 4),(.tmp 5),(.tmp 6)],(Q [o 4 (.mv (ci 0)),o 5 (.mv (ci 0)),o 6 (.mv (ci 0))]
(.scope (.seq (Q [m 9 1,o 10 (.bin .lss 0 true (.t 9) (ci 0)),m 11 10,og 12 11 false (.mv (.t 1)),og 13 11 false (.mv (.t 0)),og 14 11 false (.len 0 (.t 13)),og 15 11 false (.bin .gtr 0 false (.t 12) (.t 14)),o 16 (.pick (.t 11) (.c (.bool true)) (.t 15))]
(.cond (.t 16)
(Q [o 4 (.mv (ci 0)),o 5 (.mv (ci 0)),o 6 (.mv (ci 1))]
(.ret [4,5,6]))
.skip))
(Q [m 17 1,m 7 17]
(.seq .skip
(.seq (.block 0
(.loop [0,1,7] L_num_Read_0))
(.seq (Q [m 43 0,m 44 1,m 45 7,o 46 (.sliceStr (.t 43) (some (.t 44)) (some (.t 45))),o 47 (.callF f_num_formed [.t 46]),o 48 (.un .not (.t 47))]
(.cond (.t 48)
(Q [o 4 (.mv (ci 0)),o 5 (.mv (ci 0)),o 6 (.mv (ci 3))]
(.ret [4,5,6]))
.skip))
(Q [m 50 0,m 51 1,m 52 7,o 53 (.sliceStr (.t 50) (some (.t 51)) (some (.t 52))),o 54 (.callF f_strconv_ParseInt [.t 53,ci 10,ci 64]),m 49 54,xe 55 49 0,xe 56 49 1,m 4 55,m 8 56]
(.seq (Q [m 57 8,o 58 (.bin .neq 5 true (.t 57) (.c .nilIface))]
(.cond (.t 58)
(Q [o 4 (.mv (ci 0)),o 5 (.mv (ci 0)),o 6 (.mv (ci 9))]
(.ret [4,5,6]))
.skip))
(Q [m 59 4,m 60 7,m 4 59,m 5 60,o 6 (.mv (ci 0))]
(.ret [4,5,6])))))))))))⟩
def K_script_part_left : KF:=⟨1,12,[(.tmp 2)],(Q [o 2 (.mv (.c (.bool false)))]
(.seq (.plain [m 3 0,o 4 (.nilck (.t 3)),xa 5 0 4,xf 6 5,m 7 0,o 8 (.nilck (.t 7)),xa 9 1 8,xf 10 9,o 11 (.bin .lss 0 false (.t 6) (.t 10)),m 2 11])
(.ret [2])))⟩
def K_lookup_New : KF:=⟨1,39,[(.tmp 2)],(Q [o 1 (.box (.t 0)),o 2 (.mv (.c .nilp))]
(Q [xa 8 0 1,xf 9 8,o 10 (.callF f_chart_Read [.t 9]),m 7 10,xe 11 7 0,xe 12 7 1,o 3 (.new [.nils,.nils] none),xs 2 3 11,m 4 12]
(.seq (Q [m 13 4,o 14 (.bin .neq 0 true (.t 13) (ci 0)),m 15 14,og 16 15 false (.fieldAddr 5 (.t 1)),og 17 15 false (.load true 4 (.t 16)),og 18 15 false (.callF f_lookup_mayBounds [.t 17]),og 19 15 false (.un .not (.t 18)),o 20 (.pick (.t 15) (.c (.bool true)) (.t 19))]
(.cond (.t 20)
(Q [o 21 (.build [(.bool false),.nils,.nils,vi 0,vi 0,vi 0,vi 0,.nilMap,.nils] []),o 22 (.box (.t 21)),m 2 22]
(.ret [2]))
.skip))
(Q [xl 24 10 1,xl 25 2 3,o 26 (.callF f_lookup_reposOf [.t 24,.t 25]),m 23 26,xe 27 23 0,xe 28 23 1,m 5 27,m 6 28]
(.seq (Q [m 29 6,o 30 (.un .not (.t 29))]
(.cond (.t 30)
(Q [o 31 (.build [(.bool false),.nils,.nils,vi 0,vi 0,vi 0,vi 0,.nilMap,.nils] []),o 32 (.box (.t 31)),m 2 32]
(.ret [2]))
.skip))
(Q [xl 33 2 3,xa 34 5 1,xl 35 4 34,m 36 5,o 37 (.build [(.bool false),.nils,.nils,vi 0,vi 0,vi 0,vi 0,.nilMap,.nils] [(0,1,(.c (.bool true))),(1,2,(.t 33)),(3,4,(.t 35)),(7,1,(.t 36))]),o 38 (.box (.t 37)),m 2 38]
(.ret [2])))))))⟩
def L_lookup_Machine_Lookup_0 : KC:=
(Q [o 24 (.bin .lss 0 false (.t 23) (.t 22))]
(.seq (.cond (.t 24)
.skip
(.exit [4] 0))
(.seq (.block 1
(Q [o 25 (.idxAddrSl 4 (.t 21) (.t 23)),xl 26 4 25,o 6 (.new [.nils,.nils,(.bool false),vi 0] none),xs 4 6 26]
(Q [m 27 0,xl 28 4 6,m 29 1,o 30 (.callF f_lookup_Machine_ask [.t 27,.t 28,.t 29]),o 7 (.new [vu 0,vu 0,vu 0,ve,ve,vi 0,.nils,vu 0,vi 0,ve,.nils,.nils] none),xs 12 7 30]
(Q [xa 31 0 7,xf 32 31,o 33 (.bin .neq 0 true (.t 32) (cu 2))]
(.cond (.t 33)
(Q [xl 34 12 7,xs 12 4 34]
(.ret [4]))
.skip)))))
(.ops [o 35 (.bin .add 0 true (.t 23) (ci 1)),m 23 35]))))
def K_lookup_Machine_Lookup : KF:=⟨2,37,[(.cell 4 true 12)],(Q [o 4 (.new [vu 0,vu 0,vu 0,ve,ve,vi 0,.nils,vu 0,vi 0,ve,.nils,.nils] none)]
(.seq (Q [m 8 0,o 9 (.callF f_lookup_Machine_May [.t 8]),o 10 (.un .not (.t 9))]
(.cond (.t 10)
(Q [o 11 (.build [vu 0,vu 0,vu 0,ve,ve,vi 0,.nils,vu 0,vi 0,ve,.nils,.nils] [(0,1,(cu 3)),(1,1,(cu 1))]),xs 12 4 11]
(.ret [4]))
.skip))
(.seq (Q [m 12 1,o 13 (.callF f_name_Path [.t 12]),o 14 (.un .not (.t 13))]
(.cond (.t 14)
(Q [o 15 (.build [vu 0,vu 0,vu 0,ve,ve,vi 0,.nils,vu 0,vi 0,ve,.nils,.nils] [(0,1,(cu 2))]),xs 12 4 15]
(.ret [4]))
.skip))
(.seq (Q [m 16 0,o 17 (.nilck (.t 16)),xa 18 1 17,xl 19 2 18,m 20 1,o 21 (.callF f_chart_For [.t 19,.t 20]),o 22 (.len 1 (.t 21)),o 23 (.mv (ci 0))]
(.block 0
(.loop [0,1,4,21,22,23] L_lookup_Machine_Lookup_0)))
(Q [o 36 (.build [vu 0,vu 0,vu 0,ve,ve,vi 0,.nils,vu 0,vi 0,ve,.nils,.nils] [(0,1,(cu 2))]),xs 12 4 36]
(.ret [4]))))))⟩
def K_lookup_Machine_Fetched : KF:=⟨1,10,[(.tmp 2)],(Q [o 2 (.mv (.c .nils))]
(.seq (Q [m 3 0,o 4 (.bin .eql 3 true (.t 3) (.c .nilp))]
(.cond (.t 4)
(Q [o 2 (.mv (.c .nils))]
(.ret [2]))
.skip))
(Q [m 5 0,o 6 (.nilck (.t 5)),xa 7 8 6,xf 8 7,o 9 (.callF f_slices_Clone_api_Fetch_api_Fetch [.t 8]),m 2 9]
(.ret [2]))))⟩
def L_script_report_0 : KC:=
(Q [o 11 (.bin .lss 0 false (.t 10) (.t 9))]
(.seq (.cond (.t 11)
.skip
(.exit [2,5] 0))
(.seq (.block 1
(Q [o 12 (.idxAddrSl 4 (.t 8) (.t 10)),xl 13 4 12,o 7 (.new [ve,ve,vi 0,vi 0] none),xs 4 7 13]
(.drawn [m 14 5,xa 15 0 7,⟨(some 16),(.load false 1 (.t 15)),none,[7,10]⟩,xa 17 1 7,⟨(some 18),(.load false 1 (.t 17)),none,[7,10]⟩,xa 19 2 7,xf 20 19,o 21 (.callF f_num_Show [.t 20]),xa 22 3 7,⟨(some 23),(.load false 1 (.t 22)),none,[7]⟩,o 24 (.callF f_num_Show [.t 23]),o 25 (.buildSl [ve] 4 1 [(0,1,(.t 16)),(1,1,(.t 18)),(2,1,(.t 21)),(3,1,(.t 24))]),o 26 (.callF f_script_nets [.t 25]),o 27 (.buildSl [ve] 1 1 [(0,1,(.t 26))]),o 28 (.app false 1 16 none (.t 14) (.t 27)),m 5 28])))
(.ops [o 29 (.bin .add 0 true (.t 10) (ci 1)),m 10 29]))))
def K_script_report : KF:=⟨2,52,[(.tmp 4)],(Q [o 2 (.box (.t 0)),o 4 (.mv (cs []))]
(Q [o 5 (.mv (.c .nils))]
(.seq (Q [m 8 1,o 9 (.len 1 (.t 8)),o 10 (.mv (ci 0))]
(.block 0
(.loop [2,5,8,9,10] L_script_report_0)))
(.seq (.drawn [xa 30 0 2,xf 31 30,o 32 (.i2i .i64 (.t 31)),o 33 (.callF f_num_Show [.t 32]),xa 34 1 2,⟨(some 35),(.load false 1 (.t 34)),none,[3]⟩,o 36 (.i2i .i64 (.t 35)),o 37 (.callF f_num_Show [.t 36]),xa 38 2 2,⟨(some 39),(.load false 1 (.t 38)),none,[3,7]⟩,o 40 (.i2i .i64 (.t 39)),o 41 (.callF f_num_Show [.t 40]),xa 42 3 2,⟨(some 43),(.load false 1 (.t 42)),none,[3,7,11,17,19]⟩,xa 44 4 2,⟨(some 45),(.load false 1 (.t 44)),none,[3,7,11,17,19]⟩,⟨(some 46),(.load true 12 (.t 2)),none,[3,7,11]⟩,o 47 (.callF f_script_recordOf [.t 46]),m 48 5,o 49 (.callF f_script_nets [.t 48]),o 50 (.buildSl [ve] 7 1 [(0,1,(.t 33)),(1,1,(.t 37)),(2,1,(.t 41)),(3,1,(.t 43)),(4,1,(.t 45)),(5,1,(.t 47)),(6,1,(.t 49))]),o 51 (.callF f_script_nets [.t 50]),m 4 51])
(.ret [4])))))⟩
def K_strings_Builder_copyCheck : KF:=⟨1,20,[],(Q [m 2 0,o 3 (.nilck (.t 2)),xa 4 0 3,xf 5 4,o 6 (.bin .eql 3 true (.t 5) (.c .nilp))]
(.cond (.t 6)
(.ops [m 7 0,m 8 0,o 9 .fail,o 10 (.callF f_internal_abi_NoEscape [.t 9]),o 11 .fail,o 12 (.nilck (.t 7)),xa 13 0 12,xs 1 13 11])
(Q [m 14 0,o 15 (.nilck (.t 14)),xa 16 0 15,xf 17 16,m 18 0,o 19 (.bin .neq 3 false (.t 17) (.t 18))]
(.cond (.t 19)
.fail
.skip))))⟩
def L_script_reader_frame_0 : KC:=
(.seq (.block 1
(.seq (Q [m 14 6,xa 15 1 3,xf 16 15,o 17 (.bin .geq 0 false (.t 14) (.t 16))]
(.cond (.t 17)
(Q [o 18 (.build [vi 0,vi 0] []),xs 2 4 18,o 5 (.mv (ci 4))]
(.ret [4,5]))
.skip))
(Q [m 19 0,o 20 (.nilck (.t 19)),xa 21 0 20,xf 22 21,m 23 6,o 24 (.idxStr (.t 22) (.t 23)),m 8 24]
(.seq (Q [m 25 8,o 26 (.bin .eql 0 true (.t 25) (cu 58)),m 27 26,og 28 27 true (.mv (.t 6)),og 29 27 true (.fieldAddr 0 (.t 3)),og 30 27 true (.load false 1 (.t 29)),og 31 27 true (.bin .gtr 0 false (.t 28) (.t 30)),o 32 (.pick (.t 27) (.t 31) (.c (.bool false)))]
(.cond (.t 32)
(.exit [0,3,4,6,7] 0)
.skip))
(.seq (.seq (.plain [m 33 8,o 34 (.bin .lss 0 true (.t 33) (cu 48)),m 35 34,og 36 35 false (.mv (.t 8)),og 37 35 false (.bin .gtr 0 true (.t 36) (cu 57)),o 38 (.pick (.t 35) (.c (.bool true)) (.t 37)),m 39 38,og 40 39 false (.mv (.t 6)),og 41 39 false (.fieldAddr 0 (.t 3)),og 42 39 false (.load false 1 (.t 41)),og 43 39 false (.bin .gtr 0 false (.t 40) (.t 42)),og 44 39 false (.mv (.t 43)),og 45 44 true (.mv (.t 0)),og 46 44 true (.nilck (.t 45)),og 47 44 true (.fieldAddr 0 (.t 46)),og 48 44 true (.load false 1 (.t 47)),og 49 44 true (.fieldAddr 0 (.t 3)),og 50 44 true (.load false 1 (.t 49)),og 51 44 true (.idxStr (.t 48) (.t 50)),og 52 44 true (.bin .eql 0 true (.t 51) (cu 48)),og 53 39 false (.pick (.t 44) (.t 52) (.c (.bool false))),o 54 (.pick (.t 39) (.c (.bool true)) (.t 53)),m 55 54,og 56 55 false (.mv (.t 6)),og 57 55 false (.fieldAddr 0 (.t 3)),og 58 55 false (.load false 1 (.t 57)),og 59 55 false (.bin .sub 0 false (.t 56) (.t 58)),og 60 55 false (.bin .geq 0 true (.t 59) (ci 7)),o 61 (.pick (.t 55) (.c (.bool true)) (.t 60))])
(.cond (.t 61)
(Q [o 62 (.build [vi 0,vi 0] []),xs 2 4 62,o 5 (.mv (ci 3))]
(.ret [4,5]))
.skip))
(.ops [m 63 7,o 64 (.bin .mul 0 true (ci 10) (.t 63)),m 65 8,o 66 (.bin .sub 0 true (.t 65) (cu 48)),o 67 (.i2i .i64 (.t 66)),o 68 (.bin .add 0 false (.t 64) (.t 67)),m 7 68]))))))
(.ops [m 12 6,o 13 (.bin .add 0 true (.t 12) (ci 1)),m 6 13]))
def K_script_reader_frame : KF:=⟨2,93,[(.cell 4 true 2),(.tmp 5)],(Q [o 3 (.box (.t 1)),o 4 (.new [vi 0,vi 0] none),o 5 (.mv (ci 0))]
(Q [xa 10 0 3,xf 11 10,m 6 11,o 7 (.mv (ci 0))]
(.seq (.block 0
(.loop [0,3,4,6,7] L_script_reader_frame_0))
(Q [m 69 6,o 70 (.bin .add 0 true (.t 69) (ci 1)),m 9 70]
(.seq (Q [xa 71 1 3,xf 72 71,m 73 9,o 74 (.bin .sub 0 false (.t 72) (.t 73)),m 75 7,o 76 (.bin .leq 0 false (.t 74) (.t 75))]
(.cond (.t 76)
(Q [o 77 (.build [vi 0,vi 0] []),xs 2 4 77,o 5 (.mv (ci 4))]
(.ret [4,5]))
.skip))
(.seq (Q [m 78 0,o 79 (.nilck (.t 78)),xa 80 0 79,xf 81 80,m 82 9,m 83 7,o 84 (.bin .add 0 false (.t 82) (.t 83)),o 85 (.idxStr (.t 81) (.t 84)),o 86 (.bin .neq 0 true (.t 85) (cu 44))]
(.cond (.t 86)
(Q [o 87 (.build [vi 0,vi 0] []),xs 2 4 87,o 5 (.mv (ci 3))]
(.ret [4,5]))
.skip))
(Q [m 88 9,m 89 9,m 90 7,o 91 (.bin .add 0 false (.t 89) (.t 90)),o 92 (.build [vi 0,vi 0] [(0,1,(.t 88)),(1,1,(.t 91))]),xs 2 4 92,o 5 (.mv (ci 0))]
(.ret [4,5]))))))))⟩
def L_num_formed_0 : KC:=
(Q [o 25 (.bin .lss 0 false (.t 24) (.t 23))]
(.seq (.cond (.t 25)
.skip
(.exit [] 0))
(.seq (.block 1
(Q [m 26 24,m 3 26]
(Q [m 27 0,m 28 3,o 29 (.idxStr (.t 27) (.t 28)),o 30 (.bin .lss 0 true (.t 29) (cu 48)),m 31 30,og 32 31 false (.mv (.t 0)),og 33 31 false (.mv (.t 3)),og 34 31 false (.idxStr (.t 32) (.t 33)),og 35 31 false (.bin .gtr 0 true (.t 34) (cu 57)),o 36 (.pick (.t 31) (.c (.bool true)) (.t 35))]
(.cond (.t 36)
(Q [o 2 (.mv (.c (.bool false)))]
(.ret [2]))
.skip))))
(.ops [o 37 (.bin .add 0 true (.t 24) (ci 1)),m 24 37]))))
def K_num_formed : KF:=⟨1,38,[(.tmp 2)],(Q [o 2 (.mv (.c (.bool false)))]
(.seq (Q [m 4 0,o 5 (.bin .eql 0 true (.t 4) (cs [48]))]
(.cond (.t 5)
(Q [o 2 (.mv (.c (.bool true)))]
(.ret [2]))
.skip))
(.seq (Q [m 6 0,o 7 (.bin .neq 0 true (.t 6) (cs [])),m 8 7,og 9 8 true (.mv (.t 0)),og 10 8 true (.idxStr (.t 9) (ci 0)),og 11 8 true (.bin .eql 0 true (.t 10) (cu 45)),o 12 (.pick (.t 8) (.t 11) (.c (.bool false)))]
(.cond (.t 12)
(.ops [m 13 0,o 14 (.sliceStr (.t 13) (some (ci 1)) none),m 0 14])
.skip))
(.seq (Q [m 15 0,o 16 (.bin .eql 0 true (.t 15) (cs [])),m 17 16,og 18 17 false (.mv (.t 0)),og 19 17 false (.idxStr (.t 18) (ci 0)),og 20 17 false (.bin .eql 0 true (.t 19) (cu 48)),o 21 (.pick (.t 17) (.c (.bool true)) (.t 20))]
(.cond (.t 21)
(Q [o 2 (.mv (.c (.bool false)))]
(.ret [2]))
.skip))
(.seq (Q [m 22 0,o 23 (.len 0 (.t 22)),o 24 (.mv (ci 0))]
(.block 0
(.loop [0,23,24] L_num_formed_0)))
(Q [o 2 (.mv (.c (.bool true)))]
(.ret [2])))))))⟩
def K_strconv_ParseInt : KF:=⟨3,25,[(.tmp 6),(.tmp 7)],(Q [o 6 (.mv (ci 0)),o 7 (.mv (.c .nilIface))]
(Q [m 10 0,m 11 1,m 12 2,o 13 (.callF f_internal_strconv_ParseInt [.t 10,.t 11,.t 12]),m 9 13,xe 14 9 0,xe 15 9 1,m 8 14,m 7 15]
(.seq (Q [m 16 7,o 17 (.bin .neq 5 true (.t 16) (.c .nilIface))]
(.cond (.t 17)
(Q [m 18 8,m 19 0,m 20 1,m 21 2,m 22 7,o 23 (.callF f_strconv_toError [cs [80,97,114,115,101,73,110,116],.t 19,.t 20,.t 21,.t 22]),m 6 18,m 7 23]
(.ret [6,7]))
.skip))
(Q [m 24 8,m 6 24,o 7 (.mv (.c .nilIface))]
(.ret [6,7])))))⟩
def K_chart_Read : KF:=⟨1,21,[(.cell 2 true 2),(.tmp 3)],(Q [o 2 (.new [.nils,.nils] none),o 3 (.mv (ci 0))]
(Q [m 8 0,o 9 (.callF f_read_Read [.t 8]),m 7 9,xe 10 7 0,xe 11 7 1,xe 12 7 2,o 4 (.new [vu 0,vi 0,ve,.nils,.nils] none),xs 5 4 10,m 5 11,m 6 12]
(.seq (Q [m 13 6,o 14 (.bin .neq 0 true (.t 13) (ci 0))]
(.cond (.t 14)
(Q [o 15 (.build [.nils,.nils] []),m 16 6,xs 2 2 15,m 3 16]
(.ret [2,3]))
.skip))
(Q [xl 17 5 4,o 18 (.callF f_chart_Of [.t 17]),xe 19 18 0,xe 20 18 1,xs 2 2 19,m 3 20]
(.ret [2,3])))))⟩
def K_lookup_Machine_May : KF:=⟨1,11,[(.tmp 2)],(Q [o 2 (.mv (.c (.bool false)))]
(Q [m 3 0,o 4 (.bin .neq 3 true (.t 3) (.c .nilp)),m 5 4,og 6 5 true (.mv (.t 0)),og 7 5 true (.nilck (.t 6)),og 8 5 true (.fieldAddr 0 (.t 7)),og 9 5 true (.load false 1 (.t 8)),o 10 (.pick (.t 5) (.t 9) (.c (.bool false))),m 2 10]
(.ret [2])))⟩
def K_slices_Clone_api_Fetch_api_Fetch : KF:=⟨1,8,[(.tmp 2)],(Q [o 2 (.mv (.c .nils))]
(.seq (Q [m 3 0,o 4 (.bin .eql 7 true (.t 3) (.c .nils))]
(.cond (.t 4)
(Q [o 2 (.mv (.c .nils))]
(.ret [2]))
.skip))
(Q [o 5 (.buildSl [ve,ve,vi 0,vi 0] 0 4 []),m 6 0,o 7 (.app false 4 48 none (.t 5) (.t 6)),m 2 7]
(.ret [2]))))⟩
def K_script_recordOf : KF:=⟨1,25,[(.tmp 2)],(Q [o 1 (.box (.t 0)),o 2 (.mv (cs []))]
(.seq (Q [xa 6 0 1,xf 7 6,o 8 (.bin .neq 0 true (.t 7) (cu 1))]
(.cond (.t 8)
(Q [o 2 (.mv (cs []))]
(.ret [2]))
.skip))
(Q [xa 10 5 1,xl 11 7 10,o 12 (.callF f_record_Value [.t 11]),m 9 12,xe 13 9 0,xe 14 9 1,o 3 (.new [vu 0,vi 0,ve,.nils,.nils] none),xs 5 3 13,m 4 14]
(.seq (Q [m 15 4,o 16 (.bin .neq 0 true (.t 15) (ci 0))]
(.cond (.t 16)
(Q [o 2 (.mv (cs []))]
(.ret [2]))
.skip))
(Q [xl 18 5 3,o 19 (.callF f_canon_Encode [.t 18]),m 17 19,xe 20 17 0,xe 21 17 1,m 5 20,m 4 21]
(.seq (Q [m 22 4,o 23 (.bin .neq 0 true (.t 22) (ci 0))]
(.cond (.t 23)
(Q [o 2 (.mv (cs []))]
(.ret [2]))
.skip))
(Q [m 24 5,m 2 24]
(.ret [2]))))))))⟩
def K_internal_strconv_ParseInt : KF:=⟨3,73,[(.tmp 6),(.tmp 7)],(Q [o 6 (.mv (ci 0)),o 7 (.mv (.c .nilIface))]
(.seq (Q [m 12 0,o 13 (.bin .eql 0 true (.t 12) (cs []))]
(.cond (.t 13)
(Q [o 14 (.mkIface 177 (ci 2)),o 6 (.mv (ci 0)),m 7 14]
(.ret [6,7]))
.skip))
(Q [o 8 (.mv (.c (.bool false)))]
(.seq (Q [m 15 0,o 16 (.idxStr (.t 15) (ci 0))]
(.block 0
(Q [o 18 (.bin .eql 0 true (.t 16) (cu 43)),m 17 18]
(.cond (.t 17)
(.ops [m 19 0,o 20 (.sliceStr (.t 19) (some (ci 1)) none),m 0 20])
(Q [o 22 (.bin .eql 0 true (.t 16) (cu 45)),m 21 22]
(.cond (.t 21)
(Q [m 23 0,o 24 (.sliceStr (.t 23) (some (ci 1)) none),m 0 24]
(.ops [o 8 (.mv (.c (.bool true)))]))
.skip))))))
(Q [o 9 (.mv (.c (.int .u64 0)))]
(Q [m 26 0,m 27 1,m 28 2,o 29 (.callF f_internal_strconv_ParseUint [.t 26,.t 27,.t 28]),m 25 29,xe 30 25 0,xe 31 25 1,m 9 30,m 7 31]
(.seq (Q [m 32 7,o 33 (.bin .neq 5 true (.t 32) (.c .nilIface)),m 34 33,og 35 34 true (.mv (.t 7)),og 36 34 true (.mkIface 177 (ci 1)),og 37 34 true (.bin .neq 5 false (.t 35) (.t 36)),o 38 (.pick (.t 34) (.t 37) (.c (.bool false)))]
(.cond (.t 38)
(Q [m 39 7,o 6 (.mv (ci 0)),m 7 39]
(.ret [6,7]))
.skip))
(.seq (Q [m 40 2,o 41 (.bin .eql 0 true (.t 40) (ci 0))]
(.cond (.t 41)
(.ops [o 2 (.mv (ci 64))])
.skip))
(Q [m 42 2,o 43 (.bin .sub 0 true (.t 42) (ci 1)),o 44 (.i2i .u64 (.t 43)),o 45 (.bin .shl 0 true (.c (.int .u64 1)) (.t 44)),m 10 45]
(.seq (Q [m 46 8,o 47 (.un .not (.t 46)),m 48 47,og 49 48 true (.mv (.t 9)),og 50 48 true (.mv (.t 10)),og 51 48 true (.bin .geq 0 false (.t 49) (.t 50)),o 52 (.pick (.t 48) (.t 51) (.c (.bool false)))]
(.cond (.t 52)
(Q [m 53 10,o 54 (.bin .sub 0 true (.t 53) (.c (.int .u64 1))),o 55 (.i2i .i64 (.t 54)),o 56 (.mkIface 177 (ci 1)),m 6 55,m 7 56]
(.ret [6,7]))
.skip))
(.seq (Q [m 57 8,m 58 57,og 59 58 true (.mv (.t 9)),og 60 58 true (.mv (.t 10)),og 61 58 true (.bin .gtr 0 false (.t 59) (.t 60)),o 62 (.pick (.t 58) (.t 61) (.c (.bool false)))]
(.cond (.t 62)
(Q [m 63 10,o 64 (.i2i .i64 (.t 63)),o 65 (.un .neg (.t 64)),o 66 (.mkIface 177 (ci 1)),m 6 65,m 7 66]
(.ret [6,7]))
.skip))
(Q [m 67 9,o 68 (.i2i .i64 (.t 67)),m 11 68]
(.seq (Q [m 69 8]
(.cond (.t 69)
(.ops [m 70 11,o 71 (.un .neg (.t 70)),m 11 71])
.skip))
(Q [m 72 11,m 6 72,o 7 (.mv (.c .nilIface))]
(.ret [6,7])))))))))))))))⟩
def K_read_Read : KF:=⟨1,52,[(.cell 2 true 5),(.tmp 3),(.tmp 4)],(Q [o 2 (.new [vu 0,vi 0,ve,.nils,.nils] none),o 3 (.mv (ci 0)),o 4 (.mv (ci 0))]
(.seq (Q [m 6 0,o 7 (.len 0 (.t 6)),o 8 (.bin .gtr 0 true (.t 7) (ci 65536))]
(.cond (.t 8)
(Q [o 9 (.build [vu 0,vi 0,ve,.nils,.nils] []),xs 5 2 9,o 3 (.mv (ci 0)),o 4 (.mv (ci 5))]
(.ret [2,3,4]))
.skip))
(Q [m 10 0,o 11 (.build [ve,vi 0,vu 0,vi 0,vi 0,vi 0,ve,vi 0] [(0,1,(.t 10))]),o 12 (.build [ve,vi 0,vu 0,vi 0,vi 0,vi 0,ve,vi 0,vi 0,vi 0] [(0,8,(.t 11))]),o 5 (.new [ve,vi 0,vu 0,vi 0,vi 0,vi 0,ve,vi 0,vi 0,vi 0] none),xs 10 5 12]
(.seq (Q [xa 13 0 5,o 14 (.callF f_read_tokens_next [.t 13]),m 4 14]
(Q [m 15 4,o 16 (.bin .neq 0 true (.t 15) (ci 0))]
(.cond (.t 16)
(.seq (.drawn [o 17 (.build [vu 0,vi 0,ve,.nils,.nils] []),xa 18 0 5,xa 19 1 18,⟨(some 20),(.load false 1 (.t 19)),none,[5]⟩,m 21 4,xs 5 2 17,m 3 20,m 4 21])
(.ret [2,3,4]))
.skip)))
(.seq (Q [o 23 (.callF f_read_values_value [.t 5]),m 22 23,xe 24 22 0,xe 25 22 1,xs 5 2 24,m 4 25]
(Q [m 26 4,o 27 (.bin .neq 0 true (.t 26) (ci 0))]
(.cond (.t 27)
(.seq (.drawn [o 28 (.build [vu 0,vi 0,ve,.nils,.nils] []),xa 29 0 5,xa 30 1 29,⟨(some 31),(.load false 1 (.t 30)),none,[5]⟩,m 32 4,xs 5 2 28,m 3 31,m 4 32])
(.ret [2,3,4]))
.skip)))
(.seq (Q [xa 33 0 5,o 34 (.callF f_read_tokens_next [.t 33]),m 4 34]
(Q [m 35 4,o 36 (.bin .neq 0 true (.t 35) (ci 0))]
(.cond (.t 36)
(.seq (.drawn [o 37 (.build [vu 0,vi 0,ve,.nils,.nils] []),xa 38 0 5,xa 39 1 38,⟨(some 40),(.load false 1 (.t 39)),none,[5]⟩,m 41 4,xs 5 2 37,m 3 40,m 4 41])
(.ret [2,3,4]))
.skip)))
(.seq (Q [xa 42 0 5,xa 43 2 42,xa 44 0 43,xf 45 44,o 46 (.bin .neq 0 true (.t 45) (cu 11))]
(.cond (.t 46)
(.seq (.drawn [o 47 (.build [vu 0,vi 0,ve,.nils,.nils] []),xa 48 0 5,xa 49 1 48,⟨(some 50),(.load false 1 (.t 49)),none,[4]⟩,xs 5 2 47,m 3 50,o 4 (.mv (ci 11))])
(.ret [2,3,4]))
.skip))
(Q [xl 51 5 2,xs 5 2 51,o 3 (.mv (ci 0)),o 4 (.mv (ci 0))]
(.ret [2,3,4])))))))))⟩
def L_internal_strconv_ParseUint_0 : KC:=
(Q [o 102 (.bin .lss 0 false (.t 101) (.t 100))]
(.seq (.cond (.t 102)
.skip
(.exit [9,12,13] 3))
(.seq (.block 4
(Q [o 103 (.idxAddrSl 1 (.t 99) (.t 101)),xf 104 103,m 15 104]
(Q [o 16 (.mv (cu 0))]
(.seq (.block 5
(Q [m 107 15,o 108 (.bin .eql 0 true (.t 107) (cu 95)),m 109 108,og 110 109 true (.mv (.t 8)),o 111 (.pick (.t 109) (.t 110) (.c (.bool false))),m 106 111]
(.cond (.t 106)
(Q [o 12 (.mv (.c (.bool true)))]
(.exit [1,8,9,10,11,12,13,99,100,101] 4))
(Q [m 113 15,o 114 (.bin .leq 0 true (cu 48) (.t 113)),m 115 114,og 116 115 true (.mv (.t 15)),og 117 115 true (.bin .leq 0 true (.t 116) (cu 57)),o 118 (.pick (.t 115) (.t 117) (.c (.bool false))),m 112 118]
(.cond (.t 112)
(.ops [m 119 15,o 120 (.bin .sub 0 true (.t 119) (cu 48)),m 16 120])
(Q [m 122 15,o 123 (.callF f_internal_strconv_lower [.t 122]),o 124 (.bin .leq 0 true (cu 97) (.t 123)),m 125 124,og 126 125 true (.mv (.t 15)),og 127 125 true (.callF f_internal_strconv_lower [.t 126]),og 128 125 true (.bin .leq 0 true (.t 127) (cu 122)),o 129 (.pick (.t 125) (.t 128) (.c (.bool false))),m 121 129]
(.cond (.t 121)
(.ops [m 130 15,o 131 (.callF f_internal_strconv_lower [.t 130]),o 132 (.bin .sub 0 true (.t 131) (cu 97)),o 133 (.bin .add 0 true (.t 132) (cu 10)),m 16 133])
(Q [o 105 (.mkIface 177 (ci 2)),o 6 (.mv (.c (.int .u64 0))),m 7 105]
(.ret [6,7])))))))))
(.seq (Q [m 134 16,m 135 1,o 136 (.i2i .u8 (.t 135)),o 137 (.bin .geq 0 false (.t 134) (.t 136))]
(.cond (.t 137)
(Q [o 138 (.mkIface 177 (ci 2)),o 6 (.mv (.c (.int .u64 0))),m 7 138]
(.ret [6,7]))
.skip))
(.seq (Q [m 139 13,m 140 10,o 141 (.bin .geq 0 false (.t 139) (.t 140))]
(.cond (.t 141)
(Q [m 142 11,o 143 (.mkIface 177 (ci 1)),m 6 142,m 7 143]
(.ret [6,7]))
.skip))
(Q [m 144 13,m 145 1,o 146 (.i2i .u64 (.t 145)),o 147 (.bin .mul 0 false (.t 144) (.t 146)),m 13 147]
(Q [m 148 13,m 149 16,o 150 (.i2i .u64 (.t 149)),o 151 (.bin .add 0 false (.t 148) (.t 150)),m 17 151]
(.seq (Q [m 152 17,m 153 13,o 154 (.bin .lss 0 false (.t 152) (.t 153)),m 155 154,og 156 155 false (.mv (.t 17)),og 157 155 false (.mv (.t 11)),og 158 155 false (.bin .gtr 0 false (.t 156) (.t 157)),o 159 (.pick (.t 155) (.c (.bool true)) (.t 158))]
(.cond (.t 159)
(Q [m 160 11,o 161 (.mkIface 177 (ci 1)),m 6 160,m 7 161]
(.ret [6,7]))
.skip))
(.ops [m 162 17,m 13 162]))))))))))
(.ops [o 163 (.bin .add 0 true (.t 101) (ci 1)),m 101 163]))))
def K_internal_strconv_ParseUint : KF:=⟨3,172,[(.tmp 6),(.tmp 7)],(Q [o 6 (.mv (.c (.int .u64 0))),o 7 (.mv (.c .nilIface))]
(.seq (Q [m 18 0,o 19 (.bin .eql 0 true (.t 18) (cs []))]
(.cond (.t 19)
(Q [o 20 (.mkIface 177 (ci 2)),o 6 (.mv (.c (.int .u64 0))),m 7 20]
(.ret [6,7]))
.skip))
(Q [m 21 1,o 22 (.bin .eql 0 true (.t 21) (ci 0)),m 8 22]
(Q [m 23 0,m 9 23]
(.seq (.block 0
(Q [m 26 1,o 27 (.bin .leq 0 true (ci 2) (.t 26)),m 28 27,og 29 28 true (.mv (.t 1)),og 30 28 true (.bin .leq 0 true (.t 29) (ci 36)),o 31 (.pick (.t 28) (.t 30) (.c (.bool false))),m 25 31]
(.cond (.t 25)
.skip
(Q [m 33 1,o 34 (.bin .eql 0 true (.t 33) (ci 0)),m 32 34]
(.cond (.t 32)
(Q [o 1 (.mv (ci 10))]
(Q [m 35 0,o 36 (.idxStr (.t 35) (ci 0)),o 37 (.bin .eql 0 true (.t 36) (cu 48))]
(.cond (.t 37)
(.block 1
(Q [m 41 0,o 42 (.len 0 (.t 41)),o 43 (.bin .geq 0 true (.t 42) (ci 3)),m 44 43,og 45 44 true (.mv (.t 0)),og 46 44 true (.idxStr (.t 45) (ci 1)),og 47 44 true (.callF f_internal_strconv_lower [.t 46]),og 48 44 true (.bin .eql 0 true (.t 47) (cu 98)),o 49 (.pick (.t 44) (.t 48) (.c (.bool false))),m 40 49]
(.cond (.t 40)
(Q [o 1 (.mv (ci 2))]
(.ops [m 50 0,o 51 (.sliceStr (.t 50) (some (ci 2)) none),m 0 51]))
(Q [m 53 0,o 54 (.len 0 (.t 53)),o 55 (.bin .geq 0 true (.t 54) (ci 3)),m 56 55,og 57 56 true (.mv (.t 0)),og 58 56 true (.idxStr (.t 57) (ci 1)),og 59 56 true (.callF f_internal_strconv_lower [.t 58]),og 60 56 true (.bin .eql 0 true (.t 59) (cu 111)),o 61 (.pick (.t 56) (.t 60) (.c (.bool false))),m 52 61]
(.cond (.t 52)
(Q [o 1 (.mv (ci 8))]
(.ops [m 62 0,o 63 (.sliceStr (.t 62) (some (ci 2)) none),m 0 63]))
(Q [m 65 0,o 66 (.len 0 (.t 65)),o 67 (.bin .geq 0 true (.t 66) (ci 3)),m 68 67,og 69 68 true (.mv (.t 0)),og 70 68 true (.idxStr (.t 69) (ci 1)),og 71 68 true (.callF f_internal_strconv_lower [.t 70]),og 72 68 true (.bin .eql 0 true (.t 71) (cu 120)),o 73 (.pick (.t 68) (.t 72) (.c (.bool false))),m 64 73]
(.cond (.t 64)
(Q [o 1 (.mv (ci 16))]
(.ops [m 74 0,o 75 (.sliceStr (.t 74) (some (ci 2)) none),m 0 75]))
(Q [o 1 (.mv (ci 8))]
(.ops [m 38 0,o 39 (.sliceStr (.t 38) (some (ci 1)) none),m 0 39])))))))))
.skip)))
(Q [o 24 (.mkIface 177 (ci 3)),o 6 (.mv (.c (.int .u64 0))),m 7 24]
(.ret [6,7])))))))
(.seq (Q [m 76 2,o 77 (.bin .eql 0 true (.t 76) (ci 0))]
(.cond (.t 77)
(.ops [o 2 (.mv (ci 64))])
(Q [m 78 2,o 79 (.bin .lss 0 true (.t 78) (ci 0)),m 80 79,og 81 80 false (.mv (.t 2)),og 82 80 false (.bin .gtr 0 true (.t 81) (ci 64)),o 83 (.pick (.t 80) (.c (.bool true)) (.t 82))]
(.cond (.t 83)
(Q [o 84 (.mkIface 177 (ci 4)),o 6 (.mv (.c (.int .u64 0))),m 7 84]
(.ret [6,7]))
.skip))))
(Q [o 10 (.mv (.c (.int .u64 0)))]
(.seq (Q [m 85 1]
(.block 2
(Q [o 91 (.bin .eql 0 true (.t 85) (ci 10)),m 90 91]
(.cond (.t 90)
(.ops [o 10 (.mv (.c (.int .u64 1844674407370955162)))])
(Q [o 93 (.bin .eql 0 true (.t 85) (ci 16)),m 92 93]
(.cond (.t 92)
(.ops [o 10 (.mv (.c (.int .u64 1152921504606846976)))])
(.ops [m 86 1,o 87 (.i2i .u64 (.t 86)),o 88 (.bin .quo 0 true (.c (.int .u64 18446744073709551615)) (.t 87)),o 89 (.bin .add 0 true (.t 88) (.c (.int .u64 1))),m 10 89])))))))
(Q [m 94 2,o 95 (.i2i .u64 (.t 94)),o 96 (.bin .shl 0 true (.c (.int .u64 1)) (.t 95)),o 97 (.bin .sub 0 true (.t 96) (.c (.int .u64 1))),m 11 97]
(Q [o 12 (.mv (.c (.bool false)))]
(Q [o 13 (.mv (.c (.int .u64 0)))]
(.seq (Q [m 98 0,o 99 (.s2b (.t 98)),o 100 (.len 1 (.t 99)),o 101 (.mv (ci 0))]
(.block 3
(.loop [1,8,9,10,11,12,13,99,100,101] L_internal_strconv_ParseUint_0)))
(.seq (Q [m 164 12,m 165 164,og 166 165 true (.mv (.t 9)),og 167 165 true (.callF f_internal_strconv_underscoreOK [.t 166]),og 168 165 true (.un .not (.t 167)),o 169 (.pick (.t 165) (.t 168) (.c (.bool false)))]
(.cond (.t 169)
(Q [o 170 (.mkIface 177 (ci 2)),o 6 (.mv (.c (.int .u64 0))),m 7 170]
(.ret [6,7]))
.skip))
(Q [m 171 13,m 6 171,o 7 (.mv (.c .nilIface))]
(.ret [6,7])))))))))))))))⟩
def L_read_tokens_next_0 : KC:=
(.seq (.seq (.plain [m 12 0,o 13 (.nilck (.t 12)),xa 14 1 13,xf 15 14,m 16 0,o 17 (.nilck (.t 16)),xa 18 0 17,xf 19 18,o 20 (.len 0 (.t 19)),o 21 (.bin .lss 0 false (.t 15) (.t 20)),m 22 21,og 23 22 true (.mv (.t 0)),og 24 22 true (.nilck (.t 23)),og 25 22 true (.fieldAddr 0 (.t 24)),og 26 22 true (.load false 1 (.t 25)),og 27 22 true (.mv (.t 0)),og 28 22 true (.nilck (.t 27)),og 29 22 true (.fieldAddr 1 (.t 28)),og 30 22 true (.load false 1 (.t 29)),og 31 22 true (.idxStr (.t 26) (.t 30)),og 32 22 true (.callF f_read_space [.t 31]),o 33 (.pick (.t 22) (.t 32) (.c (.bool false)))])
(.cond (.t 33)
.skip
(.exit [0] 0)))
(.block 1
(.ops [m 34 0,o 35 (.nilck (.t 34)),xa 36 1 35,xf 37 36,o 38 (.bin .add 0 true (.t 37) (ci 1)),o 39 (.nilck (.t 34)),xa 40 1 39,xs 1 40 38])))
def K_read_tokens_next : KF:=⟨1,65,[(.tmp 2)],(Q [o 2 (.mv (ci 0))]
(Q [m 5 0,m 6 0,o 7 (.nilck (.t 6)),xa 8 7 7,xf 9 8,o 10 (.nilck (.t 5)),xa 11 1 10,xs 1 11 9]
(.seq (.block 0
(.loop [0] L_read_tokens_next_0))
(.seq (.plain [m 42 0,o 43 (.nilck (.t 42)),xa 44 0 43,xf 45 44,m 46 0,o 47 (.nilck (.t 46)),xa 48 1 47,xf 49 48,o 50 (.callF f_lex_Next [.t 45,.t 49]),m 41 50,xe 51 41 0,xe 52 41 1,u .pend,o 3 (.fill 12 3 5 (.t 51)),m 4 52])
(.seq (Q [m 53 4,o 54 (.bin .neq 0 true (.t 53) (ci 0))]
(.cond (.t 54)
(Q [m 55 4,m 2 55]
(.ret [2]))
.skip))
(.seq (.drawn [m 56 0,m 57 0,xl 58 5 3,xa 59 2 3,⟨(some 60),(.load false 1 (.t 59)),none,[7]⟩,o 61 (.nilck (.t 56)),xa 62 2 61,xs 5 62 58,o 63 (.nilck (.t 57)),xa 64 7 63,xs 1 64 60])
(Q [o 2 (.mv (ci 0))]
(.ret [2]))))))))⟩
def K_read_values_value : KF:=⟨1,104,[(.cell 2 true 5),(.tmp 3)],(Q [o 2 (.new [vu 0,vi 0,ve,.nils,.nils] none),o 3 (.mv (ci 0))]
(.seq (Q [m 6 0,o 7 (.nilck (.t 6)),xa 8 0 7,xa 9 2 8,xa 10 0 9,xf 11 10]
(.block 0
(.seq (Q [o 16 (.bin .eql 0 true (.t 11) (cu 1)),m 15 16]
(.cond (.t 15)
.skip
(Q [o 17 (.bin .eql 0 true (.t 11) (cu 3)),m 15 17]
(.cond (.t 15)
.skip
(Q [o 18 (.bin .eql 0 true (.t 11) (cu 7)),m 15 18]
(.cond (.t 15)
.skip
(Q [o 19 (.bin .eql 0 true (.t 11) (cu 8)),m 15 19]
(.cond (.t 15)
.skip
(Q [o 20 (.bin .eql 0 true (.t 11) (cu 9)),m 15 20]
(.cond (.t 15)
.skip
(.ops [o 21 (.bin .eql 0 true (.t 11) (cu 10)),m 15 21])))))))))))
(.cond (.t 15)
.skip
(Q [o 12 (.build [vu 0,vi 0,ve,.nils,.nils] []),m 13 0,o 14 (.callF f_read_values_wrong [.t 13]),xs 5 2 12,m 3 14]
(.ret [2,3]))))))
(.seq (Q [m 22 0,o 23 (.nilck (.t 22)),xa 24 8 23,xf 25 24,o 26 (.bin .geq 0 true (.t 25) (ci 8192))]
(.cond (.t 26)
(Q [o 27 (.build [vu 0,vi 0,ve,.nils,.nils] []),xs 5 2 27,o 3 (.mv (ci 5))]
(.ret [2,3]))
.skip))
(Q [m 28 0,o 29 (.nilck (.t 28)),xa 30 8 29,xf 31 30,o 32 (.bin .add 0 true (.t 31) (ci 1)),o 33 (.nilck (.t 28)),xa 34 8 33,xs 1 34 32]
(.seq (Q [m 35 0,o 36 (.nilck (.t 35)),xa 37 0 36,xa 38 2 37,xa 39 0 38,xf 40 39]
(.block 1
(Q [o 42 (.bin .eql 0 true (.t 40) (cu 7)),m 41 42]
(.cond (.t 41)
(Q [o 43 (.build [vu 0,vi 0,ve,.nils,.nils] [(0,1,(cu 1)),(1,1,(ci 1))]),xs 5 2 43,o 3 (.mv (ci 0))]
(.ret [2,3]))
(Q [o 45 (.bin .eql 0 true (.t 40) (cu 8)),m 44 45]
(.cond (.t 44)
(Q [o 46 (.build [vu 0,vi 0,ve,.nils,.nils] [(0,1,(cu 1))]),xs 5 2 46,o 3 (.mv (ci 0))]
(.ret [2,3]))
(Q [o 48 (.bin .eql 0 true (.t 40) (cu 9)),m 47 48]
(.cond (.t 47)
(Q [m 49 0,o 50 (.nilck (.t 49)),xa 51 0 50,xa 52 2 51,xa 53 3 52,xf 54 53,o 55 (.build [vu 0,vi 0,ve,.nils,.nils] [(0,1,(cu 2)),(1,1,(.t 54))]),xs 5 2 55,o 3 (.mv (ci 0))]
(.ret [2,3]))
(Q [o 57 (.bin .eql 0 true (.t 40) (cu 10)),m 56 57]
(.cond (.t 56)
(Q [m 58 0,o 59 (.nilck (.t 58)),xa 60 0 59,xa 61 2 60,xa 62 4 61,xf 63 62,o 64 (.build [vu 0,vi 0,ve,.nils,.nils] [(0,1,(cu 3)),(2,1,(.t 63))]),xs 5 2 64,o 3 (.mv (ci 0))]
(.ret [2,3]))
.skip))))))))))
(.seq (Q [m 65 0,o 66 (.nilck (.t 65)),xa 67 9 66,xf 68 67,o 69 (.bin .geq 0 true (.t 68) (ci 12))]
(.cond (.t 69)
(Q [o 70 (.build [vu 0,vi 0,ve,.nils,.nils] []),xs 5 2 70,o 3 (.mv (ci 8))]
(.ret [2,3]))
.skip))
(Q [m 71 0,o 72 (.nilck (.t 71)),xa 73 9 72,xf 74 73,o 75 (.bin .add 0 true (.t 74) (ci 1)),o 76 (.nilck (.t 71)),xa 77 9 76,xs 1 77 75]
(Q [o 4 (.new [vu 0,vi 0,ve,.nils,.nils] none)]
(Q [o 5 (.mv (ci 0))]
(.seq (Q [m 78 0,o 79 (.nilck (.t 78)),xa 80 0 79,xa 81 2 80,xa 82 0 81,xf 83 82,o 84 (.bin .eql 0 true (.t 83) (cu 3))]
(.cond (.t 84)
(.ops [m 86 0,o 87 (.callF f_read_values_list [.t 86]),m 85 87,xe 88 85 0,xe 89 85 1,xs 5 4 88,m 5 89])
(.ops [m 91 0,o 92 (.callF f_read_values_object [.t 91]),m 90 92,xe 93 90 0,xe 94 90 1,xs 5 4 93,m 5 94])))
(Q [m 95 0,o 96 (.nilck (.t 95)),xa 97 9 96,xf 98 97,o 99 (.bin .sub 0 true (.t 98) (ci 1)),o 100 (.nilck (.t 95)),xa 101 9 100,xs 1 101 99]
(Q [xl 102 5 4,m 103 5,xs 5 2 102,m 3 103]
(.ret [2,3])))))))))))))⟩
def K_lex_Next : KF:=⟨2,24,[(.cell 4 true 5),(.tmp 5)],(Q [o 4 (.new [vu 0,vi 0,vi 0,vi 0,ve] none),o 5 (.mv (ci 0))]
(.seq (Q [m 7 1,o 8 (.bin .lss 0 true (.t 7) (ci 0)),m 9 8,og 10 9 false (.mv (.t 1)),og 11 9 false (.mv (.t 0)),og 12 9 false (.len 0 (.t 11)),og 13 9 false (.bin .gtr 0 false (.t 10) (.t 12)),o 14 (.pick (.t 9) (.c (.bool true)) (.t 13))]
(.cond (.t 14)
(Q [o 15 (.build [vu 0,vi 0,vi 0,vi 0,ve] []),xs 5 4 15,o 5 (.mv (ci 1))]
(.ret [4,5]))
.skip))
(Q [o 16 (.callF f_lex_rules []),o 6 (.new (rp 256 .nilFunc) none),xs 256 6 16]
(Q [m 17 0,m 18 0,m 19 1,o 20 (.callF f_lex_skip [.t 18,.t 19]),o 21 (.callF f_lex_token [.t 6,.t 17,.t 20]),xe 22 21 0,xe 23 21 1,xs 5 4 22,m 5 23]
(.ret [4,5])))))⟩
def K_read_values_wrong : KF:=⟨1,10,[(.tmp 2)],(Q [o 2 (.mv (ci 0))]
(.seq (Q [m 3 0,o 4 (.nilck (.t 3)),xa 5 0 4,xa 6 2 5,xa 7 0 6,xf 8 7,o 9 (.bin .eql 0 true (.t 8) (cu 11))]
(.cond (.t 9)
(Q [o 2 (.mv (ci 4))]
(.ret [2]))
.skip))
(Q [o 2 (.mv (ci 3))]
(.ret [2]))))⟩
def L_lex_rules_0 : KC:=
(.seq (Q [m 15 2,o 16 (.bin .leq 0 true (.t 15) (.c (.int .i32 57)))]
(.cond (.t 16)
.skip
(.exit [0,1] 0)))
(.seq (.block 1
(.ops [m 19 2,o 20 (.idxAddrArr 256 1 (.t 1) (.t 19)),xa 21 0 20,u (.store 1 (.t 21) (.c (.func (.func f_lex_number) [] [])))]))
(.ops [m 17 2,o 18 (.bin .add 0 true (.t 17) (.c (.int .i32 1))),m 2 18])))
def L_lex_rules_1 : KC:=
(.seq (Q [m 22 3,o 23 (.bin .leq 0 true (.t 22) (.c (.int .i32 122)))]
(.cond (.t 23)
.skip
(.exit [0,1] 2)))
(.seq (.block 3
(.ops [m 26 3,o 27 (.idxAddrArr 256 1 (.t 1) (.t 26)),xa 28 0 27,u (.store 1 (.t 28) (.c (.func (.func f_lex_word) [] [])))]))
(.ops [m 24 3,o 25 (.bin .add 0 true (.t 24) (.c (.int .i32 1))),m 3 25])))
def K_lex_rules : KF:=⟨0,30,[(.cell 0 true 256)],(Q [o 0 (.new (rp 256 .nilFunc) none)]
(Q [o 4 (.build [.nilFunc] [(0,1,(.c (.func (.func f_lex_open) [] [])))]),o 5 (.build [.nilFunc] [(0,1,(.c (.func (.func f_lex_shut) [] [])))]),o 6 (.build [.nilFunc] [(0,1,(.c (.func (.func f_lex_first) [] [])))]),o 7 (.build [.nilFunc] [(0,1,(.c (.func (.func f_lex_last) [] [])))]),o 8 (.build [.nilFunc] [(0,1,(.c (.func (.func f_lex_comma) [] [])))]),o 9 (.build [.nilFunc] [(0,1,(.c (.func (.func f_lex_colon) [] [])))]),o 10 (.build [.nilFunc] [(0,1,(.c (.func (.func f_lex_number) [] [])))]),o 11 (.build [.nilFunc] [(0,1,(.c (.func (.func f_lex_number) [] [])))]),o 12 (.build [.nilFunc] [(0,1,(.c (.func (.func f_lex_number) [] [])))]),o 13 (.build [.nilFunc] [(0,1,(.c (.func (.func f_lex_text) [] [])))]),o 14 (.build (rp 256 .nilFunc) [(123,1,(.t 4)),(125,1,(.t 5)),(91,1,(.t 6)),(93,1,(.t 7)),(44,1,(.t 8)),(58,1,(.t 9)),(45,1,(.t 10)),(43,1,(.t 11)),(46,1,(.t 12)),(34,1,(.t 13))]),o 1 (.new (rp 256 .nilFunc) none),xs 256 1 14]
(.seq (Q [o 2 (.mv (.c (.int .i32 48)))]
(.block 0
(.loop [0,1,2] L_lex_rules_0)))
(.seq (Q [o 3 (.mv (.c (.int .i32 97)))]
(.block 2
(.loop [0,1,3] L_lex_rules_1)))
(Q [xl 29 256 1,xs 256 0 29]
(.ret [0]))))))⟩
def K_lex_token : KF:=⟨3,33,[(.cell 6 true 5),(.tmp 7)],(Q [o 6 (.new [vu 0,vi 0,vi 0,vi 0,ve] none),o 7 (.mv (ci 0))]
(.seq (Q [m 9 2,m 10 1,o 11 (.len 0 (.t 10)),o 12 (.bin .eql 0 false (.t 9) (.t 11))]
(.cond (.t 12)
(Q [m 13 2,m 14 2,o 15 (.build [vu 0,vi 0,vi 0,vi 0,ve] [(0,1,(cu 11)),(1,1,(.t 13)),(2,1,(.t 14))]),xs 5 6 15,o 7 (.mv (ci 0))]
(.ret [6,7]))
.skip))
(.seq (.plain [m 16 0,m 17 1,m 18 2,o 19 (.idxStr (.t 17) (.t 18)),o 20 (.nilck (.t 16)),o 21 (.idxAddrArr 256 1 (.t 20) (.t 19)),xa 22 0 21,xf 23 22,m 8 23])
(.seq (Q [m 24 8,o 25 (.bin .eql 4 true (.t 24) (.c .nilFunc))]
(.cond (.t 25)
(Q [o 26 (.build [vu 0,vi 0,vi 0,vi 0,ve] []),xs 5 6 26,o 7 (.mv (ci 3))]
(.ret [6,7]))
.skip))
(Q [m 27 8,m 28 1,m 29 2,o 30 (.callV (.t 27) [.t 28,.t 29]),xe 31 30 0,xe 32 30 1,xs 5 6 31,m 7 32]
(.ret [6,7]))))))⟩
def L_lex_skip_0 : KC:=
(.seq (Q [m 5 1,m 6 0,o 7 (.len 0 (.t 6)),o 8 (.bin .lss 0 false (.t 5) (.t 7)),m 9 8,og 10 9 true (.mv (.t 0)),og 11 9 true (.mv (.t 1)),og 12 9 true (.idxStr (.t 10) (.t 11)),og 13 9 true (.bin .eql 0 true (.t 12) (cu 32)),og 14 9 true (.mv (.t 13)),og 15 14 false (.mv (.t 0)),og 16 14 false (.mv (.t 1)),og 17 14 false (.idxStr (.t 15) (.t 16)),og 18 14 false (.bin .eql 0 true (.t 17) (cu 9)),og 19 9 true (.pick (.t 14) (.c (.bool true)) (.t 18)),og 20 9 true (.mv (.t 19)),og 21 20 false (.mv (.t 0)),og 22 20 false (.mv (.t 1)),og 23 20 false (.idxStr (.t 21) (.t 22)),og 24 20 false (.bin .eql 0 true (.t 23) (cu 10)),og 25 9 true (.pick (.t 20) (.c (.bool true)) (.t 24)),og 26 9 true (.mv (.t 25)),og 27 26 false (.mv (.t 0)),og 28 26 false (.mv (.t 1)),og 29 26 false (.idxStr (.t 27) (.t 28)),og 30 26 false (.bin .eql 0 true (.t 29) (cu 13)),og 31 9 true (.pick (.t 26) (.c (.bool true)) (.t 30)),o 32 (.pick (.t 9) (.t 31) (.c (.bool false)))]
(.cond (.t 32)
.skip
(.exit [1] 0)))
(.block 1
(.ops [m 33 1,o 34 (.bin .add 0 true (.t 33) (ci 1)),m 1 34])))
def K_lex_skip : KF:=⟨2,36,[(.tmp 4)],(Q [o 4 (.mv (ci 0))]
(.seq (.block 0
(.loop [0,1] L_lex_skip_0))
(Q [m 35 1,m 4 35]
(.ret [4]))))⟩
end Go.Ev
namespace Go.Proofs.YtdakkfjmclaciaaGreatDoor
open Go.Shelf Go.Proofs
def Tryz.lays170_ren : Go.Shelf.Ren:=⟨fun | 170=>316 | n=>n,fun | 70=>67 | 3=>3 | 0=>0 | 72=>70 | 37=>68 | 5=>5 | n=>n,fun | n=>n⟩
theorem Tryz.lays170 : Go.Proofs.Lays.n170 Tryz.prog Tryz.lays170_ren:={
 mixed:=by kernel_rfl
 f170:=Tryz.func316.trans (congrArg some (by kernel_rfl))
 t0:=Tryz.underlying0
 a0:=Tryz.isAgg0
 z0:=Tryz.sizeOf0
 v0:=Tryz.zeroValue0
 t3:=Tryz.underlying3
 a3:=Tryz.isAgg3
 z3:=Tryz.sizeOf3
 v3:=Tryz.zeroValue3
 t37:=Tryz.underlying68
 a37:=Tryz.isAgg68
 z37:=Tryz.sizeOf68
 v37:=Tryz.zeroValue68
 t70:=Tryz.underlying67
 a70:=Tryz.isAgg67
 z70:=Tryz.sizeOf67
 v70:=Tryz.zeroValue67
 t72:=Tryz.underlying70
 a72:=Tryz.isAgg70
 z72:=Tryz.sizeOf70
 v72:=Tryz.zeroValue70 }
open Go.RowKit in
theorem Tryz.Builder_Len (B b : Nat) (bs : List Value) (w : World) (h : Lib.IsBuilder 70 5 B b bs w) :
  Calls Tryz.prog 316 #[.pointer (some ⟨b,0,none⟩)] w fun e w'=>e = .returned (.int .i64 bs.length) ∧ w' = w:=Any.Builder_Len Tryz.lays170 B b bs w h
def Tryz.lays169_ren : Go.Shelf.Ren:=⟨fun | 169=>35 | n=>n,fun | 70=>67 | 9=>9 | 0=>0 | 72=>70 | 37=>68 | 127=>99 | 3=>3 | 5=>5 | n=>n,fun | n=>n⟩
theorem Tryz.lays169 : Go.Proofs.Lays.n169 Tryz.prog Tryz.lays169_ren:={
 mixed:=by kernel_rfl
 f169:=Tryz.func35.trans (congrArg some (by kernel_rfl))
 t0:=Tryz.underlying0
 a0:=Tryz.isAgg0
 z0:=Tryz.sizeOf0
 v0:=Tryz.zeroValue0
 t3:=Tryz.underlying3
 a3:=Tryz.isAgg3
 z3:=Tryz.sizeOf3
 v3:=Tryz.zeroValue3
 t9:=Tryz.underlying9
 a9:=Tryz.isAgg9
 z9:=Tryz.sizeOf9
 v9:=Tryz.zeroValue9
 t37:=Tryz.underlying68
 a37:=Tryz.isAgg68
 z37:=Tryz.sizeOf68
 v37:=Tryz.zeroValue68
 t70:=Tryz.underlying67
 a70:=Tryz.isAgg67
 z70:=Tryz.sizeOf67
 v70:=Tryz.zeroValue67
 t72:=Tryz.underlying70
 a72:=Tryz.isAgg70
 z72:=Tryz.sizeOf70
 v72:=Tryz.zeroValue70
 t127:=Tryz.underlying99
 a127:=Tryz.isAgg99
 z127:=Tryz.sizeOf99
 v127:=Tryz.zeroValue99 }
theorem Tryz.Builder_Extra_169 : Builder.Extra Tryz.prog Tryz.lays169_ren:={
 sizeBuilder:=by kernel_rfl
 liesBuilder:=by kernel_rfl
 t5:=Tryz.underlying5
 a5:=Tryz.isAgg5
 z5:=Tryz.sizeOf5
 v5:=Tryz.zeroValue5
 infoByte:=by kernel_rfl
 cellsByte:=by kernel_rfl
 sizeByte:=by kernel_rfl
 neB5:=by decide }
open Go.RowKit in
theorem Tryz.Builder_String (B b : Nat) (l : List UInt8) (w : World) (h : Lib.IsBuilder 70 5 B b (Lib.byteCells l) w) (h0 : l ≠ []) :
  Calls Tryz.prog 35 #[.pointer (some ⟨b,0,none⟩)] w fun e w'=>e = .returned (.string ⟨l.toArray⟩) ∧ Below B w w':= Any.Builder_String Tryz.lays169 Tryz.Builder_Extra_169 B b l w h h0
open Go.RowKit in
theorem Tryz.Builder_String_empty (B b : Nat) (w : World) (h : Lib.IsBuilder 70 5 B b [] w) (hBw : B ≤ w.heap.size) :
  Calls Tryz.prog 35 #[.pointer (some ⟨b,0,none⟩)] w fun e w'=>e = .returned (.string ⟨#[]⟩) ∧ Below B w w':= Any.Builder_String_empty Tryz.lays169 Tryz.Builder_Extra_169 B b w h hBw
open Go.RowKit in
theorem Tryz.Builder_String_any (B b : Nat) (l : List UInt8) (w : World) (h : Lib.IsBuilder 70 5 B b (Lib.byteCells l) w) (hBw : B ≤ w.heap.size) :
  Calls Tryz.prog 35 #[.pointer (some ⟨b,0,none⟩)] w fun e w'=>e = .returned (.string ⟨l.toArray⟩) ∧ Below B w w':= Any.Builder_String_any Tryz.lays169 Tryz.Builder_Extra_169 B b l w h hBw
end Go.Proofs.YtdakkfjmclaciaaGreatDoor
namespace Go.Proofs.YtdakkfjmclaciaaGreatDoor
open Go.RowKit
set_option linter.unusedVariables false
set_option maxRecDepth 100000
theorem sizeB : (Tryz.prog.info? 70).map (fun i=>i.size) = some 2:=by kernel_rfl
theorem infoByte : (Tryz.prog.info? 5).map (fun i=>(i.zero,i.size,i.bytes)) = some (some (.int .u8 0),1,1):=by kernel_rfl
theorem liesB : liesAt Tryz.prog Tryz.prog.depth 70 (2 / Tryz.prog.cellsOf 70) 0 70 1 = true:=by kernel_rfl
theorem check_used (b : Nat) (w : World) (h0 : w.cell? ⟨b,0,none⟩ = some (.pointer (some ⟨b,0,none⟩))) :
  Calls Tryz.prog 47 #[.pointer (some ⟨b,0,none⟩)] w fun e w'=>e = .returned (.tuple #[]) ∧ w = w':= by
 obtain ⟨j,hj,_⟩:=Option.map_eq_some_iff.1 sizeB
 have hq:=Lib.run_neq_ptr_same (P:=Tryz.prog) w (⟨b,0,none⟩) Tryz.underlying67 hj
 go_enter Tryz.func47,Tryz.ntmps47
 go_wp2
 go_end0
 exact ⟨rfl,rfl⟩
theorem check_fresh (b : Nat) (w : World) (h0 : w.cell? ⟨b,0,none⟩ = some (.pointer none)) (hsh : w.shape? b = some (70,2)) (hfz : w.frozen? ⟨b,0,none⟩ = false) :
  Calls Tryz.prog 47 #[.pointer (some ⟨b,0,none⟩)] w fun e w'=>e = .returned (.tuple #[]) ∧ w' = w.setCell ⟨b,0,none⟩ (.pointer (some ⟨b,0,none⟩)):=by
 obtain ⟨j,hj,hjs⟩:=Option.map_eq_some_iff.1 sizeB
 have h1:=Lib.run_to_unsafe (P:=Tryz.prog) w ⟨b,0,none⟩ Tryz.underlying67 Tryz.underlying125 hj (by rw [hjs]; decide) hsh (Nat.zero_lt_succ 1)
 have h2:=Lib.run_from_unsafe (P:=Tryz.prog) w ⟨b,0,none⟩ Tryz.underlying125 Tryz.underlying67 hj hsh liesB
 have h3 : (callFunc 61 #[.pointer (some ⟨b,0,none⟩)]).run Tryz.prog w = .ok (Next.value (.pointer (some ⟨b,0,none⟩))) w:=by
  rw [run_callFunc_extern Tryz.func61 (by kernel_rfl) (by kernel_rfl) (by kernel_rfl) (e:=Extern.AbiNoEscape.same) (by kernel_rfl),Lib.run_noEscape]; rfl
 go_enter Tryz.func47,Tryz.ntmps47
 go_wp2
 go_end0
 exact ⟨rfl,rfl⟩
end Go.Proofs.YtdakkfjmclaciaaGreatDoor
namespace Go.Proofs.YtdakkfjmclaciaaGreatDoor
open Go.Ev Go.RowKit Go.Shelf
set_option maxRecDepth 100000
set_option linter.unusedVariables false
theorem fnCopy : IsFn Tryz.prog 47:=⟨_,Tryz.func47,by decide,rfl⟩
theorem fnString : IsFn Tryz.prog 35:=⟨_,Tryz.func35,by decide,rfl⟩
def pCopy (args : List AV) (σ : St) : Option (AV × St):=
 match args with
 | [.ref o 0]=>match σ[o]? with
   | some (.cells [.nilp,b] ⟨false,some (70,true)⟩)=>some (.undef,σ.set o (.cells [.ref o 0,b] ⟨false,some (70,true)⟩))
   | some (.cells (.ref p 0 :: l) fz)=>match Nat.beq o p with
     | true=>some (.undef,σ)
     | false=>none
   | _=>none
 | _=>none
theorem pokCopy {C : Ctx} (hP : C.P = Tryz.prog) : POK C 47 pCopy:=by
 intro args σ v σ' h g w args' ha hw hg
 unfold pCopy at h
 split at h
 ·rename_i o
  cases ha with
  | cons _ v1 _ l1 x y=>
    cases y
    cases x with
    | ref _ _ ho=>
      split at h
      ·rename_i b hb
       simp at h
       obtain ⟨rfl,rfl⟩:=h
       obtain ⟨c,e,fr,h1,h2,h3,h4,h5,h6⟩:=hw.obj o _ hb
       obtain ⟨he,hx⟩:=h5.2 _ _ rfl
       obtain ⟨u,hu,hr⟩:=h4 0 .nilp rfl
       cases hr
       have hc0 : w.cell? ⟨g.ob o,0,none⟩ = some (.pointer none):=by rw [cell_of_heap h1]; exact hu
       have hsz : c.size = 2:=hx rfl
       have hgo:=goes_cell (P:=C.P) hw hb (off:=0) (.ref o 0 ho) (by simp) rfl
       refine does_of (by rw [hP]; exact fnCopy) ?_
       rw [hP]
       exact (check_fresh (g.ob o) w hc0 (by simp [World.shape?,h1,hsz,he]) (by rw [World.frozen?,h1,h5.1]; rfl)).mono fun e w2 ⟨he2,hw2⟩=>⟨_,he2,g,by rw [hw2]; exact hgo,.tup _ _ .nil⟩
      ·rename_i p l fz hb
       split at h
       ·rename_i hop
        have hop:=Nat.eq_of_beq_eq_true hop
        subst hop
        simp at h
        obtain ⟨rfl,rfl⟩:=h
        obtain ⟨c,e,fr,h1,h2,h3,h4,h5,h6⟩:=hw.obj o _ hb
        obtain ⟨u,hu,hr⟩:=h4 0 (.ref o 0) rfl
        cases hr
        have hc0 : w.cell? ⟨g.ob o,0,none⟩ = some (.pointer (some ⟨g.ob o,0,none⟩)):=by rw [cell_of_heap h1]; exact hu
        refine does_of (by rw [hP]; exact fnCopy) ?_
        rw [hP]
        exact (check_used (g.ob o) w hc0).mono fun e w2 ⟨he2,hw2⟩=>⟨_,he2,g,by rw [← hw2]; exact .refl hw,.tup _ _ .nil⟩
       ·cases h
      ·cases h
 ·cases h
section
variable {P : Program} {ρ : Ren}
set_option maxHeartbeats 1000000 in
theorem string_exact (L : Lays.n169 P ρ) (X : Builder.Extra P ρ) (b g cap : Nat) (p : Value) (cur : Array Value) (l : List UInt8) (w : World) (hbk : w.heap[b]? = some (.cells #[p,.slice (some ⟨g,0,none⟩) l.length cap] (ρ.t 72) (0,0))) (hg : w.heap[g]? = some (.cells cur (ρ.t 5) (0,0)))
  (h0 : l ≠ []) (hnc : l.length ≤ cap) (hcs : l.length ≤ cur.size) (hcm : l.length ≤ 1099511627776) (htake : ∀ (j : Nat) (x : UInt8),l[j]? = some x → cur[j]? = some (Value.int .u8 x.toNat)) :
  Calls P (ρ.f 169) #[.pointer (some ⟨b,0,none⟩)] w fun e w'=>e = .returned (.string ⟨l.toArray⟩) ∧ w' = w.drew.freeze ⟨g,0,none⟩ l.length:=by
 have hl0 : l.length ≠ 0:=by simpa using h0
 have c1 : w.drew.cell? ⟨b,1,none⟩ = some (.slice (some ⟨g,0,none⟩) l.length cap):=by
  have : w.drew.heap[b]? = some (.cells #[p,.slice (some ⟨g,0,none⟩) l.length cap] (ρ.t 72) (0,0)):=hbk
  rw [Lib.cell_of_heap this]; rfl
 have hSD : (Builtin.unsafeSliceData_ #[(ρ.t 37)] (ρ.t 127) #[.slice (some ⟨g,0,none⟩) l.length cap]).run P w.drew = .ok (.pointer (some ⟨g,0,none⟩)) w.drew:=
  Lib.run_unsafeSliceData_row _ _ _ _ _ _ (by omega)
 have hUS : (Builtin.unsafeString_ #[(ρ.t 127),(ρ.t 3)] (ρ.t 9) #[.pointer (some ⟨g,0,none⟩),.int .i64 l.length]).run P w.drew = .ok (.string ⟨l.toArray⟩) (w.drew.freeze ⟨g,0,none⟩ l.length):=by
  refine Lib.run_unsafeString_row w.drew (ρ.t 127) (ρ.t 3) (ρ.t 9) (ρ.t 5) L.t127 X.cellsByte g cur.size (by have hg' : w.drew.heap[g]? = some (.cells cur (ρ.t 5) (0,0)):=hg; simp [World.shape?,hg']) l h0 (by omega) (by omega) ?_
  intro j x hx
  have hg' : w.drew.heap[g]? = some (.cells cur (ρ.t 5) (0,0)):=hg
  have ha : (⟨g,0,none⟩ : Addr).add j = ⟨g,0 + j,none⟩:=by unfold Addr.add; split <;> simp_all
  rw [ha,Lib.cell_of_heap hg',Nat.zero_add]
  exact htake j x hx
 clear htake hcm hcs hnc
 have mixed:=L.mixed
 have t72:=L.t72; have a72:=L.a72; have z72:=L.z72; have v72:=L.v72; have u72:=run_underlying L.t72
 have t70:=L.t70; have a70:=L.a70; have z70:=L.z70; have v70:=L.v70; have u70:=run_underlying L.t70
 have t37:=L.t37; have a37:=L.a37; have z37:=L.z37; have v37:=L.v37; have u37:=run_underlying L.t37
 have t127:=L.t127; have a127:=L.a127; have z127:=L.z127; have v127:=L.v127; have u127:=run_underlying L.t127
 have t3:=L.t3; have a3:=L.a3; have z3:=L.z3; have v3:=L.v3; have u3:=run_underlying L.t3
 have t9:=L.t9; have a9:=L.a9; have z9:=L.z9; have v9:=L.v9; have u9:=run_underlying L.t9
 have t5:=X.t5; have a5:=X.a5; have z5:=X.z5; have v5:=X.v5; have u5:=run_underlying X.t5
 go_enter L.f169,Body.n169_ntmps ρ
 go_wp2
 go_region_o
 all_goals (go_wp2; go_ret; exact ⟨rfl,rfl⟩)
end
noncomputable def pString (args : List AV) (σ : St) : Option (AV × St):=
 match args with
 | [.ref o 0]=>match σ[o]? with
   | some (.cells [p,.nils] ⟨false,some (70,true)⟩)=>some (.str [],σ)
   | some (.cells [p,.msl ob 0 n 1] ⟨false,some (70,true)⟩)=>match σ[ob]? with
     | some (.cells l ⟨false,some (5,x)⟩)=>match bytesX l with
       | some (b :: s)=>match andR (Nat.beq (b :: s).length n) (Nat.ble (b :: s).length 1099511627776) with
         | true=>some (.str (b :: s),σ.set ob .dead)
         | false=>none
       | _=>none
     | _=>none
   | _=>none
 | _=>none
theorem pokString {C : Ctx} (hP : C.P = Tryz.prog) : POK C 35 pString:=by
 intro args σ v σ' h g w args' ha hw hg
 unfold pString at h
 split at h
 ·rename_i o
  cases ha with
  | cons _ v1 _ l1 x y=>
    cases y
    cases x with
    | ref _ _ ho=>
      split at h
      ·rename_i p hb
       simp at h
       obtain ⟨rfl,rfl⟩:=h
       obtain ⟨c,e,fr,h1,h2,h3,h4,h5,h6⟩:=hw.obj o _ hb
       obtain ⟨he,hx⟩:=h5.2 _ _ rfl
       have hfr:=h5.1
       obtain ⟨u0,hu0,hr0⟩:=h4 0 p rfl
       obtain ⟨u1,hu1,hr1⟩:=h4 1 .nils rfl
       cases hr1
       have hsz : c.size = 2:=hx rfl
       have hc : c = #[u0,.slice none 0 0]:=by
        apply Array.ext_getElem?
        intro i
        match i with
        | 0=>exact hu0
        | 1=>exact hu1
        | i + 2=>simp [hsz]
       subst hc he hfr
       refine does_of (by rw [hP]; exact fnString) ?_
       rw [hP]
       exact (Any.Builder_String_nil Tryz.lays169 Tryz.Builder_Extra_169 w.heap.size (g.ob o) u0 w h1).mono fun e w2 ⟨he2,hw2⟩=>⟨_,he2,g,goes_below hw hw2,.str []⟩
      ·rename_i p ob n hb
       split at h
       ·rename_i l x hbl
        split at h
        ·rename_i b s hbx
         split at h
         ·rename_i hn
          rw [andR_is,Bool.and_eq_true] at hn
          have hn1:=Nat.eq_of_beq_eq_true hn.1
          have hn2:=Nat.le_of_ble_eq_true hn.2
          simp only [Option.some.injEq,Prod.mk.injEq] at h
          obtain ⟨rfl,rfl⟩:=h
          obtain ⟨c,e,fr,h1,h2,h3,h4,h5,h6⟩:=hw.obj o _ hb
          obtain ⟨he,hx⟩:=h5.2 _ _ rfl
          have hfr:=h5.1
          obtain ⟨u0,hu0,hr0⟩:=h4 0 p rfl
          obtain ⟨u1,hu1,hr1⟩:=h4 1 (.msl ob 0 n 1) rfl
          cases hr1 with
          | msl _ _ _ _ cap hob hncap hcap=>
          have hsz : c.size = 2:=hx rfl
          have hc : c = #[u0,.slice (some ⟨g.ob ob,0,none⟩) n cap]:=by
           apply Array.ext_getElem?
           intro i
           match i with
           | 0=>exact hu0
           | 1=>exact hu1
           | i + 2=>simp [hsz]
          subst hc he hfr
          obtain ⟨c',e',fr',k1,k2,k3,k4,k5,k6⟩:=hw.obj ob _ hbl
          obtain ⟨he',hx'⟩:=k5.2 _ _ rfl
          have hfr':= k5.1
          subst he' hfr'
          obtain ⟨e1,e2⟩:=bytesX_get hbx
          refine does_of (by rw [hP]; exact fnString) ?_
          rw [hP]
          rw [← hn1] at h1 hncap
          refine (string_exact Tryz.lays169 Tryz.Builder_Extra_169 (g.ob o) (g.ob ob) cap u0 c' (b :: s) w h1 k1 (by simp) hncap (by omega) hn2 (fun j x hx=>?_)).mono fun e w2 ⟨he2,hw2⟩=>⟨_,he2,g,?_,.str (b :: s)⟩
          ·obtain ⟨v,hv,hr⟩:=k4 j _ (e2 j x hx)
           cases hr
           exact hv
          ·subst hw2
           obtain ⟨f1,f2,f3,f4,f5⟩:=freeze_rest w.drew (g.ob ob) (b :: s).length
           exact goes_kill hw hbl f1 f2 f3 f4 f5
         ·cases h
        ·cases h
       ·cases h
      ·cases h
 ·cases h
end Go.Proofs.YtdakkfjmclaciaaGreatDoor
namespace Go.Proofs.YtdakkfjmclaciaaGreatDoor
open Go.Ev Go.RowKit
set_option maxRecDepth 1000000
set_option linter.unusedVariables false
theorem mixedA : Tryz.prog.follows .mixedOrders = true:=by kernel_rfl
noncomputable section
noncomputable def glT (g : Nat) : Option (List AV):=none
noncomputable def CC : Ctx:=plainC Tryz.prog glT (fun _=>false) (fun _=>none)
theorem glT_closed : ∀ n l,CC.gl n = some l → belows 0 l = true:=fun n l h=>by cases h
noncomputable def CR : Ctx:=plainC Tryz.prog glT (fun _=>true) (fun _=>none)
theorem CR_ev (n : Nat) : CallOK CR (evF CR n):=ev_sound mixedA (plainC_fs _ _ _ _) (fun f h hh=>by simp [plainC] at hh) n
theorem pokClone0 {f : FuncId} (h1 : resQ (evF CR 100 f [.nils] []) .nils = true) (h2 : resQ (evF CR 100 f [.emp] []) (.xsl 0 []) = true) : POK CC f pClone0:=pok_clone0 (C:=CR) (CR_ev 100) glT_closed h1 h2
end
end Go.Proofs.YtdakkfjmclaciaaGreatDoor
namespace Go.Proofs.YtdakkfjmclaciaaGreatDoor
open Go.Ev
set_option maxRecDepth 1000000
theorem kok_legatelaw32_awake : KOK CC f_legatelaw32_awake K_legatelaw32_awake:=kok_of (by kernel_rfl) (by kernel_rfl) (by kernel_rfl)
theorem kok_script_Show : KOK CC f_script_Show K_script_Show:=kok_of (by kernel_rfl) (by kernel_rfl) (by kernel_rfl)
theorem kok_legateref32_Same : KOK CC f_legateref32_Same K_legateref32_Same:=kok_of (by kernel_rfl) (by kernel_rfl) (by kernel_rfl)
theorem kok_script_Read : KOK CC f_script_Read K_script_Read:=kok_of (by kernel_rfl) (by kernel_rfl) (by kernel_rfl)
theorem kok_script_Run : KOK CC f_script_Run K_script_Run:=kok_of (by kernel_rfl) (by kernel_rfl) (by kernel_rfl)
theorem kok_script_nets : KOK CC f_script_nets K_script_nets:=kok_of (by kernel_rfl) (by kernel_rfl) (by kernel_rfl)
theorem kok_num_Show : KOK CC f_num_Show K_num_Show:=kok_of (by kernel_rfl) (by kernel_rfl) (by kernel_rfl)
theorem kok_script_numbers : KOK CC f_script_numbers K_script_numbers:=kok_of (by kernel_rfl) (by kernel_rfl) (by kernel_rfl)
theorem kok_script_reader_bytes : KOK CC f_script_reader_bytes K_script_reader_bytes:=kok_of (by kernel_rfl) (by kernel_rfl) (by kernel_rfl)
theorem kok_script_reader_number : KOK CC f_script_reader_number K_script_reader_number:=kok_of (by kernel_rfl) (by kernel_rfl) (by kernel_rfl)
theorem kok_script_reader_word : KOK CC f_script_reader_word K_script_reader_word:=kok_of (by kernel_rfl) (by kernel_rfl) (by kernel_rfl)
theorem kok_script_reader_each : KOK CC f_script_reader_each K_script_reader_each:=kok_of (by kernel_rfl) (by kernel_rfl) (by kernel_rfl)
theorem kok_script_reader_bounds : KOK CC f_script_reader_bounds K_script_reader_bounds:=kok_of (by kernel_rfl) (by kernel_rfl) (by kernel_rfl)
theorem kok_script_Read_3 : KOK CC f_script_Read_3 K_script_Read_3:=kok_of (by kernel_rfl) (by kernel_rfl) (by kernel_rfl)
theorem kok_script_reader_fail : KOK CC f_script_reader_fail K_script_reader_fail:=kok_of (by kernel_rfl) (by kernel_rfl) (by kernel_rfl)
theorem kok_script_reader_done : KOK CC f_script_reader_done K_script_reader_done:=kok_of (by kernel_rfl) (by kernel_rfl) (by kernel_rfl)
theorem kok_script_Play : KOK CC f_script_Play K_script_Play:=kok_of (by kernel_rfl) (by kernel_rfl) (by kernel_rfl)
theorem kok_strings_Builder_WriteString : KOK CC f_strings_Builder_WriteString K_strings_Builder_WriteString:=kok_of (by kernel_rfl) (by kernel_rfl) (by kernel_rfl)
theorem kok_strings_Builder_WriteByte : KOK CC f_strings_Builder_WriteByte K_strings_Builder_WriteByte:=kok_of (by kernel_rfl) (by kernel_rfl) (by kernel_rfl)
theorem kok_strconv_FormatInt : KOK CC f_strconv_FormatInt K_strconv_FormatInt:=kok_of (by kernel_rfl) (by kernel_rfl) (by kernel_rfl)
theorem kok_script_reader_net : KOK CC f_script_reader_net K_script_reader_net:=kok_of (by kernel_rfl) (by kernel_rfl) (by kernel_rfl)
theorem kok_num_Read : KOK CC f_num_Read K_num_Read:=kok_of (by kernel_rfl) (by kernel_rfl) (by kernel_rfl)
theorem kok_script_part_left : KOK CC f_script_part_left K_script_part_left:=kok_of (by kernel_rfl) (by kernel_rfl) (by kernel_rfl)
theorem kok_lookup_New : KOK CC f_lookup_New K_lookup_New:=kok_of (by kernel_rfl) (by kernel_rfl) (by kernel_rfl)
theorem kok_lookup_Machine_Lookup : KOK CC f_lookup_Machine_Lookup K_lookup_Machine_Lookup:=kok_of (by kernel_rfl) (by kernel_rfl) (by kernel_rfl)
theorem kok_lookup_Machine_Fetched : KOK CC f_lookup_Machine_Fetched K_lookup_Machine_Fetched:=kok_of (by kernel_rfl) (by kernel_rfl) (by kernel_rfl)
theorem kok_script_report : KOK CC f_script_report K_script_report:=kok_of (by kernel_rfl) (by kernel_rfl) (by kernel_rfl)
theorem kok_internal_strconv_FormatInt : KOK CC f_internal_strconv_FormatInt K_internal_strconv_FormatInt:=kok_of (by kernel_rfl) (by kernel_rfl) (by kernel_rfl)
theorem kok_script_reader_frame : KOK CC f_script_reader_frame K_script_reader_frame:=kok_of (by kernel_rfl) (by kernel_rfl) (by kernel_rfl)
theorem kok_num_formed : KOK CC f_num_formed K_num_formed:=kok_of (by kernel_rfl) (by kernel_rfl) (by kernel_rfl)
theorem kok_strconv_ParseInt : KOK CC f_strconv_ParseInt K_strconv_ParseInt:=kok_of (by kernel_rfl) (by kernel_rfl) (by kernel_rfl)
theorem kok_chart_Read : KOK CC f_chart_Read K_chart_Read:=kok_of (by kernel_rfl) (by kernel_rfl) (by kernel_rfl)
theorem kok_lookup_Machine_May : KOK CC f_lookup_Machine_May K_lookup_Machine_May:=kok_of (by kernel_rfl) (by kernel_rfl) (by kernel_rfl)
theorem kok_slices_Clone_api_Fetch_api_Fetch : KOK CC f_slices_Clone_api_Fetch_api_Fetch K_slices_Clone_api_Fetch_api_Fetch:=kok_of (by kernel_rfl) (by kernel_rfl) (by kernel_rfl)
theorem kok_script_recordOf : KOK CC f_script_recordOf K_script_recordOf:=kok_of (by kernel_rfl) (by kernel_rfl) (by kernel_rfl)
theorem kok_internal_strconv_small : KOK CC f_internal_strconv_small K_internal_strconv_small:=kok_of (by kernel_rfl) (by kernel_rfl) (by kernel_rfl)
theorem kok_internal_strconv_ParseInt : KOK CC f_internal_strconv_ParseInt K_internal_strconv_ParseInt:=kok_of (by kernel_rfl) (by kernel_rfl) (by kernel_rfl)
theorem kok_read_Read : KOK CC f_read_Read K_read_Read:=kok_of (by kernel_rfl) (by kernel_rfl) (by kernel_rfl)
theorem kok_internal_strconv_ParseUint : KOK CC f_internal_strconv_ParseUint K_internal_strconv_ParseUint:=kok_of (by kernel_rfl) (by kernel_rfl) (by kernel_rfl)
theorem kok_read_tokens_next : KOK CC f_read_tokens_next K_read_tokens_next:=kok_of (by kernel_rfl) (by kernel_rfl) (by kernel_rfl)
end Go.Proofs.YtdakkfjmclaciaaGreatDoor
namespace Go.Proofs.YtdakkfjmclaciaaGreatDoor
open Go.Ev
set_option maxRecDepth 1000000
theorem kok_read_values_value : KOK CC f_read_values_value K_read_values_value:=kok_of (by kernel_rfl) (by kernel_rfl) (by kernel_rfl)
theorem kok_lex_Next : KOK CC f_lex_Next K_lex_Next:=kok_of (by kernel_rfl) (by kernel_rfl) (by kernel_rfl)
theorem kok_read_values_wrong : KOK CC f_read_values_wrong K_read_values_wrong:=kok_of (by kernel_rfl) (by kernel_rfl) (by kernel_rfl)
theorem kok_lex_rules : KOK CC f_lex_rules K_lex_rules:=kok_of (by kernel_rfl) (by kernel_rfl) (by kernel_rfl)
theorem kok_lex_token : KOK CC f_lex_token K_lex_token:=kok_of (by kernel_rfl) (by kernel_rfl) (by kernel_rfl)
theorem kok_lex_skip : KOK CC f_lex_skip K_lex_skip:=kok_of (by kernel_rfl) (by kernel_rfl) (by kernel_rfl)
end Go.Proofs.YtdakkfjmclaciaaGreatDoor
namespace Go.Proofs.YtdakkfjmclaciaaGreatDoor
open Go.Ev
set_option maxRecDepth 1000000
noncomputable def T0l (M : MM) : Tr2:=.node (.node (.node (.node (.node .nil 5 (.both (memoH (M 5)) K_legatelaw32_awake false true) .nil) 7 (.both (memoH (M 7)) K_script_Show false true) (.node .nil 9 (.code K_legateref32_Same false true) .nil)) 13 (.both (memoH (M 13)) K_script_Read false true) (.node (.node .nil 14 (.both (memoH (M 14)) K_script_Run false true) .nil) 15 (.code K_script_nets false true) .nil)) 16 (.code K_num_Show false true) (.node (.node (.node .nil 17 (.code K_script_numbers false true) .nil) 20 (.code K_script_reader_bytes false true) .nil) 21 (.code K_script_reader_number false true) (.node (.node .nil 22 (.code K_script_reader_word false true) .nil) 23 (.code K_script_reader_each false true) .nil))) 26 (.code K_script_reader_bounds false true) (.node (.node (.node (.node .nil 29 (.code K_script_Read_3 false true) .nil) 30 (.code K_script_reader_fail false true) .nil) 31 (.code K_script_reader_done false true) (.node (.node .nil 32 (.code K_script_Play false true) .nil) 33 (.code K_strings_Builder_WriteString false true) .nil)) 34 (.code K_strings_Builder_WriteByte false true) (.node (.node (.node .nil 35 (.prim pString) .nil) 36 (.code K_strconv_FormatInt false true) .nil) 38 (.code K_script_reader_net false true) (.node (.node .nil 39 (.code K_num_Read false true) .nil) 40 (.code K_script_part_left false true) .nil)))
theorem T0l_ok {M : MM} (hM : MOK CC M) : TOK CC (T0l M):=⟨kok_script_reader_bounds,⟨kok_num_Show,⟨⟨memoH_ok hM 13,kok_script_Read⟩,⟨⟨memoH_ok hM 7,kok_script_Show⟩,⟨⟨memoH_ok hM 5,kok_legatelaw32_awake⟩,trivial,trivial⟩,⟨kok_legateref32_Same,trivial,trivial⟩⟩,⟨kok_script_nets,⟨⟨memoH_ok hM 14,kok_script_Run⟩,trivial,trivial⟩,trivial⟩⟩,⟨kok_script_reader_number,⟨kok_script_reader_bytes,⟨kok_script_numbers,trivial,trivial⟩,trivial⟩,⟨kok_script_reader_each,⟨kok_script_reader_word,trivial,trivial⟩,trivial⟩⟩⟩,⟨kok_strings_Builder_WriteByte,⟨kok_script_reader_done,⟨kok_script_reader_fail,⟨kok_script_Read_3,trivial,trivial⟩,trivial⟩,⟨kok_strings_Builder_WriteString,⟨kok_script_Play,trivial,trivial⟩,trivial⟩⟩,⟨kok_script_reader_net,⟨kok_strconv_FormatInt,⟨pokString rfl,trivial,trivial⟩,trivial⟩,⟨kok_script_part_left,⟨kok_num_Read,trivial,trivial⟩,trivial⟩⟩⟩⟩
noncomputable def T0r (M : MM) : Tr2:=.node (.node (.node (.node (.node .nil 44 (.code K_lookup_Machine_Lookup false true) .nil) 45 (.code K_lookup_Machine_Fetched false true) .nil) 46 (.code K_script_report false true) (.node (.node .nil 47 (.prim pCopy) .nil) 48 (.code K_internal_strconv_FormatInt true true) .nil)) 49 (.code K_script_reader_frame false true) (.node (.node (.node .nil 50 (.code K_num_formed false true) .nil) 51 (.code K_strconv_ParseInt false true) .nil) 52 (.code K_chart_Read false true) (.node (.node .nil 55 (.code K_lookup_Machine_May false true) .nil) 59 (.both pClone0 K_slices_Clone_api_Fetch_api_Fetch true false) .nil))) 60 (.code K_script_recordOf false true) (.node (.node (.node (.node .nil 62 (.code K_internal_strconv_small true true) .nil) 66 (.code K_internal_strconv_ParseInt true true) .nil) 68 (.code K_read_Read false true) (.node (.node .nil 90 (.code K_internal_strconv_ParseUint true true) .nil) 95 (.code K_read_tokens_next false true) .nil)) 96 (.code K_read_values_value false true) (.node (.node (.node .nil 131 (.code K_lex_Next false true) .nil) 132 (.code K_read_values_wrong false true) .nil) 171 (.both (memoH (M 171)) K_lex_rules false true) (.node (.node .nil 172 (.code K_lex_token false true) .nil) 173 (.code K_lex_skip false true) .nil)))
theorem T0r_ok {M : MM} (hM : MOK CC M) : TOK CC (T0r M):=⟨kok_script_recordOf,⟨kok_script_reader_frame,⟨kok_script_report,⟨kok_lookup_Machine_Fetched,⟨kok_lookup_Machine_Lookup,trivial,trivial⟩,trivial⟩,⟨kok_internal_strconv_FormatInt,⟨pokCopy rfl,trivial,trivial⟩,trivial⟩⟩,⟨kok_chart_Read,⟨kok_strconv_ParseInt,⟨kok_num_formed,trivial,trivial⟩,trivial⟩,⟨⟨pokClone0 (by kernel_rfl) (by kernel_rfl),kok_slices_Clone_api_Fetch_api_Fetch⟩,⟨kok_lookup_Machine_May,trivial,trivial⟩,trivial⟩⟩⟩,⟨kok_read_values_value,⟨kok_read_Read,⟨kok_internal_strconv_ParseInt,⟨kok_internal_strconv_small,trivial,trivial⟩,trivial⟩,⟨kok_read_tokens_next,⟨kok_internal_strconv_ParseUint,trivial,trivial⟩,trivial⟩⟩,⟨⟨memoH_ok hM 171,kok_lex_rules⟩,⟨kok_read_values_wrong,⟨kok_lex_Next,trivial,trivial⟩,trivial⟩,⟨kok_lex_skip,⟨kok_lex_token,trivial,trivial⟩,trivial⟩⟩⟩⟩
noncomputable def T0 (M : MM) : Tr2:=.node (T0l M) 43 (.code K_lookup_New false false) (T0r M)
theorem T0_ok {M : MM} (hM : MOK CC M) : TOK CC (T0 M):=⟨kok_lookup_New,(T0l_ok hM),(T0r_ok hM)⟩
theorem T0_tr {M : MM} (hM : MOK CC M) : TrOK2 CC (T0 M):=⟨fun f e h=>tok_find (T0_ok hM) f e h,glT_closed⟩
end Go.Proofs.YtdakkfjmclaciaaGreatDoor
namespace Go.Proofs.YtdakkfjmclaciaaGreatDoor
open Go.Ev
set_option maxRecDepth 1000000
noncomputable section
def A (l m : List UInt8) : List UInt8:=List.rec m (fun h _ r=>h :: r) l
def S (l : List UInt8) : AV:=.str l
def Z : AV:=.sl 0 []
def d0 : List UInt8:=[48,44,53,58,116,97,98,108,101,44,48,58,44,49,54,58,49,58,48,44,49,58,48,44,49,58,48,44,49,58,48,44,44,48,58,44]
def s0 : List UInt8:=A [48,58,44,49,58] (A d0 [48,58,44])
def s1 : List UInt8:=A [48,58,44,49,58] (A d0 [52,58,49,58,97,44,44])
def Q0 : MM:=M0
def a0 : List AV:=[S s0]
def x0 : AV:=(.agg [ve,Z,vi 0,(.bool false),Z,vi 0,vi 0,vi 0,vi 0,Z])
def v0 : AV:=(.tup [x0,vi 0,vi 0])
def Q1 : MM:=updM Q0 13 a0 v0
def a1 : List AV:=[x0]
def v1 : AV:=(.tup [S s0,vi 0])
def Q2 : MM:=updM Q1 7 a1 v1
def x1 : AV:=(.agg [ve,Z,vi 0,(.bool false),Z,vi 0,vi 0,vi 0,vi 0,(.sl 1 [S [97]])])
def a2 : List AV:=[x1]
def v2 : AV:=(.tup [S s1,vi 0])
def Q3 : MM:=updM Q2 7 a2 v2
def a3 : List AV:=[]
def x2 : AV:=(.func (.func f_lex_number) [] [])
def x3 : AV:=(.func (.func f_lex_word) [] [])
def v3 : AV:=(.agg [.nilFunc,.nilFunc,.nilFunc,.nilFunc,.nilFunc,.nilFunc,.nilFunc,.nilFunc,.nilFunc,.nilFunc,.nilFunc,.nilFunc,.nilFunc,.nilFunc,.nilFunc,.nilFunc,.nilFunc,.nilFunc,.nilFunc,.nilFunc,.nilFunc,.nilFunc,.nilFunc,.nilFunc,.nilFunc,.nilFunc,.nilFunc,.nilFunc,.nilFunc,.nilFunc,.nilFunc,.nilFunc,.nilFunc,.nilFunc,(.func (.func f_lex_text) [] []),.nilFunc,.nilFunc,.nilFunc,.nilFunc,.nilFunc,.nilFunc,.nilFunc,.nilFunc,x2,(.func (.func f_lex_comma) [] []),x2,x2,.nilFunc,x2,x2,x2,x2,x2,x2,x2,x2,x2,x2,(.func (.func f_lex_colon) [] []),.nilFunc,.nilFunc,.nilFunc,.nilFunc,.nilFunc,.nilFunc,.nilFunc,.nilFunc,.nilFunc,.nilFunc,.nilFunc,.nilFunc,.nilFunc,.nilFunc,.nilFunc,.nilFunc,.nilFunc,.nilFunc,.nilFunc,.nilFunc,.nilFunc,.nilFunc,.nilFunc,.nilFunc,.nilFunc,.nilFunc,.nilFunc,.nilFunc,.nilFunc,.nilFunc,.nilFunc,.nilFunc,(.func (.func f_lex_first) [] []),.nilFunc,(.func (.func f_lex_last) [] []),.nilFunc,.nilFunc,.nilFunc,x3,x3,x3,x3,x3,x3,x3,x3,x3,x3,x3,x3,x3,x3,x3,x3,x3,x3,x3,x3,x3,x3,x3,x3,x3,x3,(.func (.func f_lex_open) [] []),.nilFunc,(.func (.func f_lex_shut) [] []),.nilFunc,.nilFunc,.nilFunc,.nilFunc,.nilFunc,.nilFunc,.nilFunc,.nilFunc,.nilFunc,.nilFunc,.nilFunc,.nilFunc,.nilFunc,.nilFunc,.nilFunc,.nilFunc,.nilFunc,.nilFunc,.nilFunc,.nilFunc,.nilFunc,.nilFunc,.nilFunc,.nilFunc,.nilFunc,.nilFunc,.nilFunc,.nilFunc,.nilFunc,.nilFunc,.nilFunc,.nilFunc,.nilFunc,.nilFunc,.nilFunc,.nilFunc,.nilFunc,.nilFunc,.nilFunc,.nilFunc,.nilFunc,.nilFunc,.nilFunc,.nilFunc,.nilFunc,.nilFunc,.nilFunc,.nilFunc,.nilFunc,.nilFunc,.nilFunc,.nilFunc,.nilFunc,.nilFunc,.nilFunc,.nilFunc,.nilFunc,.nilFunc,.nilFunc,.nilFunc,.nilFunc,.nilFunc,.nilFunc,.nilFunc,.nilFunc,.nilFunc,.nilFunc,.nilFunc,.nilFunc,.nilFunc,.nilFunc,.nilFunc,.nilFunc,.nilFunc,.nilFunc,.nilFunc,.nilFunc,.nilFunc,.nilFunc,.nilFunc,.nilFunc,.nilFunc,.nilFunc,.nilFunc,.nilFunc,.nilFunc,.nilFunc,.nilFunc,.nilFunc,.nilFunc,.nilFunc,.nilFunc,.nilFunc,.nilFunc,.nilFunc,.nilFunc,.nilFunc,.nilFunc,.nilFunc,.nilFunc,.nilFunc,.nilFunc,.nilFunc,.nilFunc,.nilFunc,.nilFunc,.nilFunc,.nilFunc,.nilFunc,.nilFunc,.nilFunc,.nilFunc,.nilFunc,.nilFunc,.nilFunc,.nilFunc,.nilFunc,.nilFunc,.nilFunc,.nilFunc,.nilFunc,.nilFunc,.nilFunc,.nilFunc,.nilFunc,.nilFunc,.nilFunc,.nilFunc,.nilFunc,.nilFunc])
def Q4 : MM:=updM Q3 171 a3 v3
def a4 : List AV:=[S s1]
def v4 : AV:=(.tup [x1,vi 0,vi 0])
def Q5 : MM:=updM Q4 13 a4 v4
def a5 : List AV:=[(.str (A [48,58,44,50,58,48] (A d0 [48,58,44])))]
def v5 : AV:=(S [49,54,58,53,58,101,114,114,111,114,44,49,58,51,44,49,58,51,44,44])
def Q6 : MM:=updM Q5 14 a5 v5
def a6 : List AV:=[(.str (A [48,58,44,49,58] (A d0 [48,58,44,120])))]
def v6 : AV:=(.tup [x0,vi 44,vi 11])
def Q7 : MM:=updM Q6 13 a6 v6
def a7 : List AV:=[]
def v7 : AV:=(.bool true)
def Q8 : MM:=updM Q7 5 a7 v7
end
end Go.Proofs.YtdakkfjmclaciaaGreatDoor
namespace Go.Proofs.YtdakkfjmclaciaaGreatDoor
open Go.Ev
set_option maxRecDepth 1000000
theorem l0 : resQ (callG CC (T0 Q0) 5000 f_script_Read a0 []) v0 = true:=by kernel_rfl
theorem l1 : resQ (callG CC (T0 Q1) 5000 f_script_Show a1 []) v1 = true:=by kernel_rfl
theorem l2 : resQ (callG CC (T0 Q2) 5000 f_script_Show a2 []) v2 = true:=by kernel_rfl
theorem l3 : resQ (callG CC (T0 Q3) 5000 f_lex_rules a3 []) v3 = true:=by kernel_rfl
theorem l4 : resQ (callG CC (T0 Q4) 5000 f_script_Read a4 []) v4 = true:=by kernel_rfl
theorem l5 : resQ (callG CC (T0 Q5) 5000 f_script_Run a5 []) v5 = true:=by kernel_rfl
theorem l6 : resQ (callG CC (T0 Q6) 5000 f_script_Read a6 []) v6 = true:=by kernel_rfl
theorem l7 : resQ (callG CC (T0 Q7) 5000 f_legatelaw32_awake a7 []) v7 = true:=by kernel_rfl
end Go.Proofs.YtdakkfjmclaciaaGreatDoor
namespace Go.Proofs.YtdakkfjmclaciaaGreatDoor
open Go.Ev
set_option maxRecDepth 1000000
theorem nxq {M : MM} {f : FuncId} {a : List AV} {v : AV} (q : MOK CC M) (c : belows 0 a = true) (l : resQ (callG CC (T0 M) 5000 f a []) v = true) : MOK CC (updM M f a v):=updM_ok q (known_of (callG_sound mixedA (T0_tr q) 5000) glT_closed c l)
theorem q0 : MOK CC Q0:=M0_ok CC
theorem q1 : MOK CC Q1:=nxq q0 (by kernel_rfl) l0
theorem q2 : MOK CC Q2:=nxq q1 (by kernel_rfl) l1
theorem q3 : MOK CC Q3:=nxq q2 (by kernel_rfl) l2
theorem q4 : MOK CC Q4:=nxq q3 (by kernel_rfl) l3
theorem q5 : MOK CC Q5:=nxq q4 (by kernel_rfl) l4
theorem q6 : MOK CC Q6:=nxq q5 (by kernel_rfl) l5
theorem q7 : MOK CC Q7:=nxq q6 (by kernel_rfl) l6
theorem q8 : MOK CC Q8:=nxq q7 (by kernel_rfl) l7
end Go.Proofs.YtdakkfjmclaciaaGreatDoor
namespace Go.Proofs.YtdakkfjmclaciaaGreatDoor
open Go.Ev
set_option maxRecDepth 1000000
theorem lfin : resQ (callG CC (T0 Q8) 5000 f_legatelaw32_awake [] []) (.bool true) = true:=by kernel_rfl
theorem fin : Known CC f_legatelaw32_awake [] (.bool true):=known_of (callG_sound mixedA (T0_tr q8) 5000) glT_closed (by kernel_rfl) lfin
end Go.Proofs.YtdakkfjmclaciaaGreatDoor
namespace Go.Proofs.YtdakkfjmclaciaaGreatDoor
open Go.Ev Go.RowKit
set_option maxRecDepth 1000000
set_option linter.unusedVariables false
theorem awakeOK : CallOK CC (callG CC (T0 Q8) 5000):=callG_sound mixedA (T0_tr q8) 5000
theorem noB {l : List AV} (h : l.any isByte = false) : ∀ a ∈ l,isByte a = false:=fun a ha=>by
 cases hb : isByte a with
 | false=>rfl
 | true=>rw [List.any_eq_true.mpr ⟨a,ha,hb⟩] at h; cases h
theorem pok_closed2 {C D : Ctx} {call : CallO} (hc : CallOK C call) (hP : D.P = C.P) (hgl : ∀ n,C.gl n = none) {f : FuncId} {b : Bool} (h : call f [] [] = some (.bool b,[])) :
  POK D f fun args σ=>match args with | []=>some (.bool b,σ) | _=>none:=by
 intro args σ v σ' h1 g w args' ha hw hg
 dsimp only at h1
 split at h1
 ·cases h1
  cases ha
  have hw2 : WR ⟨fun _=>true,0,g.ob,g.bs,fun b i=>none⟩ w []:=⟨rfl,fun b i v hv=>(by cases hv),fun b i v hv=>(by cases hv),fun o x hx=>by simp at hx,fun o o' x x' hx=>by simp at hx⟩
  have hd:=hc f [] [] (.bool b) [] h _ w [] .nil hw2 ⟨fun n l hl=>(by rw [hgl] at hl; cases hl),.inr fun _=>rfl⟩
  rw [← hP] at hd
  have mono : ∀ v' w',(∃ g',Goes ⟨fun _=>true,0,g.ob,g.bs,fun b i=>none⟩ [] w g' [] w' ∧ VR g' (.bool b) v') → ∃ g',Goes g σ w g' σ w' ∧ VR g' (.bool b) v':= by
   rintro v' w' ⟨g',hgo,hr⟩
   cases hr
   exact ⟨g,goes_below hw ⟨hgo.os,hgo.tape,hgo.output,hgo.size,fun k hk=>(hgo.fr k hk (fun o x hx=>by simp at hx)).2.1⟩,.bool _⟩
  unfold Does at hd ⊢
  split at hd
  ·exact Calls.mono hd fun e w' ⟨v2,he,hR⟩=>⟨v2,he,mono _ _ hR⟩
  ·exact mono _ _ hd
  ·exact hd
 ·cases h1
theorem bytesX_of : ∀ s : List UInt8,bytesX (ofBytes s) = some s
 | []=>rfl
 | a :: s=>by
   have h:=bytesX_of s
   have hb : Nat.ble a.toNat 255 = true:=Nat.ble_eq_true_of_le (Nat.le_of_lt_succ (UInt8.toNat_lt a))
   show bytesX (.int .u8 (.ofNat a.toNat) :: ofBytes s) = _
   unfold bytesX
   simp only [hb,h]
   simp
noncomputable section
def pAwake (args : List AV) (σ : St) : Option (AV × St):=match args with | []=>some (.bool true,σ) | _=>none
noncomputable def glS (g : Nat) : Option (List AV):=match Nat.beq g g_internal_strconv_uint64pow10 with
 | true=>some p10
 | false=>none
noncomputable def rawS (f : FuncId) : Bool:=Nat.beq f f_internal_strconv_formatBase10
noncomputable def primL (f : FuncId) : Option (List AV → St → Option (AV × St)):=match Nat.beq f f_legatelaw32_awake with
 | true=>some pAwake
 | false=>match Nat.beq f f_strings_Builder_copyCheck with
   | true=>some pCopy
   | false=>match Nat.beq f f_strings_Builder_String with
     | true=>some pString
     | false=>none
noncomputable def CL : Ctx:={ plainC Tryz.prog glS rawS primL with np:=true }
theorem CL_fs : FsOK CL:=fun f x h=>plainC_fs Tryz.prog glS rawS primL f x h
theorem CL_prim : PrimOK CL:=by
 intro f h hh
 change primL f = some h at hh
 unfold primL at hh
 split at hh
 ·rename_i hf
  have:=Nat.eq_of_beq_eq_true hf
  subst this
  cases hh
  exact pok_closed2 (C:=CC) (D:=CL) awakeOK rfl (fun _=>rfl) (resQ_is lfin)
 ·split at hh
  ·rename_i hf
   have:=Nat.eq_of_beq_eq_true hf
   subst this
   cases hh
   exact pokCopy (C:=CL) rfl
  ·split at hh
   ·rename_i hf
    have:=Nat.eq_of_beq_eq_true hf
    subst this
    cases hh
    exact pokString (C:=CL) rfl
   ·cases hh
theorem CL_sem : CallOK CL (semF CL):=sem_sound mixedA CL_fs CL_prim
theorem has {f : FuncId} {K : KF} (h1 : cF Tryz.prog f = some K.forget) (h2 : fnOk Tryz.prog f = true) (h3 : K.ok = true) (hp : primL f = none) (hr : rawS f = false) : Has CL f K:=by
 refine ⟨?_,hp,hr,h3⟩
 show (plainC Tryz.prog glS rawS primL).fs f = _
 simp only [plainC,h2,h1]
theorem hasR {f : FuncId} {K : KF} (h1 : cF Tryz.prog f = some K.forget) (h2 : fnOk Tryz.prog f = true) (h3 : K.ok = true) (hp : primL f = none) (hr : rawS f = true) : HasR CL f K:=by
 refine ⟨?_,hp,hr,h3⟩
 show (plainC Tryz.prog glS rawS primL).fs f = _
 simp only [plainC,h2,h1]
theorem awakeIs : ∀ σ,Ok σ → semF CL f_legatelaw32_awake [] σ = some (.bool true,σ):=fun σ _=>by
 rw [semF_eq]
 unfold funF
 rfl
theorem bldHas : BldHas CL where
 copy0:=fun σ o b h=>by
  rw [semF_eq]
  unfold funF
  show pCopy [.ref o 0] σ = _
  simp only [pCopy,h,bT]
 copy1:=fun σ o b h=>by
  rw [semF_eq]
  unfold funF
  show pCopy [.ref o 0] σ = _
  have e:=Nat.beq_refl o
  simp only [pCopy,h,bT,e]
 str0:=fun σ o p h=>by
  rw [semF_eq]
  unfold funF
  show pString [.ref o 0] σ = _
  simp only [pString,h,bT]
 str1:=fun σ o q p w h k hw hl=>by
  rw [semF_eq]
  unfold funF
  show pString [.ref o 0] σ = _
  cases w with
  | nil=>exact absurd rfl hw
  | cons b s=>
    have e:=bytesX_of (b :: s)
    have e1 : Nat.beq (b :: s).length (b :: s).length = true:=Nat.beq_refl _
    have e2 : Nat.ble (b :: s).length 1099511627776 = true:=Nat.ble_eq_true_of_le hl
    simp only [bT,uT] at k h
    simp only [pString,h,k,e,andR_is,e1,e2,Bool.and_self]
 wstr:=has (by kernel_rfl) (by kernel_rfl) (by kernel_rfl) rfl rfl
 wbyte:=has (by kernel_rfl) (by kernel_rfl) (by kernel_rfl) rfl rfl
theorem fmtHas : FmtHas CL where
 len:=has (by kernel_rfl) (by kernel_rfl) (by kernel_rfl) rfl rfl
 log:=has (by kernel_rfl) (by kernel_rfl) (by kernel_rfl) rfl rfl
 b2i:=has (by kernel_rfl) (by kernel_rfl) (by kernel_rfl) rfl rfl
 nd:=has (by kernel_rfl) (by kernel_rfl) (by kernel_rfl) rfl rfl
 gl:=rfl
 fb:=hasR (by kernel_rfl) (by kernel_rfl) (by kernel_rfl) rfl rfl
 small:=has (by kernel_rfl) (by kernel_rfl) (by kernel_rfl) rfl rfl
 int:=has (by kernel_rfl) (by kernel_rfl) (by kernel_rfl) rfl rfl
 fmt:=has (by kernel_rfl) (by kernel_rfl) (by kernel_rfl) rfl rfl
 show_:=has (by kernel_rfl) (by kernel_rfl) (by kernel_rfl) rfl rfl
theorem refHas : RefHas CL:=⟨has (by kernel_rfl) (by kernel_rfl) (by kernel_rfl) rfl rfl,has (by kernel_rfl) (by kernel_rfl) (by kernel_rfl) rfl rfl,has (by kernel_rfl) (by kernel_rfl) (by kernel_rfl) rfl rfl⟩
theorem showsHas : ShowsHas CL where
 sh:={ toFmtHas:=fmtHas,toBldHas:=bldHas,nets:=has (by kernel_rfl) (by kernel_rfl) (by kernel_rfl) rfl rfl,numbers:=has (by kernel_rfl) (by kernel_rfl) (by kernel_rfl) rfl rfl,show':= has (by kernel_rfl) (by kernel_rfl) (by kernel_rfl) rfl rfl }
 rsh:={ toRefHas:=refHas,rshow:=has (by kernel_rfl) (by kernel_rfl) (by kernel_rfl) rfl rfl }
 own:=⟨has (by kernel_rfl) (by kernel_rfl) (by kernel_rfl) rfl rfl⟩
 same:=⟨has (by kernel_rfl) (by kernel_rfl) (by kernel_rfl) rfl rfl⟩
 lng:=⟨has (by kernel_rfl) (by kernel_rfl) (by kernel_rfl) rfl rfl,has (by kernel_rfl) (by kernel_rfl) (by kernel_rfl) rfl rfl,has (by kernel_rfl) (by kernel_rfl) (by kernel_rfl) rfl rfl,has (by kernel_rfl) (by kernel_rfl) (by kernel_rfl) rfl rfl⟩
 awake:=awakeIs
 law:=has (by kernel_rfl) (by kernel_rfl) (by kernel_rfl) rfl rfl
theorem showsLaw (s : ScrV) (hs : s.okV) : semF CL f_legatelaw32_ScriptShows [.agg s.cs] [] = some (.bool true,[]):=law32_ScriptShows showsHas s hs [] rfl
end
theorem rdVer {T : Nat → Bool} {W : World} : Rd T Tryz.prog W 48 (fun _ : VerV=>True) VerV.cs:=
 (rd_struct Tryz.underlying48 (by kernel_rfl) (rdF_cons rfl (rd_str Tryz.underlying9) (rdF_cons (by kernel_rfl) (rd_str Tryz.underlying9) (rdF_cons (by kernel_rfl) (rd_str Tryz.underlying9) rdF_nil)))).map (fun x=>⟨x.1,x.2.1,x.2.2.1⟩) (fun _ _=>trivial) (fun _=>rfl)
theorem rdFile {T : Nat → Bool} {W : World} : Rd T Tryz.prog W 42 (fun _ : FileV=>True) FileV.cs:=
 (rd_struct Tryz.underlying42 (by kernel_rfl) (rdF_cons rfl (rd_str Tryz.underlying9) (rdF_cons (by kernel_rfl) (rd_str Tryz.underlying9) rdF_nil))).map (fun x=>⟨x.1,x.2.1⟩) (fun _ _=>trivial) (fun _=>rfl)
theorem maxLen_le {n : Nat} (h : n ≤ maxLen) : n ≤ 9223372036854775807:=Nat.le_trans h (by decide)
theorem rdStore {T : Nat → Bool} {W : World} : Rd T Tryz.prog W 40 (fun v : StoreV=>v.files.length ≤ 9223372036854775807) StoreV.cs:=
 (rd_struct Tryz.underlying40 (by kernel_rfl) (rdF_cons rfl (rd_str Tryz.underlying9) (rdF_cons (by kernel_rfl) (rd_str Tryz.underlying9) (rdF_cons (by kernel_rfl) (rd_slice Tryz.underlying38 (by kernel_rfl) FileV.len (by decide) (fun x=>noB (l:=FileV.cs x) rfl) rdFile) rdF_nil)))).map (fun x=>⟨x.1,x.2.1,x.2.2.1⟩) (fun x hx=>maxLen_le hx.2.2.1.1) (fun _=>rfl)
theorem isI_of {n : Int} {k : IntKind} (hk : k = .i64) (h : (Lit.int k n).wf = true) : isI n:=by
 subst hk
 simp [Lit.wf,IntKind.min,IntKind.max,IntKind.bits,IntKind.signed] at h
 exact ⟨by omega,by omega⟩
def strC (s : List UInt8) : List AV:=[.str s]
def bndC (b : Int × Int × Int × Int) : List AV:=[.int .i64 b.1,.int .i64 b.2.1,.int .i64 b.2.2.1,.int .i64 b.2.2.2]
theorem rdBnd {T : Nat → Bool} {W : World} : Rd T Tryz.prog W 25 (fun b : Int × Int × Int × Int=>isI b.1 ∧ isI b.2.1 ∧ isI b.2.2.1 ∧ isI b.2.2.2) bndC:=
 (rd_struct Tryz.underlying25 (by kernel_rfl) (rdF_cons rfl (rd_int Tryz.underlying3) (rdF_cons (by kernel_rfl) (rd_int Tryz.underlying3) (rdF_cons (by kernel_rfl) (rd_int Tryz.underlying3) (rdF_cons (by kernel_rfl) (rd_int Tryz.underlying3) rdF_nil))))).map (fun x=>(x.1,x.2.1,x.2.2.1,x.2.2.2.1)) (fun x hx=>⟨isI_of rfl hx.1,isI_of rfl hx.2.1,isI_of rfl hx.2.2.1,isI_of rfl hx.2.2.2.1⟩) (fun _=>rfl)
theorem rdScr {T : Nat → Bool} {W : World} : Rd T Tryz.prog W 28 (fun s : ScrV=>s.okV) ScrV.cs:=
 (rd_struct Tryz.underlying28 (by kernel_rfl) (rdF_cons rfl (rd_str Tryz.underlying9) (rdF_cons (by kernel_rfl) (rd_slice Tryz.underlying22 (by kernel_rfl) StoreV.len (by decide) (fun x=>noB (l:=StoreV.cs x) rfl) rdStore) (rdF_cons (by kernel_rfl) (rd_int Tryz.underlying2) (rdF_cons (by kernel_rfl) (rd_bool Tryz.underlying4) (rdF_cons (by kernel_rfl) (rd_slice Tryz.underlying23 (by kernel_rfl) VerV.len (by decide) (fun x=>noB (l:=VerV.cs x) rfl) rdVer) (rdF_cons (by kernel_rfl) rdBnd (rdF_cons (by kernel_rfl) (rd_slice (f:=strC) Tryz.underlying26 (by kernel_rfl) (fun _=>rfl) (by decide) (fun x=>noB (l:=strC x) rfl) (rd_str Tryz.underlying9)) rdF_nil)))))))).map
  (fun x=>⟨x.1,x.2.1,x.2.2.1,x.2.2.2.1,x.2.2.2.2.1,x.2.2.2.2.2.1.1,x.2.2.2.2.2.1.2.1,x.2.2.2.2.2.1.2.2.1,x.2.2.2.2.2.1.2.2.2,x.2.2.2.2.2.2.1⟩)
  (fun x hx=>⟨hx.2.1.2,isI_of rfl hx.2.2.1,hx.2.2.2.2.2.1.1,hx.2.2.2.2.2.1.2.1,hx.2.2.2.2.2.1.2.2.1,hx.2.2.2.2.2.1.2.2.2⟩)
  (fun x=>by
   have : x.2.2.2.2.2.2.1.map AV.str = x.2.2.2.2.2.2.1.flatMap strC:=by
    generalize x.2.2.2.2.2.2.1 = l
    induction l with
    | nil=>rfl
    | cons a l ih=>rw [List.map_cons,List.flatMap_cons,ih]; rfl
   unfold ScrV.cs strsA
   rw [this]
   rfl)
end Go.Proofs.YtdakkfjmclaciaaGreatDoor
