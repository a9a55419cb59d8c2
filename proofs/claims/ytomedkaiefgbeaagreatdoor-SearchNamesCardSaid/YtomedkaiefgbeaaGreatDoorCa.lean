/- Code of functions as the evaluator has it, and what some of them compute. No conditions. -/
import Derived.Test.YtomedkaiefgbeaaGreatDoorCn
set_option linter.unusedVariables false
set_option linter.unusedSimpArgs false
namespace Go.Ev
def Q (l : List XOp) (c : KC) : KC:=.seq (.ops l) c
def xl (d n x : Nat) : XOp:=o d (.load true n (.t x))
def xf (d x : Nat) : XOp:=o d (.load false 1 (.t x))
def xa (d n x : Nat) : XOp:=o d (.fieldAddr n (.t x))
def xe (d x n : Nat) : XOp:=o d (.extract (.t x) n)
def xs (n x y : Nat) : XOp:=u (.store n (.t x) (.t y))
def vi (n : Int) : AV:=.int .i64 n
def vu (n : Int) : AV:=.int .u8 n
def ve : AV:=.str []
def ci (n : Int) : XA:=.c (.int .i64 n)
def cu (n : Int) : XA:=.c (.int .u8 n)
def cs (l : List UInt8) : XA:=.c (.str l)
def rp (n : Nat) (x : AV) : List AV:=List.replicate n x
def a9d : KF:=⟨0,343,[(.tmp 0)],(Q [o 0 (.mv (.c (.bool false)))]
(.seq (Q [o 31 (.callF a9i []),o 32 (.un .not (.t 31)),m 33 32,o 34 (.pick (.t 33) (.c (.bool true)) (.c (.bool false))),m 35 34,o 36 (.pick (.t 35) (.c (.bool true)) (.c (.bool false))),m 37 36,o 38 (.pick (.t 37) (.c (.bool true)) (.c (.bool false))),m 39 38,o 40 (.pick (.t 39) (.c (.bool true)) (.c (.bool false))),m 41 40,o 42 (.pick (.t 41) (.c (.bool true)) (.c (.bool false))),m 43 42,o 44 (.pick (.t 43) (.c (.bool true)) (.c (.bool false)))]
(.cond (.t 44)
(Q [o 0 (.mv (.c (.bool false)))]
(.ret [0]))
.skip))
(Q [o 45 (.buildSl [ve] 1 1 [(0,1,(cs [120,47,121]))]),m 1 45]
(Q [o 46 (.build [vi 0,vi 0,vi 0,vi 0] [(0,1,(ci 9)),(1,1,(ci 9)),(2,1,(ci 65536)),(3,1,(ci 65536))]),o 2 (.new [vi 0,vi 0,vi 0,vi 0] none),xs 4 2 46]
(.seq (.drawn [xl 47 4 2,⟨(some 48),(.load true 4 (.t 2)),none,[8]⟩,⟨(some 49),(.load true 4 (.t 2)),none,[8,9]⟩,⟨(some 50),(.load true 4 (.t 2)),none,[8,9,10]⟩,u .pend,u .pend,u .pend,u .pend,o 3 (.fill 4 3 4 (.t 47)),o 4 (.fill 5 4 4 (.t 48)),o 5 (.fill 6 5 4 (.t 49)),o 6 (.fill 7 6 4 (.t 50))])
(Q [xa 51 0 3,u (.store 1 (.t 51) (ci 1))]
(Q [xa 52 1 4,u (.store 1 (.t 52) (ci 1))]
(Q [xa 53 0 5,u (.store 1 (.t 53) (ci 0))]
(Q [xa 54 0 6,u (.store 1 (.t 54) (ci (-1))),xa 55 1 6,u (.store 1 (.t 55) (ci (-1)))]
(Q [m 56 1,o 57 (.build [ve,.nils,.nils,vi 0,ve,vi 0,(.bool false)] [(0,1,(cs [116,97,114,103,101,116,115])),(1,1,(.t 56))]),o 7 (.new [ve,.nils,.nils,vi 0,ve,vi 0,(.bool false)] none),xs 7 7 57]
(Q [o 58 (.callF a0v [cs [114,49],(.c (.bool false))]),o 59 (.callF a0v [cs [114,50],(.c (.bool false))]),o 60 (.buildSl [ve,vi 0,.nils,(.bool false),.nils,.nils] 2 6 [(0,6,(.t 58)),(6,6,(.t 59))]),o 61 (.build [ve,.nils,.nils,vi 0,ve,vi 0,(.bool false)] [(0,1,(cs [116,97,114,103,101,116,115])),(2,1,(.t 60))]),o 8 (.new [ve,.nils,.nils,vi 0,ve,vi 0,(.bool false)] none),xs 7 8 61]
(Q [o 62 (.callF a0v [cs [114,49],(.c (.bool true))]),o 63 (.callF a0v [cs [114,50],(.c (.bool false))]),o 64 (.buildSl [ve,vi 0,.nils,(.bool false),.nils,.nils] 2 6 [(0,6,(.t 62)),(6,6,(.t 63))]),o 65 (.build [ve,.nils,.nils,vi 0,ve,vi 0,(.bool false)] [(0,1,(cs [116,97,114,103,101,116,115])),(2,1,(.t 64))]),o 9 (.new [ve,.nils,.nils,vi 0,ve,vi 0,(.bool false)] none),xs 7 9 65]
(Q [o 66 (.build [ve,.nils,.nils,vi 0,ve,vi 0,(.bool false)] [(0,1,(cs [114,49]))]),m 67 1,o 68 (.build [ve,.nils,.nils,vi 0,ve,vi 0,(.bool false)] [(0,1,(cs [114,49])),(1,1,(.t 67))]),m 69 1,o 70 (.build [ve,.nils,.nils,vi 0,ve,vi 0,(.bool false)] [(0,1,(cs [114,50])),(1,1,(.t 69))]),o 10 (.new [ve,.nils,.nils,vi 0,ve,vi 0,(.bool false)] none),o 11 (.new [ve,.nils,.nils,vi 0,ve,vi 0,(.bool false)] none),o 12 (.new [ve,.nils,.nils,vi 0,ve,vi 0,(.bool false)] none),xs 7 10 66,xs 7 11 68,xs 7 12 70]
(Q [o 71 (.callF a0v [cs [114,50],(.c (.bool false))]),o 72 (.callF a0v [cs [114,49],(.c (.bool false))]),o 73 (.buildSl [ve,vi 0,.nils,(.bool false),.nils,.nils] 2 6 [(0,6,(.t 71)),(6,6,(.t 72))]),o 74 (.build [ve,.nils,.nils,vi 0,ve,vi 0,(.bool false)] [(0,1,(cs [114,49])),(2,1,(.t 73))]),o 75 (.callF a0v [cs [114,49],(.c (.bool true))]),o 76 (.buildSl [ve,vi 0,.nils,(.bool false),.nils,.nils] 1 6 [(0,6,(.t 75))]),o 77 (.build [ve,.nils,.nils,vi 0,ve,vi 0,(.bool false)] [(0,1,(cs [114,50])),(2,1,(.t 76))]),o 13 (.new [ve,.nils,.nils,vi 0,ve,vi 0,(.bool false)] none),o 14 (.new [ve,.nils,.nils,vi 0,ve,vi 0,(.bool false)] none),xs 7 13 74,xs 7 14 77]
(.seq (.drawn [xl 78 7 11,⟨(some 79),(.load true 7 (.t 11)),none,[10]⟩,⟨(some 80),(.load true 7 (.t 11)),none,[10,11]⟩,⟨(some 81),(.load true 7 (.t 11)),none,[10,11,12]⟩,⟨(some 82),(.load true 7 (.t 11)),none,[10,11,12,13]⟩,u .pend,u .pend,u .pend,u .pend,u .pend,o 15 (.fill 5 15 7 (.t 78)),o 16 (.fill 6 16 7 (.t 79)),o 17 (.fill 7 17 7 (.t 80)),o 18 (.fill 8 18 7 (.t 81)),o 19 (.fill 9 19 7 (.t 82))])
(Q [xa 83 4 15,u (.store 1 (.t 83) (cs [48,48]))]
(Q [xa 84 5 16,u (.store 1 (.t 84) (ci 50))]
(Q [xa 85 3 17,u (.store 1 (.t 85) (ci 2))]
(Q [xa 86 6 18,u (.store 1 (.t 86) (.c (.bool true)))]
(Q [xa 87 3 19,u (.store 1 (.t 87) (ci (-1)))]
(Q [xl 88 7 8,o 20 (.new [ve,.nils,.nils,vi 0,ve,vi 0,(.bool false)] none),xs 7 20 88]
(Q [o 89 (.callF a9e [cs [114,49],cs [48,49],(.c (.bool false))]),o 90 (.callF a0v [cs [114,50],(.c (.bool false))]),o 91 (.buildSl [ve,vi 0,.nils,(.bool false),.nils,.nils] 2 6 [(0,6,(.t 89)),(6,6,(.t 90))]),xa 92 2 20,xs 1 92 91]
(Q [o 93 (.callF a0v [cs [97],(.c (.bool false))]),o 94 (.callF a0v [cs [114,50],(.c (.bool false))]),o 95 (.buildSl [ve,vi 0,.nils,(.bool false),.nils,.nils] 2 6 [(0,6,(.t 93)),(6,6,(.t 94))]),o 96 (.build [ve,.nils,.nils,vi 0,ve,vi 0,(.bool false)] [(0,1,(cs [116,97,114,103,101,116,115])),(2,1,(.t 95))]),o 21 (.new [ve,.nils,.nils,vi 0,ve,vi 0,(.bool false)] none),xs 7 21 96]
(Q [o 97 (.callF a9e [cs [99],cs [48,49],(.c (.bool true))]),o 98 (.buildSl [ve,vi 0,.nils,(.bool false),.nils,.nils] 1 6 [(0,6,(.t 97))]),o 99 (.build [ve,.nils,.nils,vi 0,ve,vi 0,(.bool false)] [(0,1,(cs [97])),(2,1,(.t 98))]),o 22 (.new [ve,.nils,.nils,vi 0,ve,vi 0,(.bool false)] none),xs 7 22 99]
(Q [m 100 1,o 101 (.build [ve,.nils,.nils,vi 0,ve,vi 0,(.bool false)] [(0,1,(cs [99])),(1,1,(.t 100))]),o 23 (.new [ve,.nils,.nils,vi 0,ve,vi 0,(.bool false)] none),xs 7 23 101]
(Q [xl 102 7 7,o 103 (.buildSl [ve,.nils,.nils,vi 0,ve,vi 0,(.bool false)] 1 7 [(0,7,(.t 102))]),o 104 (.callF a0d [.t 103]),o 24 (.new [ve,ve,.nils] none),xs 3 24 104]
(Q [xa 105 2 24,u (.store 1 (.t 105) (.c .nils))]
(Q [m 106 1,o 107 (.build [ve,.nils,.nils,vi 0,ve,vi 0,(.bool false)] [(0,1,(cs [116,97,114,103,101,116,115])),(1,1,(.t 106)),(3,1,(ci (-1)))]),o 25 (.new [ve,.nils,.nils,vi 0,ve,vi 0,(.bool false)] none),xs 7 25 107]
(.seq (.drawn [xl 108 7 7,o 109 (.buildSl [ve,.nils,.nils,vi 0,ve,vi 0,(.bool false)] 1 7 [(0,7,(.t 108))]),o 110 (.callF a0d [.t 109]),⟨(some 111),(.load true 4 (.t 2)),none,[2]⟩,o 112 (.buildSl [ve] 1 1 [(0,1,(cs [116,97,114,103,101,116,115]))]),o 113 (.callF a0e [.t 110,.t 111,ci 9,cu 1,cu 0,cu 0,cs [],.t 112]),m 114 113,og 115 114 true (.load true 7 (.t 8)),og 116 114 true (.load true 7 (.t 11)),og 117 114 true (.load true 7 (.t 12)),og 118 114 true (.buildSl [ve,.nils,.nils,vi 0,ve,vi 0,(.bool false)] 3 7 [(0,7,(.t 115)),(7,7,(.t 116)),(14,7,(.t 117))]),og 119 114 true (.callF a0d [.t 118]),⟨(some 120),(.load true 4 (.t 2)),(some (114,true)),[11]⟩,og 121 114 true (.buildSl [ve] 2 1 [(0,1,(cs [116,97,114,103,101,116,115])),(1,1,(cs [114,49]))]),og 122 114 true (.callF a0e [.t 119,.t 120,ci 9,cu 1,cu 0,cu 0,cs [],.t 121]),o 123 (.pick (.t 114) (.t 122) (.c (.bool false))),m 124 123,og 125 124 true (.load true 7 (.t 8)),og 126 124 true (.load true 7 (.t 10)),og 127 124 true (.load true 7 (.t 12)),og 128 124 true (.buildSl [ve,.nils,.nils,vi 0,ve,vi 0,(.bool false)] 3 7 [(0,7,(.t 125)),(7,7,(.t 126)),(14,7,(.t 127))]),og 129 124 true (.callF a0d [.t 128]),⟨(some 130),(.load true 4 (.t 2)),(some (124,true)),[21]⟩,og 131 124 true (.buildSl [ve] 3 1 [(0,1,(cs [116,97,114,103,101,116,115])),(1,1,(cs [114,49])),(2,1,(cs [114,50]))]),og 132 124 true (.callF a0e [.t 129,.t 130,ci 9,cu 1,cu 0,cu 0,cs [],.t 131]),o 133 (.pick (.t 124) (.t 132) (.c (.bool false))),m 134 133,og 135 134 true (.load true 7 (.t 9)),og 136 134 true (.load true 7 (.t 10)),og 137 134 true (.load true 7 (.t 12)),og 138 134 true (.buildSl [ve,.nils,.nils,vi 0,ve,vi 0,(.bool false)] 3 7 [(0,7,(.t 135)),(7,7,(.t 136)),(14,7,(.t 137))]),og 139 134 true (.callF a0d [.t 138]),⟨(some 140),(.load true 4 (.t 2)),(some (134,true)),[31]⟩,og 141 134 true (.buildSl [ve] 2 1 [(0,1,(cs [116,97,114,103,101,116,115])),(1,1,(cs [114,49]))]),og 142 134 true (.callF a0e [.t 139,.t 140,ci 9,cu 2,cu 0,cu 0,cs [],.t 141]),o 143 (.pick (.t 134) (.t 142) (.c (.bool false))),m 144 143,og 145 144 true (.load true 7 (.t 8)),og 146 144 true (.load true 7 (.t 13)),og 147 144 true (.load true 7 (.t 14)),og 148 144 true (.buildSl [ve,.nils,.nils,vi 0,ve,vi 0,(.bool false)] 3 7 [(0,7,(.t 145)),(7,7,(.t 146)),(14,7,(.t 147))]),og 149 144 true (.callF a0d [.t 148]),⟨(some 150),(.load true 4 (.t 2)),(some (144,true)),[41]⟩,og 151 144 true (.buildSl [ve] 3 1 [(0,1,(cs [116,97,114,103,101,116,115])),(1,1,(cs [114,49])),(2,1,(cs [114,50]))]),og 152 144 true (.callF a0e [.t 149,.t 150,ci 9,cu 2,cu 0,cu 0,cs [],.t 151]),o 153 (.pick (.t 144) (.t 152) (.c (.bool false))),m 26 153])
(.seq (Q [m 154 26,o 155 (.un .not (.t 154))]
(.cond (.t 155)
(Q [o 0 (.mv (.c (.bool false)))]
(.ret [0]))
.skip))
(.seq (.drawn [xl 156 7 8,xl 157 7 11,xl 158 7 12,o 159 (.buildSl [ve,.nils,.nils,vi 0,ve,vi 0,(.bool false)] 3 7 [(0,7,(.t 156)),(7,7,(.t 157)),(14,7,(.t 158))]),o 160 (.callF a0d [.t 159]),⟨(some 161),(.load true 4 (.t 3)),none,[4]⟩,o 162 (.buildSl [ve] 1 1 [(0,1,(cs [116,97,114,103,101,116,115]))]),o 163 (.callF a0e [.t 160,.t 161,ci 9,cu 3,cu 2,cu 0,cs [],.t 162]),m 164 163,og 165 164 true (.load true 7 (.t 8)),og 166 164 true (.load true 7 (.t 11)),og 167 164 true (.load true 7 (.t 12)),og 168 164 true (.buildSl [ve,.nils,.nils,vi 0,ve,vi 0,(.bool false)] 3 7 [(0,7,(.t 165)),(7,7,(.t 166)),(14,7,(.t 167))]),og 169 164 true (.callF a0d [.t 168]),⟨(some 170),(.load true 4 (.t 4)),(some (164,true)),[13]⟩,og 171 164 true (.buildSl [ve] 1 1 [(0,1,(cs [116,97,114,103,101,116,115]))]),og 172 164 true (.callF a0e [.t 169,.t 170,ci 9,cu 3,cu 3,cu 0,cs [],.t 171]),o 173 (.pick (.t 164) (.t 172) (.c (.bool false))),m 174 173,og 175 174 true (.load true 7 (.t 7)),og 176 174 true (.buildSl [ve,.nils,.nils,vi 0,ve,vi 0,(.bool false)] 1 7 [(0,7,(.t 175))]),og 177 174 true (.callF a0d [.t 176]),⟨(some 178),(.load true 4 (.t 3)),(some (174,true)),[21]⟩,og 179 174 true (.buildSl [ve] 1 1 [(0,1,(cs [116,97,114,103,101,116,115]))]),og 180 174 true (.callF a0e [.t 177,.t 178,ci 9,cu 1,cu 0,cu 0,cs [],.t 179]),o 181 (.pick (.t 174) (.t 180) (.c (.bool false))),m 182 181,og 183 182 true (.load true 7 (.t 7)),og 184 182 true (.buildSl [ve,.nils,.nils,vi 0,ve,vi 0,(.bool false)] 1 7 [(0,7,(.t 183))]),og 185 182 true (.callF a0d [.t 184]),⟨(some 186),(.load true 4 (.t 5)),(some (182,true)),[29]⟩,og 187 182 true (.callF a0e [.t 185,.t 186,ci 9,cu 3,cu 2,cu 0,cs [],(.c .nils)]),o 188 (.pick (.t 182) (.t 187) (.c (.bool false))),m 189 188,og 190 189 true (.load true 7 (.t 7)),og 191 189 true (.buildSl [ve,.nils,.nils,vi 0,ve,vi 0,(.bool false)] 1 7 [(0,7,(.t 190))]),og 192 189 true (.callF a0d [.t 191]),⟨(some 193),(.load true 4 (.t 6)),(some (189,true)),[36]⟩,og 194 189 true (.callF a0e [.t 192,.t 193,ci 9,cu 3,cu 2,cu 0,cs [],(.c .nils)]),o 195 (.pick (.t 189) (.t 194) (.c (.bool false))),m 196 195,og 197 196 true (.load true 7 (.t 8)),og 198 196 true (.load true 7 (.t 15)),og 199 196 true (.load true 7 (.t 12)),og 200 196 true (.buildSl [ve,.nils,.nils,vi 0,ve,vi 0,(.bool false)] 3 7 [(0,7,(.t 197)),(7,7,(.t 198)),(14,7,(.t 199))]),og 201 196 true (.callF a0d [.t 200]),⟨(some 202),(.load true 4 (.t 2)),(some (196,true)),[45]⟩,og 203 196 true (.buildSl [ve] 2 1 [(0,1,(cs [116,97,114,103,101,116,115])),(1,1,(cs [114,49]))]),og 204 196 true (.callF a0e [.t 201,.t 202,ci 9,cu 3,cu 4,cu 5,cs [114,49],.t 203]),o 205 (.pick (.t 196) (.t 204) (.c (.bool false))),m 206 205,og 207 206 true (.load true 7 (.t 8)),og 208 206 true (.load true 7 (.t 16)),og 209 206 true (.load true 7 (.t 12)),og 210 206 true (.buildSl [ve,.nils,.nils,vi 0,ve,vi 0,(.bool false)] 3 7 [(0,7,(.t 207)),(7,7,(.t 208)),(14,7,(.t 209))]),og 211 206 true (.callF a0d [.t 210]),⟨(some 212),(.load true 4 (.t 2)),(some (206,true)),[55]⟩,og 213 206 true (.buildSl [ve] 2 1 [(0,1,(cs [116,97,114,103,101,116,115])),(1,1,(cs [114,49]))]),og 214 206 true (.callF a0e [.t 211,.t 212,ci 50,cu 3,cu 4,cu 10,cs [114,49],.t 213]),o 215 (.pick (.t 206) (.t 214) (.c (.bool false))),m 216 215,og 217 216 true (.load true 7 (.t 8)),og 218 216 true (.load true 7 (.t 16)),og 219 216 true (.load true 7 (.t 12)),og 220 216 true (.buildSl [ve,.nils,.nils,vi 0,ve,vi 0,(.bool false)] 3 7 [(0,7,(.t 217)),(7,7,(.t 218)),(14,7,(.t 219))]),og 221 216 true (.callF a0d [.t 220]),⟨(some 222),(.load true 4 (.t 2)),(some (216,true)),[65]⟩,og 223 216 true (.buildSl [ve] 2 1 [(0,1,(cs [116,97,114,103,101,116,115])),(1,1,(cs [114,49]))]),og 224 216 true (.callF a0e [.t 221,.t 222,ci 49,cu 1,cu 0,cu 0,cs [],.t 223]),o 225 (.pick (.t 216) (.t 224) (.c (.bool false))),m 226 225,og 227 226 true (.load true 7 (.t 8)),og 228 226 true (.load true 7 (.t 17)),og 229 226 true (.load true 7 (.t 12)),og 230 226 true (.buildSl [ve,.nils,.nils,vi 0,ve,vi 0,(.bool false)] 3 7 [(0,7,(.t 227)),(7,7,(.t 228)),(14,7,(.t 229))]),og 231 226 true (.callF a0d [.t 230]),⟨(some 232),(.load true 4 (.t 2)),(some (226,true)),[75]⟩,og 233 226 true (.buildSl [ve] 2 1 [(0,1,(cs [116,97,114,103,101,116,115])),(1,1,(cs [114,49]))]),og 234 226 true (.callF a0e [.t 231,.t 232,ci 9,cu 3,cu 4,cu 9,cs [114,49],.t 233]),o 235 (.pick (.t 226) (.t 234) (.c (.bool false))),m 26 235])
(.seq (Q [m 236 26,o 237 (.un .not (.t 236))]
(.cond (.t 237)
(Q [o 0 (.mv (.c (.bool false)))]
(.ret [0]))
.skip))
(.seq (.drawn [xl 238 7 8,xl 239 7 18,xl 240 7 12,o 241 (.buildSl [ve,.nils,.nils,vi 0,ve,vi 0,(.bool false)] 3 7 [(0,7,(.t 238)),(7,7,(.t 239)),(14,7,(.t 240))]),o 242 (.callF a0d [.t 241]),⟨(some 243),(.load true 4 (.t 2)),none,[4]⟩,o 244 (.buildSl [ve] 3 1 [(0,1,(cs [116,97,114,103,101,116,115])),(1,1,(cs [114,49])),(2,1,(cs [114,50]))]),o 245 (.callF a0e [.t 242,.t 243,ci 9,cu 1,cu 0,cu 0,cs [],.t 244]),m 246 245,og 247 246 true (.load true 7 (.t 8)),og 248 246 true (.load true 7 (.t 19)),og 249 246 true (.load true 7 (.t 12)),og 250 246 true (.buildSl [ve,.nils,.nils,vi 0,ve,vi 0,(.bool false)] 3 7 [(0,7,(.t 247)),(7,7,(.t 248)),(14,7,(.t 249))]),og 251 246 true (.callF a0d [.t 250]),⟨(some 252),(.load true 4 (.t 2)),(some (246,true)),[13]⟩,og 253 246 true (.buildSl [ve] 3 1 [(0,1,(cs [116,97,114,103,101,116,115])),(1,1,(cs [114,49])),(2,1,(cs [114,50]))]),og 254 246 true (.callF a0e [.t 251,.t 252,ci 9,cu 1,cu 0,cu 0,cs [],.t 253]),o 255 (.pick (.t 246) (.t 254) (.c (.bool false))),m 256 255,og 257 256 true (.load true 7 (.t 20)),og 258 256 true (.load true 7 (.t 11)),og 259 256 true (.load true 7 (.t 12)),og 260 256 true (.buildSl [ve,.nils,.nils,vi 0,ve,vi 0,(.bool false)] 3 7 [(0,7,(.t 257)),(7,7,(.t 258)),(14,7,(.t 259))]),og 261 256 true (.callF a0d [.t 260]),⟨(some 262),(.load true 4 (.t 2)),(some (256,true)),[23]⟩,og 263 256 true (.buildSl [ve] 3 1 [(0,1,(cs [116,97,114,103,101,116,115])),(1,1,(cs [114,49])),(2,1,(cs [114,50]))]),og 264 256 true (.callF a0e [.t 261,.t 262,ci 9,cu 1,cu 0,cu 0,cs [],.t 263]),o 265 (.pick (.t 256) (.t 264) (.c (.bool false))),m 266 265,og 267 266 true (.load true 7 (.t 21)),og 268 266 true (.load true 7 (.t 22)),og 269 266 true (.load true 7 (.t 23)),og 270 266 true (.load true 7 (.t 12)),og 271 266 true (.buildSl [ve,.nils,.nils,vi 0,ve,vi 0,(.bool false)] 4 7 [(0,7,(.t 267)),(7,7,(.t 268)),(14,7,(.t 269)),(21,7,(.t 270))]),og 272 266 true (.callF a0d [.t 271]),⟨(some 273),(.load true 4 (.t 2)),(some (266,true)),[34]⟩,og 274 266 true (.buildSl [ve] 3 1 [(0,1,(cs [116,97,114,103,101,116,115])),(1,1,(cs [97])),(2,1,(cs [99]))]),og 275 266 true (.callF a0e [.t 272,.t 273,ci 9,cu 2,cu 0,cu 0,cs [],.t 274]),o 276 (.pick (.t 266) (.t 275) (.c (.bool false))),m 277 276,og 278 277 true (.load true 3 (.t 24)),og 279 277 true (.load true 4 (.t 2)),og 280 277 true (.buildSl [ve] 1 1 [(0,1,(cs [116,97,114,103,101,116,115]))]),og 281 277 true (.callF a0e [.t 278,.t 279,ci 9,cu 3,cu 4,cu 2,cs [115,110,97,112,115,104,111,116],.t 280]),o 282 (.pick (.t 277) (.t 281) (.c (.bool false))),m 283 282,og 284 283 true (.load true 7 (.t 25)),og 285 283 true (.buildSl [ve,.nils,.nils,vi 0,ve,vi 0,(.bool false)] 1 7 [(0,7,(.t 284))]),og 286 283 true (.callF a0d [.t 285]),⟨(some 287),(.load true 4 (.t 2)),(some (283,true)),[48]⟩,og 288 283 true (.buildSl [ve] 1 1 [(0,1,(cs [116,97,114,103,101,116,115]))]),og 289 283 true (.callF a0e [.t 286,.t 287,ci 9,cu 3,cu 4,cu 1,cs [116,97,114,103,101,116,115],.t 288]),o 290 (.pick (.t 283) (.t 289) (.c (.bool false))),m 291 290,og 292 291 true (.load true 7 (.t 7)),og 293 291 true (.buildSl [ve,.nils,.nils,vi 0,ve,vi 0,(.bool false)] 1 7 [(0,7,(.t 292))]),og 294 291 true (.callF a0d [.t 293]),⟨(some 295),(.load true 4 (.t 2)),(some (291,true)),[56]⟩,og 296 291 true (.callF a0e [.t 294,.t 295,ci 100,cu 3,cu 4,cu 10,cs [114,111,111,116],(.c .nils)]),o 297 (.pick (.t 291) (.t 296) (.c (.bool false))),m 298 297,og 299 298 true (.load true 7 (.t 7)),og 300 298 true (.buildSl [ve,.nils,.nils,vi 0,ve,vi 0,(.bool false)] 1 7 [(0,7,(.t 299))]),og 301 298 true (.callF a0d [.t 300]),⟨(some 302),(.load true 4 (.t 5)),(some (298,true)),[63]⟩,og 303 298 true (.callF a0e [.t 301,.t 302,ci 100,cu 3,cu 4,cu 10,cs [114,111,111,116],(.c .nils)]),o 304 (.pick (.t 298) (.t 303) (.c (.bool false))),m 26 304])
(Q [xl 305 4 3,o 306 (.callF a3q [(.c .nilp),cs [97],.t 305]),o 27 (.new [vu 0,vu 0,vu 0,ve,vi 0,.nils,vu 0,vi 0,ve,.nils,.nils,.nils] none),xs 12 27 306]
(.seq (.drawn [xl 308 7 7,o 309 (.buildSl [ve,.nils,.nils,vi 0,ve,vi 0,(.bool false)] 1 7 [(0,7,(.t 308))]),o 310 (.callF a0d [.t 309]),o 311 (.callF b7i []),⟨(some 312),(.load true 4 (.t 2)),none,[2,3]⟩,o 313 (.callF c5t [.t 310,.t 311,ci 9,.t 312]),m 307 313,xe 314 307 0,xe 315 307 1,m 28 314,m 29 315])
(Q [m 316 28,xl 317 4 2,o 318 (.callF a3q [.t 316,cs [47,120],.t 317]),o 30 (.new [vu 0,vu 0,vu 0,ve,vi 0,.nils,vu 0,vi 0,ve,.nils,.nils,.nils] none),xs 12 30 318]
(Q [m 319 26,m 320 319,og 321 320 true (.load true 12 (.t 27)),og 322 320 true (.callF b1d [.t 321]),og 323 320 true (.buildSl [ve] 1 1 [(0,1,(cs [116,97,114,103,101,116,115]))]),og 324 320 true (.build [vu 0,vu 0,vu 0,ve,vi 0,.nils,vu 0,vi 0,ve,.nils,.nils,.nils] [(0,1,(cu 3)),(1,1,(cu 4)),(2,1,(cu 2)),(3,1,(cs [115,110,97,112,115,104,111,116])),(11,1,(.t 323))]),og 325 320 true (.callF b0v [.t 322,.t 324]),o 326 (.pick (.t 320) (.t 325) (.c (.bool false))),m 327 326,og 328 327 true (.mv (.t 29)),og 329 327 true (.bin .eql 0 true (.t 328) (ci 0)),o 330 (.pick (.t 327) (.t 329) (.c (.bool false))),m 331 330,og 332 331 true (.load true 12 (.t 30)),og 333 331 true (.callF b1d [.t 332]),og 334 331 true (.build [vu 0,vu 0,vu 0,ve,vi 0,.nils,vu 0,vi 0,ve,.nils,.nils,.nils] [(0,1,(cu 2))]),og 335 331 true (.callF b0v [.t 333,.t 334]),o 336 (.pick (.t 331) (.t 335) (.c (.bool false))),m 337 336,og 338 337 true (.mv (.t 28)),og 339 337 true (.callF a9o [.t 338]),og 340 337 true (.len 1 (.t 339)),og 341 337 true (.bin .eql 0 true (.t 340) (ci 0)),o 342 (.pick (.t 337) (.t 341) (.c (.bool false))),m 0 342]
(.ret [0]))))))))))))))))))))))))))))))))))))))⟩
def b5b : KF:=⟨0,117,[(.tmp 0)],(Q [o 0 (.mv (.c (.bool false)))]
(Q [o 9 (.build [vi 0,vi 0,vi 0,vi 0] [(0,1,(ci 3)),(1,1,(ci 2)),(2,1,(ci 65536)),(3,1,(ci 65536))]),o 1 (.new [vi 0,vi 0,vi 0,vi 0] none),xs 4 1 9]
(Q [o 10 (.callF a0v [cs [114,49],(.c (.bool false))]),o 11 (.callF a0v [cs [114,50],(.c (.bool true))]),o 12 (.buildSl [ve,vi 0,.nils,(.bool false),.nils,.nils] 2 6 [(0,6,(.t 10)),(6,6,(.t 11))]),o 13 (.build [ve,.nils,.nils,vi 0,ve,vi 0,(.bool false)] [(0,1,(cs [116,97,114,103,101,116,115])),(2,1,(.t 12))]),o 14 (.build [ve,.nils,.nils,vi 0,ve,vi 0,(.bool false)] [(0,1,(cs [114,49]))]),o 15 (.buildSl [ve] 1 1 [(0,1,(cs [120,47,121]))]),o 16 (.build [ve,.nils,.nils,vi 0,ve,vi 0,(.bool false)] [(0,1,(cs [114,50])),(1,1,(.t 15))]),o 17 (.buildSl [ve,.nils,.nils,vi 0,ve,vi 0,(.bool false)] 3 7 [(0,7,(.t 13)),(7,7,(.t 14)),(14,7,(.t 16))]),o 18 (.callF a0d [.t 17]),o 2 (.new [ve,ve,.nils] none),xs 3 2 18]
(.seq (.drawn [⟨(some 20),(.load true 3 (.t 2)),none,[1]⟩,o 21 (.callF b7i []),⟨(some 22),(.load true 4 (.t 1)),none,[1]⟩,o 23 (.callF c5t [.t 20,.t 21,ci 9,.t 22]),m 19 23,xe 24 19 0,xe 25 19 1,m 3 24,m 4 25])
(Q [m 26 3,xl 27 4 1,o 28 (.callF a3q [.t 26,cs [120,47,121],.t 27]),o 5 (.new [vu 0,vu 0,vu 0,ve,vi 0,.nils,vu 0,vi 0,ve,.nils,.nils,.nils] none),xs 12 5 28]
(Q [m 29 3,xl 30 4 1,o 31 (.callF a3q [.t 29,cs [122],.t 30]),o 6 (.new [vu 0,vu 0,vu 0,ve,vi 0,.nils,vu 0,vi 0,ve,.nils,.nils,.nils] none),xs 12 6 31]
(Q [xa 32 0 1,u (.store 1 (.t 32) (ci 2))]
(Q [m 33 3,xl 34 4 1,o 35 (.callF a3q [.t 33,cs [122],.t 34]),o 7 (.new [vu 0,vu 0,vu 0,ve,vi 0,.nils,vu 0,vi 0,ve,.nils,.nils,.nils] none),xs 12 7 35]
(Q [m 36 3,o 37 (.callF a9o [.t 36]),m 8 37]
(Q [m 38 4,o 39 (.bin .eql 0 true (.t 38) (ci 0)),m 40 39,og 41 40 true (.fieldAddr 0 (.t 5)),og 42 40 true (.load false 1 (.t 41)),og 43 40 true (.bin .eql 0 true (.t 42) (cu 1)),o 44 (.pick (.t 40) (.t 43) (.c (.bool false))),m 45 44,og 46 45 true (.fieldAddr 4 (.t 5)),og 47 45 true (.fieldAddr 0 (.t 46)),og 48 45 true (.load false 1 (.t 47)),og 49 45 true (.bin .eql 0 true (.t 48) (ci 7)),o 50 (.pick (.t 45) (.t 49) (.c (.bool false))),m 51 50,og 52 51 true (.fieldAddr 11 (.t 5)),og 53 51 true (.load false 1 (.t 52)),og 54 51 true (.len 1 (.t 53)),og 55 51 true (.bin .eql 0 true (.t 54) (ci 3)),o 56 (.pick (.t 51) (.t 55) (.c (.bool false))),m 57 56,og 58 57 true (.fieldAddr 11 (.t 5)),og 59 57 true (.load false 1 (.t 58)),og 60 57 true (.idxAddrSl 1 (.t 59) (ci 0)),og 61 57 true (.load false 1 (.t 60)),og 62 57 true (.bin .eql 0 true (.t 61) (cs [116,97,114,103,101,116,115])),o 63 (.pick (.t 57) (.t 62) (.c (.bool false))),m 64 63,og 65 64 true (.fieldAddr 11 (.t 5)),og 66 64 true (.load false 1 (.t 65)),og 67 64 true (.idxAddrSl 1 (.t 66) (ci 2)),og 68 64 true (.load false 1 (.t 67)),og 69 64 true (.bin .eql 0 true (.t 68) (cs [114,50])),o 70 (.pick (.t 64) (.t 69) (.c (.bool false))),m 71 70,og 72 71 true (.fieldAddr 0 (.t 6)),og 73 71 true (.load false 1 (.t 72)),og 74 71 true (.bin .eql 0 true (.t 73) (cu 2)),o 75 (.pick (.t 71) (.t 74) (.c (.bool false))),m 76 75,og 77 76 true (.fieldAddr 11 (.t 6)),og 78 76 true (.load false 1 (.t 77)),og 79 76 true (.len 1 (.t 78)),og 80 76 true (.bin .eql 0 true (.t 79) (ci 3)),o 81 (.pick (.t 76) (.t 80) (.c (.bool false))),m 82 81,og 83 82 true (.fieldAddr 0 (.t 7)),og 84 82 true (.load false 1 (.t 83)),og 85 82 true (.bin .eql 0 true (.t 84) (cu 3)),o 86 (.pick (.t 82) (.t 85) (.c (.bool false))),m 87 86,og 88 87 true (.fieldAddr 1 (.t 7)),og 89 87 true (.load false 1 (.t 88)),og 90 87 true (.bin .eql 0 true (.t 89) (cu 2)),o 91 (.pick (.t 87) (.t 90) (.c (.bool false))),m 92 91,og 93 92 true (.fieldAddr 11 (.t 7)),og 94 92 true (.load false 1 (.t 93)),og 95 92 true (.len 1 (.t 94)),og 96 92 true (.bin .eql 0 true (.t 95) (ci 2)),o 97 (.pick (.t 92) (.t 96) (.c (.bool false))),m 98 97,og 99 98 true (.mv (.t 8)),og 100 98 true (.len 1 (.t 99)),og 101 98 true (.bin .eql 0 true (.t 100) (ci 4)),o 102 (.pick (.t 98) (.t 101) (.c (.bool false))),m 103 102,og 104 103 true (.mv (.t 8)),og 105 103 true (.idxAddrSl 4 (.t 104) (ci 0)),og 106 103 true (.fieldAddr 1 (.t 105)),og 107 103 true (.load false 1 (.t 106)),og 108 103 true (.bin .eql 0 true (.t 107) (cs [115,110,97,112,115,104,111,116,46,106,115,111,110])),o 109 (.pick (.t 103) (.t 108) (.c (.bool false))),m 110 109,og 111 110 true (.mv (.t 8)),og 112 110 true (.idxAddrSl 4 (.t 111) (ci 3)),og 113 110 true (.fieldAddr 1 (.t 112)),og 114 110 true (.load false 1 (.t 113)),og 115 110 true (.bin .eql 0 true (.t 114) (cs [114,50,46,106,115,111,110])),o 116 (.pick (.t 110) (.t 115) (.c (.bool false))),m 0 116]
(.ret [0])))))))))))⟩
def c2f : KF:=⟨2,8,[(.cell 4 true 6)],(Q [o 4 (.new [ve,vi 0,.nils,(.bool false),.nils,.nils] none)]
(Q [m 5 0,m 6 1,o 7 (.callF a9e [.t 5,cs [48,48],.t 6]),xs 6 4 7]
(.ret [4])))⟩
def c1u : KF:=⟨3,13,[(.cell 6 true 6)],(Q [o 6 (.new [ve,vi 0,.nils,(.bool false),.nils,.nils] none)]
(Q [m 7 0,m 8 1,o 9 (.callF a4t [.t 8]),m 10 2,o 11 (.buildSl [ve] 2 1 [(0,1,(cs [42])),(1,1,(cs [42,47,42]))]),o 12 (.build [ve,vi 0,.nils,(.bool false),.nils,.nils] [(0,1,(.t 7)),(1,2,(.t 9)),(3,1,(.t 10)),(4,1,(.t 11))]),xs 6 6 12]
(.ret [6])))⟩
def c2w : KC:=
(.seq (Q [m 49 11,xa 50 1 9,xf 51 50,o 52 (.len 1 (.t 51)),o 53 (.bin .lss 0 false (.t 49) (.t 52))]
(.cond (.t 53)
.skip
(.exit [0,2,3,6,7,8,9,10] 2)))
(.seq (.block 3
(.drawn [xa 56 2 10,⟨(some 57),(.load false 1 (.t 56)),none,[8]⟩,xa 58 1 9,⟨(some 59),(.load false 1 (.t 58)),none,[8]⟩,m 60 11,o 61 (.idxAddrSl 1 (.t 59) (.t 60)),⟨(some 62),(.load false 1 (.t 61)),none,[8]⟩,o 63 (.build [ve,ve] [(0,1,(cs [97])),(1,1,(cs [48,48]))]),o 64 (.buildSl [ve,ve] 1 2 [(0,2,(.t 63))]),o 65 (.build [vi 0,.nils,vu 0,vi 0,ve,.nils,.nils] [(0,1,(ci 7)),(1,1,(.t 64))]),o 66 (.build [ve,vi 0,.nils,vu 0,vi 0,ve,.nils,.nils] [(0,1,(.t 62)),(1,7,(.t 65))]),o 67 (.buildSl [ve,vi 0,.nils,vu 0,vi 0,ve,.nils,.nils] 1 8 [(0,8,(.t 66))]),o 68 (.app false 8 128 none (.t 57) (.t 67)),xa 69 2 10,xs 1 69 68]))
(.ops [m 54 11,o 55 (.bin .add 0 true (.t 54) (ci 1)),m 11 55])))
def c3d : KC:=
(.seq (Q [m 32 8,m 33 0,o 34 (.len 1 (.t 33)),o 35 (.bin .lss 0 false (.t 32) (.t 34))]
(.cond (.t 35)
.skip
(.exit [2,6,7] 0)))
(.seq (.block 1
(Q [m 38 0,m 39 8,o 40 (.idxAddrSl 7 (.t 38) (.t 39)),xl 41 7 40,o 9 (.new [ve,.nils,.nils,vi 0,ve,vi 0,(.bool false)] none),xs 7 9 41]
(Q [o 42 (.build [vi 0,vi 0,.nils,.nils,.nils,vi 0,.nils,vi 0,ve] [(0,1,(ci 1)),(1,1,(ci 100))]),o 10 (.new [vi 0,vi 0,.nils,.nils,.nils,vi 0,.nils,vi 0,ve] none),xs 9 10 42]
(.seq (Q [xa 43 5 9,xf 44 43,o 45 (.bin .gtr 0 true (.t 44) (ci 0))]
(.cond (.t 45)
(.ops [xa 46 5 9,xf 47 46,xa 48 1 10,xs 1 48 47])
.skip))
(.seq (Q [o 11 (.mv (ci 0))]
(.block 2
(.loop [0,2,3,6,7,8,9,10,11] c2w)))
(.seq (Q [xa 70 2 9,xf 71 70,o 72 (.len 1 (.t 71)),o 73 (.bin .gtr 0 true (.t 72) (ci 0))]
(.cond (.t 73)
(.ops [m 74 3,xa 75 2 9,xf 76 75,o 77 (.build [.nils,.nils,vi 0,.nils,vi 0,ve] [(0,1,(.t 74)),(1,1,(.t 76))]),xa 78 3 10,xs 6 78 77])
.skip))
(Q [xl 80 9 10,o 81 (.callF d7e [.t 80]),m 79 81,xe 82 79 0,xe 83 79 1,o 12 (.new [vu 0,vi 0,ve,.nils,.nils] none),xs 5 12 82,m 13 83]
(Q [xl 84 5 12,o 85 (.callF a2z [.t 84]),m 14 85]
(.seq (.drawn [xa 86 0 9,⟨(some 87),(.load false 1 (.t 86)),none,[6,8]⟩,o 88 (.bin .add 0 true (.t 87) (cs [46,106,115,111,110])),m 89 14,⟨(some 90),(.len 0 (.t 89)),none,[6,8]⟩,m 91 14,o 92 (.callF b2n [.t 91]),o 93 (.build [ve,ve] [(0,1,(cs [115,104,97,50,53,54])),(1,1,(.t 92))]),o 94 (.buildSl [ve,ve] 1 2 [(0,2,(.t 93))]),o 95 (.build [ve,vi 0,vi 0,.nils] [(0,1,(.t 88)),(1,1,(ci 1)),(2,1,(.t 90)),(3,1,(.t 94))]),u .pend,o 15 (.fill 10 15 4 (.t 95))])
(.seq (Q [xa 96 3 9,xf 97 96,o 98 (.bin .gtr 0 true (.t 97) (ci 0))]
(.cond (.t 98)
(.ops [xa 99 3 9,xf 100 99,xa 101 1 15,xs 1 101 100])
.skip))
(.seq (Q [xa 102 4 9,xf 103 102,o 104 (.bin .neq 0 true (.t 103) (cs []))]
(.cond (.t 104)
(.ops [xa 105 3 15,xf 106 105,xa 107 4 9,xf 108 107,o 109 (.idxAddrSl 2 (.t 106) (ci 0)),xa 110 1 109,xs 1 110 108])
.skip))
(.seq (Q [xa 111 3 9,xf 112 111,o 113 (.bin .geq 0 true (.t 112) (ci 0))]
(.cond (.t 113)
(.ops [m 114 7,xl 115 4 15,o 116 (.callF b8y [.t 114,.t 115]),m 7 116])
.skip))
(Q [xa 117 6 9,xf 118 117,o 119 (.un .not (.t 118))]
(.cond (.t 119)
(.ops [xa 120 2 6,xf 121 120,xa 122 0 15,xf 123 122,m 124 14,o 125 (.build [ve,ve] [(0,1,(.t 123)),(1,1,(.t 124))]),o 126 (.buildSl [ve,ve] 1 2 [(0,2,(.t 125))]),o 127 (.app false 2 32 none (.t 121) (.t 126)),xa 128 2 6,xs 1 128 127])
.skip))))))))))))))
(.ops [m 36 8,o 37 (.bin .add 0 true (.t 36) (ci 1)),m 8 37])))
def b3v : KF:=⟨1,144,[(.cell 2 true 3)],(Q [o 2 (.new [ve,ve,.nils] none)]
(Q [o 18 (.callF a8d [cs [48,48]]),o 19 (.buildSl [ve,ve] 1 2 [(0,2,(.t 18))]),m 3 19]
(Q [m 21 3,o 22 (.callF a4t [cs [48,48]]),o 23 (.callF a4t [cs [48,48]]),o 24 (.callF a4t [cs [48,48]]),o 25 (.build [vi 0,vi 0,.nils,vi 0,.nils,vi 0,.nils,vi 0,.nils] [(0,1,(ci 1)),(1,1,(ci 100)),(2,1,(.t 21)),(3,2,(.t 22)),(5,2,(.t 23)),(7,2,(.t 24))]),o 26 (.callF c4z [.t 25]),m 20 26,xe 27 20 0,xe 28 20 1,o 4 (.new [vu 0,vi 0,ve,.nils,.nils] none),xs 5 4 27,m 5 28]
(Q [xl 29 5 4,o 30 (.callF a2z [.t 29]),o 31 (.build [ve,ve,.nils] [(0,1,(cs [114])),(1,1,(.t 30))]),o 6 (.new [ve,ve,.nils] none),xs 3 6 31]
(Q [o 7 (.mv (.c .nils))]
(.seq (Q [o 8 (.mv (ci 0))]
(.block 0
(.loop [0,2,3,6,7,8] c3d)))
(Q [m 130 7,o 131 (.build [vi 0,vi 0,.nils] [(0,1,(ci 1)),(1,1,(ci 100)),(2,1,(.t 130))]),o 132 (.callF a1p [.t 131]),m 129 132,xe 133 129 0,xe 134 129 1,o 16 (.new [vu 0,vi 0,ve,.nils,.nils] none),xs 5 16 133,m 17 134]
(.seq (.drawn [xa 135 2 6,⟨(some 136),(.load false 1 (.t 135)),none,[3,5]⟩,xl 137 5 16,o 138 (.callF a2z [.t 137]),o 139 (.build [ve,ve] [(0,1,(cs [115,110,97,112,115,104,111,116,46,106,115,111,110])),(1,1,(.t 138))]),o 140 (.buildSl [ve,ve] 1 2 [(0,2,(.t 139))]),o 141 (.app false 2 32 none (.t 136) (.t 140)),xa 142 2 6,xs 1 142 141])
(Q [xl 143 3 6,xs 3 2 143]
(.ret [2]))))))))))⟩
def d2n : KC:=
(.seq (Q [m 75 20,m 76 7,o 77 (.len 1 (.t 76)),o 78 (.bin .lss 0 false (.t 75) (.t 77))]
(.cond (.t 78)
.skip
(.exit [] 0)))
(.seq (.block 1
(.seq (.plain [xa 81 11 19,xf 82 81,m 83 20,o 84 (.idxAddrSl 1 (.t 82) (.t 83)),xf 85 84,m 86 7,m 87 20,o 88 (.idxAddrSl 1 (.t 86) (.t 87)),xf 89 88,o 90 (.bin .neq 0 false (.t 85) (.t 89))])
(.cond (.t 90)
(Q [o 16 (.mv (.c (.bool false)))]
(.ret [16]))
.skip)))
(.ops [m 79 20,o 80 (.bin .add 0 true (.t 79) (ci 1)),m 20 80])))
def c1w : KF:=⟨8,91,[(.tmp 16)],(Q [o 8 (.box (.t 0)),o 9 (.box (.t 1)),o 16 (.mv (.c (.bool false)))]
(.seq (.drawn [⟨(some 22),(.load true 3 (.t 8)),none,[1]⟩,o 23 (.callF b7i []),m 24 2,⟨(some 25),(.load true 4 (.t 9)),none,[1]⟩,o 26 (.callF c5t [.t 22,.t 23,.t 24,.t 25]),m 21 26,xe 27 21 0,xe 28 21 1,m 17 27,m 18 28])
(Q [m 29 17,xl 30 4 9,o 31 (.callF a3q [.t 29,cs [120,47,121],.t 30]),o 19 (.new [vu 0,vu 0,vu 0,ve,vi 0,.nils,vu 0,vi 0,ve,.nils,.nils,.nils] none),xs 12 19 31]
(.seq (Q [m 32 18,o 33 (.bin .neq 0 true (.t 32) (ci 0)),m 34 33,og 35 34 false (.fieldAddr 0 (.t 19)),og 36 34 false (.load false 1 (.t 35)),og 37 34 false (.mv (.t 3)),og 38 34 false (.bin .neq 0 false (.t 36) (.t 37)),o 39 (.pick (.t 34) (.c (.bool true)) (.t 38)),m 40 39,og 41 40 false (.fieldAddr 1 (.t 19)),og 42 40 false (.load false 1 (.t 41)),og 43 40 false (.mv (.t 4)),og 44 40 false (.bin .neq 0 false (.t 42) (.t 43)),o 45 (.pick (.t 40) (.c (.bool true)) (.t 44)),m 46 45,og 47 46 false (.fieldAddr 2 (.t 19)),og 48 46 false (.load false 1 (.t 47)),og 49 46 false (.mv (.t 5)),og 50 46 false (.bin .neq 0 false (.t 48) (.t 49)),o 51 (.pick (.t 46) (.c (.bool true)) (.t 50)),m 52 51,og 53 52 false (.fieldAddr 3 (.t 19)),og 54 52 false (.load false 1 (.t 53)),og 55 52 false (.mv (.t 6)),og 56 52 false (.bin .neq 0 false (.t 54) (.t 55)),o 57 (.pick (.t 52) (.c (.bool true)) (.t 56)),m 58 57,og 59 58 false (.fieldAddr 11 (.t 19)),og 60 58 false (.load false 1 (.t 59)),og 61 58 false (.len 1 (.t 60)),og 62 58 false (.mv (.t 7)),og 63 58 false (.len 1 (.t 62)),og 64 58 false (.bin .neq 0 false (.t 61) (.t 63)),o 65 (.pick (.t 58) (.c (.bool true)) (.t 64)),m 66 65,og 67 66 false (.mv (.t 3)),og 68 66 false (.bin .eql 0 true (.t 67) (cu 1)),og 69 66 false (.fieldAddr 4 (.t 19)),og 70 66 false (.fieldAddr 0 (.t 69)),og 71 66 false (.load false 1 (.t 70)),og 72 66 false (.bin .eql 0 true (.t 71) (ci 7)),og 73 66 false (.bin .neq 1 false (.t 68) (.t 72)),o 74 (.pick (.t 66) (.c (.bool true)) (.t 73))]
(.cond (.t 74)
(Q [o 16 (.mv (.c (.bool false)))]
(.ret [16]))
.skip))
(.seq (Q [o 20 (.mv (ci 0))]
(.block 0
(.loop [7,19,20] d2n)))
(Q [o 16 (.mv (.c (.bool true)))]
(.ret [16])))))))⟩
def d4h : KC:=
(.seq (Q [m 35 11,o 36 (.len 1 (.t 35)),o 37 (.bin .gtr 0 true (.t 36) (ci 0))]
(.cond (.t 37)
.skip
(.exit [6,10] 0)))
(.block 1
(Q [m 38 11,m 39 11,o 40 (.len 1 (.t 39)),o 41 (.bin .sub 0 true (.t 40) (ci 1)),o 42 (.idxAddrSl 3 (.t 38) (.t 41)),xl 43 3 42,o 12 (.new [ve,vi 0,.nilFunc] none),xs 3 12 43]
(Q [m 44 11,m 45 11,o 46 (.len 1 (.t 45)),o 47 (.bin .sub 0 true (.t 46) (ci 1)),o 48 (.sliceSl 3 (.t 44) none (some (.t 47)) none),m 11 48]
(.seq (Q [m 49 9,xa 50 0 12,xf 51 50,o 52 (.lookup (vi 0) (.t 49) (.t 51) false),o 53 (.bin .gtr 0 true (.t 52) (ci 0))]
(.cond (.t 53)
(.exit [0,1,6,7,8,9,10,11] 1)
.skip))
(.seq (Q [m 54 10,o 55 (.len 1 (.t 54)),m 56 7,o 57 (.bin .geq 0 false (.t 55) (.t 56))]
(.cond (.t 57)
(Q [m 58 10,o 59 (.build [vu 0,vu 0,vu 0,ve,vi 0,.nils,vu 0,vi 0,ve,.nils,.nils,.nils] [(0,1,(cu 3)),(1,1,(cu 2)),(11,1,(.t 58))]),xs 12 6 59]
(.ret [6]))
.skip))
(.seq (Q [xa 60 1 12,xf 61 60,m 62 8,o 63 (.bin .gtr 0 false (.t 61) (.t 62))]
(.cond (.t 63)
(Q [m 64 10,o 65 (.build [vu 0,vu 0,vu 0,ve,vi 0,.nils,vu 0,vi 0,ve,.nils,.nils,.nils] [(0,1,(cu 3)),(1,1,(cu 3)),(11,1,(.t 64))]),xs 12 6 65]
(.ret [6]))
.skip))
(Q [m 66 10,xa 67 0 12,xf 68 67,o 69 (.buildSl [ve] 1 1 [(0,1,(.t 68))]),o 70 (.app false 1 16 none (.t 66) (.t 69)),m 10 70]
(Q [m 71 9,xa 72 0 12,xf 73 72,m 74 10,o 75 (.len 1 (.t 74)),u (.mapUpd (.t 71) (.t 73) (.t 75))]
(.seq (Q [m 76 10,o 77 (.len 1 (.t 76)),o 78 (.bin .eql 0 true (.t 77) (ci 1))]
(.cond (.t 78)
(Q [m 80 0,o 81 (.callF b3s [.t 80]),m 79 81,xe 82 79 0,xe 83 79 1,o 13 (.new [vi 0,vi 0,.nils] none),xs 3 13 82,m 14 83]
(Q [m 84 14,o 85 (.bin .neq 0 true (.t 84) (cu 0))]
(.cond (.t 85)
(Q [m 86 14,m 87 10,o 88 (.callF a9g [.t 86,cs [115,110,97,112,115,104,111,116],.t 87]),xs 12 6 88]
(.ret [6]))
.skip)))
.skip))
(Q [xa 90 2 12,xf 91 90,m 92 0,o 93 (.callV (.t 91) [.t 92]),m 89 93,xe 94 89 0,xe 95 89 1,o 15 (.new [vi 0,vi 0,.nils,.nils,.nils,vi 0,.nils,vi 0,ve] none),xs 9 15 94,m 16 95]
(.seq (Q [m 96 16,o 97 (.bin .neq 0 true (.t 96) (cu 0))]
(.cond (.t 97)
(.seq (Q [xa 98 0 12,xf 99 98,o 100 (.bin .neq 0 true (.t 99) (cs [116,97,114,103,101,116,115])),m 101 100,og 102 101 true (.mv (.t 16)),og 103 101 true (.callF c1s [.t 102]),o 104 (.pick (.t 101) (.t 103) (.c (.bool false)))]
(.cond (.t 104)
(.exit [0,1,6,7,8,9,10,11] 1)
.skip))
(Q [m 105 16,xa 106 0 12,xf 107 106,m 108 10,o 109 (.callF a9g [.t 105,.t 107,.t 108]),xs 12 6 109]
(.ret [6])))
.skip))
(.seq (Q [xl 111 9 15,m 112 1,o 113 (.callF e4y [.t 111,.t 112]),m 110 113,xe 114 110 0,xe 115 110 1,o 17 (.new [vi 0,.nils,vu 0,vi 0,ve,.nils,.nils] none),xs 7 17 114,m 18 115]
(Q [m 116 18]
(.cond (.t 116)
(Q [xl 117 7 17,m 118 10,o 119 (.build [vu 0,vu 0,vu 0,ve,vi 0,.nils,vu 0,vi 0,ve,.nils,.nils,.nils] [(0,1,(cu 1)),(4,7,(.t 117)),(11,1,(.t 118))]),xs 12 6 119]
(.ret [6]))
.skip)))
(.ops [m 120 11,xa 121 3 15,xl 122 6 121,m 123 1,xa 124 1 12,xf 125 124,o 126 (.bin .add 0 true (.t 125) (ci 1)),o 127 (.callF d3j [.t 120,.t 122,.t 123,.t 126]),m 11 127]))))))))))))))
def c3h : KF:=⟨3,130,[(.cell 6 true 12)],(Q [o 5 (.box (.t 2)),o 6 (.new [vu 0,vu 0,vu 0,ve,vi 0,.nils,vu 0,vi 0,ve,.nils,.nils,.nils] none)]
(.scope (.seq (Q [m 19 1,o 20 (.callF a7h [.t 19]),o 21 (.un .not (.t 20))]
(.cond (.t 21)
(Q [o 22 (.build [vu 0,vu 0,vu 0,ve,vi 0,.nils,vu 0,vi 0,ve,.nils,.nils,.nils] [(0,1,(cu 2))]),xs 12 6 22]
(.ret [6]))
.skip))
(.seq (Q [m 23 0,o 24 (.callF b5h [.t 23])]
(.cond (.t 24)
(Q [o 25 (.callF a9g [cu 10,cs [114,111,111,116],(.c .nils)]),xs 12 6 25]
(.ret [6]))
.skip))
(.seq (.plain [xa 26 0 5,xf 27 26,o 28 (.minmax true (.t 27) (ci 0)),xa 29 1 5,xf 30 29,o 31 (.minmax true (.t 30) (ci 0)),m 7 28,m 8 31])
(Q [o 32 .mkMap,m 9 32]
(Q [o 10 (.mv (.c .nils))]
(Q [o 33 (.build [ve,vi 0,.nilFunc] [(0,1,(cs [116,97,114,103,101,116,115])),(1,1,(ci 1)),(2,1,(.c (.func (.func b5c) [] [])))]),o 34 (.buildSl [ve,vi 0,.nilFunc] 1 3 [(0,3,(.t 33))]),m 11 34]
(.seq .skip
(.seq (.block 0
(.loop [0,1,6,7,8,9,10,11] d4h))
(Q [m 128 10,o 129 (.build [vu 0,vu 0,vu 0,ve,vi 0,.nils,vu 0,vi 0,ve,.nils,.nils,.nils] [(0,1,(cu 2)),(11,1,(.t 128))]),xs 12 6 129]
(.ret [6]))))))))))))⟩
def e8r : KF:=⟨4,54,[(.tmp 8),(.tmp 9)],(Q [o 4 (.box (.t 0)),o 7 (.box (.t 3)),o 8 (.mv (.c .nilp)),o 9 (.mv (ci 0))]
(Q [xa 14 0 4,xf 15 14,xa 16 2 4,xf 17 16,o 18 (.callF e4g [.t 15,.t 17]),m 13 18,xe 19 13 0,xe 20 13 1,m 10 19,m 11 20]
(.seq (Q [m 21 11,o 22 (.bin .neq 0 true (.t 21) (ci 0))]
(.cond (.t 22)
(Q [m 23 11,o 8 (.mv (.c .nilp)),m 9 23]
(.ret [8,9]))
.skip))
(.seq (Q [xa 24 2 7,xf 25 24,o 26 (.callF c1g [.t 25]),o 27 (.un .not (.t 26)),m 28 27,og 29 28 false (.fieldAddr 3 (.t 7)),og 30 28 false (.load false 1 (.t 29)),og 31 28 false (.callF c1g [.t 30]),og 32 28 false (.un .not (.t 31)),o 33 (.pick (.t 28) (.c (.bool true)) (.t 32))]
(.cond (.t 33)
(Q [o 8 (.mv (.c .nilp)),o 9 (.mv (ci 1))]
(.ret [8,9]))
.skip))
(Q [m 35 1,xa 36 1 4,xf 37 36,o 38 (.callF d8i [.t 35,.t 37]),m 34 38,xe 39 34 0,xe 40 34 1,o 12 (.new [vi 0,vi 0,.nils,vi 0,.nils,vi 0,.nils,vi 0,.nils] none),xs 9 12 39,m 11 40]
(.seq (Q [m 41 11,o 42 (.bin .neq 0 true (.t 41) (ci 0))]
(.cond (.t 42)
(Q [m 43 11,o 8 (.mv (.c .nilp)),m 9 43]
(.ret [8,9]))
.skip))
(Q [m 44 10,xl 45 9 12,m 46 1,m 47 2,xa 48 2 7,xf 49 48,xa 50 3 7,xf 51 50,o 52 (.build [.nilp,vi 0,vi 0,.nils,vi 0,.nils,vi 0,.nils,vi 0,.nils,.nilp,vi 0,vi 0,vi 0] [(0,1,(.t 44)),(1,9,(.t 45)),(10,1,(.t 46)),(11,1,(.t 47)),(12,1,(.t 49)),(13,1,(.t 51))]),o 53 (.box (.t 52)),m 8 53,o 9 (.mv (ci 0))]
(.ret [8,9]))))))))⟩
def d8d : KF:=⟨0,5,[(.tmp 0)],(Q [o 0 (.mv (.c .nilp))]
(Q [o 1 (.build [] []),o 2 (.mkIface 121 (.t 1)),o 3 (.build [.nilIface] [(0,1,(.t 2))]),o 4 (.box (.t 3)),m 0 4]
(.ret [0])))⟩
def b6k : KF:=⟨2,45,[(.tmp 4)],(Q [o 2 (.box (.t 0)),o 3 (.box (.t 1)),o 4 (.mv (.c (.bool false)))]
(Q [xa 5 0 2,xf 6 5,xa 7 0 3,xf 8 7,o 9 (.bin .eql 0 false (.t 6) (.t 8)),m 10 9,og 11 10 true (.fieldAddr 1 (.t 2)),og 12 10 true (.load false 1 (.t 11)),og 13 10 true (.fieldAddr 1 (.t 3)),og 14 10 true (.load false 1 (.t 13)),og 15 10 true (.bin .eql 0 false (.t 12) (.t 14)),o 16 (.pick (.t 10) (.t 15) (.c (.bool false))),m 17 16,og 18 17 true (.fieldAddr 2 (.t 2)),og 19 17 true (.load false 1 (.t 18)),og 20 17 true (.fieldAddr 2 (.t 3)),og 21 17 true (.load false 1 (.t 20)),og 22 17 true (.bin .eql 0 false (.t 19) (.t 21)),o 23 (.pick (.t 17) (.t 22) (.c (.bool false))),m 24 23,og 25 24 true (.fieldAddr 3 (.t 2)),og 26 24 true (.load false 1 (.t 25)),og 27 24 true (.fieldAddr 3 (.t 3)),og 28 24 true (.load false 1 (.t 27)),og 29 24 true (.bin .eql 0 false (.t 26) (.t 28)),o 30 (.pick (.t 24) (.t 29) (.c (.bool false))),m 31 30,og 32 31 true (.fieldAddr 4 (.t 2)),og 33 31 true (.load true 7 (.t 32)),og 34 31 true (.fieldAddr 4 (.t 3)),og 35 31 true (.load true 7 (.t 34)),og 36 31 true (.callF b6i [.t 33,.t 35]),o 37 (.pick (.t 31) (.t 36) (.c (.bool false))),m 38 37,og 39 38 true (.fieldAddr 11 (.t 2)),og 40 38 true (.load false 1 (.t 39)),og 41 38 true (.fieldAddr 11 (.t 3)),og 42 38 true (.load false 1 (.t 41)),og 43 38 true (.callF b5v [.t 40,.t 42]),o 44 (.pick (.t 38) (.t 43) (.c (.bool false))),m 4 44]
(.ret [4])))⟩
def b6y : KF:=⟨1,4,[(.cell 2 true 12)],(Q [o 1 (.box (.t 0)),o 2 (.new [vu 0,vu 0,vu 0,ve,vi 0,.nils,vu 0,vi 0,ve,.nils,.nils,.nils] none)]
(Q [xl 3 12 1,xs 12 2 3]
(.ret [2])))⟩
def b5l : KF:=⟨1,11,[(.tmp 2)],(Q [o 2 (.mv (.c .nils))]
(.seq (Q [m 3 0,o 4 (.callF a6d [.t 3]),o 5 (.un .not (.t 4))]
(.cond (.t 5)
(Q [o 2 (.mv (.c .nils))]
(.ret [2]))
.skip))
(Q [m 6 0,o 7 (.nilck (.t 6)),xa 8 0 7,xf 9 8,o 10 (.callF b3e [.t 9]),m 2 10]
(.ret [2]))))⟩
def b9o : KF:=⟨1,14,[(.cell 2 true 2)],(Q [o 2 (.new [vi 0,.nils] none)]
(Q [m 6 0,o 7 (.callF a8d [.t 6]),o 8 (.callF b0o [.t 7]),m 5 8,xe 9 5 0,xe 10 5 1,m 3 9,m 4 10]
(Q [m 11 3,o 12 (.buildSl [ve] 1 1 [(0,1,(.t 11))]),o 13 (.build [vi 0,.nils] [(0,1,(ci 1)),(1,1,(.t 12))]),xs 2 2 13]
(.ret [2]))))⟩
def b9c : KF:=⟨1,5,[(.cell 2 true 2)],(Q [o 2 (.new [ve,ve] none)]
(Q [m 3 0,o 4 (.build [ve,ve] [(0,1,(cs [104,109,97,99,45,115,104,97,50,53,54])),(1,1,(.t 3))]),xs 2 2 4]
(.ret [2])))⟩
def e7a : KC:=
(Q [o 38 (.bin .lss 0 true (.t 37) (ci 3))]
(.seq (.cond (.t 38)
.skip
(.exit [1,2,4,6,7] 0))
(.seq (.block 1
(Q [m 39 37,o 40 (.idxArr 3 true 2 (.t 36) (.t 37)),o 9 (.new [vi 0,.nils] none),m 8 39,xs 2 9 40]
(Q [xl 42 2 9,o 43 (.callF d7l [.t 42]),m 41 43,xe 44 41 0,xe 45 41 1,o 10 (.new [vu 0,vi 0,ve,.nils,.nils] none),xs 5 10 44,m 11 45]
(.seq (Q [m 46 11,o 47 (.bin .neq 0 true (.t 46) (ci 0))]
(.cond (.t 47)
(Q [o 48 (.build [vu 0,vi 0,ve,.nils,.nils] []),xs 5 2 48,o 3 (.mv (ci 3))]
(.ret [2,3]))
.skip))
(.plain [m 49 7,m 50 8,o 51 (.idxAddrArr 3 1 (.g c9f) (.t 50)),xf 52 51,xl 53 5 10,o 54 (.build [ve,vu 0,vi 0,ve,.nils,.nils] [(0,1,(.t 52)),(1,5,(.t 53))]),o 55 (.buildSl [ve,vu 0,vi 0,ve,.nils,.nils] 1 6 [(0,6,(.t 54))]),o 56 (.app false 6 96 none (.t 49) (.t 55)),m 7 56])))))
(.ops [o 57 (.bin .add 0 true (.t 37) (ci 1)),m 37 57]))))
def d8x : KF:=⟨1,83,[(.cell 2 true 5),(.tmp 3)],(Q [o 1 (.box (.t 0)),o 2 (.new [vu 0,vi 0,ve,.nils,.nils] none),o 3 (.mv (ci 0))]
(.seq (Q [xl 13 9 1,o 14 (.callF e7y [.t 13]),o 15 (.un .not (.t 14))]
(.cond (.t 15)
(Q [o 16 (.build [vu 0,vi 0,ve,.nils,.nils] []),xs 5 2 16,o 3 (.mv (ci 3))]
(.ret [2,3]))
.skip))
(Q [xa 18 1 1,xf 19 18,o 20 (.callF a9m [.t 19]),m 17 20,xe 21 17 0,xe 22 17 1,m 4 21,m 5 22]
(.seq (Q [m 23 5,o 24 (.bin .neq 0 true (.t 23) (ci 0))]
(.cond (.t 24)
(Q [o 25 (.build [vu 0,vi 0,ve,.nils,.nils] []),xs 5 2 25,o 3 (.mv (ci 3))]
(.ret [2,3]))
.skip))
(Q [xa 27 2 1,xf 28 27,o 29 (.callF d0g [.t 28]),m 26 29,xe 30 26 0,xe 31 26 1,o 6 (.new [vu 0,vi 0,ve,.nils,.nils] none),xs 5 6 30,m 5 31]
(.seq (Q [m 32 5,o 33 (.bin .neq 0 true (.t 32) (ci 0))]
(.cond (.t 33)
(Q [o 34 (.build [vu 0,vi 0,ve,.nils,.nils] []),xs 5 2 34,o 3 (.mv (ci 3))]
(.ret [2,3]))
.skip))
(Q [o 7 (.mv (.c .nils))]
(.seq (Q [xl 35 9 1,o 36 (.callF c3q [.t 35]),o 37 (.mv (ci 0))]
(.block 0
(.loop [1,2,4,6,7,36,37] e7a)))
(Q [m 59 7,o 60 (.callF a0l [.t 59]),m 58 60,xe 61 58 0,xe 62 58 1,o 12 (.new [vu 0,vi 0,ve,.nils,.nils] none),xs 5 12 61,m 5 62]
(.seq (Q [m 63 5,o 64 (.bin .neq 0 true (.t 63) (ci 0))]
(.cond (.t 64)
(Q [o 65 (.build [vu 0,vi 0,ve,.nils,.nils] []),xs 5 2 65,o 3 (.mv (ci 3))]
(.ret [2,3]))
.skip))
(.seq (.drawn [o 66 (.callF a1l [cs [114,111,111,116]]),o 67 (.build [ve,vu 0,vi 0,ve,.nils,.nils] [(0,1,(cs [95,116,121,112,101])),(1,5,(.t 66))]),xa 68 0 1,⟨(some 69),(.load false 1 (.t 68)),none,[0]⟩,o 70 (.callF a4z [.t 69]),o 71 (.build [ve,vu 0,vi 0,ve,.nils,.nils] [(0,1,(cs [118,101,114,115,105,111,110])),(1,5,(.t 70))]),m 72 4,o 73 (.callF a1l [.t 72]),o 74 (.build [ve,vu 0,vi 0,ve,.nils,.nils] [(0,1,(cs [101,120,112,105,114,101,115])),(1,5,(.t 73))]),⟨(some 75),(.load true 5 (.t 6)),none,[0,4,7]⟩,o 76 (.build [ve,vu 0,vi 0,ve,.nils,.nils] [(0,1,(cs [107,101,121,115])),(1,5,(.t 75))]),⟨(some 77),(.load true 5 (.t 12)),none,[0,4,7]⟩,o 78 (.build [ve,vu 0,vi 0,ve,.nils,.nils] [(0,1,(cs [114,111,108,101,115])),(1,5,(.t 77))]),o 79 (.buildSl [ve,vu 0,vi 0,ve,.nils,.nils] 5 6 [(0,6,(.t 67)),(6,6,(.t 71)),(12,6,(.t 74)),(18,6,(.t 76)),(24,6,(.t 78))]),o 80 (.callF a0l [.t 79]),xe 81 80 0,xe 82 80 1,xs 5 2 81,m 3 82])
(.ret [2,3]))))))))))))⟩
def b6z : KF:=⟨1,32,[(.tmp 2)],(Q [o 1 (.box (.t 0)),o 2 (.mv (cs []))]
(Q [xl 10 5 1,o 11 (.build [vu 0,vi 0,ve,.nils,.nils,.nils] [(0,5,(.t 10))]),o 3 (.new [vu 0,vi 0,ve,.nils,.nils,.nils] none),xs 6 3 11]
(Q [xl 13 6 3,o 14 (.callF a5a [.t 13]),m 12 14,xe 15 12 0,xe 16 12 1,m 4 15,m 5 16]
(Q [o 18 (.callF a8d [cs [48,48]]),m 19 4,o 20 (.callF d8c [.t 18,.t 19]),m 17 20,xe 21 17 0,xe 22 17 1,o 6 (.new [ve,ve] none),xs 2 6 21,m 7 22]
(Q [xl 23 2 6,o 24 (.buildSl [ve,ve] 1 2 [(0,2,(.t 23))]),xa 25 5 3,xs 1 25 24]
(Q [xl 27 6 3,o 28 (.callF e0u [.t 27]),m 26 28,xe 29 26 0,xe 30 26 1,m 8 29,m 9 30]
(Q [m 31 8,m 2 31]
(.ret [2]))))))))⟩
def d7u : KF:=⟨1,19,[(.cell 2 true 5),(.tmp 3)],(Q [o 1 (.box (.t 0)),o 2 (.new [vu 0,vi 0,ve,.nils,.nils] none),o 3 (.mv (ci 0))]
(.seq (Q [xl 6 9 1,o 7 (.callF b1l [.t 6]),o 8 (.un .not (.t 7))]
(.cond (.t 8)
(Q [o 9 (.build [vu 0,vi 0,ve,.nils,.nils] []),xs 5 2 9,o 3 (.mv (ci 3))]
(.ret [2,3]))
.skip))
(Q [xl 11 9 1,o 12 (.callF a1y [.t 11]),m 10 12,xe 13 10 0,xe 14 10 1,o 4 (.new [vu 0,vi 0,ve,.nils,.nils] none),xs 5 4 13,m 5 14]
(.seq (Q [m 15 5,o 16 (.bin .neq 0 true (.t 15) (ci 0))]
(.cond (.t 16)
(Q [o 17 (.build [vu 0,vi 0,ve,.nils,.nils] []),xs 5 2 17,o 3 (.mv (ci 3))]
(.ret [2,3]))
.skip))
(Q [xl 18 5 4,xs 5 2 18,o 3 (.mv (ci 0))]
(.ret [2,3]))))))⟩
def c9g : KC:=
(.seq (.seq (.plain [m 6 5,m 7 0,o 8 (.len 1 (.t 7)),o 9 (.bin .lss 0 false (.t 6) (.t 8)),m 10 9,og 11 10 true (.mv (.t 0)),og 12 10 true (.mv (.t 5)),og 13 10 true (.idxAddrSl 4 (.t 11) (.t 12)),og 14 10 true (.fieldAddr 0 (.t 13)),og 15 10 true (.load false 1 (.t 14)),og 16 10 true (.fieldAddr 0 (.t 3)),og 17 10 true (.load false 1 (.t 16)),og 18 10 true (.bin .lss 0 false (.t 15) (.t 17)),o 19 (.pick (.t 10) (.t 18) (.c (.bool false)))])
(.cond (.t 19)
.skip
(.exit [0,3,5] 0)))
(.block 1
(.ops [m 20 5,o 21 (.bin .add 0 true (.t 20) (ci 1)),m 5 21])))
def b9g : KF:=⟨2,34,[(.tmp 4)],(Q [o 3 (.box (.t 1)),o 4 (.mv (.c .nils))]
(Q [o 5 (.mv (ci 0))]
(.seq (.block 0
(.loop [0,3,5] c9g))
(.seq (.drawn [o 22 (.buildSl [ve,vi 0,vi 0,.nils] 0 4 []),m 23 0,m 24 5,o 25 (.sliceSl 4 (.t 23) none (some (.t 24)) none),o 26 (.app false 4 56 none (.t 22) (.t 25)),⟨(some 27),(.load true 4 (.t 3)),none,[4]⟩,o 28 (.buildSl [ve,vi 0,vi 0,.nils] 1 4 [(0,4,(.t 27))]),o 29 (.app false 4 56 none (.t 26) (.t 28)),m 30 0,m 31 5,o 32 (.sliceSl 4 (.t 30) (some (.t 31)) none none),o 33 (.app false 4 56 none (.t 29) (.t 32)),m 4 33])
(.ret [4])))))⟩
def e7i : KC:=
(Q [o 33 (.bin .lss 0 false (.t 32) (.t 31))]
(.seq (.cond (.t 33)
.skip
(.exit [1,2,4,6] 0))
(.seq (.block 1
(Q [o 34 (.idxAddrSl 4 (.t 30) (.t 32)),xl 35 4 34,o 8 (.new [ve,vi 0,vi 0,.nils] none),xs 4 8 35]
(Q [xl 37 4 8,o 38 (.callF a2v [.t 37]),m 36 38,xe 39 36 0,xe 40 36 1,o 9 (.new [vu 0,vi 0,ve,.nils,.nils] none),xs 5 9 39,m 10 40]
(.seq (Q [m 41 10,o 42 (.bin .neq 0 true (.t 41) (ci 0))]
(.cond (.t 42)
(Q [o 43 (.build [vu 0,vi 0,ve,.nils,.nils] []),xs 5 2 43,o 3 (.mv (ci 3))]
(.ret [2,3]))
.skip))
(.ops [m 44 6,xa 45 0 8,xf 46 45,xl 47 5 9,o 48 (.build [ve,vu 0,vi 0,ve,.nils,.nils] [(0,1,(.t 46)),(1,5,(.t 47))]),o 49 (.buildSl [ve,vu 0,vi 0,ve,.nils,.nils] 1 6 [(0,6,(.t 48))]),o 50 (.app false 6 96 none (.t 44) (.t 49)),m 6 50])))))
(.ops [o 51 (.bin .add 0 true (.t 32) (ci 1)),m 32 51]))))
def d7s : KF:=⟨1,75,[(.cell 2 true 5),(.tmp 3)],(Q [o 1 (.box (.t 0)),o 2 (.new [vu 0,vi 0,ve,.nils,.nils] none),o 3 (.mv (ci 0))]
(.seq (Q [xl 12 3 1,o 13 (.callF a3n [.t 12]),o 14 (.un .not (.t 13))]
(.cond (.t 14)
(Q [o 15 (.build [vu 0,vi 0,ve,.nils,.nils] []),xs 5 2 15,o 3 (.mv (ci 3))]
(.ret [2,3]))
.skip))
(Q [xa 17 1 1,xf 18 17,o 19 (.callF a9m [.t 18]),m 16 19,xe 20 16 0,xe 21 16 1,m 4 20,m 5 21]
(.seq (Q [m 22 5,o 23 (.bin .neq 0 true (.t 22) (ci 0))]
(.cond (.t 23)
(Q [o 24 (.build [vu 0,vi 0,ve,.nils,.nils] []),xs 5 2 24,o 3 (.mv (ci 3))]
(.ret [2,3]))
.skip))
(Q [xa 25 2 1,xf 26 25,o 27 (.len 1 (.t 26)),o 28 (.mkSlice [ve,vu 0,vi 0,ve,.nils,.nils] 6 96 (ci 0) (.t 27)),m 6 28]
(.seq (Q [xa 29 2 1,xf 30 29,o 31 (.len 1 (.t 30)),o 32 (.mv (ci 0))]
(.block 0
(.loop [1,2,4,6,30,31,32] e7i)))
(Q [m 53 6,o 54 (.callF a0l [.t 53]),m 52 54,xe 55 52 0,xe 56 52 1,o 11 (.new [vu 0,vi 0,ve,.nils,.nils] none),xs 5 11 55,m 5 56]
(.seq (Q [m 57 5,o 58 (.bin .neq 0 true (.t 57) (ci 0))]
(.cond (.t 58)
(Q [o 59 (.build [vu 0,vi 0,ve,.nils,.nils] []),xs 5 2 59,o 3 (.mv (ci 3))]
(.ret [2,3]))
.skip))
(.seq (.drawn [o 60 (.callF a1l [cs [115,110,97,112,115,104,111,116]]),o 61 (.build [ve,vu 0,vi 0,ve,.nils,.nils] [(0,1,(cs [95,116,121,112,101])),(1,5,(.t 60))]),xa 62 0 1,⟨(some 63),(.load false 1 (.t 62)),none,[0]⟩,o 64 (.callF a4z [.t 63]),o 65 (.build [ve,vu 0,vi 0,ve,.nils,.nils] [(0,1,(cs [118,101,114,115,105,111,110])),(1,5,(.t 64))]),m 66 4,o 67 (.callF a1l [.t 66]),o 68 (.build [ve,vu 0,vi 0,ve,.nils,.nils] [(0,1,(cs [101,120,112,105,114,101,115])),(1,5,(.t 67))]),⟨(some 69),(.load true 5 (.t 11)),none,[0,4,7]⟩,o 70 (.build [ve,vu 0,vi 0,ve,.nils,.nils] [(0,1,(cs [109,101,116,97])),(1,5,(.t 69))]),o 71 (.buildSl [ve,vu 0,vi 0,ve,.nils,.nils] 4 6 [(0,6,(.t 61)),(6,6,(.t 65)),(12,6,(.t 68)),(18,6,(.t 70))]),o 72 (.callF a0l [.t 71]),xe 73 72 0,xe 74 72 1,xs 5 2 73,m 3 74])
(.ret [2,3]))))))))))⟩
def e3t : KF:=⟨1,19,[(.tmp 2)],(Q [o 2 (.mv (.c (.bool false)))]
(Q [m 3 0,o 4 (.bin .neq 0 true (.t 3) (cs [])),m 5 4,og 6 5 true (.mv (.t 0)),og 7 5 true (.len 0 (.t 6)),og 8 5 true (.bin .leq 0 true (.t 7) (ci 256)),o 9 (.pick (.t 5) (.t 8) (.c (.bool false))),m 10 9,og 11 10 true (.mv (.t 0)),og 12 10 true (.idxStr (.t 11) (ci 0)),og 13 10 true (.bin .neq 0 true (.t 12) (cu 47)),o 14 (.pick (.t 10) (.t 13) (.c (.bool false))),m 15 14,og 16 15 true (.mv (.t 0)),og 17 15 true (.callF e3j [.t 16]),o 18 (.pick (.t 15) (.t 17) (.c (.bool false))),m 2 18]
(.ret [2])))⟩
def b5q : KF:=⟨1,17,[(.tmp 2)],(Q [o 2 (.mv (.c (.bool false)))]
(.seq (.plain [m 3 0,o 4 (.callF a6d [.t 3]),m 5 4,og 6 5 true (.mv (.t 0)),og 7 5 true (.nilck (.t 6)),og 8 5 true (.fieldAddr 11 (.t 7)),og 9 5 true (.load false 1 (.t 8)),og 10 5 true (.mv (.t 0)),og 11 5 true (.nilck (.t 10)),og 12 5 true (.fieldAddr 1 (.t 11)),og 13 5 true (.fieldAddr 1 (.t 12)),og 14 5 true (.load false 1 (.t 13)),og 15 5 true (.bin .geq 0 false (.t 9) (.t 14)),o 16 (.pick (.t 5) (.t 15) (.c (.bool false))),m 2 16])
(.ret [2])))⟩
def c1j : KF:=⟨3,11,[(.cell 6 true 12)],(Q [o 6 (.new [vu 0,vu 0,vu 0,ve,vi 0,.nils,vu 0,vi 0,ve,.nils,.nils,.nils] none)]
(Q [m 7 0,m 8 1,m 9 2,o 10 (.build [vu 0,vu 0,vu 0,ve,vi 0,.nils,vu 0,vi 0,ve,.nils,.nils,.nils] [(0,1,(cu 3)),(1,1,(cu 4)),(2,1,(.t 7)),(3,1,(.t 8)),(11,1,(.t 9))]),xs 12 6 10]
(.ret [6])))⟩
def b5r : KF:=⟨1,22,[(.cell 2 true 9),(.tmp 3)],(Q [o 2 (.new [vi 0,vi 0,.nils,.nils,.nils,vi 0,.nils,vi 0,ve] none),o 3 (.mv (cu 0))]
(.seq (Q [m 4 0,o 5 (.callF a6d [.t 4]),o 6 (.un .not (.t 5))]
(.cond (.t 6)
(Q [o 7 (.build [vi 0,vi 0,.nils,.nils,.nils,vi 0,.nils,vi 0,ve] []),xs 9 2 7,o 3 (.mv (cu 2))]
(.ret [2,3]))
.skip))
(.seq (.plain [m 8 0,m 9 0,o 10 (.nilck (.t 9)),xa 11 1 10,xa 12 7 11,xl 13 2 12,m 14 0,o 15 (.nilck (.t 14)),xa 16 1 15,xa 17 2 16,xf 18 17,o 19 (.callF b3g [.t 8,cs [116,97,114,103,101,116,115],.t 13,.t 18]),xe 20 19 0,xe 21 19 1,xs 9 2 20,m 3 21])
(.ret [2,3]))))⟩
def c1p : KF:=⟨1,9,[(.tmp 2)],(Q [o 2 (.mv (.c (.bool false)))]
(.seq (Q [m 3 0]
(.block 0
(.seq (Q [o 5 (.bin .eql 0 true (.t 3) (cu 1)),m 4 5]
(.cond (.t 4)
.skip
(Q [o 6 (.bin .eql 0 true (.t 3) (cu 2)),m 4 6]
(.cond (.t 4)
.skip
(Q [o 7 (.bin .eql 0 true (.t 3) (cu 3)),m 4 7]
(.cond (.t 4)
.skip
(.ops [o 8 (.bin .eql 0 true (.t 3) (cu 8)),m 4 8])))))))
(.cond (.t 4)
(Q [o 2 (.mv (.c (.bool true)))]
(.ret [2]))
.skip))))
(Q [o 2 (.mv (.c (.bool false)))]
(.ret [2]))))⟩
def e4h : KF:=⟨2,23,[(.cell 4 true 7),(.tmp 5)],(Q [o 2 (.box (.t 0)),o 4 (.new [vi 0,.nils,vu 0,vi 0,ve,.nils,.nils] none),o 5 (.mv (.c (.bool false)))]
(Q [xa 7 2 2,xf 8 7,m 9 1,o 10 (.build [ve] [(0,1,(.t 9))]),o 11 (.mkFunc (.func c1r) [.t 10] []),o 12 (.callF a2l [.t 8,.t 11]),m 6 12]
(.seq (Q [m 13 6,o 14 (.bin .lss 0 true (.t 13) (ci 0))]
(.cond (.t 14)
(Q [o 15 (.build [vi 0,.nils,vu 0,vi 0,ve,.nils,.nils] []),xs 7 4 15,o 5 (.mv (.c (.bool false)))]
(.ret [4,5]))
.skip))
(Q [xa 16 2 2,xf 17 16,m 18 6,o 19 (.idxAddrSl 8 (.t 17) (.t 18)),xa 20 1 19,xl 21 7 20,o 22 (.callF d0s [.t 21]),xs 7 4 22,o 5 (.mv (.c (.bool true)))]
(.ret [4,5])))))⟩
def e1s : KC:=
(.seq (Q [m 32 11,o 33 (.bin .geq 0 true (.t 32) (ci 0))]
(.cond (.t 33)
.skip
(.exit [0] 0)))
(.seq (.block 1
(Q [m 36 9,m 37 11,o 38 (.idxAddrSl 4 (.t 36) (.t 37)),xl 39 4 38,o 12 (.new [ve,vi 0,.nils,(.bool false)] none),xs 4 12 39]
(Q [o 40 (.mkFunc (.func c5n) [] [.t 12,.t 5]),m 13 40]
(.ops [m 41 0,xa 42 0 12,xf 43 42,m 44 3,m 45 13,o 46 (.build [ve,vi 0,.nilFunc] [(0,1,(.t 43)),(1,1,(.t 44)),(2,1,(.t 45))]),o 47 (.buildSl [ve,vi 0,.nilFunc] 1 3 [(0,3,(.t 46))]),o 48 (.app false 3 32 none (.t 41) (.t 47)),m 0 48]))))
(.ops [m 34 11,o 35 (.bin .sub 0 true (.t 34) (ci 1)),m 11 35])))
def d2w : KF:=⟨4,50,[(.tmp 8)],(Q [o 5 (.box (.t 1)),o 8 (.mv (.c .nils))]
(Q [xl 14 6 5,m 15 2,o 16 (.callF a3y [.t 14,.t 15]),m 9 16]
(.seq (Q [m 17 9,o 18 (.len 1 (.t 17)),m 10 18]
(Q [m 19 10,o 20 (.bin .gtr 0 true (.t 19) (ci 0)),m 21 20,og 22 21 true (.mv (.t 9)),og 23 21 true (.mv (.t 10)),og 24 21 true (.bin .sub 0 true (.t 23) (ci 1)),og 25 21 true (.idxAddrSl 4 (.t 22) (.t 24)),og 26 21 true (.fieldAddr 3 (.t 25)),og 27 21 true (.load false 1 (.t 26)),o 28 (.pick (.t 21) (.t 27) (.c (.bool false)))]
(.cond (.t 28)
(.ops [o 0 (.mv (.c .nils))])
.skip)))
(.seq (Q [m 29 9,o 30 (.len 1 (.t 29)),o 31 (.bin .sub 0 true (.t 30) (ci 1)),m 11 31]
(.block 0
(.loop [0,3,5,9,11] e1s)))
(Q [m 49 0,m 8 49]
(.ret [8]))))))⟩
def g3a : KC:=
(Q [o 17 (.bin .lss 0 false (.t 16) (.t 15))]
(.seq (.cond (.t 17)
.skip
(.exit [0,1] 0))
(.seq (.block 1
(Q [o 18 (.idxAddrSl 2 (.t 14) (.t 16)),xl 19 2 18,o 7 (.new [ve,ve] none),xs 2 7 19]
(Q [xa 20 1 7,xf 21 20,o 22 (.len 0 (.t 21)),o 23 (.bin .gtr 0 true (.t 22) (ci 65536))]
(.cond (.t 23)
(Q [o 4 (.mv (.c .nilp)),o 5 (.mv (ci 5))]
(.ret [4,5]))
.skip))))
(.ops [o 24 (.bin .add 0 true (.t 16) (ci 1)),m 16 24]))))
def e2n : KF:=⟨2,31,[(.tmp 4),(.tmp 5)],(Q [o 4 (.mv (.c .nilp)),o 5 (.mv (ci 0))]
(.seq (Q [m 8 0,o 9 (.callF a7i [.t 8]),o 10 (.un .not (.t 9))]
(.cond (.t 10)
(Q [o 4 (.mv (.c .nilp)),o 5 (.mv (ci 3))]
(.ret [4,5]))
.skip))
(.seq (Q [m 11 1,o 12 (.len 1 (.t 11)),o 13 (.bin .gtr 0 true (.t 12) (ci 256))]
(.cond (.t 13)
(Q [o 4 (.mv (.c .nilp)),o 5 (.mv (ci 5))]
(.ret [4,5]))
.skip))
(.seq (Q [m 14 1,o 15 (.len 1 (.t 14)),o 16 (.mv (ci 0))]
(.block 0
(.loop [0,1,14,15,16] g3a)))
(Q [m 25 0,m 26 1,o 27 (.callF a4l [.t 26]),o 28 .mkMap,o 29 (.build [ve,.nils,.nilMap,.nils] [(0,1,(.t 25)),(1,1,(.t 27)),(2,1,(.t 28))]),o 30 (.box (.t 29)),m 4 30,o 5 (.mv (ci 0))]
(.ret [4,5]))))))⟩
def d2c : KF:=⟨1,9,[(.tmp 2)],(Q [o 2 (.mv (.c (.bool false)))]
(Q [m 3 0,o 4 (.bin .geq 0 true (.t 3) (ci 0)),m 5 4,og 6 5 true (.mv (.t 0)),og 7 5 true (.bin .leq 0 true (.t 6) (ci 65536)),o 8 (.pick (.t 5) (.t 7) (.c (.bool false))),m 2 8]
(.ret [2])))⟩
def d7p : KF:=⟨2,38,[(.cell 4 true 9),(.tmp 5)],(Q [o 4 (.new [vi 0,vi 0,.nils,vi 0,.nils,vi 0,.nils,vi 0,.nils] none),o 5 (.mv (ci 0))]
(Q [m 10 1,o 11 (.callF e4a [.t 10]),m 9 11,xe 12 9 0,xe 13 9 1,o 6 (.new [vu 0,vi 0,ve,.nils,.nils,.nils] none),xs 6 6 12,m 7 13]
(.seq (Q [m 14 7,o 15 (.bin .neq 0 true (.t 14) (ci 0))]
(.cond (.t 15)
(Q [o 16 (.build [vi 0,vi 0,.nils,vi 0,.nils,vi 0,.nils,vi 0,.nils] []),m 17 7,xs 9 4 16,m 5 17]
(.ret [4,5]))
.skip))
(Q [xa 19 0 6,xl 20 5 19,o 21 (.callF e2x [.t 20]),m 18 21,xe 22 18 0,xe 23 18 1,o 8 (.new [vi 0,vi 0,.nils,vi 0,.nils,vi 0,.nils,vi 0,.nils] none),xs 9 8 22,m 7 23]
(.seq (Q [m 24 7,o 25 (.bin .neq 0 true (.t 24) (ci 0))]
(.cond (.t 25)
(Q [o 26 (.build [vi 0,vi 0,.nils,vi 0,.nils,vi 0,.nils,vi 0,.nils] []),m 27 7,xs 9 4 26,m 5 27]
(.ret [4,5]))
.skip))
(.seq (Q [m 28 0,xl 29 6 6,xa 30 3 8,xl 31 2 30,xa 32 2 8,xf 33 32,o 34 (.callF b8a [.t 28,.t 29,.t 31,.t 33]),o 35 (.un .not (.t 34))]
(.cond (.t 35)
(Q [o 36 (.build [vi 0,vi 0,.nils,vi 0,.nils,vi 0,.nils,vi 0,.nils] []),xs 9 4 36,o 5 (.mv (ci 4))]
(.ret [4,5]))
.skip))
(Q [xl 37 9 8,xs 9 4 37,o 5 (.mv (ci 0))]
(.ret [4,5]))))))))⟩
def b6n : KF:=⟨2,24,[(.tmp 4)],(Q [o 2 (.box (.t 0)),o 3 (.box (.t 1)),o 4 (.mv (.c (.bool false)))]
(Q [xa 5 0 2,xf 6 5,xa 7 0 3,xf 8 7,o 9 (.bin .eql 0 false (.t 6) (.t 8)),m 10 9,og 11 10 true (.fieldAddr 1 (.t 2)),og 12 10 true (.load false 1 (.t 11)),og 13 10 true (.fieldAddr 1 (.t 3)),og 14 10 true (.load false 1 (.t 13)),og 15 10 true (.callF a9w [.t 12,.t 14]),o 16 (.pick (.t 10) (.t 15) (.c (.bool false))),m 17 16,og 18 17 true (.fieldAddr 2 (.t 2)),og 19 17 true (.load true 5 (.t 18)),og 20 17 true (.fieldAddr 2 (.t 3)),og 21 17 true (.load true 5 (.t 20)),og 22 17 true (.callF b0l [.t 19,.t 21]),o 23 (.pick (.t 17) (.t 22) (.c (.bool false))),m 4 23]
(.ret [4])))⟩
def c4r : KC:=
(.seq (Q [m 11 5,m 12 0,o 13 (.len 1 (.t 12)),o 14 (.bin .lss 0 false (.t 11) (.t 13))]
(.cond (.t 14)
.skip
(.exit [] 0)))
(.seq (.block 1
(.seq (.plain [m 17 0,m 18 5,o 19 (.idxAddrSl 1 (.t 17) (.t 18)),xf 20 19,m 21 1,m 22 5,o 23 (.idxAddrSl 1 (.t 21) (.t 22)),xf 24 23,o 25 (.bin .neq 0 false (.t 20) (.t 24))])
(.cond (.t 25)
(Q [o 4 (.mv (.c (.bool false)))]
(.ret [4]))
.skip)))
(.ops [m 15 5,o 16 (.bin .add 0 true (.t 15) (ci 1)),m 5 16])))
def b4x : KF:=⟨2,26,[(.tmp 4)],(Q [o 4 (.mv (.c (.bool false)))]
(.seq (Q [m 6 0,o 7 (.len 1 (.t 6)),m 8 1,o 9 (.len 1 (.t 8)),o 10 (.bin .neq 0 false (.t 7) (.t 9))]
(.cond (.t 10)
(Q [o 4 (.mv (.c (.bool false)))]
(.ret [4]))
.skip))
(.seq (Q [o 5 (.mv (ci 0))]
(.block 0
(.loop [0,1,5] c4r)))
(Q [o 4 (.mv (.c (.bool true)))]
(.ret [4])))))⟩
def c2p : KF:=⟨1,12,[(.tmp 2)],(Q [o 2 (.mv (.c (.bool false)))]
(Q [m 3 0,o 4 (.bin .neq 3 true (.t 3) (.c .nilp)),m 5 4,og 6 5 true (.mv (.t 0)),og 7 5 true (.nilck (.t 6)),og 8 5 true (.fieldAddr 0 (.t 7)),og 9 5 true (.load false 1 (.t 8)),og 10 5 true (.bin .neq 3 true (.t 9) (.c .nilp)),o 11 (.pick (.t 5) (.t 10) (.c (.bool false))),m 2 11]
(.ret [2])))⟩
def c0i : KC:=
(Q [o 17 (.bin .lss 0 false (.t 16) (.t 15))]
(.seq (.cond (.t 17)
.skip
(.exit [3] 0))
(.seq (.block 1
(Q [o 18 (.idxAddrSl 1 (.t 14) (.t 16)),xf 19 18,m 5 19]
(Q [m 21 0,m 22 5,o 23 (.callF b6s [.t 21,.t 22]),m 20 23,xe 24 20 0,xe 25 20 1,o 6 (.new [ve,ve,vi 0,vi 0] none),xs 4 6 24,m 7 25]
(Q [m 26 7]
(.cond (.t 26)
(.ops [m 27 3,xl 28 4 6,o 29 (.buildSl [ve,ve,vi 0,vi 0] 1 4 [(0,4,(.t 28))]),o 30 (.app false 4 48 none (.t 27) (.t 29)),m 3 30])
.skip)))))
(.ops [o 31 (.bin .add 0 true (.t 16) (ci 1)),m 16 31]))))
def b2j : KF:=⟨1,33,[(.tmp 2)],(Q [o 2 (.mv (.c .nils))]
(.seq (Q [m 8 0,o 9 (.callF a6z [.t 8]),o 10 (.un .not (.t 9))]
(.cond (.t 10)
(Q [o 2 (.mv (.c .nils))]
(.ret [2]))
.skip))
(Q [o 3 (.mv (.c .nils))]
(.seq (Q [m 11 0,o 12 (.nilck (.t 11)),xa 13 3 12,xf 14 13,o 15 (.len 1 (.t 14)),o 16 (.mv (ci 0))]
(.block 0
(.loop [0,3,14,15,16] c0i)))
(Q [m 32 3,m 2 32]
(.ret [2]))))))⟩
def h4v : KF:=⟨1,25,[(.tmp 2),(.tmp 3)],(Q [o 1 (.box (.t 0)),o 2 (.mv (cs [])),o 3 (.mv (ci 0))]
(Q [xl 8 2 1,o 9 (.callF c9z [.t 8]),m 7 9,xe 10 7 0,xe 11 7 1,o 4 (.new [vu 0,vi 0,ve,.nils,.nils] none),xs 5 4 10,m 5 11]
(.seq (Q [m 12 5,o 13 (.bin .neq 0 true (.t 12) (ci 0))]
(.cond (.t 13)
(Q [m 14 5,o 2 (.mv (cs [])),m 3 14]
(.ret [2,3]))
.skip))
(Q [xl 16 5 4,o 17 (.callF a0f [.t 16]),m 15 17,xe 18 15 0,xe 19 15 1,m 6 18,m 5 19]
(.seq (Q [m 20 5,o 21 (.bin .neq 0 true (.t 20) (ci 0))]
(.cond (.t 21)
(Q [m 22 5,o 2 (.mv (cs [])),m 3 22]
(.ret [2,3]))
.skip))
(Q [m 23 6,o 24 (.callF b2n [.t 23]),m 2 24,o 3 (.mv (ci 0))]
(.ret [2,3])))))))⟩
def g6k : KC:=
(Q [o 30 (.bin .lss 0 true (.t 29) (ci 3))]
(.seq (.cond (.t 30)
.skip
(.exit [] 0))
(.seq (.block 1
(Q [o 31 (.idxArr 3 true 2 (.t 28) (.t 29)),o 6 (.new [vi 0,.nils] none),xs 2 6 31]
(Q [xl 32 2 6,o 33 (.callF b4o [.t 32]),o 34 (.un .not (.t 33))]
(.cond (.t 34)
(Q [o 2 (.mv (.c (.bool false)))]
(.ret [2]))
.skip))))
(.ops [o 35 (.bin .add 0 true (.t 29) (ci 1)),m 29 35]))))
def e8k : KF:=⟨1,36,[(.tmp 2)],(Q [o 1 (.box (.t 0)),o 2 (.mv (.c (.bool false)))]
(.seq (Q [xa 7 0 1,xf 8 7,o 9 (.bin .lss 0 true (.t 8) (ci 1)),m 10 9,og 11 10 false (.fieldAddr 0 (.t 1)),og 12 10 false (.load false 1 (.t 11)),og 13 10 false (.bin .gtr 0 true (.t 12) (ci 1099511627776)),o 14 (.pick (.t 10) (.c (.bool true)) (.t 13))]
(.cond (.t 14)
(Q [o 2 (.mv (.c (.bool false)))]
(.ret [2]))
.skip))
(.seq (Q [xa 16 1 1,xf 17 16,o 18 (.callF a9m [.t 17]),m 15 18,xe 19 15 0,xe 20 15 1,m 3 19,m 4 20]
(Q [m 21 4,o 22 (.bin .neq 0 true (.t 21) (ci 0))]
(.cond (.t 22)
(Q [o 2 (.mv (.c (.bool false)))]
(.ret [2]))
.skip)))
(.seq (Q [xa 23 2 1,xf 24 23,o 25 (.callF c8i [.t 24]),o 26 (.un .not (.t 25))]
(.cond (.t 26)
(Q [o 2 (.mv (.c (.bool false)))]
(.ret [2]))
.skip))
(.seq (Q [xl 27 9 1,o 28 (.callF c3q [.t 27]),o 29 (.mv (ci 0))]
(.block 0
(.loop [28,29] g6k)))
(Q [o 2 (.mv (.c (.bool true)))]
(.ret [2])))))))⟩
def g1p : KC:=
(.seq (Q [m 19 6,o 20 (.bin .lss 0 true (.t 19) (ci 9999)),m 21 20,og 22 21 true (.mv (.t 4)),og 23 21 true (.mv (.t 6)),og 24 21 true (.bin .add 0 true (.t 23) (ci 1)),og 25 21 true (.callF b7b [.t 24]),og 26 21 true (.bin .geq 0 false (.t 22) (.t 25)),o 27 (.pick (.t 21) (.t 26) (.c (.bool false)))]
(.cond (.t 27)
.skip
(.exit [4,5,6] 0)))
(.block 1
(.ops [m 28 6,o 29 (.bin .add 0 true (.t 28) (ci 1)),m 6 29])))
def g1q : KC:=
(.seq (Q [m 34 7,o 35 (.bin .lss 0 true (.t 34) (ci 12)),m 36 35,og 37 36 true (.mv (.t 4)),og 38 36 true (.mv (.t 6)),og 39 36 true (.mv (.t 7)),og 40 36 true (.callF c0n [.t 38,.t 39]),og 41 36 true (.bin .geq 0 false (.t 37) (.t 40)),o 42 (.pick (.t 36) (.t 41) (.c (.bool false)))]
(.cond (.t 42)
.skip
(.exit [4,5,6,7] 2)))
(.block 3
(Q [m 43 4,m 44 6,m 45 7,o 46 (.callF c0n [.t 44,.t 45]),o 47 (.bin .sub 0 false (.t 43) (.t 46)),m 4 47]
(.ops [m 48 7,o 49 (.bin .add 0 true (.t 48) (ci 1)),m 7 49]))))
def e1g : KF:=⟨1,79,[(.tmp 2),(.tmp 3)],(Q [o 2 (.mv (cs [])),o 3 (.mv (ci 0))]
(.seq (Q [m 9 0,o 10 (.bin .lss 0 true (.t 9) (ci 0)),m 11 10,og 12 11 false (.mv (.t 0)),og 13 11 false (.bin .gtr 0 true (.t 12) (ci 253402300799)),o 14 (.pick (.t 11) (.c (.bool true)) (.t 13))]
(.cond (.t 14)
(Q [o 2 (.mv (cs [])),o 3 (.mv (ci 1))]
(.ret [2,3]))
.skip))
(Q [m 15 0,o 16 (.bin .quo 0 true (.t 15) (ci 86400)),m 17 0,o 18 (.bin .rem 0 true (.t 17) (ci 86400)),m 4 16,m 5 18]
(Q [o 6 (.mv (ci 1970))]
(.seq (.block 0
(.loop [4,5,6] g1p))
(Q [m 30 4,m 31 6,o 32 (.callF b7b [.t 31]),o 33 (.bin .sub 0 false (.t 30) (.t 32)),m 4 33]
(Q [o 7 (.mv (ci 1))]
(.seq (.block 2
(.loop [4,5,6,7] g1q))
(Q [m 50 6,o 51 (.callF b1s [.t 50,ci 4]),o 52 (.bin .add 0 true (.t 51) (cs [45])),m 53 7,o 54 (.callF b1s [.t 53,ci 2]),o 55 (.bin .add 0 false (.t 52) (.t 54)),o 56 (.bin .add 0 true (.t 55) (cs [45])),m 57 4,o 58 (.bin .add 0 true (.t 57) (ci 1)),o 59 (.callF b1s [.t 58,ci 2]),o 60 (.bin .add 0 false (.t 56) (.t 59)),m 8 60]
(Q [m 61 8,o 62 (.bin .add 0 true (.t 61) (cs [84])),m 63 5,o 64 (.bin .quo 0 true (.t 63) (ci 3600)),o 65 (.callF b1s [.t 64,ci 2]),o 66 (.bin .add 0 false (.t 62) (.t 65)),o 67 (.bin .add 0 true (.t 66) (cs [58])),m 68 5,o 69 (.bin .quo 0 true (.t 68) (ci 60)),o 70 (.bin .rem 0 true (.t 69) (ci 60)),o 71 (.callF b1s [.t 70,ci 2]),o 72 (.bin .add 0 false (.t 67) (.t 71)),o 73 (.bin .add 0 true (.t 72) (cs [58])),m 74 5,o 75 (.bin .rem 0 true (.t 74) (ci 60)),o 76 (.callF b1s [.t 75,ci 2]),o 77 (.bin .add 0 false (.t 73) (.t 76)),o 78 (.bin .add 0 true (.t 77) (cs [90])),m 2 78,o 3 (.mv (ci 0))]
(.ret [2,3])))))))))))⟩
def g0s : KC:=
(Q [o 36 (.bin .lss 0 false (.t 35) (.t 34))]
(.seq (.cond (.t 36)
.skip
(.exit [2,4,7,18,19,20] 2))
(.seq (.block 3
(Q [o 37 (.idxAddrSl 6 (.t 33) (.t 35)),xl 38 6 37,o 10 (.new [ve,vu 0,vi 0,ve,.nils,.nils] none),xs 6 10 38]
(Q [xa 39 0 10,xf 40 39,xa 41 0 7,xf 42 41,o 43 (.bin .eql 0 false (.t 40) (.t 42))]
(.cond (.t 43)
(Q [o 44 (.build [vu 0,vi 0,ve,.nils,.nils] []),xs 5 2 44,o 3 (.mv (ci 7))]
(.ret [2,3]))
.skip))))
(.ops [o 45 (.bin .add 0 true (.t 35) (ci 1)),m 35 45]))))
def g1l : KC:=
(Q [o 21 (.bin .lss 0 false (.t 20) (.t 19))]
(.seq (.cond (.t 21)
.skip
(.exit [2,4] 0))
(.seq (.block 1
(Q [o 22 (.idxAddrSl 2 (.t 18) (.t 20)),xl 23 2 22,o 6 (.new [ve,ve] none),xs 2 6 23]
(Q [xl 25 2 6,o 26 (.callF d2b [.t 25]),m 24 26,xe 27 24 0,xe 28 24 1,o 7 (.new [ve,vu 0,vi 0,ve,.nils,.nils] none),xs 6 7 27,m 8 28]
(.seq (Q [m 29 8,o 30 (.bin .neq 0 true (.t 29) (ci 0))]
(.cond (.t 30)
(Q [o 31 (.build [vu 0,vi 0,ve,.nils,.nils] []),m 32 8,xs 5 2 31,m 3 32]
(.ret [2,3]))
.skip))
(.seq (Q [m 33 4,o 34 (.len 1 (.t 33)),o 35 (.mv (ci 0))]
(.block 2
(.loop [2,4,7,18,19,20,33,34,35] g0s)))
(.ops [m 46 4,xl 47 6 7,o 48 (.buildSl [ve,vu 0,vi 0,ve,.nils,.nils] 1 6 [(0,6,(.t 47))]),o 49 (.app false 6 96 none (.t 46) (.t 48)),m 4 49]))))))
(.ops [o 50 (.bin .add 0 true (.t 20) (ci 1)),m 20 50]))))
def g2c : KC:=
(Q [o 57 (.bin .lss 0 false (.t 56) (.t 55))]
(.seq (.cond (.t 57)
.skip
(.exit [2,11] 4))
(.seq (.block 5
(Q [o 58 (.idxAddrSl 6 (.t 54) (.t 56)),xl 59 6 58,o 13 (.new [ve,vu 0,vi 0,ve,.nils,.nils] none),xs 6 13 59]
(Q [xa 60 3 11,xf 61 60,xa 62 0 13,xf 63 62,o 64 (.buildSl [ve] 1 1 [(0,1,(.t 63))]),o 65 (.app false 1 16 none (.t 61) (.t 64)),xa 66 3 11,xs 1 66 65]
(.ops [xa 67 4 11,xf 68 67,xa 69 1 13,xl 70 5 69,o 71 (.buildSl [vu 0,vi 0,ve,.nils,.nils] 1 5 [(0,5,(.t 70))]),o 72 (.app false 5 80 none (.t 68) (.t 71)),xa 73 4 11,xs 1 73 72]))))
(.ops [o 74 (.bin .add 0 true (.t 56) (ci 1)),m 56 74]))))
def e4r : KF:=⟨1,76,[(.cell 2 true 5),(.tmp 3)],(Q [o 2 (.new [vu 0,vi 0,ve,.nils,.nils] none),o 3 (.mv (ci 0))]
(.seq (Q [m 14 0,o 15 (.len 1 (.t 14)),o 16 (.bin .gtr 0 true (.t 15) (ci 32))]
(.cond (.t 16)
(Q [o 17 (.build [vu 0,vi 0,ve,.nils,.nils] []),xs 5 2 17,o 3 (.mv (ci 5))]
(.ret [2,3]))
.skip))
(Q [o 4 (.mv (.c .nils))]
(.seq (Q [m 18 0,o 19 (.len 1 (.t 18)),o 20 (.mv (ci 0))]
(.block 0
(.loop [2,4,18,19,20] g1l)))
(Q [m 51 4,o 52 (.callF a3f [.t 51,(.c (.func (.func c9m) [] []))])]
(Q [o 53 (.build [vu 0,vi 0,ve,.nils,.nils] [(0,1,(cu 5))]),o 11 (.new [vu 0,vi 0,ve,.nils,.nils] none),xs 5 11 53]
(.seq (Q [m 54 4,o 55 (.len 1 (.t 54)),o 56 (.mv (ci 0))]
(.block 4
(.loop [2,11,54,55,56] g2c)))
(Q [xl 75 5 11,xs 5 2 75,o 3 (.mv (ci 0))]
(.ret [2,3])))))))))⟩
def d7r : KF:=⟨1,10,[(.cell 2 true 6)],(Q [o 1 (.box (.t 0)),o 2 (.new [vi 0,.nils,vi 0,.nils,vi 0,.nils] none)]
(Q [xa 3 3 1,xl 4 2 3,xa 5 5 1,xl 6 2 5,xa 7 7 1,xl 8 2 7,o 9 (.build [vi 0,.nils,vi 0,.nils,vi 0,.nils] [(0,2,(.t 4)),(2,2,(.t 6)),(4,2,(.t 8))]),xs 6 2 9]
(.ret [2])))⟩
def d7v : KF:=⟨1,13,[(.cell 2 true 5),(.tmp 3)],(Q [o 1 (.box (.t 0)),o 2 (.new [vu 0,vi 0,ve,.nils,.nils] none),o 3 (.mv (ci 0))]
(.seq (Q [xl 4 2 1,o 5 (.callF b4o [.t 4]),o 6 (.un .not (.t 5))]
(.cond (.t 6)
(Q [o 7 (.build [vu 0,vi 0,ve,.nils,.nils] []),xs 5 2 7,o 3 (.mv (ci 3))]
(.ret [2,3]))
.skip))
(Q [xl 8 2 1,o 9 (.callF b8d [.t 8]),o 10 (.callF a0l [.t 9]),xe 11 10 0,xe 12 10 1,xs 5 2 11,m 3 12]
(.ret [2,3]))))⟩
def d4x : KC:=
(Q [o 16 (.bin .lss 0 false (.t 15) (.t 14))]
(.seq (.cond (.t 16)
.skip
(.exit [2,5] 0))
(.seq (.block 1
(Q [m 17 15,o 18 (.idxAddrSl 6 (.t 13) (.t 15)),xl 19 6 18,o 7 (.new [ve,vu 0,vi 0,ve,.nils,.nils] none),m 6 17,xs 6 7 19]
(.seq (.seq (.plain [m 20 6,o 21 (.bin .gtr 0 true (.t 20) (ci 0)),m 22 21,og 23 22 true (.mv (.t 4)),og 24 22 true (.mv (.t 6)),og 25 22 true (.bin .sub 0 true (.t 24) (ci 1)),og 26 22 true (.idxAddrSl 6 (.t 23) (.t 25)),og 27 22 true (.fieldAddr 0 (.t 26)),og 28 22 true (.load false 1 (.t 27)),og 29 22 true (.fieldAddr 0 (.t 7)),og 30 22 true (.load false 1 (.t 29)),og 31 22 true (.bin .eql 0 false (.t 28) (.t 30)),o 32 (.pick (.t 22) (.t 31) (.c (.bool false)))])
(.cond (.t 32)
(Q [o 33 (.build [vu 0,vi 0,ve,.nils,.nils] []),xs 5 2 33,o 3 (.mv (ci 7))]
(.ret [2,3]))
.skip))
(Q [xa 34 3 5,xf 35 34,xa 36 0 7,xf 37 36,o 38 (.buildSl [ve] 1 1 [(0,1,(.t 37))]),o 39 (.app false 1 16 none (.t 35) (.t 38)),xa 40 3 5,xs 1 40 39]
(.drawn [xa 41 4 5,⟨(some 42),(.load false 1 (.t 41)),none,[4]⟩,xa 43 1 7,xl 44 5 43,o 45 (.callF a0h [.t 44]),o 46 (.buildSl [vu 0,vi 0,ve,.nils,.nils] 1 5 [(0,5,(.t 45))]),o 47 (.app false 5 80 none (.t 42) (.t 46)),xa 48 4 5,xs 1 48 47])))))
(.ops [o 49 (.bin .add 0 true (.t 15) (ci 1)),m 15 49]))))
def c4n : KF:=⟨1,51,[(.cell 2 true 5),(.tmp 3)],(Q [o 2 (.new [vu 0,vi 0,ve,.nils,.nils] none),o 3 (.mv (ci 0))]
(Q [m 8 0,o 9 (.callF a2x [.t 8]),m 4 9]
(Q [m 10 4,o 11 (.callF a2i [.t 10,(.c (.func (.func b9n) [] []))])]
(Q [o 12 (.build [vu 0,vi 0,ve,.nils,.nils] [(0,1,(cu 5))]),o 5 (.new [vu 0,vi 0,ve,.nils,.nils] none),xs 5 5 12]
(.seq (Q [m 13 4,o 14 (.len 1 (.t 13)),o 15 (.mv (ci 0))]
(.block 0
(.loop [2,4,5,13,14,15] d4x)))
(Q [xl 50 5 5,xs 5 2 50,o 3 (.mv (ci 0))]
(.ret [2,3])))))))⟩
def d1t : KF:=⟨1,5,[(.cell 2 true 5)],(Q [o 2 (.new [vu 0,vi 0,ve,.nils,.nils] none)]
(Q [m 3 0,o 4 (.build [vu 0,vi 0,ve,.nils,.nils] [(0,1,(cu 3)),(2,1,(.t 3))]),xs 5 2 4]
(.ret [2])))⟩
def d8y : KF:=⟨1,5,[(.cell 2 true 5)],(Q [o 2 (.new [vu 0,vi 0,ve,.nils,.nils] none)]
(Q [m 3 0,o 4 (.build [vu 0,vi 0,ve,.nils,.nils] [(0,1,(cu 2)),(1,1,(.t 3))]),xs 5 2 4]
(.ret [2])))⟩
def d3f : KF:=⟨1,12,[(.tmp 2),(.tmp 3)],(Q [o 1 (.box (.t 0)),o 2 (.mv (cs [])),o 3 (.mv (ci 0))]
(.seq (Q [xl 4 6 1,o 5 (.callF d4t [.t 4]),o 6 (.un .not (.t 5))]
(.cond (.t 6)
(Q [o 2 (.mv (cs [])),o 3 (.mv (ci 3))]
(.ret [2,3]))
.skip))
(Q [xa 7 0 1,xl 8 5 7,o 9 (.callF a0f [.t 8]),xe 10 9 0,xe 11 9 1,m 2 10,m 3 11]
(.ret [2,3]))))⟩
def d7h : KF:=⟨2,36,[(.cell 4 true 2),(.tmp 5)],(Q [o 2 (.box (.t 0)),o 4 (.new [ve,ve] none),o 5 (.mv (ci 0))]
(Q [xl 10 2 2,o 11 (.callF b0o [.t 10]),m 9 11,xe 12 9 0,xe 13 9 1,m 6 12,m 7 13]
(.seq (Q [m 14 7,o 15 (.bin .neq 0 true (.t 14) (ci 0))]
(.cond (.t 15)
(Q [o 16 (.build [ve,ve] []),xs 2 4 16,o 5 (.mv (ci 3))]
(.ret [4,5]))
.skip))
(.seq (Q [xa 17 0 2,xf 18 17,o 19 (.bin .neq 0 true (.t 18) (cs [104,109,97,99,45,115,104,97,50,53,54]))]
(.cond (.t 19)
(Q [o 20 (.build [ve,ve] []),xs 2 4 20,o 5 (.mv (ci 10))]
(.ret [4,5]))
.skip))
(Q [xa 22 1 2,xf 23 22,o 24 (.callF b7h [.t 23]),m 21 24,xe 25 21 0,xe 26 21 1,m 8 25,m 7 26]
(.seq (Q [m 27 7,o 28 (.bin .neq 0 true (.t 27) (ci 0))]
(.cond (.t 28)
(Q [o 29 (.build [ve,ve] []),xs 2 4 29,o 5 (.mv (ci 3))]
(.ret [4,5]))
.skip))
(Q [m 30 6,m 31 8,m 32 1,o 33 (.callF a1j [.t 31,.t 32]),o 34 (.callF a9r [.t 33]),o 35 (.build [ve,ve] [(0,1,(.t 30)),(1,1,(.t 34))]),xs 2 4 35,o 5 (.mv (ci 0))]
(.ret [4,5]))))))))⟩
def e3e : KF:=⟨1,12,[(.tmp 2),(.tmp 3)],(Q [o 1 (.box (.t 0)),o 2 (.mv (cs [])),o 3 (.mv (ci 0))]
(.seq (Q [xl 4 6 1,o 5 (.callF d4t [.t 4]),o 6 (.un .not (.t 5))]
(.cond (.t 6)
(Q [o 2 (.mv (cs [])),o 3 (.mv (ci 3))]
(.ret [2,3]))
.skip))
(Q [xl 7 6 1,o 8 (.callF c1i [.t 7]),o 9 (.callF a0f [.t 8]),xe 10 9 0,xe 11 9 1,m 2 10,m 3 11]
(.ret [2,3]))))⟩
def e8d : KF:=⟨1,44,[(.tmp 2)],(Q [o 1 (.box (.t 0)),o 2 (.mv (.c (.bool false)))]
(.seq (Q [xa 7 0 1,xf 8 7,o 9 (.bin .lss 0 true (.t 8) (ci 1)),m 10 9,og 11 10 false (.fieldAddr 0 (.t 1)),og 12 10 false (.load false 1 (.t 11)),og 13 10 false (.bin .gtr 0 true (.t 12) (ci 1099511627776)),o 14 (.pick (.t 10) (.c (.bool true)) (.t 13))]
(.cond (.t 14)
(Q [o 2 (.mv (.c (.bool false)))]
(.ret [2]))
.skip))
(.seq (Q [xa 16 1 1,xf 17 16,o 18 (.callF a9m [.t 17]),m 15 18,xe 19 15 0,xe 20 15 1,m 3 19,m 4 20]
(Q [m 21 4,o 22 (.bin .neq 0 true (.t 21) (ci 0))]
(.cond (.t 22)
(Q [o 2 (.mv (.c (.bool false)))]
(.ret [2]))
.skip)))
(.seq (Q [xa 23 2 1,xf 24 23,o 25 (.callF c8d [.t 24]),o 26 (.un .not (.t 25)),m 27 26,og 28 27 false (.fieldAddr 3 (.t 1)),og 29 27 false (.load true 6 (.t 28)),og 30 27 false (.callF c1f [.t 29]),og 31 27 false (.un .not (.t 30)),o 32 (.pick (.t 27) (.c (.bool true)) (.t 31))]
(.cond (.t 32)
(Q [o 2 (.mv (.c (.bool false)))]
(.ret [2]))
.skip))
(Q [xl 34 9 1,o 35 (.callF a1y [.t 34]),m 33 35,xe 36 33 0,xe 37 33 1,o 5 (.new [vu 0,vi 0,ve,.nils,.nils] none),xs 5 5 36,m 6 37]
(Q [m 38 6,o 39 (.bin .eql 0 true (.t 38) (ci 0)),m 40 39,og 41 40 true (.load true 5 (.t 5)),og 42 40 true (.callF a0c [.t 41]),o 43 (.pick (.t 40) (.t 42) (.c (.bool false))),m 2 43]
(.ret [2])))))))⟩
def e2s : KC:=
(Q [o 33 (.bin .lss 0 false (.t 32) (.t 31))]
(.seq (.cond (.t 33)
.skip
(.exit [1,2,4,6] 0))
(.seq (.block 1
(Q [o 34 (.idxAddrSl 8 (.t 30) (.t 32)),xl 35 8 34,o 8 (.new [ve,vi 0,.nils,vu 0,vi 0,ve,.nils,.nils] none),xs 8 8 35]
(Q [xa 37 1 8,xl 38 7 37,o 39 (.callF b7z [.t 38]),m 36 39,xe 40 36 0,xe 41 36 1,o 9 (.new [vu 0,vi 0,ve,.nils,.nils] none),xs 5 9 40,m 10 41]
(.seq (Q [m 42 10,o 43 (.bin .neq 0 true (.t 42) (ci 0))]
(.cond (.t 43)
(Q [o 44 (.build [vu 0,vi 0,ve,.nils,.nils] []),m 45 10,xs 5 2 44,m 3 45]
(.ret [2,3]))
.skip))
(.ops [m 46 6,xa 47 0 8,xf 48 47,xl 49 5 9,o 50 (.build [ve,vu 0,vi 0,ve,.nils,.nils] [(0,1,(.t 48)),(1,5,(.t 49))]),o 51 (.buildSl [ve,vu 0,vi 0,ve,.nils,.nils] 1 6 [(0,6,(.t 50))]),o 52 (.app false 6 96 none (.t 46) (.t 51)),m 6 52])))))
(.ops [o 53 (.bin .add 0 true (.t 32) (ci 1)),m 32 53]))))
def d2e : KF:=⟨1,98,[(.cell 2 true 5),(.tmp 3)],(Q [o 1 (.box (.t 0)),o 2 (.new [vu 0,vi 0,ve,.nils,.nils] none),o 3 (.mv (ci 0))]
(Q [xa 16 1 1,xf 17 16,o 18 (.callF a9m [.t 17]),m 15 18,xe 19 15 0,xe 20 15 1,m 4 19,m 5 20]
(.seq (Q [m 21 5,o 22 (.bin .neq 0 true (.t 21) (ci 0))]
(.cond (.t 22)
(Q [o 23 (.build [vu 0,vi 0,ve,.nils,.nils] []),m 24 5,xs 5 2 23,m 3 24]
(.ret [2,3]))
.skip))
(Q [xa 25 2 1,xf 26 25,o 27 (.len 1 (.t 26)),o 28 (.mkSlice [ve,vu 0,vi 0,ve,.nils,.nils] 6 96 (ci 0) (.t 27)),m 6 28]
(.seq (Q [xa 29 2 1,xf 30 29,o 31 (.len 1 (.t 30)),o 32 (.mv (ci 0))]
(.block 0
(.loop [1,2,4,6,30,31,32] e2s)))
(Q [m 55 6,o 56 (.callF a0l [.t 55]),m 54 56,xe 57 54 0,xe 58 54 1,o 11 (.new [vu 0,vi 0,ve,.nils,.nils] none),xs 5 11 57,m 5 58]
(.seq (Q [m 59 5,o 60 (.bin .neq 0 true (.t 59) (ci 0))]
(.cond (.t 60)
(Q [o 61 (.build [vu 0,vi 0,ve,.nils,.nils] []),m 62 5,xs 5 2 61,m 3 62]
(.ret [2,3]))
.skip))
(.seq (.drawn [o 63 (.callF a1l [cs [116,97,114,103,101,116,115]]),o 64 (.build [ve,vu 0,vi 0,ve,.nils,.nils] [(0,1,(cs [95,116,121,112,101])),(1,5,(.t 63))]),xa 65 0 1,⟨(some 66),(.load false 1 (.t 65)),none,[0]⟩,o 67 (.callF a4z [.t 66]),o 68 (.build [ve,vu 0,vi 0,ve,.nils,.nils] [(0,1,(cs [118,101,114,115,105,111,110])),(1,5,(.t 67))]),m 69 4,o 70 (.callF a1l [.t 69]),o 71 (.build [ve,vu 0,vi 0,ve,.nils,.nils] [(0,1,(cs [101,120,112,105,114,101,115])),(1,5,(.t 70))]),⟨(some 72),(.load true 5 (.t 11)),none,[0,4,7]⟩,o 73 (.build [ve,vu 0,vi 0,ve,.nils,.nils] [(0,1,(cs [116,97,114,103,101,116,115])),(1,5,(.t 72))]),o 74 (.buildSl [ve,vu 0,vi 0,ve,.nils,.nils] 4 6 [(0,6,(.t 64)),(6,6,(.t 68)),(12,6,(.t 71)),(18,6,(.t 73))]),m 12 74])
(.seq (Q [xa 75 3 1,xl 76 6 75,o 77 (.callF d7o [.t 76]),o 78 (.un .not (.t 77))]
(.cond (.t 78)
(Q [xa 80 3 1,xl 81 6 80,o 82 (.callF d1f [.t 81]),m 79 82,xe 83 79 0,xe 84 79 1,o 13 (.new [vu 0,vi 0,ve,.nils,.nils] none),xs 5 13 83,m 14 84]
(.seq (Q [m 85 14,o 86 (.bin .neq 0 true (.t 85) (ci 0))]
(.cond (.t 86)
(Q [o 87 (.build [vu 0,vi 0,ve,.nils,.nils] []),m 88 14,xs 5 2 87,m 3 88]
(.ret [2,3]))
.skip))
(.ops [m 89 12,xl 90 5 13,o 91 (.build [ve,vu 0,vi 0,ve,.nils,.nils] [(0,1,(cs [100,101,108,101,103,97,116,105,111,110,115])),(1,5,(.t 90))]),o 92 (.buildSl [ve,vu 0,vi 0,ve,.nils,.nils] 1 6 [(0,6,(.t 91))]),o 93 (.app false 6 96 none (.t 89) (.t 92)),m 12 93])))
.skip))
(Q [m 94 12,o 95 (.callF a0l [.t 94]),xe 96 95 0,xe 97 95 1,xs 5 2 96,m 3 97]
(.ret [2,3])))))))))))⟩
def g6r : KC:=
(Q [o 31 (.bin .lss 0 false (.t 30) (.t 29))]
(.seq (.cond (.t 31)
.skip
(.exit [] 0))
(.seq (.block 1
(Q [m 32 30,o 33 (.idxAddrSl 4 (.t 28) (.t 30)),xl 34 4 33,o 6 (.new [ve,vi 0,vi 0,.nils] none),m 5 32,xs 4 6 34]
(.seq (Q [xl 35 4 6,o 36 (.callF b9z [.t 35]),o 37 (.un .not (.t 36))]
(.cond (.t 37)
(Q [o 2 (.mv (.c (.bool false)))]
(.ret [2]))
.skip))
(.seq (.plain [m 38 5,o 39 (.bin .gtr 0 true (.t 38) (ci 0)),m 40 39,og 41 40 true (.fieldAddr 0 (.t 6)),og 42 40 true (.load false 1 (.t 41)),og 43 40 true (.fieldAddr 2 (.t 1)),og 44 40 true (.load false 1 (.t 43)),og 45 40 true (.mv (.t 5)),og 46 40 true (.bin .sub 0 true (.t 45) (ci 1)),og 47 40 true (.idxAddrSl 4 (.t 44) (.t 46)),og 48 40 true (.fieldAddr 0 (.t 47)),og 49 40 true (.load false 1 (.t 48)),og 50 40 true (.bin .leq 0 false (.t 42) (.t 49)),o 51 (.pick (.t 40) (.t 50) (.c (.bool false)))])
(.cond (.t 51)
(Q [o 2 (.mv (.c (.bool false)))]
(.ret [2]))
.skip)))))
(.ops [o 52 (.bin .add 0 true (.t 30) (ci 1)),m 30 52]))))
def g0g : KF:=⟨1,53,[(.tmp 2)],(Q [o 1 (.box (.t 0)),o 2 (.mv (.c (.bool false)))]
(.seq (Q [xa 7 0 1,xf 8 7,o 9 (.bin .lss 0 true (.t 8) (ci 1)),m 10 9,og 11 10 false (.fieldAddr 0 (.t 1)),og 12 10 false (.load false 1 (.t 11)),og 13 10 false (.bin .gtr 0 true (.t 12) (ci 1099511627776)),o 14 (.pick (.t 10) (.c (.bool true)) (.t 13))]
(.cond (.t 14)
(Q [o 2 (.mv (.c (.bool false)))]
(.ret [2]))
.skip))
(.seq (Q [xa 16 1 1,xf 17 16,o 18 (.callF a9m [.t 17]),m 15 18,xe 19 15 0,xe 20 15 1,m 3 19,m 4 20]
(Q [m 21 4,o 22 (.bin .neq 0 true (.t 21) (ci 0))]
(.cond (.t 22)
(Q [o 2 (.mv (.c (.bool false)))]
(.ret [2]))
.skip)))
(.seq (Q [xa 23 2 1,xf 24 23,o 25 (.len 1 (.t 24)),o 26 (.bin .gtr 0 true (.t 25) (ci 256))]
(.cond (.t 26)
(Q [o 2 (.mv (.c (.bool false)))]
(.ret [2]))
.skip))
(.seq (Q [xa 27 2 1,xf 28 27,o 29 (.len 1 (.t 28)),o 30 (.mv (ci 0))]
(.block 0
(.loop [1,28,29,30] g6r)))
(Q [o 2 (.mv (.c (.bool true)))]
(.ret [2])))))))⟩
def c3l : KF:=⟨1,48,[(.cell 2 true 5),(.tmp 3)],(Q [o 1 (.box (.t 0)),o 2 (.new [vu 0,vi 0,ve,.nils,.nils] none),o 3 (.mv (ci 0))]
(.seq (Q [xl 7 4 1,o 8 (.callF b9z [.t 7]),o 9 (.un .not (.t 8))]
(.cond (.t 9)
(Q [o 10 (.build [vu 0,vi 0,ve,.nils,.nils] []),xs 5 2 10,o 3 (.mv (ci 3))]
(.ret [2,3]))
.skip))
(Q [xa 11 1 1,xf 12 11,o 13 (.callF a4z [.t 12]),o 14 (.build [ve,vu 0,vi 0,ve,.nils,.nils] [(0,1,(cs [118,101,114,115,105,111,110])),(1,5,(.t 13))]),o 15 (.buildSl [ve,vu 0,vi 0,ve,.nils,.nils] 1 6 [(0,6,(.t 14))]),m 4 15]
(.seq (Q [xa 16 2 1,xf 17 16,o 18 (.bin .neq 0 true (.t 17) (ci (-1)))]
(.cond (.t 18)
(.ops [m 19 4,xa 20 2 1,xf 21 20,o 22 (.callF a4z [.t 21]),o 23 (.build [ve,vu 0,vi 0,ve,.nils,.nils] [(0,1,(cs [108,101,110,103,116,104])),(1,5,(.t 22))]),o 24 (.buildSl [ve,vu 0,vi 0,ve,.nils,.nils] 1 6 [(0,6,(.t 23))]),o 25 (.app false 6 96 none (.t 19) (.t 24)),m 4 25])
.skip))
(.seq (Q [xa 26 3 1,xf 27 26,o 28 (.len 1 (.t 27)),o 29 (.bin .gtr 0 true (.t 28) (ci 0))]
(.cond (.t 29)
(Q [xa 31 3 1,xf 32 31,o 33 (.callF b4b [.t 32]),m 30 33,xe 34 30 0,xe 35 30 1,o 5 (.new [vu 0,vi 0,ve,.nils,.nils] none),xs 5 5 34,m 6 35]
(.seq (Q [m 36 6,o 37 (.bin .neq 0 true (.t 36) (ci 0))]
(.cond (.t 37)
(Q [o 38 (.build [vu 0,vi 0,ve,.nils,.nils] []),xs 5 2 38,o 3 (.mv (ci 3))]
(.ret [2,3]))
.skip))
(.ops [m 39 4,xl 40 5 5,o 41 (.build [ve,vu 0,vi 0,ve,.nils,.nils] [(0,1,(cs [104,97,115,104,101,115])),(1,5,(.t 40))]),o 42 (.buildSl [ve,vu 0,vi 0,ve,.nils,.nils] 1 6 [(0,6,(.t 41))]),o 43 (.app false 6 96 none (.t 39) (.t 42)),m 4 43])))
.skip))
(Q [m 44 4,o 45 (.callF a0l [.t 44]),xe 46 45 0,xe 47 45 1,xs 5 2 46,m 3 47]
(.ret [2,3])))))))⟩
def a6f : KC:=
(Q [o 9 (.bin .lss 0 false (.t 8) (.t 7))]
(.seq (.cond (.t 9)
.skip
(.exit [] 0))
(.seq (.block 1
(Q [m 10 8,m 5 10]
(Q [m 11 1,m 12 0,m 13 5,o 14 (.idxAddrSl 8 (.t 12) (.t 13)),xl 15 8 14,o 16 (.callV (.t 11) [.t 15])]
(.cond (.t 16)
(Q [m 17 5,m 4 17]
(.ret [4]))
.skip))))
(.ops [o 18 (.bin .add 0 true (.t 8) (ci 1)),m 8 18]))))
def a2m : KF:=⟨2,19,[(.tmp 4)],(Q [o 4 (.mv (ci 0))]
(.seq (Q [m 6 0,o 7 (.len 1 (.t 6)),o 8 (.mv (ci 0))]
(.block 0
(.loop [0,1,7,8] a6f)))
(Q [o 4 (.mv (ci (-1)))]
(.ret [4]))))⟩
def c2c : KF:=⟨2,10,[(.tmp 4)],(Q [o 2 (.box (.t 0)),o 3 (.box (.t 1)),o 4 (.mv (.c (.bool false)))]
(Q [xa 5 0 3,xf 6 5,xa 7 0 2,xf 8 7,o 9 (.bin .eql 0 false (.t 6) (.t 8)),m 4 9]
(.ret [4])))⟩
def d1w : KF:=⟨1,12,[(.cell 2 true 7)],(Q [o 1 (.box (.t 0)),o 2 (.new [vi 0,.nils,vu 0,vi 0,ve,.nils,.nils] none)]
(.seq (.drawn [xa 3 0 1,⟨(some 4),(.load false 1 (.t 3)),none,[4,7]⟩,xa 5 1 1,xf 6 5,o 7 (.callF a2b [.t 6]),xa 8 2 1,⟨(some 9),(.load true 5 (.t 8)),none,[4]⟩,o 10 (.callF a0h [.t 9]),o 11 (.build [vi 0,.nils,vu 0,vi 0,ve,.nils,.nils] [(0,1,(.t 4)),(1,1,(.t 7)),(2,5,(.t 10))]),xs 7 2 11])
(.ret [2])))⟩
def e6i : KC:=
(Q [o 42 (.bin .lss 0 false (.t 41) (.t 40))]
(.seq (.cond (.t 42)
.skip
(.exit [7] 0))
(.seq (.block 1
(Q [o 43 (.idxAddrSl 6 (.t 39) (.t 41)),xl 44 6 43,o 9 (.new [ve,vi 0,.nils,(.bool false),.nils,.nils] none),xs 6 9 44]
(.seq (Q [xl 45 6 9,m 46 1,o 47 (.callF e7x [.t 45,.t 46]),o 48 (.un .not (.t 47))]
(.cond (.t 48)
(.exit [1,7,39,40,41] 1)
.skip))
(.seq (.drawn [m 49 7,xa 50 0 9,⟨(some 51),(.load false 1 (.t 50)),none,[5]⟩,xa 52 1 9,xl 53 2 52,o 54 (.callF b3j [.t 53]),xa 55 3 9,⟨(some 56),(.load false 1 (.t 55)),none,[5]⟩,o 57 (.build [ve,vi 0,.nils,(.bool false)] [(0,1,(.t 51)),(1,2,(.t 54)),(3,1,(.t 56))]),o 58 (.buildSl [ve,vi 0,.nils,(.bool false)] 1 4 [(0,4,(.t 57))]),o 59 (.app false 4 56 none (.t 49) (.t 58)),m 7 59])
(Q [xa 60 3 9,xf 61 60]
(.cond (.t 61)
(.exit [7] 0)
.skip))))))
(.ops [o 62 (.bin .add 0 true (.t 41) (ci 1)),m 41 62]))))
def d6p : KF:=⟨2,64,[(.tmp 4)],(Q [o 2 (.box (.t 0)),o 4 (.mv (.c .nils))]
(.seq (Q [xl 10 6 2,o 11 (.callF c1f [.t 10]),o 12 (.un .not (.t 11)),m 13 12,og 14 13 false (.mv (.t 1)),og 15 13 false (.callF a7h [.t 14]),og 16 13 false (.un .not (.t 15)),o 17 (.pick (.t 13) (.c (.bool true)) (.t 16))]
(.cond (.t 17)
(Q [o 4 (.mv (.c .nils))]
(.ret [4]))
.skip))
(.seq (Q [xa 18 2 2,xl 19 4 18,o 20 (.callF b2c [.t 19]),o 21 (.un .not (.t 20))]
(.cond (.t 21)
(Q [xa 23 2 2,xl 24 4 23,m 25 1,o 26 (.callF h0y [.t 24,.t 25]),m 22 26,xe 27 22 0,xe 28 22 1,m 5 27,m 6 28]
(.seq (Q [m 29 6,o 30 (.bin .neq 0 true (.t 29) (ci 0))]
(.cond (.t 30)
(Q [o 4 (.mv (.c .nils))]
(.ret [4]))
.skip))
(Q [m 31 5,xa 32 2 2,xa 33 0 32,xl 34 2 33,o 35 (.callF b3j [.t 34]),o 36 (.build [ve,vi 0,.nils,(.bool false)] [(0,1,(.t 31)),(1,2,(.t 35)),(3,1,(.c (.bool true)))]),o 37 (.buildSl [ve,vi 0,.nils,(.bool false)] 1 4 [(0,4,(.t 36))]),m 4 37]
(.ret [4]))))
.skip))
(Q [o 7 (.mv (.c .nils))]
(.seq (Q [xa 38 1 2,xf 39 38,o 40 (.len 1 (.t 39)),o 41 (.mv (ci 0))]
(.block 0
(.loop [1,7,39,40,41] e6i)))
(Q [m 63 7,m 4 63]
(.ret [4])))))))⟩
def c3i : KF:=⟨3,16,[(.cell 4 true 9),(.tmp 5)],(Q [o 4 (.new [vi 0,vi 0,.nils,.nils,.nils,vi 0,.nils,vi 0,ve] none),o 5 (.mv (cu 0))]
(Q [m 6 0,xa 7 0 1,xf 8 7,xa 9 1 1,xl 10 2 9,xa 11 0 2,xf 12 11,o 13 (.callF b3g [.t 6,.t 8,.t 10,.t 12]),xe 14 13 0,xe 15 13 1,xs 9 4 14,m 5 15]
(.ret [4,5])))⟩
def g3g : KC:=
(Q [o 19 (.bin .lss 0 false (.t 18) (.t 17))]
(.seq (.cond (.t 19)
.skip
(.exit [] 0))
(.seq (.block 1
(Q [m 20 18,m 3 20]
(Q [m 21 0,m 22 3,o 23 (.idxStr (.t 21) (.t 22)),o 24 (.callF c8e [.t 23]),o 25 (.un .not (.t 24))]
(.cond (.t 25)
(Q [o 2 (.mv (.c (.bool false)))]
(.ret [2]))
.skip))))
(.ops [o 26 (.bin .add 0 true (.t 18) (ci 1)),m 18 26]))))
def e4f : KF:=⟨1,27,[(.tmp 2)],(Q [o 2 (.mv (.c (.bool false)))]
(.seq (Q [m 4 0,o 5 (.bin .eql 0 true (.t 4) (cs [])),m 6 5,og 7 6 false (.mv (.t 0)),og 8 6 false (.len 0 (.t 7)),og 9 6 false (.bin .gtr 0 true (.t 8) (ci 64)),o 10 (.pick (.t 6) (.c (.bool true)) (.t 9)),m 11 10,og 12 11 false (.mv (.t 0)),og 13 11 false (.idxStr (.t 12) (ci 0)),og 14 11 false (.bin .eql 0 true (.t 13) (cu 46)),o 15 (.pick (.t 11) (.c (.bool true)) (.t 14))]
(.cond (.t 15)
(Q [o 2 (.mv (.c (.bool false)))]
(.ret [2]))
.skip))
(.seq (Q [m 16 0,o 17 (.len 0 (.t 16)),o 18 (.mv (ci 0))]
(.block 0
(.loop [0,17,18] g3g)))
(Q [o 2 (.mv (.c (.bool true)))]
(.ret [2])))))⟩
def a4g : KF:=⟨1,8,[(.tmp 2)],(Q [o 2 (.mv (.c .nils))]
(.seq (Q [m 3 0,o 4 (.bin .eql 7 true (.t 3) (.c .nils))]
(.cond (.t 4)
(Q [o 2 (.mv (.c .nils))]
(.ret [2]))
.skip))
(Q [o 5 (.buildSl [ve,ve] 0 2 []),m 6 0,o 7 (.app false 2 32 none (.t 5) (.t 6)),m 2 7]
(.ret [2]))))⟩
def e3i : KF:=⟨1,21,[(.cell 2 true 6),(.tmp 3)],(Q [o 2 (.new [vu 0,vi 0,ve,.nils,.nils,.nils] none),o 3 (.mv (ci 0))]
(Q [m 8 0,o 9 (.callF a0q [.t 8]),m 7 9,xe 10 7 0,xe 11 7 1,xe 12 7 2,o 4 (.new [vu 0,vi 0,ve,.nils,.nils] none),xs 5 4 10,m 5 11,m 6 12]
(.seq (Q [m 13 6,o 14 (.bin .neq 0 true (.t 13) (ci 0))]
(.cond (.t 14)
(Q [o 15 (.build [vu 0,vi 0,ve,.nils,.nils,.nils] []),m 16 6,xs 6 2 15,m 3 16]
(.ret [2,3]))
.skip))
(Q [xl 17 5 4,o 18 (.callF a0z [.t 17]),xe 19 18 0,xe 20 18 1,xs 6 2 19,m 3 20]
(.ret [2,3])))))⟩
def g8f : KF:=⟨1,68,[(.cell 2 true 9),(.tmp 3)],(Q [o 1 (.box (.t 0)),o 2 (.new [vi 0,vi 0,.nils,vi 0,.nils,vi 0,.nils,vi 0,.nils] none),o 3 (.mv (ci 0))]
(.seq (Q [xl 9 5 1,o 10 (.callF a0c [.t 9]),o 11 (.un .not (.t 10))]
(.cond (.t 11)
(Q [o 12 (.build [vi 0,vi 0,.nils,vi 0,.nils,vi 0,.nils,vi 0,.nils] []),xs 9 2 12,o 3 (.mv (ci 3))]
(.ret [2,3]))
.skip))
(Q [xl 13 5 1,o 14 (.callF a4u [.t 13]),m 4 14]
(Q [o 5 (.new [vi 0,vi 0,.nils,vi 0,.nils,vi 0,.nils,vi 0,.nils] none)]
(Q [o 6 (.mv (ci 0))]
(.seq (Q [m 15 4,o 16 (.callF a1g [.t 15,cs [95,116,121,112,101]]),o 17 (.bin .neq 0 true (.t 16) (cs [114,111,111,116]))]
(.cond (.t 17)
(.ops [m 18 4,o 19 (.callF a0i [.t 18,ci 13])])
.skip))
(Q [m 20 4,o 21 (.callF a3l [.t 20,cs [118,101,114,115,105,111,110],ci 1,ci 1099511627776]),xa 22 0 5,xs 1 22 21]
(Q [m 24 4,o 25 (.callF a1g [.t 24,cs [101,120,112,105,114,101,115]]),o 26 (.callF c0l [.t 25]),m 23 26,xe 27 23 0,xe 28 23 1,xa 29 1 5,xs 1 29 27,m 6 28]
(Q [m 30 4,m 31 6,o 32 (.callF a0i [.t 30,.t 31])]
(Q [m 34 4,o 35 (.callF a0w [.t 34,cs [107,101,121,115],ci 32]),o 36 (.callF c5r [.t 35]),m 33 36,xe 37 33 0,xe 38 33 1,xa 39 2 5,xs 1 39 37,m 6 38]
(Q [m 40 4,m 41 6,o 42 (.callF a0i [.t 40,.t 41])]
(Q [m 44 4,o 45 (.callF a0w [.t 44,cs [114,111,108,101,115],ci 8192]),o 46 (.callF b8f [.t 45]),m 43 46,xe 47 43 0,xe 48 43 1,o 7 (.new [vi 0,.nils,vi 0,.nils,vi 0,.nils] none),xs 6 7 47,m 6 48]
(Q [m 49 4,m 50 6,o 51 (.callF a0i [.t 49,.t 50])]
(.seq (.drawn [o 52 (.idxAddrArr 3 2 (.t 7) (ci 0)),xl 53 2 52,o 54 (.idxAddrArr 3 2 (.t 7) (ci 1)),⟨(some 55),(.load true 2 (.t 54)),none,[7]⟩,o 56 (.idxAddrArr 3 2 (.t 7) (ci 2)),⟨(some 57),(.load true 2 (.t 56)),none,[7,9]⟩,xa 58 3 5,xs 2 58 53,xa 59 5 5,xs 2 59 55,xa 60 7 5,xs 2 60 57])
(.seq (Q [m 61 4,o 62 (.callF a1c [.t 61]),m 8 62]
(Q [m 63 8,o 64 (.bin .neq 0 true (.t 63) (ci 0))]
(.cond (.t 64)
(Q [o 65 (.build [vi 0,vi 0,.nils,vi 0,.nils,vi 0,.nils,vi 0,.nils] []),m 66 8,xs 9 2 65,m 3 66]
(.ret [2,3]))
.skip)))
(Q [xl 67 9 5,xs 9 2 67,o 3 (.mv (ci 0))]
(.ret [2,3])))))))))))))))))⟩
def c7m : KF:=⟨4,21,[(.tmp 8)],(Q [o 5 (.box (.t 1)),o 6 (.box (.t 2)),o 8 (.mv (.c (.bool false)))]
(.seq (.drawn [xl 9 2 6,o 10 (.callF b4o [.t 9]),m 11 10,og 12 11 true (.mv (.t 0)),og 13 11 true (.load true 6 (.t 5)),og 14 11 true (.load true 2 (.t 6)),og 15 11 true (.mv (.t 3)),og 16 11 true (.callF d3i [.t 12,.t 13,.t 14,.t 15]),og 17 11 true (.fieldAddr 0 (.t 6)),⟨(some 18),(.load false 1 (.t 17)),(some (11,true)),[7]⟩,og 19 11 true (.bin .geq 0 false (.t 16) (.t 18)),o 20 (.pick (.t 11) (.t 19) (.c (.bool false))),m 8 20])
(.ret [8])))⟩
def b6g : KC:=
(.seq (Q [m 11 5,m 12 0,o 13 (.len 1 (.t 12)),o 14 (.bin .lss 0 false (.t 11) (.t 13))]
(.cond (.t 14)
.skip
(.exit [] 0)))
(.seq (.block 1
(.seq (.plain [m 17 0,m 18 5,o 19 (.idxAddrSl 2 (.t 17) (.t 18)),xa 20 0 19,xf 21 20,m 22 1,m 23 5,o 24 (.idxAddrSl 2 (.t 22) (.t 23)),xa 25 0 24,xf 26 25,o 27 (.bin .neq 0 false (.t 21) (.t 26)),m 28 27,og 29 28 false (.mv (.t 0)),og 30 28 false (.mv (.t 5)),og 31 28 false (.idxAddrSl 2 (.t 29) (.t 30)),og 32 28 false (.fieldAddr 1 (.t 31)),og 33 28 false (.load false 1 (.t 32)),og 34 28 false (.mv (.t 1)),og 35 28 false (.mv (.t 5)),og 36 28 false (.idxAddrSl 2 (.t 34) (.t 35)),og 37 28 false (.fieldAddr 1 (.t 36)),og 38 28 false (.load false 1 (.t 37)),og 39 28 false (.bin .neq 0 false (.t 33) (.t 38)),o 40 (.pick (.t 28) (.c (.bool true)) (.t 39))])
(.cond (.t 40)
(Q [o 4 (.mv (.c (.bool false)))]
(.ret [4]))
.skip)))
(.ops [m 15 5,o 16 (.bin .add 0 true (.t 15) (ci 1)),m 5 16])))
def a9s : KF:=⟨2,41,[(.tmp 4)],(Q [o 4 (.mv (.c (.bool false)))]
(.seq (Q [m 6 0,o 7 (.len 1 (.t 6)),m 8 1,o 9 (.len 1 (.t 8)),o 10 (.bin .neq 0 false (.t 7) (.t 9))]
(.cond (.t 10)
(Q [o 4 (.mv (.c (.bool false)))]
(.ret [4]))
.skip))
(.seq (Q [o 5 (.mv (ci 0))]
(.block 0
(.loop [0,1,5] b6g)))
(Q [o 4 (.mv (.c (.bool true)))]
(.ret [4])))))⟩
def c6s : KC:=
(.seq (Q [m 44 5,xa 45 3 2,xf 46 45,o 47 (.len 1 (.t 46)),o 48 (.bin .lss 0 false (.t 44) (.t 47))]
(.cond (.t 48)
.skip
(.exit [2,3] 0)))
(.seq (.block 1
(.seq (.plain [xa 51 3 2,xf 52 51,m 53 5,o 54 (.idxAddrSl 1 (.t 52) (.t 53)),xf 55 54,xa 56 3 3,xf 57 56,m 58 5,o 59 (.idxAddrSl 1 (.t 57) (.t 58)),xf 60 59,o 61 (.bin .neq 0 false (.t 55) (.t 60))])
(.cond (.t 61)
(Q [o 4 (.mv (.c (.bool false)))]
(.ret [4]))
.skip)))
(.ops [m 49 5,o 50 (.bin .add 0 true (.t 49) (ci 1)),m 5 50])))
def c6k : KC:=
(.seq (Q [m 62 6,xa 63 4 2,xf 64 63,o 65 (.len 1 (.t 64)),o 66 (.bin .lss 0 false (.t 62) (.t 65))]
(.cond (.t 66)
.skip
(.exit [] 2)))
(.seq (.block 3
(.seq (.plain [xa 69 4 2,xf 70 69,m 71 6,o 72 (.idxAddrSl 5 (.t 70) (.t 71)),xl 73 5 72,xa 74 4 3,xf 75 74,m 76 6,o 77 (.idxAddrSl 5 (.t 75) (.t 76)),xl 78 5 77,o 79 (.callF b0l [.t 73,.t 78]),o 80 (.un .not (.t 79))])
(.cond (.t 80)
(Q [o 4 (.mv (.c (.bool false)))]
(.ret [4]))
.skip)))
(.ops [m 67 6,o 68 (.bin .add 0 true (.t 67) (ci 1)),m 6 68])))
def b6p : KF:=⟨2,81,[(.tmp 4)],(Q [o 2 (.box (.t 0)),o 3 (.box (.t 1)),o 4 (.mv (.c (.bool false)))]
(.seq (Q [xa 7 0 2,xf 8 7,xa 9 0 3,xf 10 9,o 11 (.bin .neq 0 false (.t 8) (.t 10)),m 12 11,og 13 12 false (.fieldAddr 1 (.t 2)),og 14 12 false (.load false 1 (.t 13)),og 15 12 false (.fieldAddr 1 (.t 3)),og 16 12 false (.load false 1 (.t 15)),og 17 12 false (.bin .neq 0 false (.t 14) (.t 16)),o 18 (.pick (.t 12) (.c (.bool true)) (.t 17)),m 19 18,og 20 19 false (.fieldAddr 2 (.t 2)),og 21 19 false (.load false 1 (.t 20)),og 22 19 false (.fieldAddr 2 (.t 3)),og 23 19 false (.load false 1 (.t 22)),og 24 19 false (.bin .neq 0 false (.t 21) (.t 23)),o 25 (.pick (.t 19) (.c (.bool true)) (.t 24)),m 26 25,og 27 26 false (.fieldAddr 3 (.t 2)),og 28 26 false (.load false 1 (.t 27)),og 29 26 false (.len 1 (.t 28)),og 30 26 false (.fieldAddr 3 (.t 3)),og 31 26 false (.load false 1 (.t 30)),og 32 26 false (.len 1 (.t 31)),og 33 26 false (.bin .neq 0 false (.t 29) (.t 32)),o 34 (.pick (.t 26) (.c (.bool true)) (.t 33)),m 35 34,og 36 35 false (.fieldAddr 4 (.t 2)),og 37 35 false (.load false 1 (.t 36)),og 38 35 false (.len 1 (.t 37)),og 39 35 false (.fieldAddr 4 (.t 3)),og 40 35 false (.load false 1 (.t 39)),og 41 35 false (.len 1 (.t 40)),og 42 35 false (.bin .neq 0 false (.t 38) (.t 41)),o 43 (.pick (.t 35) (.c (.bool true)) (.t 42))]
(.cond (.t 43)
(Q [o 4 (.mv (.c (.bool false)))]
(.ret [4]))
.skip))
(.seq (Q [o 5 (.mv (ci 0))]
(.block 0
(.loop [2,3,5] c6s)))
(.seq (Q [o 6 (.mv (ci 0))]
(.block 2
(.loop [2,3,6] c6k)))
(Q [o 4 (.mv (.c (.bool true)))]
(.ret [4]))))))⟩
def b7l : KF:=⟨1,12,[(.tmp 2)],(Q [o 2 (.mv (.c (.bool false)))]
(Q [m 3 0,o 4 (.bin .neq 3 true (.t 3) (.c .nilp)),m 5 4,og 6 5 true (.mv (.t 0)),og 7 5 true (.nilck (.t 6)),og 8 5 true (.fieldAddr 2 (.t 7)),og 9 5 true (.load false 1 (.t 8)),og 10 5 true (.bin .neq 6 true (.t 9) (.c .nilMap)),o 11 (.pick (.t 5) (.t 10) (.c (.bool false))),m 2 11]
(.ret [2])))⟩
def b7u : KF:=⟨2,34,[(.cell 4 true 4),(.tmp 5)],(Q [o 4 (.new [ve,ve,vi 0,vi 0] none),o 5 (.mv (.c (.bool false)))]
(.seq (Q [m 8 0,o 9 (.callF a6z [.t 8]),o 10 (.un .not (.t 9))]
(.cond (.t 10)
(Q [o 11 (.build [ve,ve,vi 0,vi 0] []),xs 4 4 11,o 5 (.mv (.c (.bool false)))]
(.ret [4,5]))
.skip))
(Q [m 13 0,o 14 (.nilck (.t 13)),xa 15 2 14,xf 16 15,m 17 1,o 18 (.lookup (.agg [vi 0,vi 0,ve]) (.t 16) (.t 17) true),m 12 18,xe 19 12 0,xe 20 12 1,o 6 (.new [vi 0,vi 0,ve] none),xs 3 6 19,m 7 20]
(.seq (Q [m 21 7,o 22 (.un .not (.t 21))]
(.cond (.t 22)
(Q [o 23 (.build [ve,ve,vi 0,vi 0] []),xs 4 4 23,o 5 (.mv (.c (.bool false)))]
(.ret [4,5]))
.skip))
(.seq (.plain [m 24 0,o 25 (.nilck (.t 24)),xa 26 0 25,xf 27 26,m 28 1,xa 29 0 6,xf 30 29,xa 31 1 6,xf 32 31,o 33 (.build [ve,ve,vi 0,vi 0] [(0,1,(.t 27)),(1,1,(.t 28)),(2,1,(.t 30)),(3,1,(.t 32))]),xs 4 4 33,o 5 (.mv (.c (.bool true)))])
(.ret [4,5]))))))⟩
def e1t : KF:=⟨1,20,[(.cell 2 true 5),(.tmp 3)],(Q [o 1 (.box (.t 0)),o 2 (.new [vu 0,vi 0,ve,.nils,.nils] none),o 3 (.mv (ci 0))]
(.seq (Q [xl 4 2 1,o 5 (.callF e0p [.t 4]),o 6 (.un .not (.t 5))]
(.cond (.t 6)
(Q [o 7 (.build [vu 0,vi 0,ve,.nils,.nils] []),xs 5 2 7,o 3 (.mv (ci 3))]
(.ret [2,3]))
.skip))
(.seq (.drawn [xa 8 1 1,xf 9 8,o 10 (.callF a1l [.t 9]),o 11 (.build [ve,vu 0,vi 0,ve,.nils,.nils] [(0,1,(cs [112,117,98,108,105,99])),(1,5,(.t 10))]),xa 12 0 1,⟨(some 13),(.load false 1 (.t 12)),none,[2]⟩,o 14 (.callF a1l [.t 13]),o 15 (.build [ve,vu 0,vi 0,ve,.nils,.nils] [(0,1,(cs [115,99,104,101,109,101])),(1,5,(.t 14))]),o 16 (.buildSl [ve,vu 0,vi 0,ve,.nils,.nils] 2 6 [(0,6,(.t 11)),(6,6,(.t 15))]),o 17 (.callF a0l [.t 16]),xe 18 17 0,xe 19 17 1,xs 5 2 18,m 3 19])
(.ret [2,3]))))⟩
def c8g : KF:=⟨1,16,[(.tmp 2),(.tmp 3)],(Q [o 1 (.box (.t 0)),o 2 (.mv (cs [])),o 3 (.mv (ci 0))]
(.seq (Q [xl 7 5 1,o 8 (.callF a0c [.t 7]),o 9 (.un .not (.t 8))]
(.cond (.t 9)
(Q [o 2 (.mv (cs [])),o 3 (.mv (ci 3))]
(.ret [2,3]))
.skip))
(Q [o 4 (.new [.nilp,.nils] (some (254,true)))]
(Q [o 10 (.mkFunc (.func c2o) [] [.t 4]),o 5 (.new [.nilFunc] none),xs 1 5 10]
(Q [o 6 (.new [.nilFunc] none)]
(Q [o 11 (.mkFunc (.func c2b) [] [.t 4,.t 5,.t 6]),xs 1 6 11]
(Q [xf 12 6,xl 13 5 1,o 14 (.callV (.t 12) [.t 13])]
(Q [o 15 (.callF b8q [.t 4]),m 2 15,o 3 (.mv (ci 0))]
(.ret [2,3])))))))))⟩
def d9r : KC:=
(Q [o 14 (.bin .lss 0 false (.t 13) (.t 12))]
(.seq (.cond (.t 14)
.skip
(.exit [] 0))
(.seq (.block 1
(Q [o 15 (.idxAddrSl 2 (.t 11) (.t 13)),xl 16 2 15,o 5 (.new [ve,ve] none),xs 2 5 16]
(Q [xl 18 2 5,o 19 (.callF b0o [.t 18]),m 17 19,xe 20 17 0,xe 21 17 1,m 6 20,m 7 21]
(.seq (Q [m 22 7,o 23 (.bin .neq 0 true (.t 22) (ci 0)),m 24 23,og 25 24 false (.mv (.t 6)),og 26 24 false (.mv (.t 3)),og 27 24 false (.bin .leq 0 false (.t 25) (.t 26)),o 28 (.pick (.t 24) (.c (.bool true)) (.t 27))]
(.cond (.t 28)
(Q [o 2 (.mv (.c (.bool false)))]
(.ret [2]))
.skip))
(.ops [m 29 6,m 3 29])))))
(.ops [o 30 (.bin .add 0 true (.t 13) (ci 1)),m 13 30]))))
def c7t : KF:=⟨1,31,[(.tmp 2)],(Q [o 2 (.mv (.c (.bool false)))]
(.seq (Q [m 8 0,o 9 (.len 1 (.t 8)),o 10 (.bin .gtr 0 true (.t 9) (ci 32))]
(.cond (.t 10)
(Q [o 2 (.mv (.c (.bool false)))]
(.ret [2]))
.skip))
(Q [o 3 (.mv (cs []))]
(.seq (Q [m 11 0,o 12 (.len 1 (.t 11)),o 13 (.mv (ci 0))]
(.block 0
(.loop [3,11,12,13] d9r)))
(Q [o 2 (.mv (.c (.bool true)))]
(.ret [2]))))))⟩
def e9o : KF:=⟨1,28,[(.tmp 2)],(Q [o 1 (.box (.t 0)),o 2 (.mv (.c (.bool false)))]
(Q [xa 4 1 1,xf 5 4,o 6 (.len 1 (.t 5)),m 3 6]
(.seq (Q [m 7 3,o 8 (.bin .lss 0 true (.t 7) (ci 1)),m 9 8,og 10 9 false (.mv (.t 3)),og 11 9 false (.bin .gtr 0 true (.t 10) (ci 16)),o 12 (.pick (.t 9) (.c (.bool true)) (.t 11)),m 13 12,og 14 13 false (.fieldAddr 0 (.t 1)),og 15 13 false (.load false 1 (.t 14)),og 16 13 false (.bin .lss 0 true (.t 15) (ci 1)),o 17 (.pick (.t 13) (.c (.bool true)) (.t 16)),m 18 17,og 19 18 false (.fieldAddr 0 (.t 1)),og 20 18 false (.load false 1 (.t 19)),og 21 18 false (.mv (.t 3)),og 22 18 false (.bin .gtr 0 false (.t 20) (.t 21)),o 23 (.pick (.t 18) (.c (.bool true)) (.t 22))]
(.cond (.t 23)
(Q [o 2 (.mv (.c (.bool false)))]
(.ret [2]))
.skip))
(Q [xa 24 1 1,xf 25 24,o 26 (.callF c5g [.t 25]),o 27 (.bin .eql 0 true (.t 26) (ci 0)),m 2 27]
(.ret [2])))))⟩
def d8b : KF:=⟨1,12,[(.tmp 2)],(Q [o 2 (.mv (ci 0))]
(Q [m 3 0,o 4 (.bin .sub 0 true (.t 3) (ci 1970)),o 5 (.bin .mul 0 true (ci 365) (.t 4)),m 6 0,o 7 (.bin .sub 0 true (.t 6) (ci 1)),o 8 (.callF c4w [.t 7]),o 9 (.bin .add 0 false (.t 5) (.t 8)),o 10 (.callF c4w [ci 1969]),o 11 (.bin .sub 0 false (.t 9) (.t 10)),m 2 11]
(.ret [2])))⟩
def e1f : KF:=⟨2,37,[(.tmp 4)],(Q [o 4 (.mv (ci 0))]
(.seq (Q [m 6 0,o 7 (.bin .lss 0 true (.t 6) (ci 1970)),m 8 7,og 9 8 false (.mv (.t 0)),og 10 8 false (.bin .gtr 0 true (.t 9) (ci 9999)),o 11 (.pick (.t 8) (.c (.bool true)) (.t 10)),m 12 11,og 13 12 false (.mv (.t 1)),og 14 12 false (.bin .lss 0 true (.t 13) (ci 1)),o 15 (.pick (.t 12) (.c (.bool true)) (.t 14)),m 16 15,og 17 16 false (.mv (.t 1)),og 18 16 false (.bin .gtr 0 true (.t 17) (ci 12)),o 19 (.pick (.t 16) (.c (.bool true)) (.t 18))]
(.cond (.t 19)
(Q [o 4 (.mv (ci 0))]
(.ret [4]))
.skip))
(.seq (.plain [m 20 1,o 21 (.idxAddrArr 13 1 (.g b4k) (.t 20)),xf 22 21,m 23 1,o 24 (.bin .sub 0 true (.t 23) (ci 1)),o 25 (.idxAddrArr 13 1 (.g b4k) (.t 24)),xf 26 25,o 27 (.bin .sub 0 false (.t 22) (.t 26)),m 5 27])
(.seq (Q [m 28 1,o 29 (.bin .eql 0 true (.t 28) (ci 2)),m 30 29,og 31 30 true (.mv (.t 0)),og 32 30 true (.callF e2q [.t 31]),o 33 (.pick (.t 30) (.t 32) (.c (.bool false)))]
(.cond (.t 33)
(.ops [m 34 5,o 35 (.bin .add 0 true (.t 34) (ci 1)),m 5 35])
.skip))
(Q [m 36 5,m 4 36]
(.ret [4]))))))⟩
def g0i : KF:=⟨2,20,[(.tmp 4)],(Q [o 4 (.mv (cs []))]
(Q [m 6 0,o 7 (.callF c7v [.t 6]),m 5 7]
(.seq (Q [m 8 5,o 9 (.len 0 (.t 8)),m 10 1,o 11 (.bin .lss 0 false (.t 9) (.t 10))]
(.cond (.t 11)
(.ops [m 12 1,m 13 5,o 14 (.len 0 (.t 13)),o 15 (.bin .sub 0 false (.t 12) (.t 14)),o 16 (.callF a3c [cs [48],.t 15]),m 17 5,o 18 (.bin .add 0 false (.t 16) (.t 17)),m 5 18])
.skip))
(Q [m 19 5,m 4 19]
(.ret [4])))))⟩
def d1x : KF:=⟨1,28,[(.cell 2 true 6),(.tmp 3)],(Q [o 1 (.box (.t 0)),o 2 (.new [ve,vu 0,vi 0,ve,.nils,.nils] none),o 3 (.mv (ci 0))]
(Q [xl 8 2 1,o 9 (.callF b0o [.t 8]),m 7 9,xe 10 7 0,xe 11 7 1,m 4 10,m 5 11]
(.seq (Q [m 12 5,o 13 (.bin .neq 0 true (.t 12) (ci 0))]
(.cond (.t 13)
(Q [o 14 (.build [ve,vu 0,vi 0,ve,.nils,.nils] []),m 15 5,xs 6 2 14,m 3 15]
(.ret [2,3]))
.skip))
(Q [xl 17 2 1,o 18 (.callF c9z [.t 17]),m 16 18,xe 19 16 0,xe 20 16 1,o 6 (.new [vu 0,vi 0,ve,.nils,.nils] none),xs 5 6 19,m 5 20]
(.seq (Q [m 21 5,o 22 (.bin .neq 0 true (.t 21) (ci 0))]
(.cond (.t 22)
(Q [o 23 (.build [ve,vu 0,vi 0,ve,.nils,.nils] []),m 24 5,xs 6 2 23,m 3 24]
(.ret [2,3]))
.skip))
(Q [m 25 4,xl 26 5 6,o 27 (.build [ve,vu 0,vi 0,ve,.nils,.nils] [(0,1,(.t 25)),(1,5,(.t 26))]),xs 6 2 27,o 3 (.mv (ci 0))]
(.ret [2,3])))))))⟩
def a3g : KF:=⟨2,14,[],(Q [m 5 0,o 6 (.len 1 (.t 5)),m 4 6]
(.ops [m 7 0,m 8 4,m 9 4,o 10 (.i2i .u64 (.t 9)),o 11 (.callF b1a [.t 10]),m 12 1,o 13 (.callF a1m [.t 7,ci 0,.t 8,.t 11,.t 12])]))⟩
def c7o : KF:=⟨1,12,[(.tmp 2)],(Q [o 1 (.box (.t 0)),o 2 (.mv (.c .nils))]
(.seq (.drawn [xa 3 1 1,xf 4 3,o 5 (.callF b1z [.t 4]),o 6 (.build [ve,vu 0,vi 0,ve,.nils,.nils] [(0,1,(cs [107,101,121,105,100,115])),(1,5,(.t 5))]),xa 7 0 1,⟨(some 8),(.load false 1 (.t 7)),none,[2]⟩,o 9 (.callF a4z [.t 8]),o 10 (.build [ve,vu 0,vi 0,ve,.nils,.nils] [(0,1,(cs [116,104,114,101,115,104,111,108,100])),(1,5,(.t 9))]),o 11 (.buildSl [ve,vu 0,vi 0,ve,.nils,.nils] 2 6 [(0,6,(.t 6)),(6,6,(.t 10))]),m 2 11])
(.ret [2])))⟩
def a3a : KF:=⟨1,8,[(.tmp 2)],(Q [o 2 (.mv (.c .nils))]
(.seq (Q [m 3 0,o 4 (.bin .eql 7 true (.t 3) (.c .nils))]
(.cond (.t 4)
(Q [o 2 (.mv (.c .nils))]
(.ret [2]))
.skip))
(Q [o 5 (.buildSl [ve,vu 0,vi 0,ve,.nils,.nils] 0 6 []),m 6 0,o 7 (.app false 6 96 none (.t 5) (.t 6)),m 2 7]
(.ret [2]))))⟩
def a2c : KF:=⟨2,14,[],(Q [m 5 0,o 6 (.len 1 (.t 5)),m 4 6]
(.ops [m 7 0,m 8 4,m 9 4,o 10 (.i2i .u64 (.t 9)),o 11 (.callF b1a [.t 10]),m 12 1,o 13 (.callF a1f [.t 7,ci 0,.t 8,.t 11,.t 12])]))⟩
def b9k : KF:=⟨2,10,[(.tmp 4)],(Q [o 2 (.box (.t 0)),o 3 (.box (.t 1)),o 4 (.mv (ci 0))]
(Q [xa 5 0 2,xf 6 5,xa 7 0 3,xf 8 7,o 9 (.callF b1w [.t 6,.t 8]),m 4 9]
(.ret [4])))⟩
def b8l : KF:=⟨2,8,[(.tmp 4)],(Q [o 4 (.mv (ci 0))]
(Q [m 5 0,m 6 1,o 7 (.callF a4i [.t 5,.t 6]),m 4 7]
(.ret [4])))⟩
def e7j : KC:=
(Q [o 20 (.bin .lss 0 false (.t 19) (.t 18))]
(.seq (.cond (.t 20)
.skip
(.exit [2,3] 0))
(.seq (.block 1
(Q [o 21 (.idxAddrSl 5 (.t 17) (.t 19)),xl 22 5 21,o 5 (.new [vu 0,vi 0,ve,.nils,.nils] none),xs 5 5 22]
(.seq (Q [xa 23 4 5,xf 24 23,o 25 (.callF b5u [.t 24,ci 1,(.c .nilp),(.c (.bool false))])]
(.cond (.t 25)
(.ops [o 26 (.build [vu 0,vi 0,ve,.nils,.nils] []),xs 5 5 26])
.skip))
(.drawn [xa 27 4 3,⟨(some 28),(.load false 1 (.t 27)),none,[3]⟩,xl 29 5 5,o 30 (.callF b1o [.t 29]),o 31 (.buildSl [vu 0,vi 0,ve,.nils,.nils] 1 5 [(0,5,(.t 30))]),o 32 (.app false 5 80 none (.t 28) (.t 31)),xa 33 4 3,xs 1 33 32]))))
(.ops [o 34 (.bin .add 0 true (.t 19) (ci 1)),m 19 34]))))
def d8z : KF:=⟨1,36,[(.cell 2 true 5)],(Q [o 1 (.box (.t 0)),o 2 (.new [vu 0,vi 0,ve,.nils,.nils] none)]
(.seq (.drawn [xa 6 0 1,⟨(some 7),(.load false 1 (.t 6)),none,[8]⟩,xa 8 1 1,⟨(some 9),(.load false 1 (.t 8)),none,[8]⟩,xa 10 2 1,⟨(some 11),(.load false 1 (.t 10)),none,[8]⟩,xa 12 3 1,xf 13 12,o 14 (.callF a1v [.t 13]),o 15 (.build [vu 0,vi 0,ve,.nils,.nils] [(0,1,(.t 7)),(1,1,(.t 9)),(2,1,(.t 11)),(3,1,(.t 14))]),u .pend,o 3 (.fill 10 3 5 (.t 15))])
(.seq (Q [xa 16 4 1,xf 17 16,o 18 (.len 1 (.t 17)),o 19 (.mv (ci 0))]
(.block 0
(.loop [2,3,17,18,19] e7j)))
(Q [xl 35 5 3,xs 5 2 35]
(.ret [2])))))⟩
def g4u : KC:=
(Q [o 19 (.bin .lss 0 false (.t 18) (.t 17))]
(.seq (.cond (.t 19)
.skip
(.exit [1] 0))
(.seq (.block 1
(Q [o 20 (.idxAddrSl 2 (.t 16) (.t 18)),xl 21 2 20,o 4 (.new [ve,ve] none),xs 2 4 21]
(Q [xl 22 2 4,o 23 (.callF c0k [.t 22]),o 24 (.un .not (.t 23))]
(.cond (.t 24)
(Q [o 2 (.mv (.c (.bool false)))]
(.ret [2]))
.skip))))
(.ops [o 25 (.bin .add 0 true (.t 18) (ci 1)),m 18 25]))))
def e8j : KF:=⟨1,29,[(.tmp 2)],(Q [o 1 (.box (.t 0)),o 2 (.mv (.c (.bool false)))]
(.seq (Q [xa 5 5 1,xf 6 5,o 7 (.len 1 (.t 6)),o 8 (.bin .gtr 0 true (.t 7) (ci 32)),m 9 8,og 10 9 false (.fieldAddr 0 (.t 1)),og 11 9 false (.fieldAddr 0 (.t 10)),og 12 9 false (.load false 1 (.t 11)),og 13 9 false (.bin .neq 0 true (.t 12) (cu 5)),o 14 (.pick (.t 9) (.c (.bool true)) (.t 13))]
(.cond (.t 14)
(Q [o 2 (.mv (.c (.bool false)))]
(.ret [2]))
.skip))
(.seq (Q [xa 15 5 1,xf 16 15,o 17 (.len 1 (.t 16)),o 18 (.mv (ci 0))]
(.block 0
(.loop [1,16,17,18] g4u)))
(Q [xl 26 6 1,o 27 (.callF c1i [.t 26]),o 28 (.callF a0c [.t 27]),m 2 28]
(.ret [2])))))⟩
def e4t : KC:=
(Q [o 11 (.bin .lss 0 false (.t 10) (.t 9))]
(.seq (.cond (.t 11)
.skip
(.exit [1,2,3] 0))
(.seq (.block 1
(Q [o 12 (.idxAddrSl 2 (.t 8) (.t 10)),xl 13 2 12,o 5 (.new [ve,ve] none),xs 2 5 13]
(.drawn [xa 14 4 3,⟨(some 15),(.load false 1 (.t 14)),none,[5,8]⟩,o 16 (.buildSl [ve] 2 1 [(0,1,(cs [107,101,121,105,100])),(1,1,(cs [115,105,103]))]),xa 17 0 5,xf 18 17,o 19 (.callF a1l [.t 18]),xa 20 1 5,⟨(some 21),(.load false 1 (.t 20)),none,[5]⟩,o 22 (.callF a1l [.t 21]),o 23 (.buildSl [vu 0,vi 0,ve,.nils,.nils] 2 5 [(0,5,(.t 19)),(5,5,(.t 22))]),o 24 (.build [vu 0,vi 0,ve,.nils,.nils] [(0,1,(cu 5)),(3,1,(.t 16)),(4,1,(.t 23))]),o 25 (.buildSl [vu 0,vi 0,ve,.nils,.nils] 1 5 [(0,5,(.t 24))]),o 26 (.app false 5 80 none (.t 15) (.t 25)),xa 27 4 3,xs 1 27 26])))
(.ops [o 28 (.bin .add 0 true (.t 10) (ci 1)),m 10 28]))))
def d2l : KF:=⟨1,35,[(.cell 2 true 5)],(Q [o 1 (.box (.t 0)),o 2 (.new [vu 0,vi 0,ve,.nils,.nils] none)]
(Q [o 6 (.build [vu 0,vi 0,ve,.nils,.nils] [(0,1,(cu 4))]),o 3 (.new [vu 0,vi 0,ve,.nils,.nils] none),xs 5 3 6]
(.seq (Q [xa 7 5 1,xf 8 7,o 9 (.len 1 (.t 8)),o 10 (.mv (ci 0))]
(.block 0
(.loop [1,2,3,8,9,10] e4t)))
(Q [o 29 (.buildSl [ve] 2 1 [(0,1,(cs [115,105,103,110,97,116,117,114,101,115])),(1,1,(cs [115,105,103,110,101,100]))]),xl 30 5 3,xa 31 0 1,xl 32 5 31,o 33 (.buildSl [vu 0,vi 0,ve,.nils,.nils] 2 5 [(0,5,(.t 30)),(5,5,(.t 32))]),o 34 (.build [vu 0,vi 0,ve,.nils,.nils] [(0,1,(cu 5)),(3,1,(.t 29)),(4,1,(.t 33))]),xs 5 2 34]
(.ret [2])))))⟩
def e0c : KC:=
(Q [o 11 (.bin .lss 0 false (.t 10) (.t 9))]
(.seq (.cond (.t 11)
.skip
(.exit [] 0))
(.seq (.block 1
(Q [m 12 10,o 13 (.idxAddrSl 8 (.t 8) (.t 10)),xl 14 8 13,o 4 (.new [ve,vi 0,.nils,vu 0,vi 0,ve,.nils,.nils] none),m 3 12,xs 8 4 14]
(.seq (Q [xa 15 0 4,xf 16 15,o 17 (.callF a7h [.t 16]),o 18 (.un .not (.t 17)),m 19 18,og 20 19 false (.fieldAddr 1 (.t 4)),og 21 19 false (.load true 7 (.t 20)),og 22 19 false (.callF c5q [.t 21]),og 23 19 false (.un .not (.t 22)),o 24 (.pick (.t 19) (.c (.bool true)) (.t 23))]
(.cond (.t 24)
(Q [o 2 (.mv (.c (.bool false)))]
(.ret [2]))
.skip))
(.seq (.plain [m 25 3,o 26 (.bin .gtr 0 true (.t 25) (ci 0)),m 27 26,og 28 27 true (.fieldAddr 0 (.t 4)),og 29 27 true (.load false 1 (.t 28)),og 30 27 true (.mv (.t 0)),og 31 27 true (.mv (.t 3)),og 32 27 true (.bin .sub 0 true (.t 31) (ci 1)),og 33 27 true (.idxAddrSl 8 (.t 30) (.t 32)),og 34 27 true (.fieldAddr 0 (.t 33)),og 35 27 true (.load false 1 (.t 34)),og 36 27 true (.bin .leq 0 false (.t 29) (.t 35)),o 37 (.pick (.t 27) (.t 36) (.c (.bool false)))])
(.cond (.t 37)
(Q [o 2 (.mv (.c (.bool false)))]
(.ret [2]))
.skip)))))
(.ops [o 38 (.bin .add 0 true (.t 10) (ci 1)),m 10 38]))))
def c8m : KF:=⟨1,39,[(.tmp 2)],(Q [o 2 (.mv (.c (.bool false)))]
(.seq (Q [m 5 0,o 6 (.len 1 (.t 5)),o 7 (.bin .gtr 0 true (.t 6) (ci 256))]
(.cond (.t 7)
(Q [o 2 (.mv (.c (.bool false)))]
(.ret [2]))
.skip))
(.seq (Q [m 8 0,o 9 (.len 1 (.t 8)),o 10 (.mv (ci 0))]
(.block 0
(.loop [0,8,9,10] e0c)))
(Q [o 2 (.mv (.c (.bool true)))]
(.ret [2])))))⟩
def e3q : KF:=⟨1,27,[(.tmp 2)],(Q [o 1 (.box (.t 0)),o 2 (.mv (.c (.bool false)))]
(.seq (Q [xa 3 0 1,xf 4 3,o 5 (.callF c5i [.t 4]),o 6 (.un .not (.t 5))]
(.cond (.t 6)
(Q [o 2 (.mv (.c (.bool false)))]
(.ret [2]))
.skip))
(.seq (Q [xa 7 2 1,xl 8 4 7,o 9 (.callF b2c [.t 8])]
(.cond (.t 9)
(Q [xa 10 1 1,xf 11 10,o 12 (.callF c2j [.t 11]),o 13 (.un .not (.t 12))]
(.cond (.t 13)
(Q [o 2 (.mv (.c (.bool false)))]
(.ret [2]))
.skip))
(Q [xa 14 1 1,xf 15 14,o 16 (.len 1 (.t 15)),o 17 (.bin .gtr 0 true (.t 16) (ci 0)),m 18 17,og 19 18 false (.fieldAddr 2 (.t 1)),og 20 18 false (.load true 4 (.t 19)),og 21 18 false (.callF e5n [.t 20]),og 22 18 false (.un .not (.t 21)),o 23 (.pick (.t 18) (.c (.bool true)) (.t 22))]
(.cond (.t 23)
(Q [o 2 (.mv (.c (.bool false)))]
(.ret [2]))
.skip))))
(Q [xl 24 6 1,o 25 (.callF a1t [.t 24]),o 26 (.callF a0c [.t 25]),m 2 26]
(.ret [2])))))⟩
def e5g : KF:=⟨1,6,[(.tmp 2)],(Q [o 1 (.box (.t 0)),o 2 (.mv (.c (.bool false)))]
(Q [o 3 (.new [vi 0] none),u (.store 1 (.t 3) (ci 8192))]
(Q [xl 4 5 1,o 5 (.callF c9r [.t 4,ci 12,.t 3]),m 2 5]
(.ret [2]))))⟩
def c8a : KF:=⟨1,10,[(.cell 2 true 5),(.tmp 3)],(Q [o 1 (.box (.t 0)),o 2 (.new [vu 0,vi 0,ve,.nils,.nils] none),o 3 (.mv (ci 0))]
(.seq (Q [xl 4 7 1,o 5 (.callF c5q [.t 4]),o 6 (.un .not (.t 5))]
(.cond (.t 6)
(Q [o 7 (.build [vu 0,vi 0,ve,.nils,.nils] []),xs 5 2 7,o 3 (.mv (ci 3))]
(.ret [2,3]))
.skip))
(Q [xl 8 7 1,o 9 (.callF b4y [.t 8]),xs 5 2 9,o 3 (.mv (ci 0))]
(.ret [2,3]))))⟩
def d7y : KF:=⟨1,19,[(.tmp 2)],(Q [o 1 (.box (.t 0)),o 2 (.mv (.c (.bool false)))]
(Q [xa 3 0 1,xf 4 3,o 5 (.len 1 (.t 4)),o 6 (.bin .eql 0 true (.t 5) (ci 0)),m 7 6,og 8 7 true (.fieldAddr 1 (.t 1)),og 9 7 true (.load false 1 (.t 8)),og 10 7 true (.len 1 (.t 9)),og 11 7 true (.bin .eql 0 true (.t 10) (ci 0)),o 12 (.pick (.t 7) (.t 11) (.c (.bool false))),m 13 12,og 14 13 true (.fieldAddr 2 (.t 1)),og 15 13 true (.fieldAddr 2 (.t 14)),og 16 13 true (.load false 1 (.t 15)),og 17 13 true (.bin .eql 0 true (.t 16) (ci 0)),o 18 (.pick (.t 13) (.t 17) (.c (.bool false))),m 2 18]
(.ret [2])))⟩
def d3b : KF:=⟨1,10,[(.cell 2 true 5),(.tmp 3)],(Q [o 1 (.box (.t 0)),o 2 (.new [vu 0,vi 0,ve,.nils,.nils] none),o 3 (.mv (ci 0))]
(.seq (Q [xl 4 6 1,o 5 (.callF c1f [.t 4]),o 6 (.un .not (.t 5))]
(.cond (.t 6)
(Q [o 7 (.build [vu 0,vi 0,ve,.nils,.nils] []),xs 5 2 7,o 3 (.mv (ci 3))]
(.ret [2,3]))
.skip))
(Q [xl 8 6 1,o 9 (.callF a1t [.t 8]),xs 5 2 9,o 3 (.mv (ci 0))]
(.ret [2,3]))))⟩
def d0q : KF:=⟨1,38,[(.tmp 2)],(Q [o 1 (.box (.t 0)),o 2 (.mv (.c (.bool false)))]
(.seq (Q [xa 6 0 1,xf 7 6,o 8 (.callF c1e [.t 7]),m 5 8,xe 9 5 0,xe 10 5 1,m 3 9,m 4 10]
(Q [m 11 4,o 12 (.bin .neq 0 true (.t 11) (ci 0))]
(.cond (.t 12)
(Q [o 2 (.mv (.c (.bool false)))]
(.ret [2]))
.skip)))
(.seq (Q [xa 13 1 1,xf 14 13,o 15 (.bin .lss 0 true (.t 14) (ci 1)),m 16 15,og 17 16 false (.fieldAddr 1 (.t 1)),og 18 16 false (.load false 1 (.t 17)),og 19 16 false (.bin .gtr 0 true (.t 18) (ci 1099511627776)),o 20 (.pick (.t 16) (.c (.bool true)) (.t 19))]
(.cond (.t 20)
(Q [o 2 (.mv (.c (.bool false)))]
(.ret [2]))
.skip))
(.seq (Q [xa 21 2 1,xf 22 21,o 23 (.bin .lss 0 true (.t 22) (ci (-1))),m 24 23,og 25 24 false (.fieldAddr 2 (.t 1)),og 26 24 false (.load false 1 (.t 25)),og 27 24 false (.bin .gtr 0 true (.t 26) (ci 1099511627776)),o 28 (.pick (.t 24) (.c (.bool true)) (.t 27))]
(.cond (.t 28)
(Q [o 2 (.mv (.c (.bool false)))]
(.ret [2]))
.skip))
(Q [xa 29 3 1,xf 30 29,o 31 (.len 1 (.t 30)),o 32 (.bin .eql 0 true (.t 31) (ci 0)),m 33 32,og 34 33 false (.fieldAddr 3 (.t 1)),og 35 33 false (.load false 1 (.t 34)),og 36 33 false (.callF a6o [.t 35]),o 37 (.pick (.t 33) (.c (.bool true)) (.t 36)),m 2 37]
(.ret [2]))))))⟩
def b4f : KF:=⟨1,10,[(.cell 2 true 5),(.tmp 3)],(Q [o 2 (.new [vu 0,vi 0,ve,.nils,.nils] none),o 3 (.mv (ci 0))]
(.seq (Q [m 4 0,o 5 (.callF a6o [.t 4]),o 6 (.un .not (.t 5))]
(.cond (.t 6)
(Q [o 7 (.build [vu 0,vi 0,ve,.nils,.nils] []),xs 5 2 7,o 3 (.mv (ci 3))]
(.ret [2,3]))
.skip))
(Q [m 8 0,o 9 (.callF a7q [.t 8]),xs 5 2 9,o 3 (.mv (ci 0))]
(.ret [2,3]))))⟩
def c1k : KF:=⟨5,55,[(.cell 10 true 3),(.tmp 11)],(Q [o 6 (.box (.t 1)),o 10 (.new [vi 0,vi 0,.nils] none),o 11 (.mv (cu 0))]
(Q [m 16 0,xa 17 5 6,xl 18 2 17,xa 19 2 6,xf 20 19,o 21 (.build [ve,vi 0,vi 0,.nils] [(2,1,(ci (-1)))]),m 22 2,m 23 3,m 24 4,o 25 (.build [.nilp,vi 0,.nils,.nils,ve,vi 0,vi 0,.nils,vi 0,ve,vi 0,vu 0,vi 0,ve,.nils,.nils,vu 0,vi 0,ve,.nils,.nils,.nils,vi 0,vi 0] [(0,1,(.t 16)),(1,2,(.t 18)),(3,1,(.t 20)),(4,4,(.t 21)),(8,1,(.t 22)),(9,1,(.t 23)),(10,1,(.t 24))]),o 26 (.box (.t 25)),o 12 (.new [.nilp] none),xs 1 12 26]
(Q [o 13 (.new [vi 0,vi 0,.nils] none)]
(Q [o 27 (.mkFunc (.func b6j) [] [.t 12,.t 13]),m 14 27]
(Q [xf 28 12,o 29 (.mkFunc (.func a8n) [.t 28] []),o 30 (.build [vu 0,.nilFunc] [(0,1,(cu 2)),(1,1,(.t 29))]),xf 31 12,o 32 (.mkFunc (.func b3i) [.t 31] []),o 33 (.build [vu 0,.nilFunc] [(0,1,(cu 3)),(1,1,(.t 32))]),xf 34 12,o 35 (.mkFunc (.func a9j) [.t 34] []),o 36 (.build [vu 0,.nilFunc] [(0,1,(cu 6)),(1,1,(.t 35))]),xf 37 12,o 38 (.mkFunc (.func a5d) [.t 37] []),o 39 (.build [vu 0,.nilFunc] [(0,1,(cu 7)),(1,1,(.t 38))]),m 40 14,o 41 (.build [vu 0,.nilFunc] [(0,1,(cu 7)),(1,1,(.t 40))]),xf 42 12,o 43 (.mkFunc (.func a7s) [.t 42] []),o 44 (.build [vu 0,.nilFunc] [(0,1,(cu 8)),(1,1,(.t 43))]),xf 45 12,o 46 (.mkFunc (.func a8k) [.t 45] []),o 47 (.build [vu 0,.nilFunc] [(0,1,(cu 10)),(1,1,(.t 46))]),o 48 (.buildSl [vu 0,.nilFunc] 7 2 [(0,2,(.t 30)),(2,2,(.t 33)),(4,2,(.t 36)),(6,2,(.t 39)),(8,2,(.t 41)),(10,2,(.t 44)),(12,2,(.t 47))]),o 49 (.callF c0u [.t 48]),m 15 49]
(.seq (Q [m 50 15,o 51 (.bin .neq 0 true (.t 50) (cu 0))]
(.cond (.t 51)
(Q [o 52 (.build [vi 0,vi 0,.nils] []),m 53 15,xs 3 10 52,m 11 53]
(.ret [10,11]))
.skip))
(Q [xl 54 3 13,xs 3 10 54,o 11 (.mv (cu 0))]
(.ret [10,11]))))))))⟩
def a4h : KF:=⟨1,8,[(.tmp 2)],(Q [o 2 (.mv (.c .nils))]
(.seq (Q [m 3 0,o 4 (.bin .eql 7 true (.t 3) (.c .nils))]
(.cond (.t 4)
(Q [o 2 (.mv (.c .nils))]
(.ret [2]))
.skip))
(Q [o 5 (.buildSl [ve,ve] 0 2 []),m 6 0,o 7 (.app false 2 32 none (.t 5) (.t 6)),m 2 7]
(.ret [2]))))⟩
def c8l : KF:=⟨1,24,[(.tmp 2)],(Q [o 1 (.box (.t 0)),o 2 (.mv (.c (.bool false)))]
(Q [xa 3 2 1,xf 4 3,o 5 (.bin .eql 0 true (.t 4) (ci 0)),m 6 5,og 7 6 true (.fieldAddr 3 (.t 1)),og 8 6 true (.load false 1 (.t 7)),og 9 6 true (.bin .eql 0 true (.t 8) (cs [])),o 10 (.pick (.t 6) (.t 9) (.c (.bool false))),m 11 10,og 12 11 true (.fieldAddr 0 (.t 1)),og 13 11 true (.fieldAddr 0 (.t 12)),og 14 11 true (.load false 1 (.t 13)),og 15 11 true (.bin .eql 0 true (.t 14) (ci 0)),o 16 (.pick (.t 11) (.t 15) (.c (.bool false))),m 17 16,og 18 17 true (.fieldAddr 0 (.t 1)),og 19 17 true (.fieldAddr 1 (.t 18)),og 20 17 true (.load false 1 (.t 19)),og 21 17 true (.len 1 (.t 20)),og 22 17 true (.bin .eql 0 true (.t 21) (ci 0)),o 23 (.pick (.t 17) (.t 22) (.c (.bool false))),m 2 23]
(.ret [2])))⟩
def c2i : KF:=⟨1,9,[(.cell 2 true 2)],(Q [o 1 (.box (.t 0)),o 2 (.new [vi 0,.nils] none)]
(.seq (.drawn [xa 3 0 1,⟨(some 4),(.load false 1 (.t 3)),none,[4]⟩,xa 5 1 1,xf 6 5,o 7 (.callF a1v [.t 6]),o 8 (.build [vi 0,.nils] [(0,1,(.t 4)),(1,1,(.t 7))]),xs 2 2 8])
(.ret [2])))⟩
def e8m : KF:=⟨2,17,[(.tmp 4)],(Q [o 2 (.box (.t 0)),o 4 (.mv (.c (.bool false)))]
(Q [xl 5 6 2,o 6 (.callF b1b [.t 5]),m 7 6,og 8 7 true (.mv (.t 1)),og 9 7 true (.callF a7h [.t 8]),o 10 (.pick (.t 7) (.t 9) (.c (.bool false))),m 11 10,og 12 11 true (.load true 6 (.t 2)),og 13 11 true (.callF b9q [.t 12]),og 14 11 true (.mv (.t 1)),og 15 11 true (.invoke (.t 13) "legate/deleg.has" [.t 14]),o 16 (.pick (.t 11) (.t 15) (.c (.bool false))),m 4 16]
(.ret [4])))⟩
def c7j : KF:=⟨1,32,[(.tmp 2)],(Q [o 2 (.mv (.c (.bool false)))]
(.seq (.block 0
(.seq (Q [m 4 0,o 5 (.bin .geq 0 true (.t 4) (cu 97)),m 6 5,og 7 6 true (.mv (.t 0)),og 8 6 true (.bin .leq 0 true (.t 7) (cu 122)),o 9 (.pick (.t 6) (.t 8) (.c (.bool false))),m 3 9]
(.cond (.t 3)
.skip
(Q [m 10 0,o 11 (.bin .geq 0 true (.t 10) (cu 65)),m 12 11,og 13 12 true (.mv (.t 0)),og 14 12 true (.bin .leq 0 true (.t 13) (cu 90)),o 15 (.pick (.t 12) (.t 14) (.c (.bool false))),m 3 15]
(.cond (.t 3)
.skip
(.ops [m 16 0,o 17 (.bin .geq 0 true (.t 16) (cu 48)),m 18 17,og 19 18 true (.mv (.t 0)),og 20 18 true (.bin .leq 0 true (.t 19) (cu 57)),o 21 (.pick (.t 18) (.t 20) (.c (.bool false))),m 3 21])))))
(.cond (.t 3)
(Q [o 2 (.mv (.c (.bool true)))]
(.ret [2]))
.skip)))
(Q [m 22 0,o 23 (.bin .eql 0 true (.t 22) (cu 46)),m 24 23,og 25 24 false (.mv (.t 0)),og 26 24 false (.bin .eql 0 true (.t 25) (cu 95)),o 27 (.pick (.t 24) (.c (.bool true)) (.t 26)),m 28 27,og 29 28 false (.mv (.t 0)),og 30 28 false (.bin .eql 0 true (.t 29) (cu 45)),o 31 (.pick (.t 28) (.c (.bool true)) (.t 30)),m 2 31]
(.ret [2]))))⟩
def e0z : KF:=⟨1,52,[(.cell 2 true 5),(.tmp 3),(.tmp 4)],(Q [o 2 (.new [vu 0,vi 0,ve,.nils,.nils] none),o 3 (.mv (ci 0)),o 4 (.mv (ci 0))]
(.seq (Q [m 6 0,o 7 (.len 0 (.t 6)),o 8 (.bin .gtr 0 true (.t 7) (ci 65536))]
(.cond (.t 8)
(Q [o 9 (.build [vu 0,vi 0,ve,.nils,.nils] []),xs 5 2 9,o 3 (.mv (ci 0)),o 4 (.mv (ci 5))]
(.ret [2,3,4]))
.skip))
(Q [m 10 0,o 11 (.build [ve,vi 0,vu 0,vi 0,vi 0,vi 0,ve,vi 0] [(0,1,(.t 10))]),o 12 (.build [ve,vi 0,vu 0,vi 0,vi 0,vi 0,ve,vi 0,vi 0,vi 0] [(0,8,(.t 11))]),o 5 (.new [ve,vi 0,vu 0,vi 0,vi 0,vi 0,ve,vi 0,vi 0,vi 0] none),xs 10 5 12]
(.seq (Q [xa 13 0 5,o 14 (.callF a1n [.t 13]),m 4 14]
(Q [m 15 4,o 16 (.bin .neq 0 true (.t 15) (ci 0))]
(.cond (.t 16)
(.seq (.drawn [o 17 (.build [vu 0,vi 0,ve,.nils,.nils] []),xa 18 0 5,xa 19 1 18,⟨(some 20),(.load false 1 (.t 19)),none,[5]⟩,m 21 4,xs 5 2 17,m 3 20,m 4 21])
(.ret [2,3,4]))
.skip)))
(.seq (Q [o 23 (.callF a5h [.t 5]),m 22 23,xe 24 22 0,xe 25 22 1,xs 5 2 24,m 4 25]
(Q [m 26 4,o 27 (.bin .neq 0 true (.t 26) (ci 0))]
(.cond (.t 27)
(.seq (.drawn [o 28 (.build [vu 0,vi 0,ve,.nils,.nils] []),xa 29 0 5,xa 30 1 29,⟨(some 31),(.load false 1 (.t 30)),none,[5]⟩,m 32 4,xs 5 2 28,m 3 31,m 4 32])
(.ret [2,3,4]))
.skip)))
(.seq (Q [xa 33 0 5,o 34 (.callF a1n [.t 33]),m 4 34]
(Q [m 35 4,o 36 (.bin .neq 0 true (.t 35) (ci 0))]
(.cond (.t 36)
(.seq (.drawn [o 37 (.build [vu 0,vi 0,ve,.nils,.nils] []),xa 38 0 5,xa 39 1 38,⟨(some 40),(.load false 1 (.t 39)),none,[5]⟩,m 41 4,xs 5 2 37,m 3 40,m 4 41])
(.ret [2,3,4]))
.skip)))
(.seq (Q [xa 42 0 5,xa 43 2 42,xa 44 0 43,xf 45 44,o 46 (.bin .neq 0 true (.t 45) (cu 11))]
(.cond (.t 46)
(.seq (.drawn [o 47 (.build [vu 0,vi 0,ve,.nils,.nils] []),xa 48 0 5,xa 49 1 48,⟨(some 50),(.load false 1 (.t 49)),none,[4]⟩,xs 5 2 47,m 3 50,o 4 (.mv (ci 11))])
(.ret [2,3,4]))
.skip))
(Q [xl 51 5 2,xs 5 2 51,o 3 (.mv (ci 0)),o 4 (.mv (ci 0))]
(.ret [2,3,4])))))))))⟩
def h1e : KC:=
(Q [o 21 (.bin .lss 0 false (.t 20) (.t 19))]
(.seq (.cond (.t 21)
.skip
(.exit [2,4,5] 0))
(.seq (.block 1
(Q [o 22 (.idxAddrSl 5 (.t 18) (.t 20)),xl 23 5 22,o 7 (.new [vu 0,vi 0,ve,.nils,.nils] none),xs 5 7 23]
(Q [xl 25 5 7,o 26 (.callF d8p [.t 25]),m 24 26,xe 27 24 0,xe 28 24 1,o 8 (.new [ve,ve] none),xs 2 8 27,m 9 28]
(Q [m 29 9]
(.block 2
(Q [o 34 (.bin .eql 0 true (.t 29) (ci 0)),m 33 34]
(.cond (.t 33)
(.ops [xa 35 5 5,xf 36 35,xl 37 2 8,o 38 (.buildSl [ve,ve] 1 2 [(0,2,(.t 37))]),o 39 (.app false 2 32 none (.t 36) (.t 38)),xa 40 5 5,xs 1 40 39])
(Q [m 30 4,m 31 9,o 32 (.callF a0i [.t 30,.t 31])]
(.exit [2,4,5] 0)))))))))
(.ops [o 41 (.bin .add 0 true (.t 20) (ci 1)),m 20 41]))))
def g3x : KF:=⟨1,52,[(.cell 2 true 6),(.tmp 3)],(Q [o 1 (.box (.t 0)),o 2 (.new [vu 0,vi 0,ve,.nils,.nils,.nils] none),o 3 (.mv (ci 0))]
(.scope (.seq (Q [xl 11 5 1,o 12 (.callF a0c [.t 11]),o 13 (.un .not (.t 12))]
(.cond (.t 13)
(Q [o 14 (.build [vu 0,vi 0,ve,.nils,.nils,.nils] []),xs 6 2 14,o 3 (.mv (ci 3))]
(.ret [2,3]))
.skip))
(Q [xl 15 5 1,o 16 (.callF a4u [.t 15]),m 4 16]
(Q [o 5 (.new [vu 0,vi 0,ve,.nils,.nils,.nils] none)]
(.seq .skip
(.seq (Q [m 17 4,o 18 (.callF b5t [.t 17,cs [115,105,103,110,97,116,117,114,101,115],ci 32]),o 19 (.len 1 (.t 18)),o 20 (.mv (ci 0))]
(.block 0
(.loop [2,4,5,18,19,20] h1e)))
(Q [m 42 4,o 43 (.callF a0w [.t 42,cs [115,105,103,110,101,100],ci 8192]),xa 44 0 5,xs 5 44 43]
(.seq (Q [m 45 4,o 46 (.callF a1c [.t 45]),m 10 46]
(Q [m 47 10,o 48 (.bin .neq 0 true (.t 47) (ci 0))]
(.cond (.t 48)
(Q [o 49 (.build [vu 0,vi 0,ve,.nils,.nils,.nils] []),m 50 10,xs 6 2 49,m 3 50]
(.ret [2,3]))
.skip)))
(Q [xl 51 6 5,xs 6 2 51,o 3 (.mv (ci 0))]
(.ret [2,3])))))))))))⟩
def g9f : KC:=
(.seq (Q [m 18 3,xa 19 3 1,xf 20 19,o 21 (.len 1 (.t 20)),o 22 (.bin .lss 0 false (.t 18) (.t 21))]
(.cond (.t 22)
.skip
(.exit [1] 0)))
(.seq (.block 1
(.seq (.plain [xa 25 3 1,xf 26 25,m 27 3,o 28 (.bin .sub 0 true (.t 27) (ci 1)),o 29 (.idxAddrSl 1 (.t 26) (.t 28)),xf 30 29,xa 31 3 1,xf 32 31,m 33 3,o 34 (.idxAddrSl 1 (.t 32) (.t 33)),xf 35 34,o 36 (.bin .geq 0 false (.t 30) (.t 35))])
(.cond (.t 36)
(Q [o 37 (.build [vu 0,vi 0,ve,.nils,.nils,.nilMap,vi 0] [(6,1,(ci 3))]),o 38 (.box (.t 37)),m 2 38]
(.ret [2]))
.skip)))
(.ops [m 23 3,o 24 (.bin .add 0 true (.t 23) (ci 1)),m 3 24])))
def g3u : KF:=⟨1,44,[(.tmp 2)],(Q [o 1 (.box (.t 0)),o 2 (.mv (.c .nilp))]
(.seq (Q [xa 4 0 1,xf 5 4,o 6 (.bin .neq 0 true (.t 5) (cu 5))]
(.cond (.t 6)
(Q [o 7 (.build [vu 0,vi 0,ve,.nils,.nils,.nilMap,vi 0] [(6,1,(ci 10))]),o 8 (.box (.t 7)),m 2 8]
(.ret [2]))
.skip))
(.seq (Q [xa 9 3 1,xf 10 9,o 11 (.len 1 (.t 10)),xa 12 4 1,xf 13 12,o 14 (.len 1 (.t 13)),o 15 (.bin .neq 0 false (.t 11) (.t 14))]
(.cond (.t 15)
(Q [o 16 (.build [vu 0,vi 0,ve,.nils,.nils,.nilMap,vi 0] [(6,1,(ci 3))]),o 17 (.box (.t 16)),m 2 17]
(.ret [2]))
.skip))
(.seq (Q [o 3 (.mv (ci 1))]
(.block 0
(.loop [1,3] g9f)))
(Q [xl 39 5 1,o 40 (.callF a0h [.t 39]),o 41 .mkMap,o 42 (.build [vu 0,vi 0,ve,.nils,.nils,.nilMap,vi 0] [(0,5,(.t 40)),(5,1,(.t 41))]),o 43 (.box (.t 42)),m 2 43]
(.ret [2]))))))⟩
def c5a : KF:=⟨2,8,[(.tmp 4)],(Q [o 4 (.mv (cs []))]
(Q [m 5 0,m 6 1,o 7 (.callF b7m [.t 5,.t 6,(.c (.func (.func b9t) [] []))]),m 4 7]
(.ret [4])))⟩
def c5p : KF:=⟨2,11,[],(Q [m 4 0,o 5 (.callF a1q [.t 4]),o 6 (.bin .eql 0 true (.t 5) (ci 0))]
(.cond (.t 6)
(.ops [m 7 0,m 8 1,o 9 (.nilck (.t 7)),xa 10 6 9,xs 1 10 8])
.skip))⟩
def c8p : KF:=⟨4,13,[(.tmp 8)],(Q [o 6 (.box (.t 2)),o 7 (.box (.t 3)),o 8 (.mv (ci 0))]
(Q [m 9 0,m 10 1,o 11 (.mkFunc (.func c1q) [] [.t 6,.t 7]),o 12 (.callF b9l [.t 9,.t 10,.t 11]),m 8 12]
(.ret [8])))⟩
def e1j : KF:=⟨1,110,[(.tmp 2),(.tmp 3)],(Q [o 2 (.mv (ci 0)),o 3 (.mv (ci 0))]
(.seq (Q [m 11 0,o 12 (.len 0 (.t 11)),o 13 (.bin .neq 0 true (.t 12) (ci 20))]
(.cond (.t 13)
(Q [o 2 (.mv (ci 0)),o 3 (.mv (ci 3))]
(.ret [2,3]))
.skip))
(.seq (Q [m 14 0,o 15 (.idxStr (.t 14) (ci 4)),o 16 (.bin .neq 0 true (.t 15) (cu 45)),m 17 16,og 18 17 false (.mv (.t 0)),og 19 17 false (.idxStr (.t 18) (ci 7)),og 20 17 false (.bin .neq 0 true (.t 19) (cu 45)),o 21 (.pick (.t 17) (.c (.bool true)) (.t 20)),m 22 21,og 23 22 false (.mv (.t 0)),og 24 22 false (.idxStr (.t 23) (ci 10)),og 25 22 false (.bin .neq 0 true (.t 24) (cu 84)),o 26 (.pick (.t 22) (.c (.bool true)) (.t 25)),m 27 26,og 28 27 false (.mv (.t 0)),og 29 27 false (.idxStr (.t 28) (ci 13)),og 30 27 false (.bin .neq 0 true (.t 29) (cu 58)),o 31 (.pick (.t 27) (.c (.bool true)) (.t 30)),m 32 31,og 33 32 false (.mv (.t 0)),og 34 32 false (.idxStr (.t 33) (ci 16)),og 35 32 false (.bin .neq 0 true (.t 34) (cu 58)),o 36 (.pick (.t 32) (.c (.bool true)) (.t 35)),m 37 36,og 38 37 false (.mv (.t 0)),og 39 37 false (.idxStr (.t 38) (ci 19)),og 40 37 false (.bin .neq 0 true (.t 39) (cu 90)),o 41 (.pick (.t 37) (.c (.bool true)) (.t 40))]
(.cond (.t 41)
(Q [o 2 (.mv (ci 0)),o 3 (.mv (ci 3))]
(.ret [2,3]))
.skip))
(.seq (.plain [m 42 0,o 43 (.sliceStr (.t 42) (some (ci 0)) (some (ci 4))),o 44 (.callF a5e [.t 43]),m 45 0,o 46 (.sliceStr (.t 45) (some (ci 5)) (some (ci 7))),o 47 (.callF a5e [.t 46]),m 48 0,o 49 (.sliceStr (.t 48) (some (ci 8)) (some (ci 10))),o 50 (.callF a5e [.t 49]),m 4 44,m 5 47,m 6 50])
(.seq (Q [m 51 6,o 52 (.bin .lss 0 true (.t 51) (ci 1)),m 53 52,og 54 53 false (.mv (.t 6)),og 55 53 false (.mv (.t 4)),og 56 53 false (.mv (.t 5)),og 57 53 false (.callF c0n [.t 55,.t 56]),og 58 53 false (.bin .gtr 0 false (.t 54) (.t 57)),o 59 (.pick (.t 53) (.c (.bool true)) (.t 58))]
(.cond (.t 59)
(Q [o 2 (.mv (ci 0)),o 3 (.mv (ci 3))]
(.ret [2,3]))
.skip))
(.seq (.plain [m 60 0,o 61 (.sliceStr (.t 60) (some (ci 11)) (some (ci 13))),o 62 (.callF a5e [.t 61]),m 63 0,o 64 (.sliceStr (.t 63) (some (ci 14)) (some (ci 16))),o 65 (.callF a5e [.t 64]),m 66 0,o 67 (.sliceStr (.t 66) (some (ci 17)) (some (ci 19))),o 68 (.callF a5e [.t 67]),m 7 62,m 8 65,m 9 68])
(.seq (Q [m 69 7,o 70 (.callF c0g [.t 69,ci 23]),o 71 (.un .not (.t 70)),m 72 71,og 73 72 false (.mv (.t 8)),og 74 72 false (.callF c0g [.t 73,ci 59]),og 75 72 false (.un .not (.t 74)),o 76 (.pick (.t 72) (.c (.bool true)) (.t 75)),m 77 76,og 78 77 false (.mv (.t 9)),og 79 77 false (.callF c0g [.t 78,ci 59]),og 80 77 false (.un .not (.t 79)),o 81 (.pick (.t 77) (.c (.bool true)) (.t 80))]
(.cond (.t 81)
(Q [o 2 (.mv (ci 0)),o 3 (.mv (ci 3))]
(.ret [2,3]))
.skip))
(.seq (.drawn [m 82 4,o 83 (.callF b7b [.t 82]),m 84 5,o 85 (.bin .sub 0 true (.t 84) (ci 1)),o 86 (.idxAddrArr 13 1 (.g b4k) (.t 85)),⟨(some 87),(.load false 1 (.t 86)),none,[1]⟩,o 88 (.bin .add 0 false (.t 83) (.t 87)),m 89 6,o 90 (.bin .add 0 false (.t 88) (.t 89)),o 91 (.bin .sub 0 true (.t 90) (ci 1)),m 10 91])
(.seq (Q [m 92 5,o 93 (.bin .gtr 0 true (.t 92) (ci 2)),m 94 93,og 95 94 true (.mv (.t 4)),og 96 94 true (.callF e2q [.t 95]),o 97 (.pick (.t 94) (.t 96) (.c (.bool false)))]
(.cond (.t 97)
(.ops [m 98 10,o 99 (.bin .add 0 true (.t 98) (ci 1)),m 10 99])
.skip))
(Q [m 100 10,o 101 (.bin .mul 0 true (.t 100) (ci 86400)),m 102 7,o 103 (.bin .mul 0 true (.t 102) (ci 3600)),m 104 8,o 105 (.bin .mul 0 true (.t 104) (ci 60)),o 106 (.bin .add 0 false (.t 103) (.t 105)),m 107 9,o 108 (.bin .add 0 false (.t 106) (.t 107)),o 109 (.bin .add 0 false (.t 101) (.t 108)),m 2 109,o 3 (.mv (ci 0))]
(.ret [2,3])))))))))))⟩
def g6x : KC:=
(Q [o 24 (.bin .lss 0 false (.t 23) (.t 22))]
(.seq (.cond (.t 24)
.skip
(.exit [4] 0))
(.seq (.block 1
(Q [m 25 23,o 26 (.idxAddrSl 1 (.t 21) (.t 23)),xf 27 26,m 5 25,m 6 27]
(Q [xa 29 4 1,xf 30 29,m 31 5,o 32 (.idxAddrSl 5 (.t 30) (.t 31)),xl 33 5 32,o 34 (.callF h2s [.t 33]),m 28 34,xe 35 28 0,xe 36 28 1,o 7 (.new [ve,ve] none),xs 2 7 35,m 8 36]
(.seq (Q [m 37 8,o 38 (.bin .neq 0 true (.t 37) (ci 0))]
(.cond (.t 38)
(Q [m 39 8,o 2 (.mv (.c .nils)),m 3 39]
(.ret [2,3]))
.skip))
(Q [xl 41 2 7,o 42 (.callF b0o [.t 41]),m 40 42,xe 43 40 0,xe 44 40 1,m 9 43,m 8 44]
(.seq (Q [m 45 8,o 46 (.bin .neq 0 true (.t 45) (ci 0))]
(.cond (.t 46)
(Q [m 47 8,o 2 (.mv (.c .nils)),m 3 47]
(.ret [2,3]))
.skip))
(.seq (Q [m 48 9,m 49 6,o 50 (.bin .neq 0 false (.t 48) (.t 49))]
(.cond (.t 50)
(Q [o 2 (.mv (.c .nils)),o 3 (.mv (ci 3))]
(.ret [2,3]))
.skip))
(.ops [m 51 4,xl 52 2 7,o 53 (.buildSl [ve,ve] 1 2 [(0,2,(.t 52))]),o 54 (.app false 2 32 none (.t 51) (.t 53)),m 4 54]))))))))
(.ops [o 55 (.bin .add 0 true (.t 23) (ci 1)),m 23 55]))))
def e9v : KF:=⟨1,57,[(.tmp 2),(.tmp 3)],(Q [o 1 (.box (.t 0)),o 2 (.mv (.c .nils)),o 3 (.mv (ci 0))]
(.seq (Q [xl 10 5 1,o 11 (.callF a0c [.t 10]),o 12 (.un .not (.t 11))]
(.cond (.t 12)
(Q [o 2 (.mv (.c .nils)),o 3 (.mv (ci 3))]
(.ret [2,3]))
.skip))
(.seq (Q [xa 13 0 1,xf 14 13,o 15 (.bin .neq 0 true (.t 14) (cu 5))]
(.cond (.t 15)
(Q [o 2 (.mv (.c .nils)),o 3 (.mv (ci 10))]
(.ret [2,3]))
.skip))
(.seq (Q [xa 16 3 1,xf 17 16,o 18 (.len 1 (.t 17)),o 19 (.bin .gtr 0 true (.t 18) (ci 32))]
(.cond (.t 19)
(Q [o 2 (.mv (.c .nils)),o 3 (.mv (ci 5))]
(.ret [2,3]))
.skip))
(Q [o 4 (.mv (.c .nils))]
(.seq (Q [xa 20 3 1,xf 21 20,o 22 (.len 1 (.t 21)),o 23 (.mv (ci 0))]
(.block 0
(.loop [1,4,21,22,23] g6x)))
(Q [m 56 4,m 2 56,o 3 (.mv (ci 0))]
(.ret [2,3]))))))))⟩
def b8j : KF:=⟨3,11,[(.cell 6 true 5)],(Q [o 5 (.box (.t 2)),o 6 (.new [vu 0,vi 0,ve,.nils,.nils] none)]
(Q [m 7 0,m 8 1,o 9 (.mkFunc (.func b5k) [] [.t 5]),o 10 (.callF b2m [.t 7,.t 8,.t 9]),xs 5 6 10]
(.ret [6])))⟩
def d9j : KC:=
(Q [o 15 (.bin .lss 0 true (.t 14) (ci 3))]
(.seq (.cond (.t 15)
.skip
(.exit [2,4,5] 0))
(.seq (.block 1
(Q [m 16 14,o 17 (.idxArr 3 false 1 (.t 13) (.t 14)),m 6 16,m 7 17]
(Q [m 19 4,m 20 7,o 21 (.callF a0w [.t 19,.t 20,ci 8192]),o 22 (.callF e1z [.t 21]),m 18 22,xe 23 18 0,xe 24 18 1,o 8 (.new [vi 0,.nils] none),xs 2 8 23,m 9 24]
(Q [m 25 4,m 26 9,o 27 (.callF a0i [.t 25,.t 26])]
(.ops [m 28 6,xl 29 2 8,o 30 (.idxAddrArr 3 2 (.t 5) (.t 28)),xs 2 30 29])))))
(.ops [o 31 (.bin .add 0 true (.t 14) (ci 1)),m 14 31]))))
def c8q : KF:=⟨1,39,[(.cell 2 true 6),(.tmp 3)],(Q [o 1 (.box (.t 0)),o 2 (.new [vi 0,.nils,vi 0,.nils,vi 0,.nils] none),o 3 (.mv (ci 0))]
(Q [xl 11 5 1,o 12 (.callF a4u [.t 11]),m 4 12]
(Q [o 5 (.new [vi 0,.nils,vi 0,.nils,vi 0,.nils] none)]
(.seq (Q [o 13 (.load true 3 (.g c9f)),o 14 (.mv (ci 0))]
(.block 0
(.loop [2,4,5,13,14] d9j)))
(.seq (Q [m 32 4,o 33 (.callF a1c [.t 32]),m 10 33]
(Q [m 34 10,o 35 (.bin .neq 0 true (.t 34) (ci 0))]
(.cond (.t 35)
(Q [o 36 (.build [vi 0,.nils,vi 0,.nils,vi 0,.nils] []),m 37 10,xs 6 2 36,m 3 37]
(.ret [2,3]))
.skip)))
(Q [xl 38 6 5,xs 6 2 38,o 3 (.mv (ci 0))]
(.ret [2,3])))))))⟩
def d4p : KC:=
(Q [o 18 (.bin .lss 0 false (.t 17) (.t 16))]
(.seq (.cond (.t 18)
.skip
(.exit [] 0))
(.seq (.block 1
(Q [o 19 (.idxAddrSl 1 (.t 15) (.t 17)),xf 20 19,m 5 20]
(Q [m 21 0,o 22 (.nilck (.t 21)),xa 23 5 22,xf 24 23,m 25 5,o 26 (.lookup (vi 0) (.t 24) (.t 25) false),o 27 (.bin .eql 0 true (.t 26) (ci 0))]
(.cond (.t 27)
(Q [o 2 (.mv (ci 11))]
(.ret [2]))
.skip))))
(.ops [o 28 (.bin .add 0 true (.t 17) (ci 1)),m 17 28]))))
def c5b : KF:=⟨1,29,[(.tmp 2)],(Q [o 2 (.mv (ci 0))]
(.seq (Q [m 6 0,o 7 (.callF a1q [.t 6]),m 3 7]
(Q [m 8 3,o 9 (.bin .neq 0 true (.t 8) (ci 0))]
(.cond (.t 9)
(Q [m 10 3,m 2 10]
(.ret [2]))
.skip)))
(.seq (Q [m 11 0,o 12 (.nilck (.t 11)),xa 13 0 12,xa 14 3 13,xf 15 14,o 16 (.len 1 (.t 15)),o 17 (.mv (ci 0))]
(.block 0
(.loop [0,15,16,17] d4p)))
(Q [o 2 (.mv (ci 0))]
(.ret [2])))))⟩
def e3r : KC:=
(Q [o 30 (.bin .lss 0 false (.t 29) (.t 28))]
(.seq (.cond (.t 30)
.skip
(.exit [11] 0))
(.seq (.block 1
(Q [o 31 (.idxAddrSl 1 (.t 27) (.t 29)),xf 32 31,m 13 32]
(Q [m 34 3,m 35 13,o 36 (.callF g0e [.t 34,.t 35]),m 33 36,xe 37 33 0,xe 38 33 1,o 14 (.new [ve,ve] none),xs 2 14 37,m 15 38]
(Q [m 39 15,m 40 39,og 41 40 true (.mv (.t 0)),og 42 40 true (.load true 2 (.t 14)),og 43 40 true (.mv (.t 13)),og 44 40 true (.fieldAddr 5 (.t 5)),og 45 40 true (.load false 1 (.t 44)),og 46 40 true (.mv (.t 9)),og 47 40 true (.callF b4c [.t 41,.t 42,.t 43,.t 45,.t 46]),o 48 (.pick (.t 40) (.t 47) (.c (.bool false)))]
(.cond (.t 48)
(.ops [m 49 11,o 50 (.bin .add 0 true (.t 49) (ci 1)),m 11 50])
.skip)))))
(.ops [o 51 (.bin .add 0 true (.t 29) (ci 1)),m 29 51]))))
def d2z : KF:=⟨4,53,[(.tmp 8)],(Q [o 5 (.box (.t 1)),o 6 (.box (.t 2)),o 8 (.mv (ci 0))]
(.seq (Q [xl 16 2 6,o 17 (.callF b4o [.t 16]),o 18 (.un .not (.t 17))]
(.cond (.t 18)
(Q [o 8 (.mv (ci 0))]
(.ret [8]))
.skip))
(Q [xl 20 6 5,o 21 (.callF a5a [.t 20]),m 19 21,xe 22 19 0,xe 23 19 1,m 9 22,m 10 23]
(.seq (Q [m 24 10,o 25 (.bin .neq 0 true (.t 24) (ci 0))]
(.cond (.t 25)
(Q [o 8 (.mv (ci 0))]
(.ret [8]))
.skip))
(Q [o 11 (.mv (ci 0))]
(.seq (Q [xa 26 1 6,xf 27 26,o 28 (.len 1 (.t 27)),o 29 (.mv (ci 0))]
(.block 0
(.loop [0,3,5,9,11,27,28,29] e3r)))
(Q [m 52 11,m 8 52]
(.ret [8]))))))))⟩
def g3w : KF:=⟨1,27,[(.tmp 2)],(Q [o 1 (.box (.t 0)),o 2 (.mv (.c (.bool false)))]
(.seq (Q [xa 4 0 1,xf 5 4,o 6 (.callF a7i [.t 5]),o 7 (.un .not (.t 6))]
(.cond (.t 7)
(Q [o 2 (.mv (.c (.bool false)))]
(.ret [2]))
.skip))
(Q [xa 8 1 1,xf 9 8,o 10 (.len 0 (.t 9)),m 3 10]
(Q [m 11 3,o 12 (.bin .gtr 0 true (.t 11) (ci 0)),m 13 12,og 14 13 true (.mv (.t 3)),og 15 13 true (.bin .leq 0 true (.t 14) (ci 128)),o 16 (.pick (.t 13) (.t 15) (.c (.bool false))),m 17 16,og 18 17 true (.mv (.t 3)),og 19 17 true (.bin .rem 0 true (.t 18) (ci 2)),og 20 17 true (.bin .eql 0 true (.t 19) (ci 0)),o 21 (.pick (.t 17) (.t 20) (.c (.bool false))),m 22 21,og 23 22 true (.fieldAddr 1 (.t 1)),og 24 22 true (.load false 1 (.t 23)),og 25 22 true (.callF b2a [.t 24]),o 26 (.pick (.t 22) (.t 25) (.c (.bool false))),m 2 26]
(.ret [2])))))⟩
def c2n : KF:=⟨2,12,[],(Q [m 6 0,o 7 (.callF g1n [.t 6]),m 5 7,xe 8 5 0,xe 9 5 1,m 3 8,m 4 9]
(.ops [m 10 3,o 11 (.callF a1i [.t 1,.t 10])]))⟩
def a5x : KF:=⟨2,19,[(.tmp 4),(.tmp 5)],(Q [o 4 (.mv (ci 0)),o 5 (.mv (.c .nilIface))]
(Q [m 6 0,o 7 (.callF a7x [.t 6])]
(Q [m 8 0,m 9 0,o 10 (.nilck (.t 9)),xa 11 1 10,xf 12 11,m 13 1,o 14 (.app true 1 1 (some (5,false)) (.t 12) (.t 13)),o 15 (.nilck (.t 8)),xa 16 1 15,xs 1 16 14]
(Q [m 17 1,o 18 (.len 0 (.t 17)),m 4 18,o 5 (.mv (.c .nilIface))]
(.ret [4,5])))))⟩
def d2g : KC:=
(Q [o 37 (.bin .lss 0 false (.t 36) (.t 35))]
(.seq (.cond (.t 37)
.skip
(.exit [1] 1))
(.seq (.block 2
(Q [m 38 36,o 39 (.idxAddrSl 5 (.t 34) (.t 36)),xl 40 5 39,o 6 (.new [vu 0,vi 0,ve,.nils,.nils] none),m 5 38,xs 5 6 40]
(.seq (Q [m 41 5,o 42 (.bin .gtr 0 true (.t 41) (ci 0))]
(.cond (.t 42)
(.ops [o 43 (.callF a0t [.t 1,cu 44])])
.skip))
(.ops [xf 44 3,xl 45 5 6,o 46 (.callV (.t 44) [.t 45])]))))
(.ops [o 47 (.bin .add 0 true (.t 36) (ci 1)),m 36 47]))))
def d3d : KC:=
(Q [o 56 (.bin .lss 0 false (.t 55) (.t 54))]
(.seq (.cond (.t 56)
.skip
(.exit [1] 3))
(.seq (.block 4
(Q [m 57 55,o 58 (.idxAddrSl 5 (.t 53) (.t 55)),xl 59 5 58,o 8 (.new [vu 0,vi 0,ve,.nils,.nils] none),m 7 57,xs 5 8 59]
(.seq (Q [m 60 7,o 61 (.bin .gtr 0 true (.t 60) (ci 0))]
(.cond (.t 61)
(.ops [o 62 (.callF a0t [.t 1,cu 44])])
.skip))
(.seq (.plain [xf 63 2,xa 64 3 4,xf 65 64,m 66 7,o 67 (.idxAddrSl 1 (.t 65) (.t 66)),xf 68 67,o 69 (.callV (.t 63) [.t 68])])
(Q [o 70 (.callF a0t [.t 1,cu 58])]
(.ops [xf 71 3,xl 72 5 8,o 73 (.callV (.t 71) [.t 72])]))))))
(.ops [o 74 (.bin .add 0 true (.t 55) (ci 1)),m 55 74]))))
def c1m : KF:=⟨4,76,[],(Q [o 4 (.box (.t 0))]
(Q [xa 9 0 4,xf 10 9]
(.block 0
(Q [o 12 (.bin .eql 0 true (.t 10) (cu 1)),m 11 12]
(.cond (.t 11)
(Q [xa 13 1 4,xf 14 13,o 15 (.bin .eql 0 true (.t 14) (ci 1))]
(.cond (.t 15)
(.ops [o 16 (.callF a1i [.t 1,cs [116,114,117,101]])])
(.ops [o 17 (.callF a1i [.t 1,cs [102,97,108,115,101]])])))
(Q [o 19 (.bin .eql 0 true (.t 10) (cu 2)),m 18 19]
(.cond (.t 18)
(.ops [xa 20 1 4,xf 21 20,o 22 (.callF e9z [.t 21]),o 23 (.callF a1i [.t 1,.t 22])])
(Q [o 25 (.bin .eql 0 true (.t 10) (cu 3)),m 24 25]
(.cond (.t 24)
(.ops [xf 26 2,xa 27 2 4,xf 28 27,o 29 (.callV (.t 26) [.t 28])])
(Q [o 31 (.bin .eql 0 true (.t 10) (cu 4)),m 30 31]
(.cond (.t 30)
(Q [o 32 (.callF a0t [.t 1,cu 91])]
(.seq (Q [xa 33 4 4,xf 34 33,o 35 (.len 1 (.t 34)),o 36 (.mv (ci 0))]
(.block 1
(.loop [1,3,34,35,36] d2g)))
(.ops [o 48 (.callF a0t [.t 1,cu 93])])))
(Q [o 50 (.bin .eql 0 true (.t 10) (cu 5)),m 49 50]
(.cond (.t 49)
(Q [o 51 (.callF a0t [.t 1,cu 123])]
(.seq (Q [xa 52 4 4,xf 53 52,o 54 (.len 1 (.t 53)),o 55 (.mv (ci 0))]
(.block 3
(.loop [1,2,3,4,53,54,55] d3d)))
(.ops [o 75 (.callF a0t [.t 1,cu 125])])))
.skip)))))))))))))⟩
def e8s : KF:=⟨1,5,[(.tmp 2)],(Q [o 2 (.mv (cs []))]
(Q [m 3 0,o 4 (.callF b6a [.t 3,ci 10]),m 2 4]
(.ret [2])))⟩
def a7u : KF:=⟨2,17,[(.tmp 4)],(Q [o 4 (.mv (.c .nilIface))]
(Q [m 5 0,o 6 (.callF a7x [.t 5])]
(Q [m 7 0,m 8 0,o 9 (.nilck (.t 8)),xa 10 1 9,xf 11 10,m 12 1,o 13 (.buildSl [vu 0] 1 1 [(0,1,(.t 12))]),o 14 (.app false 1 1 (some (5,false)) (.t 11) (.t 13)),o 15 (.nilck (.t 7)),xa 16 1 15,xs 1 16 14]
(Q [o 4 (.mv (.c .nilIface))]
(.ret [4])))))⟩
def e8v : KF:=⟨1,14,[(.tmp 2)],(Q [o 2 (.mv (cs []))]
(.seq (.plain [m 3 0,o 4 (.nilck (.t 3)),xa 5 1 4,xf 6 5,o 7 .fail,m 8 0,o 9 (.nilck (.t 8)),xa 10 1 9,xf 11 10,o 12 (.len 1 (.t 11)),o 13 .fail,m 2 13])
(.ret [2])))⟩
def e6e : KC:=
(Q [o 10 (.bin .lss 0 false (.t 9) (.t 8))]
(.seq (.cond (.t 10)
.skip
(.exit [] 0))
(.seq (.block 1
(Q [o 11 (.idxAddrSl 1 (.t 7) (.t 9)),xf 12 11,m 5 12]
(.seq (Q [m 13 5,o 14 (.len 0 (.t 13)),o 15 (.bin .neq 0 true (.t 14) (ci 64)),m 16 15,og 17 16 false (.mv (.t 5)),og 18 16 false (.callF b2a [.t 17]),og 19 16 false (.un .not (.t 18)),o 20 (.pick (.t 16) (.c (.bool true)) (.t 19))]
(.cond (.t 20)
(Q [o 2 (.mv (ci 3))]
(.ret [2]))
.skip))
(.seq (Q [m 21 3,m 22 5,o 23 (.lookup (vi 0) (.t 21) (.t 22) false),o 24 (.bin .gtr 0 true (.t 23) (ci 0))]
(.cond (.t 24)
(Q [o 2 (.mv (ci 7))]
(.ret [2]))
.skip))
(.ops [m 25 3,m 26 5,o 27 (.lookup (vi 0) (.t 25) (.t 26) false),o 28 (.bin .add 0 true (.t 27) (ci 1)),u (.mapUpd (.t 25) (.t 26) (.t 28))])))))
(.ops [o 29 (.bin .add 0 true (.t 9) (ci 1)),m 9 29]))))
def d7w : KF:=⟨1,30,[(.tmp 2)],(Q [o 2 (.mv (ci 0))]
(Q [o 6 .mkMap,m 3 6]
(.seq (Q [m 7 0,o 8 (.len 1 (.t 7)),o 9 (.mv (ci 0))]
(.block 0
(.loop [3,7,8,9] e6e)))
(Q [o 2 (.mv (ci 0))]
(.ret [2])))))⟩
def d7t : KF:=⟨1,11,[(.tmp 2)],(Q [o 2 (.mv (ci 0))]
(Q [m 3 0,o 4 (.bin .quo 0 true (.t 3) (ci 4)),m 5 0,o 6 (.bin .quo 0 true (.t 5) (ci 100)),o 7 (.bin .sub 0 false (.t 4) (.t 6)),m 8 0,o 9 (.bin .quo 0 true (.t 8) (ci 400)),o 10 (.bin .add 0 false (.t 7) (.t 9)),m 2 10]
(.ret [2])))⟩
def c8f : KF:=⟨1,5,[(.tmp 2)],(Q [o 2 (.mv (cs []))]
(Q [m 3 0,o 4 (.callF b0k [.t 3]),m 2 4]
(.ret [2])))⟩
end Go.Ev
