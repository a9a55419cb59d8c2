/- Code of functions as the evaluator has it, and what some of them compute. No conditions. -/
import Derived.Test.YtgpjaembafkpoaaGreatDoorCn
set_option linter.unusedVariables false
set_option linter.unusedSimpArgs false
namespace Go.Ev
def Q (l : List XOp) (c : KC) : KC := .seq (.ops l) c
def xl (d n x : Nat) : XOp := o d (.load true n (.t x))
def xf (d x : Nat) : XOp := o d (.load false 1 (.t x))
def xa (d n x : Nat) : XOp := o d (.fieldAddr n (.t x))
def xe (d x n : Nat) : XOp := o d (.extract (.t x) n)
def xs (n x y : Nat) : XOp := u (.store n (.t x) (.t y))
def vi (n : Int) : AV := .int .i64 n
def vu (n : Int) : AV := .int .u8 n
def ve : AV := .str []
def ci (n : Int) : XA := .c (.int .i64 n)
def cu (n : Int) : XA := .c (.int .u8 n)
def cs (l : List UInt8) : XA := .c (.str l)
def rp (n : Nat) (x : AV) : List AV := List.replicate n x
/-! legate/legatelaw28.RepoNames -/
def K_legatelaw28_RepoNames : KF := ⟨0,356,[(.tmp 0)],(Q [o 0 (.mv (.c (.bool false)))]
(.seq (Q [o 48 (.callF f_legatelaw28_awake []),o 49 (.un .not (.t 48)),m 50 49,o 51 (.pick (.t 50) (.c (.bool true)) (.c (.bool false))),m 52 51,o 53 (.pick (.t 52) (.c (.bool true)) (.c (.bool false))),m 54 53,o 55 (.pick (.t 54) (.c (.bool true)) (.c (.bool false))),m 56 55,o 57 (.pick (.t 56) (.c (.bool true)) (.c (.bool false))),m 58 57,o 59 (.pick (.t 58) (.c (.bool true)) (.c (.bool false))),m 60 59,o 61 (.pick (.t 60) (.c (.bool true)) (.c (.bool false))),m 62 61,o 63 (.pick (.t 62) (.c (.bool true)) (.c (.bool false)))]
(.cond (.t 63)
(Q [o 0 (.mv (.c (.bool false)))]
(.ret [0]))
.skip))
(Q [o 64 (.callF f_legatelaw28_ex []),o 1 (.new [ve,ve,.nils,(.bool false),.nils,vi 0,vi 0,vi 0,vi 0,vi 0] none),xs 10 1 64]
(Q [xa 65 0 1,xa 66 0 65,u (.store 1 (.t 66) (cs [])),xa 67 6 1,xa 68 2 67,u (.store 1 (.t 68) (ci (-1))),xa 69 0 1,xa 70 1 69,u (.store 1 (.t 70) (cs []))]
(Q [xl 72 10 1,o 73 (.callF f_legatelaw28_made [.t 72]),m 71 73,xe 74 71 0,xe 75 71 1,m 2 74,m 3 75]
(Q [xa 76 0 1,xa 77 0 76,u (.store 1 (.t 77) (cs [114]))]
(Q [xl 79 10 1,o 80 (.callF f_legatelaw28_made [.t 79]),m 78 80,xe 81 78 0,xe 82 78 1,m 4 81,m 5 82]
(Q [xa 83 6 1,xa 84 2 83,u (.store 1 (.t 84) (ci 0)),xa 85 6 1,xa 86 3 85,u (.store 1 (.t 86) (ci 65537))]
(Q [xl 88 10 1,o 89 (.callF f_legatelaw28_made [.t 88]),m 87 89,xe 90 87 0,xe 91 87 1,m 6 90,m 7 91]
(Q [xa 92 6 1,xa 93 3 92,u (.store 1 (.t 93) (ci 65536))]
(Q [xl 95 10 1,o 96 (.callF f_legatelaw28_made [.t 95]),m 94 96,xe 97 94 0,xe 98 94 1,m 8 97,m 9 98]
(.seq (Q [m 99 3,o 100 (.bin .neq 0 true (.t 99) (ci 3)),m 101 100,og 102 101 false (.mv (.t 5)),og 103 101 false (.bin .neq 0 true (.t 102) (ci 1)),o 104 (.pick (.t 101) (.c (.bool true)) (.t 103)),m 105 104,og 106 105 false (.mv (.t 7)),og 107 105 false (.bin .neq 0 true (.t 106) (ci 1)),o 108 (.pick (.t 105) (.c (.bool true)) (.t 107)),m 109 108,og 110 109 false (.mv (.t 9)),og 111 109 false (.bin .eql 0 true (.t 110) (ci 0)),o 112 (.pick (.t 109) (.c (.bool true)) (.t 111))]
(.cond (.t 112)
(Q [o 0 (.mv (.c (.bool false)))]
(.ret [0]))
.skip))
(Q [o 113 (.callF f_legatelaw28_ex []),o 10 (.new [ve,ve,.nils,(.bool false),.nils,vi 0,vi 0,vi 0,vi 0,vi 0] none),xs 10 10 113]
(Q [xa 114 5 10,u (.store 1 (.t 114) (ci 100))]
(Q [xl 116 10 10,o 117 (.callF f_legatelaw28_made [.t 116]),m 115 117,xe 118 115 0,xe 119 115 1,m 11 118,m 12 119]
(Q [m 121 11,o 122 (.callF f_repo_Repo_Snapshot [.t 121]),m 120 122,xe 123 120 0,xe 124 120 1,o 13 (.new [vi 0,vi 0,.nils] none),xs 3 13 123,m 14 124]
(Q [m 126 11,o 127 (.callF f_repo_Repo_Targets [.t 126]),m 125 127,xe 128 125 0,xe 129 125 1,o 15 (.new [vi 0,vi 0,.nils,.nils,.nils,vi 0,.nils,vi 0,ve] none),xs 9 15 128,m 16 129]
(.seq (Q [m 130 12,o 131 (.bin .neq 0 true (.t 130) (ci 0)),m 132 131,og 133 132 false (.mv (.t 11)),og 134 132 false (.callF f_repo_Repo_Expired [.t 133]),og 135 132 false (.un .not (.t 134)),o 136 (.pick (.t 132) (.c (.bool true)) (.t 135)),m 137 136,og 138 137 false (.mv (.t 14)),og 139 137 false (.bin .neq 0 true (.t 138) (cu 10)),o 140 (.pick (.t 137) (.c (.bool true)) (.t 139)),m 141 140,og 142 141 false (.mv (.t 16)),og 143 141 false (.bin .neq 0 true (.t 142) (cu 10)),o 144 (.pick (.t 141) (.c (.bool true)) (.t 143)),m 145 144,og 146 145 false (.mv (.t 11)),og 147 145 false (.buildSl [ve] 1 1 [(0,1,(cs [115,110,97,112,115,104,111,116,46,106,115,111,110]))]),og 148 145 false (.callF f_legatelaw28_fetched [.t 146,.t 147]),og 149 145 false (.un .not (.t 148)),o 150 (.pick (.t 145) (.c (.bool true)) (.t 149))]
(.cond (.t 150)
(Q [o 0 (.mv (.c (.bool false)))]
(.ret [0]))
.skip))
(Q [o 151 (.callF f_legatelaw28_ex []),o 17 (.new [ve,ve,.nils,(.bool false),.nils,vi 0,vi 0,vi 0,vi 0,vi 0] none),xs 10 17 151]
(.seq (.drawn [xa 152 0 17,xa 153 2 152,xf 154 153,o 155 (.idxAddrSl 2 (.t 154) (ci 0)),xa 156 1 155,xf 157 156,o 158 (.len 0 (.t 157)),xa 159 0 17,xa 160 2 159,xf 161 160,o 162 (.idxAddrSl 2 (.t 161) (ci 1)),xa 163 1 162,⟨(some 164),(.load false 1 (.t 163)),none,[16]⟩,⟨(some 165),(.len 0 (.t 164)),none,[16]⟩,xa 166 6 17,xa 167 3 166,xs 1 167 158,xa 168 6 17,xa 169 2 168,xs 1 169 165])
(Q [xl 171 10 17,o 172 (.callF f_legatelaw28_made [.t 171]),m 170 172,xe 173 170 0,xe 174 170 1,m 18 173,m 19 174]
(Q [m 176 18,o 177 (.callF f_repo_Repo_Targets [.t 176]),m 175 177,xe 178 175 0,xe 179 175 1,o 20 (.new [vi 0,vi 0,.nils,.nils,.nils,vi 0,.nils,vi 0,ve] none),xs 9 20 178,m 21 179]
(Q [xa 180 6 17,xa 181 2 180,xf 182 181,o 183 (.bin .sub 0 true (.t 182) (ci 1)),xa 184 6 17,xa 185 2 184,xs 1 185 183]
(Q [xl 187 10 17,o 188 (.callF f_legatelaw28_made [.t 187]),m 186 188,xe 189 186 0,xe 190 186 1,m 22 189,m 23 190]
(Q [m 192 22,o 193 (.callF f_repo_Repo_Targets [.t 192]),m 191 193,xe 194 191 0,xe 195 191 1,o 24 (.new [vi 0,vi 0,.nils,.nils,.nils,vi 0,.nils,vi 0,ve] none),xs 9 24 194,m 25 195]
(Q [xa 196 6 17,xa 197 3 196,xf 198 197,o 199 (.bin .sub 0 true (.t 198) (ci 1)),xa 200 6 17,xa 201 3 200,xs 1 201 199]
(Q [xl 203 10 17,o 204 (.callF f_legatelaw28_made [.t 203]),m 202 204,xe 205 202 0,xe 206 202 1,m 26 205,m 27 206]
(Q [m 208 26,o 209 (.callF f_repo_Repo_Targets [.t 208]),m 207 209,xe 210 207 0,xe 211 207 1,o 28 (.new [vi 0,vi 0,.nils,.nils,.nils,vi 0,.nils,vi 0,ve] none),xs 9 28 210,m 29 211]
(.seq (Q [m 212 19,o 213 (.bin .neq 0 true (.t 212) (ci 0)),m 214 213,og 215 214 false (.mv (.t 21)),og 216 214 false (.bin .neq 0 true (.t 215) (cu 0)),o 217 (.pick (.t 214) (.c (.bool true)) (.t 216)),m 218 217,og 219 218 false (.mv (.t 23)),og 220 218 false (.bin .neq 0 true (.t 219) (ci 0)),o 221 (.pick (.t 218) (.c (.bool true)) (.t 220)),m 222 221,og 223 222 false (.mv (.t 25)),og 224 222 false (.bin .neq 0 true (.t 223) (cu 3)),o 225 (.pick (.t 222) (.c (.bool true)) (.t 224)),m 226 225,og 227 226 false (.mv (.t 22)),og 228 226 false (.buildSl [ve] 2 1 [(0,1,(cs [115,110,97,112,115,104,111,116,46,106,115,111,110])),(1,1,(cs [116,97,114,103,101,116,115,46,106,115,111,110]))]),og 229 226 false (.callF f_legatelaw28_fetched [.t 227,.t 228]),og 230 226 false (.un .not (.t 229)),o 231 (.pick (.t 226) (.c (.bool true)) (.t 230)),m 232 231,og 233 232 false (.mv (.t 27)),og 234 232 false (.bin .neq 0 true (.t 233) (ci 0)),o 235 (.pick (.t 232) (.c (.bool true)) (.t 234)),m 236 235,og 237 236 false (.mv (.t 29)),og 238 236 false (.bin .neq 0 true (.t 237) (cu 3)),o 239 (.pick (.t 236) (.c (.bool true)) (.t 238)),m 240 239,og 241 240 false (.mv (.t 26)),og 242 240 false (.buildSl [ve] 1 1 [(0,1,(cs [115,110,97,112,115,104,111,116,46,106,115,111,110]))]),og 243 240 false (.callF f_legatelaw28_fetched [.t 241,.t 242]),og 244 240 false (.un .not (.t 243)),o 245 (.pick (.t 240) (.c (.bool true)) (.t 244))]
(.cond (.t 245)
(Q [o 0 (.mv (.c (.bool false)))]
(.ret [0]))
.skip))
(Q [o 246 (.callF f_legatelaw28_ex []),o 30 (.new [ve,ve,.nils,(.bool false),.nils,vi 0,vi 0,vi 0,vi 0,vi 0] none),xs 10 30 246]
(Q [xa 247 0 30,xa 248 2 247,u (.store 1 (.t 248) (.c .nils))]
(Q [xl 250 10 30,o 251 (.callF f_legatelaw28_made [.t 250]),m 249 251,xe 252 249 0,xe 253 249 1,m 31 252,m 32 253]
(Q [m 255 31,o 256 (.callF f_repo_Repo_Targets [.t 255]),m 254 256,xe 257 254 0,xe 258 254 1,o 33 (.new [vi 0,vi 0,.nils,.nils,.nils,vi 0,.nils,vi 0,ve] none),xs 9 33 257,m 34 258]
(Q [o 259 (.callF f_legatelaw28_ex []),o 35 (.new [ve,ve,.nils,(.bool false),.nils,vi 0,vi 0,vi 0,vi 0,vi 0] none),xs 10 35 259]
(Q [xl 261 10 35,o 262 (.callF f_legatelaw28_made [.t 261]),m 260 262,xe 263 260 0,xe 264 260 1,m 36 263,m 37 264]
(Q [o 266 (.callF f_legatelaw28_own []),m 265 266,xe 267 265 0,xe 268 265 1,o 38 (.new [ve,ve] none),o 39 (.new [vi 0,.nils] none),xs 2 38 267,xs 2 39 268]
(Q [m 270 36,xl 271 2 39,o 272 (.callF f_repo_Repo_Role [.t 270,cs [116,97,114,103,101,116,115],.t 271,(.c .nils)]),m 269 272,xe 273 269 0,xe 274 269 1,o 40 (.new [vi 0,vi 0,.nils,.nils,.nils,vi 0,.nils,vi 0,ve] none),xs 9 40 273,m 41 274]
(Q [o 42 (.mv (.c .nilp))]
(Q [o 275 (.build [.nilp,vi 0,vi 0,.nils,vi 0,.nils,vi 0,.nils,vi 0,.nils,.nilp,vi 0,vi 0,vi 0] []),o 276 (.box (.t 275)),m 43 276]
(Q [m 278 42,o 279 (.callF f_repo_Repo_Snapshot [.t 278]),m 277 279,xe 280 277 0,xe 281 277 1,o 44 (.new [vi 0,vi 0,.nils] none),xs 3 44 280,m 45 281]
(Q [m 283 43,o 284 (.callF f_repo_Repo_Targets [.t 283]),m 282 284,xe 285 282 0,xe 286 282 1,o 46 (.new [vi 0,vi 0,.nils,.nils,.nils,vi 0,.nils,vi 0,ve] none),xs 9 46 285,m 47 286]
(Q [m 287 32,o 288 (.bin .eql 0 true (.t 287) (ci 0)),m 289 288,og 290 289 true (.mv (.t 34)),og 291 289 true (.bin .eql 0 true (.t 290) (cu 2)),o 292 (.pick (.t 289) (.t 291) (.c (.bool false))),m 293 292,og 294 293 true (.mv (.t 37)),og 295 293 true (.bin .eql 0 true (.t 294) (ci 0)),o 296 (.pick (.t 293) (.t 295) (.c (.bool false))),m 297 296,og 298 297 true (.mv (.t 41)),og 299 297 true (.bin .eql 0 true (.t 298) (cu 8)),o 300 (.pick (.t 297) (.t 299) (.c (.bool false))),m 301 300,og 302 301 true (.mv (.t 45)),og 303 301 true (.bin .eql 0 true (.t 302) (cu 2)),o 304 (.pick (.t 301) (.t 303) (.c (.bool false))),m 305 304,og 306 305 true (.mv (.t 47)),og 307 305 true (.bin .eql 0 true (.t 306) (cu 2)),o 308 (.pick (.t 305) (.t 307) (.c (.bool false))),m 309 308,og 310 309 true (.mv (.t 42)),og 311 309 true (.callF f_repo_Repo_Name [.t 310]),og 312 309 true (.bin .eql 0 true (.t 311) (cs [])),o 313 (.pick (.t 309) (.t 312) (.c (.bool false))),m 314 313,og 315 314 true (.mv (.t 43)),og 316 314 true (.callF f_repo_Repo_Name [.t 315]),og 317 314 true (.bin .eql 0 true (.t 316) (cs [])),o 318 (.pick (.t 314) (.t 317) (.c (.bool false))),m 319 318,og 320 319 true (.mv (.t 42)),og 321 319 true (.callF f_repo_Repo_Expired [.t 320]),og 322 319 true (.un .not (.t 321)),o 323 (.pick (.t 319) (.t 322) (.c (.bool false))),m 324 323,og 325 324 true (.mv (.t 43)),og 326 324 true (.callF f_repo_Repo_Expired [.t 325]),og 327 324 true (.un .not (.t 326)),o 328 (.pick (.t 324) (.t 327) (.c (.bool false))),m 329 328,og 330 329 true (.mv (.t 42)),og 331 329 true (.callF f_repo_Repo_Fetched [.t 330]),og 332 329 true (.len 1 (.t 331)),og 333 329 true (.mv (.t 43)),og 334 329 true (.callF f_repo_Repo_Fetched [.t 333]),og 335 329 true (.len 1 (.t 334)),og 336 329 true (.bin .add 0 false (.t 332) (.t 335)),og 337 329 true (.bin .eql 0 true (.t 336) (ci 0)),o 338 (.pick (.t 329) (.t 337) (.c (.bool false))),m 339 338,og 340 339 true (.mv (.t 42)),og 341 339 true (.callF f_repo_Repo_Copy [.t 340]),og 342 339 true (.bin .eql 3 true (.t 341) (.c .nilp)),o 343 (.pick (.t 339) (.t 342) (.c (.bool false))),m 344 343,og 345 344 true (.mv (.t 42)),og 346 344 true (.callF f_repo_Repo_Root [.t 345]),og 347 344 true (.build [vi 0,vi 0,.nils,vi 0,.nils,vi 0,.nils,vi 0,.nils] []),og 348 344 true (.callF f_legateref22_Same [.t 346,.t 347]),o 349 (.pick (.t 344) (.t 348) (.c (.bool false))),m 350 349,og 351 350 true (.mv (.t 43)),og 352 350 true (.callF f_repo_Repo_Root [.t 351]),og 353 350 true (.build [vi 0,vi 0,.nils,vi 0,.nils,vi 0,.nils,vi 0,.nils] []),og 354 350 true (.callF f_legateref22_Same [.t 352,.t 353]),o 355 (.pick (.t 350) (.t 354) (.c (.bool false))),m 0 355]
(.ret [0])))))))))))))))))))))))))))))))))))))))))))⟩
/-! legate/legatelaw28.awake -/
def K_legatelaw28_awake : KF := ⟨0,122,[(.tmp 0)],(Q [o 0 (.mv (.c (.bool false)))]
(Q [o 18 (.callF f_legatelaw28_ex []),o 1 (.new [ve,ve,.nils,(.bool false),.nils,vi 0,vi 0,vi 0,vi 0,vi 0] none),xs 10 1 18]
(Q [xl 20 10 1,o 21 (.callF f_legatelaw28_made [.t 20]),m 19 21,xe 22 19 0,xe 23 19 1,m 2 22,m 3 23]
(.seq (Q [m 24 3,o 25 (.bin .neq 0 true (.t 24) (ci 0)),m 26 25,og 27 26 false (.mv (.t 2)),og 28 26 false (.callF f_repo_Repo_Name [.t 27]),og 29 26 false (.bin .neq 0 true (.t 28) (cs [114])),o 30 (.pick (.t 26) (.c (.bool true)) (.t 29)),m 31 30,og 32 31 false (.mv (.t 2)),og 33 31 false (.callF f_repo_Repo_Expired [.t 32]),o 34 (.pick (.t 31) (.c (.bool true)) (.t 33)),m 35 34,og 36 35 false (.mv (.t 2)),og 37 35 false (.callF f_legatelaw28_fetched [.t 36,(.c .nils)]),og 38 35 false (.un .not (.t 37)),o 39 (.pick (.t 35) (.c (.bool true)) (.t 38))]
(.cond (.t 39)
(Q [o 0 (.mv (.c (.bool false)))]
(.ret [0]))
.skip))
(Q [o 41 (.callF f_legatelaw28_own []),m 40 41,xe 42 40 0,xe 43 40 1,o 4 (.new [ve,ve] none),o 5 (.new [vi 0,.nils] none),xs 2 4 42,xs 2 5 43]
(Q [m 45 2,o 46 (.callF f_repo_Repo_Targets [.t 45]),m 44 46,xe 47 44 0,xe 48 44 1,o 6 (.new [vi 0,vi 0,.nils,.nils,.nils,vi 0,.nils,vi 0,ve] none),xs 9 6 47,m 7 48]
(Q [m 50 2,xl 51 2 5,o 52 (.callF f_repo_Repo_Role [.t 50,cs [97],.t 51,(.c .nils)]),m 49 52,xe 53 49 0,xe 54 49 1,o 8 (.new [vi 0,vi 0,.nils,.nils,.nils,vi 0,.nils,vi 0,ve] none),xs 9 8 53,m 9 54]
(Q [m 56 2,o 57 (.callF f_repo_Repo_Snapshot [.t 56]),m 55 57,xe 58 55 0,xe 59 55 1,o 10 (.new [vi 0,vi 0,.nils] none),xs 3 10 58,m 11 59]
(Q [xa 60 6 1,xa 61 3 60,u (.store 1 (.t 61) (ci 10))]
(Q [xl 63 10 1,o 64 (.callF f_legatelaw28_made [.t 63]),m 62 64,xe 65 62 0,xe 66 62 1,m 12 65,m 13 66]
(Q [m 68 12,o 69 (.callF f_repo_Repo_Snapshot [.t 68]),m 67 69,xe 70 67 0,xe 71 67 1,o 14 (.new [vi 0,vi 0,.nils] none),xs 3 14 70,m 15 71]
(Q [m 73 12,o 74 (.callF f_repo_Repo_Targets [.t 73]),m 72 74,xe 75 72 0,xe 76 72 1,o 16 (.new [vi 0,vi 0,.nils,.nils,.nils,vi 0,.nils,vi 0,ve] none),xs 9 16 75,m 17 76]
(Q [m 77 7,o 78 (.bin .eql 0 true (.t 77) (cu 0)),m 79 78,og 80 79 true (.fieldAddr 0 (.t 6)),og 81 79 true (.load false 1 (.t 80)),og 82 79 true (.bin .eql 0 true (.t 81) (ci 1)),o 83 (.pick (.t 79) (.t 82) (.c (.bool false))),m 84 83,og 85 84 true (.mv (.t 9)),og 86 84 true (.bin .eql 0 true (.t 85) (cu 1)),o 87 (.pick (.t 84) (.t 86) (.c (.bool false))),m 88 87,og 89 88 true (.mv (.t 11)),og 90 88 true (.bin .eql 0 true (.t 89) (cu 0)),o 91 (.pick (.t 88) (.t 90) (.c (.bool false))),m 92 91,og 93 92 true (.fieldAddr 2 (.t 10)),og 94 92 true (.load false 1 (.t 93)),og 95 92 true (.len 1 (.t 94)),og 96 92 true (.bin .eql 0 true (.t 95) (ci 1)),o 97 (.pick (.t 92) (.t 96) (.c (.bool false))),m 98 97,og 99 98 true (.mv (.t 2)),og 100 98 true (.buildSl [ve] 2 1 [(0,1,(cs [115,110,97,112,115,104,111,116,46,106,115,111,110])),(1,1,(cs [116,97,114,103,101,116,115,46,106,115,111,110]))]),og 101 98 true (.callF f_legatelaw28_fetched [.t 99,.t 100]),o 102 (.pick (.t 98) (.t 101) (.c (.bool false))),m 103 102,og 104 103 true (.mv (.t 13)),og 105 103 true (.bin .eql 0 true (.t 104) (ci 0)),o 106 (.pick (.t 103) (.t 105) (.c (.bool false))),m 107 106,og 108 107 true (.mv (.t 15)),og 109 107 true (.bin .eql 0 true (.t 108) (cu 3)),o 110 (.pick (.t 107) (.t 109) (.c (.bool false))),m 111 110,og 112 111 true (.mv (.t 17)),og 113 111 true (.bin .eql 0 true (.t 112) (cu 3)),o 114 (.pick (.t 111) (.t 113) (.c (.bool false))),m 115 114,og 116 115 true (.mv (.t 12)),og 117 115 true (.callF f_repo_Repo_Fetched [.t 116]),og 118 115 true (.build [ve,ve,vi 0,vi 0] [(0,1,(cs [114])),(1,1,(cs [115,110,97,112,115,104,111,116,46,106,115,111,110])),(2,1,(ci 10)),(3,1,(ci (-2)))]),og 119 115 true (.buildSl [ve,ve,vi 0,vi 0] 1 4 [(0,4,(.t 118))]),og 120 115 true (.callF f_legateref26_Same [.t 117,.t 119]),o 121 (.pick (.t 115) (.t 120) (.c (.bool false))),m 0 121]
(.ret [0]))))))))))))))⟩
/-! legate/legatelaw28.ex -/
def K_legatelaw28_ex : KF := ⟨0,47,[(.cell 0 true 10)],(Q [o 0 (.new [ve,ve,.nils,(.bool false),.nils,vi 0,vi 0,vi 0,vi 0,vi 0] none)]
(Q [o 10 (.callF f_legatelaw28_own []),m 9 10,xe 11 9 0,xe 12 9 1,o 1 (.new [ve,ve] none),o 2 (.new [vi 0,.nils] none),xs 2 1 11,xs 2 2 12]
(Q [xl 14 2 1,o 15 (.buildSl [ve,ve] 1 2 [(0,2,(.t 14))]),xl 16 2 2,xl 17 2 2,xl 18 2 2,o 19 (.build [vi 0,vi 0,.nils,vi 0,.nils,vi 0,.nils,vi 0,.nils] [(0,1,(ci 1)),(1,1,(ci 100)),(2,1,(.t 15)),(3,2,(.t 16)),(5,2,(.t 17)),(7,2,(.t 18))]),o 20 (.callF f_root_Value [.t 19]),m 13 20,xe 21 13 0,xe 22 13 1,o 3 (.new [vu 0,vi 0,ve,.nils,.nils] none),xs 5 3 21,m 4 22]
(Q [o 24 (.build [ve,vi 0,vi 0,.nils] [(0,1,(cs [116,97,114,103,101,116,115,46,106,115,111,110])),(1,1,(ci 1)),(2,1,(ci (-1)))]),o 25 (.buildSl [ve,vi 0,vi 0,.nils] 1 4 [(0,4,(.t 24))]),o 26 (.build [vi 0,vi 0,.nils] [(0,1,(ci 1)),(1,1,(ci 100)),(2,1,(.t 25))]),o 27 (.callF f_snap_Value [.t 26]),m 23 27,xe 28 23 0,xe 29 23 1,o 5 (.new [vu 0,vi 0,ve,.nils,.nils] none),xs 5 5 28,m 6 29]
(Q [o 31 (.build [vi 0,vi 0,.nils,.nils,.nils,vi 0,.nils,vi 0,ve] [(0,1,(ci 1)),(1,1,(ci 100))]),o 32 (.callF f_targ_Value [.t 31]),m 30 32,xe 33 30 0,xe 34 30 1,o 7 (.new [vu 0,vi 0,ve,.nils,.nils] none),xs 5 7 33,m 8 34]
(.seq (.drawn [xl 35 5 3,o 36 (.callF f_legatelaw28_text [.t 35]),⟨(some 37),(.load true 5 (.t 5)),none,[1]⟩,o 38 (.callF f_legatelaw28_text [.t 37]),o 39 (.build [ve,ve] [(0,1,(cs [115,110,97,112,115,104,111,116,46,106,115,111,110])),(1,1,(.t 38))]),⟨(some 40),(.load true 5 (.t 7)),none,[1,3]⟩,o 41 (.callF f_legatelaw28_text [.t 40]),o 42 (.build [ve,ve] [(0,1,(cs [116,97,114,103,101,116,115,46,106,115,111,110])),(1,1,(.t 41))]),o 43 (.buildSl [ve,ve] 2 2 [(0,2,(.t 39)),(2,2,(.t 42))]),o 44 (.build [ve,ve,.nils] [(0,1,(cs [114])),(1,1,(.t 36)),(2,1,(.t 43))]),o 45 (.build [vi 0,vi 0,vi 0,vi 0] [(2,1,(ci 5000)),(3,1,(ci 6000))]),o 46 (.build [ve,ve,.nils,(.bool false),.nils,vi 0,vi 0,vi 0,vi 0,vi 0] [(0,3,(.t 44)),(3,1,(.c (.bool true))),(5,1,(ci 99)),(6,4,(.t 45))]),xs 10 0 46])
(.ret [0])))))))⟩
/-! legate/legatelaw28.made -/
def L_legatelaw28_made_0 : KC :=
(.seq (Q [m 27 7,xa 28 2 4,xf 29 28,o 30 (.len 1 (.t 29)),o 31 (.bin .lss 0 false (.t 27) (.t 30))]
(.cond (.t 31)
.skip
(.exit [5,6] 0)))
(.seq (.block 1
(.ops [xa 34 2 4,xf 35 34,m 36 7,o 37 (.build [ve,ve] [(0,1,(cs [115,112,111,105,108,116])),(1,1,(cs [115,112,111,105,108,116]))]),o 38 (.idxAddrSl 2 (.t 35) (.t 36)),xs 2 38 37]))
(.ops [m 32 7,o 33 (.bin .add 0 true (.t 32) (ci 1)),m 7 33])))
def K_legatelaw28_made : KF := ⟨1,41,[(.tmp 2),(.tmp 3)],(Q [o 1 (.box (.t 0)),o 2 (.mv (.c .nilp)),o 3 (.mv (ci 0))]
(Q [xa 8 0 1,xl 9 3 8,o 4 (.new [ve,ve,.nils] none),xs 3 4 9]
(Q [o 10 (.buildSl [ve,ve] 0 2 []),xa 11 0 1,xa 12 2 11,xf 13 12,o 14 (.app false 2 32 none (.t 10) (.t 13)),xa 15 2 4,xs 1 15 14]
(.seq (.drawn [⟨(some 17),(.load true 3 (.t 4)),none,[2]⟩,xl 18 10 1,o 19 (.callF f_legatelaw28_verifier [.t 18]),xa 20 5 1,⟨(some 21),(.load false 1 (.t 20)),none,[2]⟩,xa 22 6 1,⟨(some 23),(.load true 4 (.t 22)),none,[2]⟩,o 24 (.callF f_repo_New [.t 17,.t 19,.t 21,.t 23]),m 16 24,xe 25 16 0,xe 26 16 1,m 5 25,m 6 26])
(.seq (Q [o 7 (.mv (ci 0))]
(.block 0
(.loop [4,5,6,7] L_legatelaw28_made_0)))
(Q [m 39 5,m 40 6,m 2 39,m 3 40]
(.ret [2,3])))))))⟩
/-! (*legate/repo.Repo).Targets -/
def K_repo_Repo_Targets : KF := ⟨1,22,[(.cell 2 true 9),(.tmp 3)],(Q [o 2 (.new [vi 0,vi 0,.nils,.nils,.nils,vi 0,.nils,vi 0,ve] none),o 3 (.mv (cu 0))]
(.seq (Q [m 4 0,o 5 (.callF f_repo_Repo_made [.t 4]),o 6 (.un .not (.t 5))]
(.cond (.t 6)
(Q [o 7 (.build [vi 0,vi 0,.nils,.nils,.nils,vi 0,.nils,vi 0,ve] []),xs 9 2 7,o 3 (.mv (cu 2))]
(.ret [2,3]))
.skip))
(.seq (.plain [m 8 0,m 9 0,o 10 (.nilck (.t 9)),xa 11 1 10,xa 12 7 11,xl 13 2 12,m 14 0,o 15 (.nilck (.t 14)),xa 16 1 15,xa 17 2 16,xf 18 17,o 19 (.callF f_repo_Repo_Role [.t 8,cs [116,97,114,103,101,116,115],.t 13,.t 18]),xe 20 19 0,xe 21 19 1,xs 9 2 20,m 3 21])
(.ret [2,3]))))⟩
/-! (*legate/repo.Repo).Expired -/
def K_repo_Repo_Expired : KF := ⟨1,17,[(.tmp 2)],(Q [o 2 (.mv (.c (.bool false)))]
(.seq (.plain [m 3 0,o 4 (.callF f_repo_Repo_made [.t 3]),m 5 4,og 6 5 true (.mv (.t 0)),og 7 5 true (.nilck (.t 6)),og 8 5 true (.fieldAddr 11 (.t 7)),og 9 5 true (.load false 1 (.t 8)),og 10 5 true (.mv (.t 0)),og 11 5 true (.nilck (.t 10)),og 12 5 true (.fieldAddr 1 (.t 11)),og 13 5 true (.fieldAddr 1 (.t 12)),og 14 5 true (.load false 1 (.t 13)),og 15 5 true (.bin .geq 0 false (.t 9) (.t 14)),o 16 (.pick (.t 5) (.t 15) (.c (.bool false))),m 2 16])
(.ret [2])))⟩
/-! legate/legatelaw28.fetched -/
def L_legatelaw28_fetched_0 : KC :=
(.seq (Q [m 14 6,m 15 1,o 16 (.len 1 (.t 15)),o 17 (.bin .lss 0 false (.t 14) (.t 16))]
(.cond (.t 17)
.skip
(.exit [] 0)))
(.seq (.block 1
(.seq (.plain [m 20 5,m 21 6,o 22 (.idxAddrSl 4 (.t 20) (.t 21)),xa 23 1 22,xf 24 23,m 25 1,m 26 6,o 27 (.idxAddrSl 1 (.t 25) (.t 26)),xf 28 27,o 29 (.bin .neq 0 false (.t 24) (.t 28)),m 30 29,og 31 30 false (.mv (.t 5)),og 32 30 false (.mv (.t 6)),og 33 30 false (.idxAddrSl 4 (.t 31) (.t 32)),og 34 30 false (.fieldAddr 0 (.t 33)),og 35 30 false (.load false 1 (.t 34)),og 36 30 false (.bin .neq 0 true (.t 35) (cs [114])),o 37 (.pick (.t 30) (.c (.bool true)) (.t 36))])
(.cond (.t 37)
(Q [o 4 (.mv (.c (.bool false)))]
(.ret [4]))
.skip)))
(.ops [m 18 6,o 19 (.bin .add 0 true (.t 18) (ci 1)),m 6 19])))
def K_legatelaw28_fetched : KF := ⟨2,38,[(.tmp 4)],(Q [o 4 (.mv (.c (.bool false)))]
(Q [m 7 0,o 8 (.callF f_repo_Repo_Fetched [.t 7]),m 5 8]
(.seq (Q [m 9 5,o 10 (.len 1 (.t 9)),m 11 1,o 12 (.len 1 (.t 11)),o 13 (.bin .neq 0 false (.t 10) (.t 12))]
(.cond (.t 13)
(Q [o 4 (.mv (.c (.bool false)))]
(.ret [4]))
.skip))
(.seq (Q [o 6 (.mv (ci 0))]
(.block 0
(.loop [1,5,6] L_legatelaw28_fetched_0)))
(Q [o 4 (.mv (.c (.bool true)))]
(.ret [4]))))))⟩
/-! legate/legatelaw28.own -/
def K_legatelaw28_own : KF := ⟨0,15,[(.cell 0 true 2),(.cell 1 true 2)],(Q [o 0 (.new [ve,ve] none),o 1 (.new [vi 0,.nils] none)]
(Q [o 5 (.build [ve,ve] [(0,1,(cs [104,109,97,99,45,115,104,97,50,53,54])),(1,1,(cs [48,48]))]),o 2 (.new [ve,ve] none),xs 2 2 5]
(Q [xl 7 2 2,o 8 (.callF f_key_ID [.t 7]),m 6 8,xe 9 6 0,xe 10 6 1,m 3 9,m 4 10]
(Q [xl 11 2 2,m 12 3,o 13 (.buildSl [ve] 1 1 [(0,1,(.t 12))]),o 14 (.build [vi 0,.nils] [(0,1,(ci 1)),(1,1,(.t 13))]),xs 2 0 11,xs 2 1 14]
(.ret [0,1])))))⟩
/-! (*legate/repo.Repo).Name -/
def K_repo_Repo_Name : KF := ⟨1,11,[(.tmp 2)],(Q [o 2 (.mv (cs []))]
(.seq (Q [m 3 0,o 4 (.callF f_repo_Repo_made [.t 3]),o 5 (.un .not (.t 4))]
(.cond (.t 5)
(Q [o 2 (.mv (cs []))]
(.ret [2]))
.skip))
(Q [m 6 0,o 7 (.nilck (.t 6)),xa 8 0 7,xf 9 8,o 10 (.callF f_store_Store_Repo [.t 9]),m 2 10]
(.ret [2]))))⟩
/-! (*legate/repo.Repo).Fetched -/
def K_repo_Repo_Fetched : KF := ⟨1,11,[(.tmp 2)],(Q [o 2 (.mv (.c .nils))]
(.seq (Q [m 3 0,o 4 (.callF f_repo_Repo_made [.t 3]),o 5 (.un .not (.t 4))]
(.cond (.t 5)
(Q [o 2 (.mv (.c .nils))]
(.ret [2]))
.skip))
(Q [m 6 0,o 7 (.nilck (.t 6)),xa 8 0 7,xf 9 8,o 10 (.callF f_store_Store_Fetched [.t 9]),m 2 10]
(.ret [2]))))⟩
/-! (*legate/repo.Repo).Copy -/
def K_repo_Repo_Copy : KF := ⟨1,15,[(.tmp 2)],(Q [o 2 (.mv (.c .nilp))]
(.seq (Q [m 4 0,o 5 (.bin .eql 3 true (.t 4) (.c .nilp))]
(.cond (.t 5)
(Q [o 2 (.mv (.c .nilp))]
(.ret [2]))
.skip))
(Q [m 6 0,o 7 (.nilck (.t 6)),xl 8 14 7,o 3 (.new [.nilp,vi 0,vi 0,.nils,vi 0,.nils,vi 0,.nils,vi 0,.nils,.nilp,vi 0,vi 0,vi 0] none),xs 14 3 8]
(Q [m 9 0,o 10 (.nilck (.t 9)),xa 11 0 10,xf 12 11,o 13 (.callF f_store_Store_Copy [.t 12]),xa 14 0 3,xs 1 14 13]
(Q [m 2 3]
(.ret [2]))))))⟩
/-! legate/legateref22.Same -/
def K_legateref22_Same : KF := ⟨2,45,[(.tmp 4)],(Q [o 2 (.box (.t 0)),o 3 (.box (.t 1)),o 4 (.mv (.c (.bool false)))]
(Q [xa 5 0 2,xf 6 5,xa 7 0 3,xf 8 7,o 9 (.bin .eql 0 false (.t 6) (.t 8)),m 10 9,og 11 10 true (.fieldAddr 1 (.t 2)),og 12 10 true (.load false 1 (.t 11)),og 13 10 true (.fieldAddr 1 (.t 3)),og 14 10 true (.load false 1 (.t 13)),og 15 10 true (.bin .eql 0 false (.t 12) (.t 14)),o 16 (.pick (.t 10) (.t 15) (.c (.bool false))),m 17 16,og 18 17 true (.fieldAddr 2 (.t 2)),og 19 17 true (.load false 1 (.t 18)),og 20 17 true (.fieldAddr 2 (.t 3)),og 21 17 true (.load false 1 (.t 20)),og 22 17 true (.callF f_legateref14_Same [.t 19,.t 21]),o 23 (.pick (.t 17) (.t 22) (.c (.bool false))),m 24 23,og 25 24 true (.fieldAddr 3 (.t 2)),og 26 24 true (.load true 2 (.t 25)),og 27 24 true (.fieldAddr 3 (.t 3)),og 28 24 true (.load true 2 (.t 27)),og 29 24 true (.callF f_legateref15_Same [.t 26,.t 28]),o 30 (.pick (.t 24) (.t 29) (.c (.bool false))),m 31 30,og 32 31 true (.fieldAddr 5 (.t 2)),og 33 31 true (.load true 2 (.t 32)),og 34 31 true (.fieldAddr 5 (.t 3)),og 35 31 true (.load true 2 (.t 34)),og 36 31 true (.callF f_legateref15_Same [.t 33,.t 35]),o 37 (.pick (.t 31) (.t 36) (.c (.bool false))),m 38 37,og 39 38 true (.fieldAddr 7 (.t 2)),og 40 38 true (.load true 2 (.t 39)),og 41 38 true (.fieldAddr 7 (.t 3)),og 42 38 true (.load true 2 (.t 41)),og 43 38 true (.callF f_legateref15_Same [.t 40,.t 42]),o 44 (.pick (.t 38) (.t 43) (.c (.bool false))),m 4 44]
(.ret [4])))⟩
/-! (*legate/repo.Repo).Root -/
def K_repo_Repo_Root : KF := ⟨1,29,[(.cell 2 true 9)],(Q [o 2 (.new [vi 0,vi 0,.nils,vi 0,.nils,vi 0,.nils,vi 0,.nils] none)]
(.seq (Q [m 4 0,o 5 (.callF f_repo_Repo_made [.t 4]),o 6 (.un .not (.t 5))]
(.cond (.t 6)
(Q [o 7 (.build [vi 0,vi 0,.nils,vi 0,.nils,vi 0,.nils,vi 0,.nils] []),xs 9 2 7]
(.ret [2]))
.skip))
(Q [m 8 0,o 9 (.nilck (.t 8)),xa 10 1 9,xl 11 9 10,o 3 (.new [vi 0,vi 0,.nils,vi 0,.nils,vi 0,.nils,vi 0,.nils] none),xs 9 3 11]
(Q [xa 12 2 3,xf 13 12,o 14 (.callF f_slices_Clone_api_Key_api_Key [.t 13]),xa 15 2 3,xs 1 15 14]
(Q [xa 16 3 3,xl 17 2 16,o 18 (.callF f_repo_copyAuth [.t 17]),xa 19 3 3,xs 2 19 18]
(Q [xa 20 5 3,xl 21 2 20,o 22 (.callF f_repo_copyAuth [.t 21]),xa 23 5 3,xs 2 23 22]
(Q [xa 24 7 3,xl 25 2 24,o 26 (.callF f_repo_copyAuth [.t 25]),xa 27 7 3,xs 2 27 26]
(Q [xl 28 9 3,xs 9 2 28]
(.ret [2])))))))))⟩
/-! legate/legateref26.Same -/
def L_legateref26_Same_0 : KC :=
(.seq (Q [m 11 5,m 12 0,o 13 (.len 1 (.t 12)),o 14 (.bin .lss 0 false (.t 11) (.t 13))]
(.cond (.t 14)
.skip
(.exit [] 0)))
(.seq (.block 1
(.seq (.plain [m 17 0,m 18 5,o 19 (.idxAddrSl 4 (.t 17) (.t 18)),xl 20 4 19,m 21 1,m 22 5,o 23 (.idxAddrSl 4 (.t 21) (.t 22)),xl 24 4 23,o 25 (.bin .neq 73740 false (.t 20) (.t 24))])
(.cond (.t 25)
(Q [o 4 (.mv (.c (.bool false)))]
(.ret [4]))
.skip)))
(.ops [m 15 5,o 16 (.bin .add 0 true (.t 15) (ci 1)),m 5 16])))
def K_legateref26_Same : KF := ⟨2,26,[(.tmp 4)],(Q [o 4 (.mv (.c (.bool false)))]
(.seq (Q [m 6 0,o 7 (.len 1 (.t 6)),m 8 1,o 9 (.len 1 (.t 8)),o 10 (.bin .neq 0 false (.t 7) (.t 9))]
(.cond (.t 10)
(Q [o 4 (.mv (.c (.bool false)))]
(.ret [4]))
.skip))
(.seq (Q [o 5 (.mv (ci 0))]
(.block 0
(.loop [0,1,5] L_legateref26_Same_0)))
(Q [o 4 (.mv (.c (.bool true)))]
(.ret [4])))))⟩
/-! legate/root.Value -/
def L_root_Value_0 : KC :=
(Q [o 38 (.bin .lss 0 true (.t 37) (ci 3))]
(.seq (.cond (.t 38)
.skip
(.exit [1,2,4,6,7] 0))
(.seq (.block 1
(Q [m 39 37,o 40 (.idxArr 3 true 2 (.t 36) (.t 37)),o 9 (.new [vi 0,.nils] none),m 8 39,xs 2 9 40]
(Q [xl 42 2 9,o 43 (.callF f_auth_Value [.t 42]),m 41 43,xe 44 41 0,xe 45 41 1,o 10 (.new [vu 0,vi 0,ve,.nils,.nils] none),xs 5 10 44,m 11 45]
(.seq (Q [m 46 11,o 47 (.bin .neq 0 true (.t 46) (ci 0))]
(.cond (.t 47)
(Q [o 48 (.build [vu 0,vi 0,ve,.nils,.nils] []),xs 5 2 48,o 3 (.mv (ci 3))]
(.ret [2,3]))
.skip))
(.plain [m 49 7,m 50 8,o 51 (.idxAddrArr 3 1 (.g g_root_tops) (.t 50)),xf 52 51,xl 53 5 10,o 54 (.build [ve,vu 0,vi 0,ve,.nils,.nils] [(0,1,(.t 52)),(1,5,(.t 53))]),o 55 (.buildSl [ve,vu 0,vi 0,ve,.nils,.nils] 1 6 [(0,6,(.t 54))]),o 56 (.app false 6 96 none (.t 49) (.t 55)),m 7 56])))))
(.ops [o 57 (.bin .add 0 true (.t 37) (ci 1)),m 37 57]))))
def K_root_Value : KF := ⟨1,83,[(.cell 2 true 5),(.tmp 3)],(Q [o 1 (.box (.t 0)),o 2 (.new [vu 0,vi 0,ve,.nils,.nils] none),o 3 (.mv (ci 0))]
(.seq (Q [xl 13 9 1,o 14 (.callF f_root_May [.t 13]),o 15 (.un .not (.t 14))]
(.cond (.t 15)
(Q [o 16 (.build [vu 0,vi 0,ve,.nils,.nils] []),xs 5 2 16,o 3 (.mv (ci 3))]
(.ret [2,3]))
.skip))
(Q [xa 18 1 1,xf 19 18,o 20 (.callF f_when_Show [.t 19]),m 17 20,xe 21 17 0,xe 22 17 1,m 4 21,m 5 22]
(.seq (Q [m 23 5,o 24 (.bin .neq 0 true (.t 23) (ci 0))]
(.cond (.t 24)
(Q [o 25 (.build [vu 0,vi 0,ve,.nils,.nils] []),xs 5 2 25,o 3 (.mv (ci 3))]
(.ret [2,3]))
.skip))
(Q [xa 27 2 1,xf 28 27,o 29 (.callF f_key_Table [.t 28]),m 26 29,xe 30 26 0,xe 31 26 1,o 6 (.new [vu 0,vi 0,ve,.nils,.nils] none),xs 5 6 30,m 5 31]
(.seq (Q [m 32 5,o 33 (.bin .neq 0 true (.t 32) (ci 0))]
(.cond (.t 33)
(Q [o 34 (.build [vu 0,vi 0,ve,.nils,.nils] []),xs 5 2 34,o 3 (.mv (ci 3))]
(.ret [2,3]))
.skip))
(Q [o 7 (.mv (.c .nils))]
(.seq (Q [xl 35 9 1,o 36 (.callF f_root_auths [.t 35]),o 37 (.mv (ci 0))]
(.block 0
(.loop [1,2,4,6,7,36,37] L_root_Value_0)))
(Q [m 59 7,o 60 (.callF f_pick_ObjectOf [.t 59]),m 58 60,xe 61 58 0,xe 62 58 1,o 12 (.new [vu 0,vi 0,ve,.nils,.nils] none),xs 5 12 61,m 5 62]
(.seq (Q [m 63 5,o 64 (.bin .neq 0 true (.t 63) (ci 0))]
(.cond (.t 64)
(Q [o 65 (.build [vu 0,vi 0,ve,.nils,.nils] []),xs 5 2 65,o 3 (.mv (ci 3))]
(.ret [2,3]))
.skip))
(.seq (.drawn [o 66 (.callF f_pick_TextOf [cs [114,111,111,116]]),o 67 (.build [ve,vu 0,vi 0,ve,.nils,.nils] [(0,1,(cs [95,116,121,112,101])),(1,5,(.t 66))]),xa 68 0 1,⟨(some 69),(.load false 1 (.t 68)),none,[0]⟩,o 70 (.callF f_pick_NumOf [.t 69]),o 71 (.build [ve,vu 0,vi 0,ve,.nils,.nils] [(0,1,(cs [118,101,114,115,105,111,110])),(1,5,(.t 70))]),m 72 4,o 73 (.callF f_pick_TextOf [.t 72]),o 74 (.build [ve,vu 0,vi 0,ve,.nils,.nils] [(0,1,(cs [101,120,112,105,114,101,115])),(1,5,(.t 73))]),⟨(some 75),(.load true 5 (.t 6)),none,[0,4,7]⟩,o 76 (.build [ve,vu 0,vi 0,ve,.nils,.nils] [(0,1,(cs [107,101,121,115])),(1,5,(.t 75))]),⟨(some 77),(.load true 5 (.t 12)),none,[0,4,7]⟩,o 78 (.build [ve,vu 0,vi 0,ve,.nils,.nils] [(0,1,(cs [114,111,108,101,115])),(1,5,(.t 77))]),o 79 (.buildSl [ve,vu 0,vi 0,ve,.nils,.nils] 5 6 [(0,6,(.t 67)),(6,6,(.t 71)),(12,6,(.t 74)),(18,6,(.t 76)),(24,6,(.t 78))]),o 80 (.callF f_pick_ObjectOf [.t 79]),xe 81 80 0,xe 82 80 1,xs 5 2 81,m 3 82])
(.ret [2,3]))))))))))))⟩
/-! legate/snap.Value -/
def L_snap_Value_0 : KC :=
(Q [o 33 (.bin .lss 0 false (.t 32) (.t 31))]
(.seq (.cond (.t 33)
.skip
(.exit [1,2,4,6] 0))
(.seq (.block 1
(Q [o 34 (.idxAddrSl 4 (.t 30) (.t 32)),xl 35 4 34,o 8 (.new [ve,vi 0,vi 0,.nils] none),xs 4 8 35]
(Q [xl 37 4 8,o 38 (.callF f_snap_PinValue [.t 37]),m 36 38,xe 39 36 0,xe 40 36 1,o 9 (.new [vu 0,vi 0,ve,.nils,.nils] none),xs 5 9 39,m 10 40]
(.seq (Q [m 41 10,o 42 (.bin .neq 0 true (.t 41) (ci 0))]
(.cond (.t 42)
(Q [o 43 (.build [vu 0,vi 0,ve,.nils,.nils] []),xs 5 2 43,o 3 (.mv (ci 3))]
(.ret [2,3]))
.skip))
(.ops [m 44 6,xa 45 0 8,xf 46 45,xl 47 5 9,o 48 (.build [ve,vu 0,vi 0,ve,.nils,.nils] [(0,1,(.t 46)),(1,5,(.t 47))]),o 49 (.buildSl [ve,vu 0,vi 0,ve,.nils,.nils] 1 6 [(0,6,(.t 48))]),o 50 (.app false 6 96 none (.t 44) (.t 49)),m 6 50])))))
(.ops [o 51 (.bin .add 0 true (.t 32) (ci 1)),m 32 51]))))
def K_snap_Value : KF := ⟨1,75,[(.cell 2 true 5),(.tmp 3)],(Q [o 1 (.box (.t 0)),o 2 (.new [vu 0,vi 0,ve,.nils,.nils] none),o 3 (.mv (ci 0))]
(.seq (Q [xl 12 3 1,o 13 (.callF f_snap_May [.t 12]),o 14 (.un .not (.t 13))]
(.cond (.t 14)
(Q [o 15 (.build [vu 0,vi 0,ve,.nils,.nils] []),xs 5 2 15,o 3 (.mv (ci 3))]
(.ret [2,3]))
.skip))
(Q [xa 17 1 1,xf 18 17,o 19 (.callF f_when_Show [.t 18]),m 16 19,xe 20 16 0,xe 21 16 1,m 4 20,m 5 21]
(.seq (Q [m 22 5,o 23 (.bin .neq 0 true (.t 22) (ci 0))]
(.cond (.t 23)
(Q [o 24 (.build [vu 0,vi 0,ve,.nils,.nils] []),xs 5 2 24,o 3 (.mv (ci 3))]
(.ret [2,3]))
.skip))
(Q [xa 25 2 1,xf 26 25,o 27 (.len 1 (.t 26)),o 28 (.mkSlice [ve,vu 0,vi 0,ve,.nils,.nils] 6 96 (ci 0) (.t 27)),m 6 28]
(.seq (Q [xa 29 2 1,xf 30 29,o 31 (.len 1 (.t 30)),o 32 (.mv (ci 0))]
(.block 0
(.loop [1,2,4,6,30,31,32] L_snap_Value_0)))
(Q [m 53 6,o 54 (.callF f_pick_ObjectOf [.t 53]),m 52 54,xe 55 52 0,xe 56 52 1,o 11 (.new [vu 0,vi 0,ve,.nils,.nils] none),xs 5 11 55,m 5 56]
(.seq (Q [m 57 5,o 58 (.bin .neq 0 true (.t 57) (ci 0))]
(.cond (.t 58)
(Q [o 59 (.build [vu 0,vi 0,ve,.nils,.nils] []),xs 5 2 59,o 3 (.mv (ci 3))]
(.ret [2,3]))
.skip))
(.seq (.drawn [o 60 (.callF f_pick_TextOf [cs [115,110,97,112,115,104,111,116]]),o 61 (.build [ve,vu 0,vi 0,ve,.nils,.nils] [(0,1,(cs [95,116,121,112,101])),(1,5,(.t 60))]),xa 62 0 1,⟨(some 63),(.load false 1 (.t 62)),none,[0]⟩,o 64 (.callF f_pick_NumOf [.t 63]),o 65 (.build [ve,vu 0,vi 0,ve,.nils,.nils] [(0,1,(cs [118,101,114,115,105,111,110])),(1,5,(.t 64))]),m 66 4,o 67 (.callF f_pick_TextOf [.t 66]),o 68 (.build [ve,vu 0,vi 0,ve,.nils,.nils] [(0,1,(cs [101,120,112,105,114,101,115])),(1,5,(.t 67))]),⟨(some 69),(.load true 5 (.t 11)),none,[0,4,7]⟩,o 70 (.build [ve,vu 0,vi 0,ve,.nils,.nils] [(0,1,(cs [109,101,116,97])),(1,5,(.t 69))]),o 71 (.buildSl [ve,vu 0,vi 0,ve,.nils,.nils] 4 6 [(0,6,(.t 61)),(6,6,(.t 65)),(12,6,(.t 68)),(18,6,(.t 70))]),o 72 (.callF f_pick_ObjectOf [.t 71]),xe 73 72 0,xe 74 72 1,xs 5 2 73,m 3 74])
(.ret [2,3]))))))))))⟩
/-! legate/targ.Value -/
def K_targ_Value : KF := ⟨1,19,[(.cell 2 true 5),(.tmp 3)],(Q [o 1 (.box (.t 0)),o 2 (.new [vu 0,vi 0,ve,.nils,.nils] none),o 3 (.mv (ci 0))]
(.seq (Q [xl 6 9 1,o 7 (.callF f_targ_May [.t 6]),o 8 (.un .not (.t 7))]
(.cond (.t 8)
(Q [o 9 (.build [vu 0,vi 0,ve,.nils,.nils] []),xs 5 2 9,o 3 (.mv (ci 3))]
(.ret [2,3]))
.skip))
(Q [xl 11 9 1,o 12 (.callF f_targ_object [.t 11]),m 10 12,xe 13 10 0,xe 14 10 1,o 4 (.new [vu 0,vi 0,ve,.nils,.nils] none),xs 5 4 13,m 5 14]
(.seq (Q [m 15 5,o 16 (.bin .neq 0 true (.t 15) (ci 0))]
(.cond (.t 16)
(Q [o 17 (.build [vu 0,vi 0,ve,.nils,.nils] []),xs 5 2 17,o 3 (.mv (ci 3))]
(.ret [2,3]))
.skip))
(Q [xl 18 5 4,xs 5 2 18,o 3 (.mv (ci 0))]
(.ret [2,3]))))))⟩
/-! legate/legatelaw28.text -/
def K_legatelaw28_text : KF := ⟨1,38,[(.tmp 2)],(Q [o 1 (.box (.t 0)),o 2 (.mv (cs []))]
(Q [o 13 (.callF f_legatelaw28_own []),m 12 13,xe 14 12 0,xe 15 12 1,o 3 (.new [ve,ve] none),o 4 (.new [vi 0,.nils] none),xs 2 3 14,xs 2 4 15]
(Q [xl 16 5 1,o 17 (.build [vu 0,vi 0,ve,.nils,.nils,.nils] [(0,5,(.t 16))]),o 5 (.new [vu 0,vi 0,ve,.nils,.nils,.nils] none),xs 6 5 17]
(Q [xl 19 6 5,o 20 (.callF f_sign_Signed [.t 19]),m 18 20,xe 21 18 0,xe 22 18 1,m 6 21,m 7 22]
(Q [xl 24 2 3,m 25 6,o 26 (.callF f_judge_Make [.t 24,.t 25]),m 23 26,xe 27 23 0,xe 28 23 1,o 8 (.new [ve,ve] none),xs 2 8 27,m 9 28]
(Q [xl 29 2 8,o 30 (.buildSl [ve,ve] 1 2 [(0,2,(.t 29))]),xa 31 5 5,xs 1 31 30]
(Q [xl 33 6 5,o 34 (.callF f_sign_Show [.t 33]),m 32 34,xe 35 32 0,xe 36 32 1,m 10 35,m 11 36]
(Q [m 37 10,m 2 37]
(.ret [2])))))))))⟩
/-! legate/repo.New -/
def K_repo_New : KF := ⟨4,54,[(.tmp 8),(.tmp 9)],(Q [o 4 (.box (.t 0)),o 7 (.box (.t 3)),o 8 (.mv (.c .nilp)),o 9 (.mv (ci 0))]
(Q [xa 14 0 4,xf 15 14,xa 16 2 4,xf 17 16,o 18 (.callF f_store_New [.t 15,.t 17]),m 13 18,xe 19 13 0,xe 20 13 1,m 10 19,m 11 20]
(.seq (Q [m 21 11,o 22 (.bin .neq 0 true (.t 21) (ci 0))]
(.cond (.t 22)
(Q [m 23 11,o 8 (.mv (.c .nilp)),m 9 23]
(.ret [8,9]))
.skip))
(.seq (Q [xa 24 2 7,xf 25 24,o 26 (.callF f_repo_mayCap [.t 25]),o 27 (.un .not (.t 26)),m 28 27,og 29 28 false (.fieldAddr 3 (.t 7)),og 30 28 false (.load false 1 (.t 29)),og 31 28 false (.callF f_repo_mayCap [.t 30]),og 32 28 false (.un .not (.t 31)),o 33 (.pick (.t 28) (.c (.bool true)) (.t 32))]
(.cond (.t 33)
(Q [o 8 (.mv (.c .nilp)),o 9 (.mv (ci 1))]
(.ret [8,9]))
.skip))
(Q [m 35 1,xa 36 1 4,xf 37 36,o 38 (.callF f_check_Root [.t 35,.t 37]),m 34 38,xe 39 34 0,xe 40 34 1,o 12 (.new [vi 0,vi 0,.nils,vi 0,.nils,vi 0,.nils,vi 0,.nils] none),xs 9 12 39,m 11 40]
(.seq (Q [m 41 11,o 42 (.bin .neq 0 true (.t 41) (ci 0))]
(.cond (.t 42)
(Q [m 43 11,o 8 (.mv (.c .nilp)),m 9 43]
(.ret [8,9]))
.skip))
(Q [m 44 10,xl 45 9 12,m 46 1,m 47 2,xa 48 2 7,xf 49 48,xa 50 3 7,xf 51 50,o 52 (.build [.nilp,vi 0,vi 0,.nils,vi 0,.nils,vi 0,.nils,vi 0,.nils,.nilp,vi 0,vi 0,vi 0] [(0,1,(.t 44)),(1,9,(.t 45)),(10,1,(.t 46)),(11,1,(.t 47)),(12,1,(.t 49)),(13,1,(.t 51))]),o 53 (.box (.t 52)),m 8 53,o 9 (.mv (ci 0))]
(.ret [8,9]))))))))⟩
/-! legate/legatelaw28.verifier -/
def K_legatelaw28_verifier : KF := ⟨1,9,[(.tmp 2)],(Q [o 1 (.box (.t 0)),o 2 (.mv (.c .nilp))]
(.seq (Q [xa 3 3 1,xf 4 3]
(.cond (.t 4)
(Q [o 5 (.callF f_judge_HMAC []),m 2 5]
(.ret [2]))
.skip))
(Q [xa 6 4 1,xf 7 6,o 8 (.callF f_judge_Table [.t 7]),m 2 8]
(.ret [2]))))⟩
/-! (*legate/repo.Repo).made -/
def K_repo_Repo_made : KF := ⟨1,12,[(.tmp 2)],(Q [o 2 (.mv (.c (.bool false)))]
(Q [m 3 0,o 4 (.bin .neq 3 true (.t 3) (.c .nilp)),m 5 4,og 6 5 true (.mv (.t 0)),og 7 5 true (.nilck (.t 6)),og 8 5 true (.fieldAddr 0 (.t 7)),og 9 5 true (.load false 1 (.t 8)),og 10 5 true (.bin .neq 3 true (.t 9) (.c .nilp)),o 11 (.pick (.t 5) (.t 10) (.c (.bool false))),m 2 11]
(.ret [2])))⟩
/-! legate/key.ID -/
def K_key_ID : KF := ⟨1,25,[(.tmp 2),(.tmp 3)],(Q [o 1 (.box (.t 0)),o 2 (.mv (cs [])),o 3 (.mv (ci 0))]
(Q [xl 8 2 1,o 9 (.callF f_key_Value [.t 8]),m 7 9,xe 10 7 0,xe 11 7 1,o 4 (.new [vu 0,vi 0,ve,.nils,.nils] none),xs 5 4 10,m 5 11]
(.seq (Q [m 12 5,o 13 (.bin .neq 0 true (.t 12) (ci 0))]
(.cond (.t 13)
(Q [m 14 5,o 2 (.mv (cs [])),m 3 14]
(.ret [2,3]))
.skip))
(Q [xl 16 5 4,o 17 (.callF f_canon_Encode [.t 16]),m 15 17,xe 18 15 0,xe 19 15 1,m 6 18,m 5 19]
(.seq (Q [m 20 5,o 21 (.bin .neq 0 true (.t 20) (ci 0))]
(.cond (.t 21)
(Q [m 22 5,o 2 (.mv (cs [])),m 3 22]
(.ret [2,3]))
.skip))
(Q [m 23 6,o 24 (.callF f_sha_Digest [.t 23]),m 2 24,o 3 (.mv (ci 0))]
(.ret [2,3])))))))⟩
/-! (*legate/store.Store).Repo -/
def K_store_Store_Repo : KF := ⟨1,10,[(.tmp 2)],(Q [o 2 (.mv (cs []))]
(.seq (Q [m 3 0,o 4 (.callF f_store_Store_made [.t 3]),o 5 (.un .not (.t 4))]
(.cond (.t 5)
(Q [o 2 (.mv (cs []))]
(.ret [2]))
.skip))
(Q [m 6 0,o 7 (.nilck (.t 6)),xa 8 0 7,xf 9 8,m 2 9]
(.ret [2]))))⟩
/-! (*legate/store.Store).Fetched -/
def L_store_Store_Fetched_0 : KC :=
(Q [o 17 (.bin .lss 0 false (.t 16) (.t 15))]
(.seq (.cond (.t 17)
.skip
(.exit [3] 0))
(.seq (.block 1
(Q [o 18 (.idxAddrSl 1 (.t 14) (.t 16)),xf 19 18,m 5 19]
(Q [m 21 0,m 22 5,o 23 (.callF f_store_Store_Told [.t 21,.t 22]),m 20 23,xe 24 20 0,xe 25 20 1,o 6 (.new [ve,ve,vi 0,vi 0] none),xs 4 6 24,m 7 25]
(Q [m 26 7]
(.cond (.t 26)
(.ops [m 27 3,xl 28 4 6,o 29 (.buildSl [ve,ve,vi 0,vi 0] 1 4 [(0,4,(.t 28))]),o 30 (.app false 4 48 none (.t 27) (.t 29)),m 3 30])
.skip)))))
(.ops [o 31 (.bin .add 0 true (.t 16) (ci 1)),m 16 31]))))
def K_store_Store_Fetched : KF := ⟨1,33,[(.tmp 2)],(Q [o 2 (.mv (.c .nils))]
(.seq (Q [m 8 0,o 9 (.callF f_store_Store_made [.t 8]),o 10 (.un .not (.t 9))]
(.cond (.t 10)
(Q [o 2 (.mv (.c .nils))]
(.ret [2]))
.skip))
(Q [o 3 (.mv (.c .nils))]
(.seq (Q [m 11 0,o 12 (.nilck (.t 11)),xa 13 3 12,xf 14 13,o 15 (.len 1 (.t 14)),o 16 (.mv (ci 0))]
(.block 0
(.loop [0,3,14,15,16] L_store_Store_Fetched_0)))
(Q [m 32 3,m 2 32]
(.ret [2]))))))⟩
/-! legate/legateref14.Same -/
def L_legateref14_Same_0 : KC :=
(.seq (Q [m 11 5,m 12 0,o 13 (.len 1 (.t 12)),o 14 (.bin .lss 0 false (.t 11) (.t 13))]
(.cond (.t 14)
.skip
(.exit [] 0)))
(.seq (.block 1
(.seq (.plain [m 17 0,m 18 5,o 19 (.idxAddrSl 2 (.t 17) (.t 18)),xl 20 2 19,m 21 1,m 22 5,o 23 (.idxAddrSl 2 (.t 21) (.t 22)),xl 24 2 23,o 25 (.bin .neq 10 false (.t 20) (.t 24))])
(.cond (.t 25)
(Q [o 4 (.mv (.c (.bool false)))]
(.ret [4]))
.skip)))
(.ops [m 15 5,o 16 (.bin .add 0 true (.t 15) (ci 1)),m 5 16])))
def K_legateref14_Same : KF := ⟨2,26,[(.tmp 4)],(Q [o 4 (.mv (.c (.bool false)))]
(.seq (Q [m 6 0,o 7 (.len 1 (.t 6)),m 8 1,o 9 (.len 1 (.t 8)),o 10 (.bin .neq 0 false (.t 7) (.t 9))]
(.cond (.t 10)
(Q [o 4 (.mv (.c (.bool false)))]
(.ret [4]))
.skip))
(.seq (Q [o 5 (.mv (ci 0))]
(.block 0
(.loop [0,1,5] L_legateref14_Same_0)))
(Q [o 4 (.mv (.c (.bool true)))]
(.ret [4])))))⟩
/-! legate/legateref15.Same -/
def L_legateref15_Same_0 : KC :=
(.seq (Q [m 20 5,xa 21 1 2,xf 22 21,o 23 (.len 1 (.t 22)),o 24 (.bin .lss 0 false (.t 20) (.t 23))]
(.cond (.t 24)
.skip
(.exit [] 0)))
(.seq (.block 1
(.seq (.plain [xa 27 1 2,xf 28 27,m 29 5,o 30 (.idxAddrSl 1 (.t 28) (.t 29)),xf 31 30,xa 32 1 3,xf 33 32,m 34 5,o 35 (.idxAddrSl 1 (.t 33) (.t 34)),xf 36 35,o 37 (.bin .neq 0 false (.t 31) (.t 36))])
(.cond (.t 37)
(Q [o 4 (.mv (.c (.bool false)))]
(.ret [4]))
.skip)))
(.ops [m 25 5,o 26 (.bin .add 0 true (.t 25) (ci 1)),m 5 26])))
def K_legateref15_Same : KF := ⟨2,38,[(.tmp 4)],(Q [o 2 (.box (.t 0)),o 3 (.box (.t 1)),o 4 (.mv (.c (.bool false)))]
(.seq (Q [xa 6 0 2,xf 7 6,xa 8 0 3,xf 9 8,o 10 (.bin .neq 0 false (.t 7) (.t 9)),m 11 10,og 12 11 false (.fieldAddr 1 (.t 2)),og 13 11 false (.load false 1 (.t 12)),og 14 11 false (.len 1 (.t 13)),og 15 11 false (.fieldAddr 1 (.t 3)),og 16 11 false (.load false 1 (.t 15)),og 17 11 false (.len 1 (.t 16)),og 18 11 false (.bin .neq 0 false (.t 14) (.t 17)),o 19 (.pick (.t 11) (.c (.bool true)) (.t 18))]
(.cond (.t 19)
(Q [o 4 (.mv (.c (.bool false)))]
(.ret [4]))
.skip))
(.seq (Q [o 5 (.mv (ci 0))]
(.block 0
(.loop [2,3,5] L_legateref15_Same_0)))
(Q [o 4 (.mv (.c (.bool true)))]
(.ret [4])))))⟩
/-! legate/root.May -/
def L_root_May_0 : KC :=
(Q [o 30 (.bin .lss 0 true (.t 29) (ci 3))]
(.seq (.cond (.t 30)
.skip
(.exit [] 0))
(.seq (.block 1
(Q [o 31 (.idxArr 3 true 2 (.t 28) (.t 29)),o 6 (.new [vi 0,.nils] none),xs 2 6 31]
(Q [xl 32 2 6,o 33 (.callF f_auth_May [.t 32]),o 34 (.un .not (.t 33))]
(.cond (.t 34)
(Q [o 2 (.mv (.c (.bool false)))]
(.ret [2]))
.skip))))
(.ops [o 35 (.bin .add 0 true (.t 29) (ci 1)),m 29 35]))))
def K_root_May : KF := ⟨1,36,[(.tmp 2)],(Q [o 1 (.box (.t 0)),o 2 (.mv (.c (.bool false)))]
(.seq (Q [xa 7 0 1,xf 8 7,o 9 (.bin .lss 0 true (.t 8) (ci 1)),m 10 9,og 11 10 false (.fieldAddr 0 (.t 1)),og 12 10 false (.load false 1 (.t 11)),og 13 10 false (.bin .gtr 0 true (.t 12) (ci 1099511627776)),o 14 (.pick (.t 10) (.c (.bool true)) (.t 13))]
(.cond (.t 14)
(Q [o 2 (.mv (.c (.bool false)))]
(.ret [2]))
.skip))
(.seq (Q [xa 16 1 1,xf 17 16,o 18 (.callF f_when_Show [.t 17]),m 15 18,xe 19 15 0,xe 20 15 1,m 3 19,m 4 20]
(Q [m 21 4,o 22 (.bin .neq 0 true (.t 21) (ci 0))]
(.cond (.t 22)
(Q [o 2 (.mv (.c (.bool false)))]
(.ret [2]))
.skip)))
(.seq (Q [xa 23 2 1,xf 24 23,o 25 (.callF f_root_keysMay [.t 24]),o 26 (.un .not (.t 25))]
(.cond (.t 26)
(Q [o 2 (.mv (.c (.bool false)))]
(.ret [2]))
.skip))
(.seq (Q [xl 27 9 1,o 28 (.callF f_root_auths [.t 27]),o 29 (.mv (ci 0))]
(.block 0
(.loop [28,29] L_root_May_0)))
(Q [o 2 (.mv (.c (.bool true)))]
(.ret [2])))))))⟩
/-! legate/when.Show -/
def L_when_Show_0 : KC :=
(.seq (Q [m 19 6,o 20 (.bin .lss 0 true (.t 19) (ci 9999)),m 21 20,og 22 21 true (.mv (.t 4)),og 23 21 true (.mv (.t 6)),og 24 21 true (.bin .add 0 true (.t 23) (ci 1)),og 25 21 true (.callF f_when_start [.t 24]),og 26 21 true (.bin .geq 0 false (.t 22) (.t 25)),o 27 (.pick (.t 21) (.t 26) (.c (.bool false)))]
(.cond (.t 27)
.skip
(.exit [4,5,6] 0)))
(.block 1
(.ops [m 28 6,o 29 (.bin .add 0 true (.t 28) (ci 1)),m 6 29])))
def L_when_Show_1 : KC :=
(.seq (Q [m 34 7,o 35 (.bin .lss 0 true (.t 34) (ci 12)),m 36 35,og 37 36 true (.mv (.t 4)),og 38 36 true (.mv (.t 6)),og 39 36 true (.mv (.t 7)),og 40 36 true (.callF f_when_Days [.t 38,.t 39]),og 41 36 true (.bin .geq 0 false (.t 37) (.t 40)),o 42 (.pick (.t 36) (.t 41) (.c (.bool false)))]
(.cond (.t 42)
.skip
(.exit [4,5,6,7] 2)))
(.block 3
(Q [m 43 4,m 44 6,m 45 7,o 46 (.callF f_when_Days [.t 44,.t 45]),o 47 (.bin .sub 0 false (.t 43) (.t 46)),m 4 47]
(.ops [m 48 7,o 49 (.bin .add 0 true (.t 48) (ci 1)),m 7 49]))))
def K_when_Show : KF := ⟨1,79,[(.tmp 2),(.tmp 3)],(Q [o 2 (.mv (cs [])),o 3 (.mv (ci 0))]
(.seq (Q [m 9 0,o 10 (.bin .lss 0 true (.t 9) (ci 0)),m 11 10,og 12 11 false (.mv (.t 0)),og 13 11 false (.bin .gtr 0 true (.t 12) (ci 253402300799)),o 14 (.pick (.t 11) (.c (.bool true)) (.t 13))]
(.cond (.t 14)
(Q [o 2 (.mv (cs [])),o 3 (.mv (ci 1))]
(.ret [2,3]))
.skip))
(Q [m 15 0,o 16 (.bin .quo 0 true (.t 15) (ci 86400)),m 17 0,o 18 (.bin .rem 0 true (.t 17) (ci 86400)),m 4 16,m 5 18]
(Q [o 6 (.mv (ci 1970))]
(.seq (.block 0
(.loop [4,5,6] L_when_Show_0))
(Q [m 30 4,m 31 6,o 32 (.callF f_when_start [.t 31]),o 33 (.bin .sub 0 false (.t 30) (.t 32)),m 4 33]
(Q [o 7 (.mv (ci 1))]
(.seq (.block 2
(.loop [4,5,6,7] L_when_Show_1))
(Q [m 50 6,o 51 (.callF f_when_pad [.t 50,ci 4]),o 52 (.bin .add 0 true (.t 51) (cs [45])),m 53 7,o 54 (.callF f_when_pad [.t 53,ci 2]),o 55 (.bin .add 0 false (.t 52) (.t 54)),o 56 (.bin .add 0 true (.t 55) (cs [45])),m 57 4,o 58 (.bin .add 0 true (.t 57) (ci 1)),o 59 (.callF f_when_pad [.t 58,ci 2]),o 60 (.bin .add 0 false (.t 56) (.t 59)),m 8 60]
(Q [m 61 8,o 62 (.bin .add 0 true (.t 61) (cs [84])),m 63 5,o 64 (.bin .quo 0 true (.t 63) (ci 3600)),o 65 (.callF f_when_pad [.t 64,ci 2]),o 66 (.bin .add 0 false (.t 62) (.t 65)),o 67 (.bin .add 0 true (.t 66) (cs [58])),m 68 5,o 69 (.bin .quo 0 true (.t 68) (ci 60)),o 70 (.bin .rem 0 true (.t 69) (ci 60)),o 71 (.callF f_when_pad [.t 70,ci 2]),o 72 (.bin .add 0 false (.t 67) (.t 71)),o 73 (.bin .add 0 true (.t 72) (cs [58])),m 74 5,o 75 (.bin .rem 0 true (.t 74) (ci 60)),o 76 (.callF f_when_pad [.t 75,ci 2]),o 77 (.bin .add 0 false (.t 73) (.t 76)),o 78 (.bin .add 0 true (.t 77) (cs [90])),m 2 78,o 3 (.mv (ci 0))]
(.ret [2,3])))))))))))⟩
/-! legate/key.Table -/
def L_key_Table_0 : KC :=
(Q [o 36 (.bin .lss 0 false (.t 35) (.t 34))]
(.seq (.cond (.t 36)
.skip
(.exit [2,4,7,18,19,20] 2))
(.seq (.block 3
(Q [o 37 (.idxAddrSl 6 (.t 33) (.t 35)),xl 38 6 37,o 10 (.new [ve,vu 0,vi 0,ve,.nils,.nils] none),xs 6 10 38]
(Q [xa 39 0 10,xf 40 39,xa 41 0 7,xf 42 41,o 43 (.bin .eql 0 false (.t 40) (.t 42))]
(.cond (.t 43)
(Q [o 44 (.build [vu 0,vi 0,ve,.nils,.nils] []),xs 5 2 44,o 3 (.mv (ci 7))]
(.ret [2,3]))
.skip))))
(.ops [o 45 (.bin .add 0 true (.t 35) (ci 1)),m 35 45]))))
def L_key_Table_1 : KC :=
(Q [o 21 (.bin .lss 0 false (.t 20) (.t 19))]
(.seq (.cond (.t 21)
.skip
(.exit [2,4] 0))
(.seq (.block 1
(Q [o 22 (.idxAddrSl 2 (.t 18) (.t 20)),xl 23 2 22,o 6 (.new [ve,ve] none),xs 2 6 23]
(Q [xl 25 2 6,o 26 (.callF f_key_entryOf [.t 25]),m 24 26,xe 27 24 0,xe 28 24 1,o 7 (.new [ve,vu 0,vi 0,ve,.nils,.nils] none),xs 6 7 27,m 8 28]
(.seq (Q [m 29 8,o 30 (.bin .neq 0 true (.t 29) (ci 0))]
(.cond (.t 30)
(Q [o 31 (.build [vu 0,vi 0,ve,.nils,.nils] []),m 32 8,xs 5 2 31,m 3 32]
(.ret [2,3]))
.skip))
(.seq (Q [m 33 4,o 34 (.len 1 (.t 33)),o 35 (.mv (ci 0))]
(.block 2
(.loop [2,4,7,18,19,20,33,34,35] L_key_Table_0)))
(.ops [m 46 4,xl 47 6 7,o 48 (.buildSl [ve,vu 0,vi 0,ve,.nils,.nils] 1 6 [(0,6,(.t 47))]),o 49 (.app false 6 96 none (.t 46) (.t 48)),m 4 49]))))))
(.ops [o 50 (.bin .add 0 true (.t 20) (ci 1)),m 20 50]))))
def L_key_Table_2 : KC :=
(Q [o 57 (.bin .lss 0 false (.t 56) (.t 55))]
(.seq (.cond (.t 57)
.skip
(.exit [2,11] 4))
(.seq (.block 5
(Q [o 58 (.idxAddrSl 6 (.t 54) (.t 56)),xl 59 6 58,o 13 (.new [ve,vu 0,vi 0,ve,.nils,.nils] none),xs 6 13 59]
(Q [xa 60 3 11,xf 61 60,xa 62 0 13,xf 63 62,o 64 (.buildSl [ve] 1 1 [(0,1,(.t 63))]),o 65 (.app false 1 16 none (.t 61) (.t 64)),xa 66 3 11,xs 1 66 65]
(.ops [xa 67 4 11,xf 68 67,xa 69 1 13,xl 70 5 69,o 71 (.buildSl [vu 0,vi 0,ve,.nils,.nils] 1 5 [(0,5,(.t 70))]),o 72 (.app false 5 80 none (.t 68) (.t 71)),xa 73 4 11,xs 1 73 72]))))
(.ops [o 74 (.bin .add 0 true (.t 56) (ci 1)),m 56 74]))))
def K_key_Table : KF := ⟨1,76,[(.cell 2 true 5),(.tmp 3)],(Q [o 2 (.new [vu 0,vi 0,ve,.nils,.nils] none),o 3 (.mv (ci 0))]
(.seq (Q [m 14 0,o 15 (.len 1 (.t 14)),o 16 (.bin .gtr 0 true (.t 15) (ci 32))]
(.cond (.t 16)
(Q [o 17 (.build [vu 0,vi 0,ve,.nils,.nils] []),xs 5 2 17,o 3 (.mv (ci 5))]
(.ret [2,3]))
.skip))
(Q [o 4 (.mv (.c .nils))]
(.seq (Q [m 18 0,o 19 (.len 1 (.t 18)),o 20 (.mv (ci 0))]
(.block 0
(.loop [2,4,18,19,20] L_key_Table_1)))
(Q [m 51 4,o 52 (.callF f_slices_SortFunc_key_entry_key_entry [.t 51,(.c (.func (.func f_key_entry_compare) [] []))])]
(Q [o 53 (.build [vu 0,vi 0,ve,.nils,.nils] [(0,1,(cu 5))]),o 11 (.new [vu 0,vi 0,ve,.nils,.nils] none),xs 5 11 53]
(.seq (Q [m 54 4,o 55 (.len 1 (.t 54)),o 56 (.mv (ci 0))]
(.block 4
(.loop [2,11,54,55,56] L_key_Table_2)))
(Q [xl 75 5 11,xs 5 2 75,o 3 (.mv (ci 0))]
(.ret [2,3])))))))))⟩
/-! legate/root.auths -/
def K_root_auths : KF := ⟨1,10,[(.cell 2 true 6)],(Q [o 1 (.box (.t 0)),o 2 (.new [vi 0,.nils,vi 0,.nils,vi 0,.nils] none)]
(Q [xa 3 3 1,xl 4 2 3,xa 5 5 1,xl 6 2 5,xa 7 7 1,xl 8 2 7,o 9 (.build [vi 0,.nils,vi 0,.nils,vi 0,.nils] [(0,2,(.t 4)),(2,2,(.t 6)),(4,2,(.t 8))]),xs 6 2 9]
(.ret [2])))⟩
/-! legate/auth.Value -/
def K_auth_Value : KF := ⟨1,13,[(.cell 2 true 5),(.tmp 3)],(Q [o 1 (.box (.t 0)),o 2 (.new [vu 0,vi 0,ve,.nils,.nils] none),o 3 (.mv (ci 0))]
(.seq (Q [xl 4 2 1,o 5 (.callF f_auth_May [.t 4]),o 6 (.un .not (.t 5))]
(.cond (.t 6)
(Q [o 7 (.build [vu 0,vi 0,ve,.nils,.nils] []),xs 5 2 7,o 3 (.mv (ci 3))]
(.ret [2,3]))
.skip))
(Q [xl 8 2 1,o 9 (.callF f_auth_Members [.t 8]),o 10 (.callF f_pick_ObjectOf [.t 9]),xe 11 10 0,xe 12 10 1,xs 5 2 11,m 3 12]
(.ret [2,3]))))⟩
/-! legate/pick.ObjectOf -/
def L_pick_ObjectOf_0 : KC :=
(Q [o 16 (.bin .lss 0 false (.t 15) (.t 14))]
(.seq (.cond (.t 16)
.skip
(.exit [2,5] 0))
(.seq (.block 1
(Q [m 17 15,o 18 (.idxAddrSl 6 (.t 13) (.t 15)),xl 19 6 18,o 7 (.new [ve,vu 0,vi 0,ve,.nils,.nils] none),m 6 17,xs 6 7 19]
(.seq (.seq (.plain [m 20 6,o 21 (.bin .gtr 0 true (.t 20) (ci 0)),m 22 21,og 23 22 true (.mv (.t 4)),og 24 22 true (.mv (.t 6)),og 25 22 true (.bin .sub 0 true (.t 24) (ci 1)),og 26 22 true (.idxAddrSl 6 (.t 23) (.t 25)),og 27 22 true (.fieldAddr 0 (.t 26)),og 28 22 true (.load false 1 (.t 27)),og 29 22 true (.fieldAddr 0 (.t 7)),og 30 22 true (.load false 1 (.t 29)),og 31 22 true (.bin .eql 0 false (.t 28) (.t 30)),o 32 (.pick (.t 22) (.t 31) (.c (.bool false)))])
(.cond (.t 32)
(Q [o 33 (.build [vu 0,vi 0,ve,.nils,.nils] []),xs 5 2 33,o 3 (.mv (ci 7))]
(.ret [2,3]))
.skip))
(Q [xa 34 3 5,xf 35 34,xa 36 0 7,xf 37 36,o 38 (.buildSl [ve] 1 1 [(0,1,(.t 37))]),o 39 (.app false 1 16 none (.t 35) (.t 38)),xa 40 3 5,xs 1 40 39]
(.drawn [xa 41 4 5,⟨(some 42),(.load false 1 (.t 41)),none,[4]⟩,xa 43 1 7,xl 44 5 43,o 45 (.callF f_value_Copy [.t 44]),o 46 (.buildSl [vu 0,vi 0,ve,.nils,.nils] 1 5 [(0,5,(.t 45))]),o 47 (.app false 5 80 none (.t 42) (.t 46)),xa 48 4 5,xs 1 48 47])))))
(.ops [o 49 (.bin .add 0 true (.t 15) (ci 1)),m 15 49]))))
def K_pick_ObjectOf : KF := ⟨1,51,[(.cell 2 true 5),(.tmp 3)],(Q [o 2 (.new [vu 0,vi 0,ve,.nils,.nils] none),o 3 (.mv (ci 0))]
(Q [m 8 0,o 9 (.callF f_slices_Clone_pick_Member_pick_Member [.t 8]),m 4 9]
(Q [m 10 4,o 11 (.callF f_slices_SortFunc_pick_Member_pick_Member [.t 10,(.c (.func (.func f_pick_ObjectOf_1) [] []))])]
(Q [o 12 (.build [vu 0,vi 0,ve,.nils,.nils] [(0,1,(cu 5))]),o 5 (.new [vu 0,vi 0,ve,.nils,.nils] none),xs 5 5 12]
(.seq (Q [m 13 4,o 14 (.len 1 (.t 13)),o 15 (.mv (ci 0))]
(.block 0
(.loop [2,4,5,13,14,15] L_pick_ObjectOf_0)))
(Q [xl 50 5 5,xs 5 2 50,o 3 (.mv (ci 0))]
(.ret [2,3])))))))⟩
/-! legate/pick.TextOf -/
def K_pick_TextOf : KF := ⟨1,5,[(.cell 2 true 5)],(Q [o 2 (.new [vu 0,vi 0,ve,.nils,.nils] none)]
(Q [m 3 0,o 4 (.build [vu 0,vi 0,ve,.nils,.nils] [(0,1,(cu 3)),(2,1,(.t 3))]),xs 5 2 4]
(.ret [2])))⟩
/-! legate/pick.NumOf -/
def K_pick_NumOf : KF := ⟨1,5,[(.cell 2 true 5)],(Q [o 2 (.new [vu 0,vi 0,ve,.nils,.nils] none)]
(Q [m 3 0,o 4 (.build [vu 0,vi 0,ve,.nils,.nils] [(0,1,(cu 2)),(1,1,(.t 3))]),xs 5 2 4]
(.ret [2])))⟩
/-! legate/snap.May -/
def L_snap_May_0 : KC :=
(Q [o 31 (.bin .lss 0 false (.t 30) (.t 29))]
(.seq (.cond (.t 31)
.skip
(.exit [] 0))
(.seq (.block 1
(Q [m 32 30,o 33 (.idxAddrSl 4 (.t 28) (.t 30)),xl 34 4 33,o 6 (.new [ve,vi 0,vi 0,.nils] none),m 5 32,xs 4 6 34]
(.seq (Q [xl 35 4 6,o 36 (.callF f_snap_MayPin [.t 35]),o 37 (.un .not (.t 36))]
(.cond (.t 37)
(Q [o 2 (.mv (.c (.bool false)))]
(.ret [2]))
.skip))
(.seq (.plain [m 38 5,o 39 (.bin .gtr 0 true (.t 38) (ci 0)),m 40 39,og 41 40 true (.fieldAddr 0 (.t 6)),og 42 40 true (.load false 1 (.t 41)),og 43 40 true (.fieldAddr 2 (.t 1)),og 44 40 true (.load false 1 (.t 43)),og 45 40 true (.mv (.t 5)),og 46 40 true (.bin .sub 0 true (.t 45) (ci 1)),og 47 40 true (.idxAddrSl 4 (.t 44) (.t 46)),og 48 40 true (.fieldAddr 0 (.t 47)),og 49 40 true (.load false 1 (.t 48)),og 50 40 true (.bin .leq 0 false (.t 42) (.t 49)),o 51 (.pick (.t 40) (.t 50) (.c (.bool false)))])
(.cond (.t 51)
(Q [o 2 (.mv (.c (.bool false)))]
(.ret [2]))
.skip)))))
(.ops [o 52 (.bin .add 0 true (.t 30) (ci 1)),m 30 52]))))
def K_snap_May : KF := ⟨1,53,[(.tmp 2)],(Q [o 1 (.box (.t 0)),o 2 (.mv (.c (.bool false)))]
(.seq (Q [xa 7 0 1,xf 8 7,o 9 (.bin .lss 0 true (.t 8) (ci 1)),m 10 9,og 11 10 false (.fieldAddr 0 (.t 1)),og 12 10 false (.load false 1 (.t 11)),og 13 10 false (.bin .gtr 0 true (.t 12) (ci 1099511627776)),o 14 (.pick (.t 10) (.c (.bool true)) (.t 13))]
(.cond (.t 14)
(Q [o 2 (.mv (.c (.bool false)))]
(.ret [2]))
.skip))
(.seq (Q [xa 16 1 1,xf 17 16,o 18 (.callF f_when_Show [.t 17]),m 15 18,xe 19 15 0,xe 20 15 1,m 3 19,m 4 20]
(Q [m 21 4,o 22 (.bin .neq 0 true (.t 21) (ci 0))]
(.cond (.t 22)
(Q [o 2 (.mv (.c (.bool false)))]
(.ret [2]))
.skip)))
(.seq (Q [xa 23 2 1,xf 24 23,o 25 (.len 1 (.t 24)),o 26 (.bin .gtr 0 true (.t 25) (ci 256))]
(.cond (.t 26)
(Q [o 2 (.mv (.c (.bool false)))]
(.ret [2]))
.skip))
(.seq (Q [xa 27 2 1,xf 28 27,o 29 (.len 1 (.t 28)),o 30 (.mv (ci 0))]
(.block 0
(.loop [1,28,29,30] L_snap_May_0)))
(Q [o 2 (.mv (.c (.bool true)))]
(.ret [2])))))))⟩
/-! legate/snap.PinValue -/
def K_snap_PinValue : KF := ⟨1,48,[(.cell 2 true 5),(.tmp 3)],(Q [o 1 (.box (.t 0)),o 2 (.new [vu 0,vi 0,ve,.nils,.nils] none),o 3 (.mv (ci 0))]
(.seq (Q [xl 7 4 1,o 8 (.callF f_snap_MayPin [.t 7]),o 9 (.un .not (.t 8))]
(.cond (.t 9)
(Q [o 10 (.build [vu 0,vi 0,ve,.nils,.nils] []),xs 5 2 10,o 3 (.mv (ci 3))]
(.ret [2,3]))
.skip))
(Q [xa 11 1 1,xf 12 11,o 13 (.callF f_pick_NumOf [.t 12]),o 14 (.build [ve,vu 0,vi 0,ve,.nils,.nils] [(0,1,(cs [118,101,114,115,105,111,110])),(1,5,(.t 13))]),o 15 (.buildSl [ve,vu 0,vi 0,ve,.nils,.nils] 1 6 [(0,6,(.t 14))]),m 4 15]
(.seq (Q [xa 16 2 1,xf 17 16,o 18 (.bin .neq 0 true (.t 17) (ci (-1)))]
(.cond (.t 18)
(.ops [m 19 4,xa 20 2 1,xf 21 20,o 22 (.callF f_pick_NumOf [.t 21]),o 23 (.build [ve,vu 0,vi 0,ve,.nils,.nils] [(0,1,(cs [108,101,110,103,116,104])),(1,5,(.t 22))]),o 24 (.buildSl [ve,vu 0,vi 0,ve,.nils,.nils] 1 6 [(0,6,(.t 23))]),o 25 (.app false 6 96 none (.t 19) (.t 24)),m 4 25])
.skip))
(.seq (Q [xa 26 3 1,xf 27 26,o 28 (.len 1 (.t 27)),o 29 (.bin .gtr 0 true (.t 28) (ci 0))]
(.cond (.t 29)
(Q [xa 31 3 1,xf 32 31,o 33 (.callF f_record_HashesValue [.t 32]),m 30 33,xe 34 30 0,xe 35 30 1,o 5 (.new [vu 0,vi 0,ve,.nils,.nils] none),xs 5 5 34,m 6 35]
(.seq (Q [m 36 6,o 37 (.bin .neq 0 true (.t 36) (ci 0))]
(.cond (.t 37)
(Q [o 38 (.build [vu 0,vi 0,ve,.nils,.nils] []),xs 5 2 38,o 3 (.mv (ci 3))]
(.ret [2,3]))
.skip))
(.ops [m 39 4,xl 40 5 5,o 41 (.build [ve,vu 0,vi 0,ve,.nils,.nils] [(0,1,(cs [104,97,115,104,101,115])),(1,5,(.t 40))]),o 42 (.buildSl [ve,vu 0,vi 0,ve,.nils,.nils] 1 6 [(0,6,(.t 41))]),o 43 (.app false 6 96 none (.t 39) (.t 42)),m 4 43])))
.skip))
(Q [m 44 4,o 45 (.callF f_pick_ObjectOf [.t 44]),xe 46 45 0,xe 47 45 1,xs 5 2 46,m 3 47]
(.ret [2,3])))))))⟩
/-! legate/targ.May -/
def K_targ_May : KF := ⟨1,44,[(.tmp 2)],(Q [o 1 (.box (.t 0)),o 2 (.mv (.c (.bool false)))]
(.seq (Q [xa 7 0 1,xf 8 7,o 9 (.bin .lss 0 true (.t 8) (ci 1)),m 10 9,og 11 10 false (.fieldAddr 0 (.t 1)),og 12 10 false (.load false 1 (.t 11)),og 13 10 false (.bin .gtr 0 true (.t 12) (ci 1099511627776)),o 14 (.pick (.t 10) (.c (.bool true)) (.t 13))]
(.cond (.t 14)
(Q [o 2 (.mv (.c (.bool false)))]
(.ret [2]))
.skip))
(.seq (Q [xa 16 1 1,xf 17 16,o 18 (.callF f_when_Show [.t 17]),m 15 18,xe 19 15 0,xe 20 15 1,m 3 19,m 4 20]
(Q [m 21 4,o 22 (.bin .neq 0 true (.t 21) (ci 0))]
(.cond (.t 22)
(Q [o 2 (.mv (.c (.bool false)))]
(.ret [2]))
.skip)))
(.seq (Q [xa 23 2 1,xf 24 23,o 25 (.callF f_targ_listMay [.t 24]),o 26 (.un .not (.t 25)),m 27 26,og 28 27 false (.fieldAddr 3 (.t 1)),og 29 27 false (.load true 6 (.t 28)),og 30 27 false (.callF f_deleg_May [.t 29]),og 31 27 false (.un .not (.t 30)),o 32 (.pick (.t 27) (.c (.bool true)) (.t 31))]
(.cond (.t 32)
(Q [o 2 (.mv (.c (.bool false)))]
(.ret [2]))
.skip))
(Q [xl 34 9 1,o 35 (.callF f_targ_object [.t 34]),m 33 35,xe 36 33 0,xe 37 33 1,o 5 (.new [vu 0,vi 0,ve,.nils,.nils] none),xs 5 5 36,m 6 37]
(Q [m 38 6,o 39 (.bin .eql 0 true (.t 38) (ci 0)),m 40 39,og 41 40 true (.load true 5 (.t 5)),og 42 40 true (.callF f_value_May [.t 41]),o 43 (.pick (.t 40) (.t 42) (.c (.bool false))),m 2 43]
(.ret [2])))))))⟩
/-! legate/targ.object -/
def L_targ_object_0 : KC :=
(Q [o 33 (.bin .lss 0 false (.t 32) (.t 31))]
(.seq (.cond (.t 33)
.skip
(.exit [1,2,4,6] 0))
(.seq (.block 1
(Q [o 34 (.idxAddrSl 8 (.t 30) (.t 32)),xl 35 8 34,o 8 (.new [ve,vi 0,.nils,vu 0,vi 0,ve,.nils,.nils] none),xs 8 8 35]
(Q [xa 37 1 8,xl 38 7 37,o 39 (.callF f_record_Value [.t 38]),m 36 39,xe 40 36 0,xe 41 36 1,o 9 (.new [vu 0,vi 0,ve,.nils,.nils] none),xs 5 9 40,m 10 41]
(.seq (Q [m 42 10,o 43 (.bin .neq 0 true (.t 42) (ci 0))]
(.cond (.t 43)
(Q [o 44 (.build [vu 0,vi 0,ve,.nils,.nils] []),m 45 10,xs 5 2 44,m 3 45]
(.ret [2,3]))
.skip))
(.ops [m 46 6,xa 47 0 8,xf 48 47,xl 49 5 9,o 50 (.build [ve,vu 0,vi 0,ve,.nils,.nils] [(0,1,(.t 48)),(1,5,(.t 49))]),o 51 (.buildSl [ve,vu 0,vi 0,ve,.nils,.nils] 1 6 [(0,6,(.t 50))]),o 52 (.app false 6 96 none (.t 46) (.t 51)),m 6 52])))))
(.ops [o 53 (.bin .add 0 true (.t 32) (ci 1)),m 32 53]))))
def K_targ_object : KF := ⟨1,98,[(.cell 2 true 5),(.tmp 3)],(Q [o 1 (.box (.t 0)),o 2 (.new [vu 0,vi 0,ve,.nils,.nils] none),o 3 (.mv (ci 0))]
(Q [xa 16 1 1,xf 17 16,o 18 (.callF f_when_Show [.t 17]),m 15 18,xe 19 15 0,xe 20 15 1,m 4 19,m 5 20]
(.seq (Q [m 21 5,o 22 (.bin .neq 0 true (.t 21) (ci 0))]
(.cond (.t 22)
(Q [o 23 (.build [vu 0,vi 0,ve,.nils,.nils] []),m 24 5,xs 5 2 23,m 3 24]
(.ret [2,3]))
.skip))
(Q [xa 25 2 1,xf 26 25,o 27 (.len 1 (.t 26)),o 28 (.mkSlice [ve,vu 0,vi 0,ve,.nils,.nils] 6 96 (ci 0) (.t 27)),m 6 28]
(.seq (Q [xa 29 2 1,xf 30 29,o 31 (.len 1 (.t 30)),o 32 (.mv (ci 0))]
(.block 0
(.loop [1,2,4,6,30,31,32] L_targ_object_0)))
(Q [m 55 6,o 56 (.callF f_pick_ObjectOf [.t 55]),m 54 56,xe 57 54 0,xe 58 54 1,o 11 (.new [vu 0,vi 0,ve,.nils,.nils] none),xs 5 11 57,m 5 58]
(.seq (Q [m 59 5,o 60 (.bin .neq 0 true (.t 59) (ci 0))]
(.cond (.t 60)
(Q [o 61 (.build [vu 0,vi 0,ve,.nils,.nils] []),m 62 5,xs 5 2 61,m 3 62]
(.ret [2,3]))
.skip))
(.seq (.drawn [o 63 (.callF f_pick_TextOf [cs [116,97,114,103,101,116,115]]),o 64 (.build [ve,vu 0,vi 0,ve,.nils,.nils] [(0,1,(cs [95,116,121,112,101])),(1,5,(.t 63))]),xa 65 0 1,⟨(some 66),(.load false 1 (.t 65)),none,[0]⟩,o 67 (.callF f_pick_NumOf [.t 66]),o 68 (.build [ve,vu 0,vi 0,ve,.nils,.nils] [(0,1,(cs [118,101,114,115,105,111,110])),(1,5,(.t 67))]),m 69 4,o 70 (.callF f_pick_TextOf [.t 69]),o 71 (.build [ve,vu 0,vi 0,ve,.nils,.nils] [(0,1,(cs [101,120,112,105,114,101,115])),(1,5,(.t 70))]),⟨(some 72),(.load true 5 (.t 11)),none,[0,4,7]⟩,o 73 (.build [ve,vu 0,vi 0,ve,.nils,.nils] [(0,1,(cs [116,97,114,103,101,116,115])),(1,5,(.t 72))]),o 74 (.buildSl [ve,vu 0,vi 0,ve,.nils,.nils] 4 6 [(0,6,(.t 64)),(6,6,(.t 68)),(12,6,(.t 71)),(18,6,(.t 73))]),m 12 74])
(.seq (Q [xa 75 3 1,xl 76 6 75,o 77 (.callF f_targ_empty [.t 76]),o 78 (.un .not (.t 77))]
(.cond (.t 78)
(Q [xa 80 3 1,xl 81 6 80,o 82 (.callF f_deleg_Value [.t 81]),m 79 82,xe 83 79 0,xe 84 79 1,o 13 (.new [vu 0,vi 0,ve,.nils,.nils] none),xs 5 13 83,m 14 84]
(.seq (Q [m 85 14,o 86 (.bin .neq 0 true (.t 85) (ci 0))]
(.cond (.t 86)
(Q [o 87 (.build [vu 0,vi 0,ve,.nils,.nils] []),m 88 14,xs 5 2 87,m 3 88]
(.ret [2,3]))
.skip))
(.ops [m 89 12,xl 90 5 13,o 91 (.build [ve,vu 0,vi 0,ve,.nils,.nils] [(0,1,(cs [100,101,108,101,103,97,116,105,111,110,115])),(1,5,(.t 90))]),o 92 (.buildSl [ve,vu 0,vi 0,ve,.nils,.nils] 1 6 [(0,6,(.t 91))]),o 93 (.app false 6 96 none (.t 89) (.t 92)),m 12 93])))
.skip))
(Q [m 94 12,o 95 (.callF f_pick_ObjectOf [.t 94]),xe 96 95 0,xe 97 95 1,xs 5 2 96,m 3 97]
(.ret [2,3])))))))))))⟩
/-! legate/sign.Signed -/
def K_sign_Signed : KF := ⟨1,12,[(.tmp 2),(.tmp 3)],(Q [o 1 (.box (.t 0)),o 2 (.mv (cs [])),o 3 (.mv (ci 0))]
(.seq (Q [xl 4 6 1,o 5 (.callF f_sign_May [.t 4]),o 6 (.un .not (.t 5))]
(.cond (.t 6)
(Q [o 2 (.mv (cs [])),o 3 (.mv (ci 3))]
(.ret [2,3]))
.skip))
(Q [xa 7 0 1,xl 8 5 7,o 9 (.callF f_canon_Encode [.t 8]),xe 10 9 0,xe 11 9 1,m 2 10,m 3 11]
(.ret [2,3]))))⟩
/-! legate/judge.Make -/
def K_judge_Make : KF := ⟨2,36,[(.cell 4 true 2),(.tmp 5)],(Q [o 2 (.box (.t 0)),o 4 (.new [ve,ve] none),o 5 (.mv (ci 0))]
(Q [xl 10 2 2,o 11 (.callF f_key_ID [.t 10]),m 9 11,xe 12 9 0,xe 13 9 1,m 6 12,m 7 13]
(.seq (Q [m 14 7,o 15 (.bin .neq 0 true (.t 14) (ci 0))]
(.cond (.t 15)
(Q [o 16 (.build [ve,ve] []),xs 2 4 16,o 5 (.mv (ci 3))]
(.ret [4,5]))
.skip))
(.seq (Q [xa 17 0 2,xf 18 17,o 19 (.bin .neq 0 true (.t 18) (cs [104,109,97,99,45,115,104,97,50,53,54]))]
(.cond (.t 19)
(Q [o 20 (.build [ve,ve] []),xs 2 4 20,o 5 (.mv (ci 10))]
(.ret [4,5]))
.skip))
(Q [xa 22 1 2,xf 23 22,o 24 (.callF f_hex_Decode [.t 23]),m 21 24,xe 25 21 0,xe 26 21 1,m 8 25,m 7 26]
(.seq (Q [m 27 7,o 28 (.bin .neq 0 true (.t 27) (ci 0))]
(.cond (.t 28)
(Q [o 29 (.build [ve,ve] []),xs 2 4 29,o 5 (.mv (ci 3))]
(.ret [4,5]))
.skip))
(Q [m 30 6,m 31 8,m 32 1,o 33 (.callF f_mac_Of [.t 31,.t 32]),o 34 (.callF f_hex_Encode [.t 33]),o 35 (.build [ve,ve] [(0,1,(.t 30)),(1,1,(.t 34))]),xs 2 4 35,o 5 (.mv (ci 0))]
(.ret [4,5]))))))))⟩
/-! legate/sign.Show -/
def K_sign_Show : KF := ⟨1,12,[(.tmp 2),(.tmp 3)],(Q [o 1 (.box (.t 0)),o 2 (.mv (cs [])),o 3 (.mv (ci 0))]
(.seq (Q [xl 4 6 1,o 5 (.callF f_sign_May [.t 4]),o 6 (.un .not (.t 5))]
(.cond (.t 6)
(Q [o 2 (.mv (cs [])),o 3 (.mv (ci 3))]
(.ret [2,3]))
.skip))
(Q [xl 7 6 1,o 8 (.callF f_sign_object [.t 7]),o 9 (.callF f_canon_Encode [.t 8]),xe 10 9 0,xe 11 9 1,m 2 10,m 3 11]
(.ret [2,3]))))⟩
/-! legate/store.New -/
def L_store_New_0 : KC :=
(Q [o 17 (.bin .lss 0 false (.t 16) (.t 15))]
(.seq (.cond (.t 17)
.skip
(.exit [0,1] 0))
(.seq (.block 1
(Q [o 18 (.idxAddrSl 2 (.t 14) (.t 16)),xl 19 2 18,o 7 (.new [ve,ve] none),xs 2 7 19]
(Q [xa 20 1 7,xf 21 20,o 22 (.len 0 (.t 21)),o 23 (.bin .gtr 0 true (.t 22) (ci 65536))]
(.cond (.t 23)
(Q [o 4 (.mv (.c .nilp)),o 5 (.mv (ci 5))]
(.ret [4,5]))
.skip))))
(.ops [o 24 (.bin .add 0 true (.t 16) (ci 1)),m 16 24]))))
def K_store_New : KF := ⟨2,31,[(.tmp 4),(.tmp 5)],(Q [o 4 (.mv (.c .nilp)),o 5 (.mv (ci 0))]
(.seq (Q [m 8 0,o 9 (.callF f_name_Role [.t 8]),o 10 (.un .not (.t 9))]
(.cond (.t 10)
(Q [o 4 (.mv (.c .nilp)),o 5 (.mv (ci 3))]
(.ret [4,5]))
.skip))
(.seq (Q [m 11 1,o 12 (.len 1 (.t 11)),o 13 (.bin .gtr 0 true (.t 12) (ci 256))]
(.cond (.t 13)
(Q [o 4 (.mv (.c .nilp)),o 5 (.mv (ci 5))]
(.ret [4,5]))
.skip))
(.seq (Q [m 14 1,o 15 (.len 1 (.t 14)),o 16 (.mv (ci 0))]
(.block 0
(.loop [0,1,14,15,16] L_store_New_0)))
(Q [m 25 0,m 26 1,o 27 (.callF f_slices_Clone_api_File_api_File [.t 26]),o 28 .mkMap,o 29 (.build [ve,.nils,.nilMap,.nils] [(0,1,(.t 25)),(1,1,(.t 27)),(2,1,(.t 28))]),o 30 (.box (.t 29)),m 4 30,o 5 (.mv (ci 0))]
(.ret [4,5]))))))⟩
/-! legate/repo.mayCap -/
def K_repo_mayCap : KF := ⟨1,9,[(.tmp 2)],(Q [o 2 (.mv (.c (.bool false)))]
(Q [m 3 0,o 4 (.bin .geq 0 true (.t 3) (ci 0)),m 5 4,og 6 5 true (.mv (.t 0)),og 7 5 true (.bin .leq 0 true (.t 6) (ci 65536)),o 8 (.pick (.t 5) (.t 7) (.c (.bool false))),m 2 8]
(.ret [2])))⟩
/-! legate/check.Root -/
def K_check_Root : KF := ⟨2,38,[(.cell 4 true 9),(.tmp 5)],(Q [o 4 (.new [vi 0,vi 0,.nils,vi 0,.nils,vi 0,.nils,vi 0,.nils] none),o 5 (.mv (ci 0))]
(Q [m 10 1,o 11 (.callF f_sign_Read [.t 10]),m 9 11,xe 12 9 0,xe 13 9 1,o 6 (.new [vu 0,vi 0,ve,.nils,.nils,.nils] none),xs 6 6 12,m 7 13]
(.seq (Q [m 14 7,o 15 (.bin .neq 0 true (.t 14) (ci 0))]
(.cond (.t 15)
(Q [o 16 (.build [vi 0,vi 0,.nils,vi 0,.nils,vi 0,.nils,vi 0,.nils] []),m 17 7,xs 9 4 16,m 5 17]
(.ret [4,5]))
.skip))
(Q [xa 19 0 6,xl 20 5 19,o 21 (.callF f_root_Of [.t 20]),m 18 21,xe 22 18 0,xe 23 18 1,o 8 (.new [vi 0,vi 0,.nils,vi 0,.nils,vi 0,.nils,vi 0,.nils] none),xs 9 8 22,m 7 23]
(.seq (Q [m 24 7,o 25 (.bin .neq 0 true (.t 24) (ci 0))]
(.cond (.t 25)
(Q [o 26 (.build [vi 0,vi 0,.nils,vi 0,.nils,vi 0,.nils,vi 0,.nils] []),m 27 7,xs 9 4 26,m 5 27]
(.ret [4,5]))
.skip))
(.seq (Q [m 28 0,xl 29 6 6,xa 30 3 8,xl 31 2 30,xa 32 2 8,xf 33 32,o 34 (.callF f_judge_Enough [.t 28,.t 29,.t 31,.t 33]),o 35 (.un .not (.t 34))]
(.cond (.t 35)
(Q [o 36 (.build [vi 0,vi 0,.nils,vi 0,.nils,vi 0,.nils,vi 0,.nils] []),xs 9 4 36,o 5 (.mv (ci 4))]
(.ret [4,5]))
.skip))
(Q [xl 37 9 8,xs 9 4 37,o 5 (.mv (ci 0))]
(.ret [4,5]))))))))⟩
/-! legate/judge.HMAC -/
def K_judge_HMAC : KF := ⟨0,5,[(.tmp 0)],(Q [o 0 (.mv (.c .nilp))]
(Q [o 1 (.build [] []),o 2 (.mkIface 195 (.t 1)),o 3 (.build [.nilIface] [(0,1,(.t 2))]),o 4 (.box (.t 3)),m 0 4]
(.ret [0])))⟩
/-! legate/check.Snapshot -/
def K_check_Snapshot : KF := ⟨5,55,[(.cell 10 true 3),(.tmp 11)],(Q [o 6 (.box (.t 1)),o 10 (.new [vi 0,vi 0,.nils] none),o 11 (.mv (cu 0))]
(Q [m 16 0,xa 17 5 6,xl 18 2 17,xa 19 2 6,xf 20 19,o 21 (.build [ve,vi 0,vi 0,.nils] [(2,1,(ci (-1)))]),m 22 2,m 23 3,m 24 4,o 25 (.build [.nilp,vi 0,.nils,.nils,ve,vi 0,vi 0,.nils,vi 0,ve,vi 0,vu 0,vi 0,ve,.nils,.nils,vu 0,vi 0,ve,.nils,.nils,.nils,vi 0,vi 0] [(0,1,(.t 16)),(1,2,(.t 18)),(3,1,(.t 20)),(4,4,(.t 21)),(8,1,(.t 22)),(9,1,(.t 23)),(10,1,(.t 24))]),o 26 (.box (.t 25)),o 12 (.new [.nilp] none),xs 1 12 26]
(Q [o 13 (.new [vi 0,vi 0,.nils] none)]
(Q [o 27 (.mkFunc (.func f_check_Snapshot_1) [] [.t 12,.t 13]),m 14 27]
(Q [xf 28 12,o 29 (.mkFunc (.func f_check_file_missing) [.t 28] []),o 30 (.build [vu 0,.nilFunc] [(0,1,(cu 2)),(1,1,(.t 29))]),xf 31 12,o 32 (.mkFunc (.func f_check_file_big) [.t 31] []),o 33 (.build [vu 0,.nilFunc] [(0,1,(cu 3)),(1,1,(.t 32))]),xf 34 12,o 35 (.mkFunc (.func f_check_file_noText) [.t 34] []),o 36 (.build [vu 0,.nilFunc] [(0,1,(cu 6)),(1,1,(.t 35))]),xf 37 12,o 38 (.mkFunc (.func f_check_file_noEnvelope) [.t 37] []),o 39 (.build [vu 0,.nilFunc] [(0,1,(cu 7)),(1,1,(.t 38))]),m 40 14,o 41 (.build [vu 0,.nilFunc] [(0,1,(cu 7)),(1,1,(.t 40))]),xf 42 12,o 43 (.mkFunc (.func f_check_file_unsigned) [.t 42] []),o 44 (.build [vu 0,.nilFunc] [(0,1,(cu 8)),(1,1,(.t 43))]),xf 45 12,o 46 (.mkFunc (.func f_check_file_expired) [.t 45] []),o 47 (.build [vu 0,.nilFunc] [(0,1,(cu 10)),(1,1,(.t 46))]),o 48 (.buildSl [vu 0,.nilFunc] 7 2 [(0,2,(.t 30)),(2,2,(.t 33)),(4,2,(.t 36)),(6,2,(.t 39)),(8,2,(.t 41)),(10,2,(.t 44)),(12,2,(.t 47))]),o 49 (.callF f_check_first [.t 48]),m 15 49]
(.seq (Q [m 50 15,o 51 (.bin .neq 0 true (.t 50) (cu 0))]
(.cond (.t 51)
(Q [o 52 (.build [vi 0,vi 0,.nils] []),m 53 15,xs 3 10 52,m 11 53]
(.ret [10,11]))
.skip))
(Q [xl 54 3 13,xs 3 10 54,o 11 (.mv (cu 0))]
(.ret [10,11]))))))))⟩
/-! legate/key.Value -/
def K_key_Value : KF := ⟨1,20,[(.cell 2 true 5),(.tmp 3)],(Q [o 1 (.box (.t 0)),o 2 (.new [vu 0,vi 0,ve,.nils,.nils] none),o 3 (.mv (ci 0))]
(.seq (Q [xl 4 2 1,o 5 (.callF f_key_May [.t 4]),o 6 (.un .not (.t 5))]
(.cond (.t 6)
(Q [o 7 (.build [vu 0,vi 0,ve,.nils,.nils] []),xs 5 2 7,o 3 (.mv (ci 3))]
(.ret [2,3]))
.skip))
(.seq (.drawn [xa 8 1 1,xf 9 8,o 10 (.callF f_pick_TextOf [.t 9]),o 11 (.build [ve,vu 0,vi 0,ve,.nils,.nils] [(0,1,(cs [112,117,98,108,105,99])),(1,5,(.t 10))]),xa 12 0 1,⟨(some 13),(.load false 1 (.t 12)),none,[2]⟩,o 14 (.callF f_pick_TextOf [.t 13]),o 15 (.build [ve,vu 0,vi 0,ve,.nils,.nils] [(0,1,(cs [115,99,104,101,109,101])),(1,5,(.t 14))]),o 16 (.buildSl [ve,vu 0,vi 0,ve,.nils,.nils] 2 6 [(0,6,(.t 11)),(6,6,(.t 15))]),o 17 (.callF f_pick_ObjectOf [.t 16]),xe 18 17 0,xe 19 17 1,xs 5 2 18,m 3 19])
(.ret [2,3]))))⟩
/-! legate/canon.Encode -/
def K_canon_Encode : KF := ⟨1,16,[(.tmp 2),(.tmp 3)],(Q [o 1 (.box (.t 0)),o 2 (.mv (cs [])),o 3 (.mv (ci 0))]
(.seq (Q [xl 7 5 1,o 8 (.callF f_value_May [.t 7]),o 9 (.un .not (.t 8))]
(.cond (.t 9)
(Q [o 2 (.mv (cs [])),o 3 (.mv (ci 3))]
(.ret [2,3]))
.skip))
(Q [o 4 (.new [.nilp,.nils] (some (220,true)))]
(Q [o 10 (.mkFunc (.func f_canon_Encode_1) [] [.t 4]),o 5 (.new [.nilFunc] none),xs 1 5 10]
(Q [o 6 (.new [.nilFunc] none)]
(Q [o 11 (.mkFunc (.func f_canon_Encode_2) [] [.t 4,.t 5,.t 6]),xs 1 6 11]
(Q [xf 12 6,xl 13 5 1,o 14 (.callV (.t 12) [.t 13])]
(Q [o 15 (.callF f_strings_Builder_String [.t 4]),m 2 15,o 3 (.mv (ci 0))]
(.ret [2,3])))))))))⟩
/-! legate/check.Cap -/
def K_check_Cap : KF := ⟨3,32,[(.cell 6 true 4),(.tmp 7),(.tmp 8)],(Q [o 3 (.box (.t 0)),o 6 (.new [ve,vi 0,vi 0,.nils] none),o 7 (.mv (ci 0)),o 8 (.mv (cu 0))]
(Q [xl 11 3 3,m 12 1,o 13 (.callF f_snap_Pin [.t 11,.t 12]),m 10 13,xe 14 10 0,xe 15 10 1,xs 4 6 14,m 9 15]
(.seq (Q [m 16 9,o 17 (.un .not (.t 16))]
(.cond (.t 17)
(Q [o 18 (.build [ve,vi 0,vi 0,.nils] []),xs 4 6 18,o 7 (.mv (ci 0)),o 8 (.mv (cu 1))]
(.ret [6,7,8]))
.skip))
(.seq (Q [xa 19 2 6,xf 20 19,o 21 (.bin .lss 0 true (.t 20) (ci 0))]
(.cond (.t 21)
(Q [xl 22 4 6,m 23 2,xs 4 6 22,m 7 23,o 8 (.mv (cu 0))]
(.ret [6,7,8]))
.skip))
(.seq (Q [xa 24 2 6,xf 25 24,m 26 2,o 27 (.bin .gtr 0 false (.t 25) (.t 26))]
(.cond (.t 27)
(Q [o 28 (.build [ve,vi 0,vi 0,.nils] []),xs 4 6 28,o 7 (.mv (ci 0)),o 8 (.mv (cu 3))]
(.ret [6,7,8]))
.skip))
(Q [xl 29 4 6,xa 30 2 6,xf 31 30,xs 4 6 29,m 7 31,o 8 (.mv (cu 0))]
(.ret [6,7,8])))))))⟩
/-! legate/check.Role -/
def K_check_Role : KF := ⟨7,66,[(.cell 14 true 9),(.tmp 15)],(Q [o 8 (.box (.t 1)),o 9 (.box (.t 2)),o 14 (.new [vi 0,vi 0,.nils,.nils,.nils,vi 0,.nils,vi 0,ve] none),o 15 (.mv (cu 0))]
(Q [m 20 0,xl 21 2 9,m 22 3,xl 23 4 8,m 24 4,m 25 5,m 26 6,o 27 (.build [.nilp,vi 0,.nils,.nils,ve,vi 0,vi 0,.nils,vi 0,ve,vi 0,vu 0,vi 0,ve,.nils,.nils,vu 0,vi 0,ve,.nils,.nils,.nils,vi 0,vi 0] [(0,1,(.t 20)),(1,2,(.t 21)),(3,1,(.t 22)),(4,4,(.t 23)),(8,1,(.t 24)),(9,1,(.t 25)),(10,1,(.t 26))]),o 28 (.box (.t 27)),o 16 (.new [.nilp] none),xs 1 16 28]
(Q [o 17 (.new [vi 0,vi 0,.nils,.nils,.nils,vi 0,.nils,vi 0,ve] none)]
(Q [o 29 (.mkFunc (.func f_check_Role_1) [] [.t 16,.t 17]),m 18 29]
(Q [xf 30 16,o 31 (.mkFunc (.func f_check_file_missing) [.t 30] []),o 32 (.build [vu 0,.nilFunc] [(0,1,(cu 2)),(1,1,(.t 31))]),xf 33 16,o 34 (.mkFunc (.func f_check_file_big) [.t 33] []),o 35 (.build [vu 0,.nilFunc] [(0,1,(cu 3)),(1,1,(.t 34))]),xf 36 16,o 37 (.mkFunc (.func f_check_file_small) [.t 36] []),o 38 (.build [vu 0,.nilFunc] [(0,1,(cu 4)),(1,1,(.t 37))]),xf 39 16,o 40 (.mkFunc (.func f_check_file_otherDigest) [.t 39] []),o 41 (.build [vu 0,.nilFunc] [(0,1,(cu 5)),(1,1,(.t 40))]),xf 42 16,o 43 (.mkFunc (.func f_check_file_noText) [.t 42] []),o 44 (.build [vu 0,.nilFunc] [(0,1,(cu 6)),(1,1,(.t 43))]),xf 45 16,o 46 (.mkFunc (.func f_check_file_noEnvelope) [.t 45] []),o 47 (.build [vu 0,.nilFunc] [(0,1,(cu 7)),(1,1,(.t 46))]),m 48 18,o 49 (.build [vu 0,.nilFunc] [(0,1,(cu 7)),(1,1,(.t 48))]),xf 50 16,o 51 (.mkFunc (.func f_check_file_unsigned) [.t 50] []),o 52 (.build [vu 0,.nilFunc] [(0,1,(cu 8)),(1,1,(.t 51))]),xf 53 16,o 54 (.mkFunc (.func f_check_file_otherVersion) [.t 53] []),o 55 (.build [vu 0,.nilFunc] [(0,1,(cu 9)),(1,1,(.t 54))]),xf 56 16,o 57 (.mkFunc (.func f_check_file_expired) [.t 56] []),o 58 (.build [vu 0,.nilFunc] [(0,1,(cu 10)),(1,1,(.t 57))]),o 59 (.buildSl [vu 0,.nilFunc] 10 2 [(0,2,(.t 32)),(2,2,(.t 35)),(4,2,(.t 38)),(6,2,(.t 41)),(8,2,(.t 44)),(10,2,(.t 47)),(12,2,(.t 49)),(14,2,(.t 52)),(16,2,(.t 55)),(18,2,(.t 58))]),o 60 (.callF f_check_first [.t 59]),m 19 60]
(.seq (Q [m 61 19,o 62 (.bin .neq 0 true (.t 61) (cu 0))]
(.cond (.t 62)
(Q [o 63 (.build [vi 0,vi 0,.nils,.nils,.nils,vi 0,.nils,vi 0,ve] []),m 64 19,xs 9 14 63,m 15 64]
(.ret [14,15]))
.skip))
(Q [xl 65 9 17,xs 9 14 65,o 15 (.mv (cu 0))]
(.ret [14,15]))))))))⟩
/-! (*legate/store.Store).made -/
def K_store_Store_made : KF := ⟨1,12,[(.tmp 2)],(Q [o 2 (.mv (.c (.bool false)))]
(Q [m 3 0,o 4 (.bin .neq 3 true (.t 3) (.c .nilp)),m 5 4,og 6 5 true (.mv (.t 0)),og 7 5 true (.nilck (.t 6)),og 8 5 true (.fieldAddr 2 (.t 7)),og 9 5 true (.load false 1 (.t 8)),og 10 5 true (.bin .neq 6 true (.t 9) (.c .nilMap)),o 11 (.pick (.t 5) (.t 10) (.c (.bool false))),m 2 11]
(.ret [2])))⟩
/-! (*legate/store.Store).Told -/
def K_store_Store_Told : KF := ⟨2,34,[(.cell 4 true 4),(.tmp 5)],(Q [o 4 (.new [ve,ve,vi 0,vi 0] none),o 5 (.mv (.c (.bool false)))]
(.seq (Q [m 8 0,o 9 (.callF f_store_Store_made [.t 8]),o 10 (.un .not (.t 9))]
(.cond (.t 10)
(Q [o 11 (.build [ve,ve,vi 0,vi 0] []),xs 4 4 11,o 5 (.mv (.c (.bool false)))]
(.ret [4,5]))
.skip))
(Q [m 13 0,o 14 (.nilck (.t 13)),xa 15 2 14,xf 16 15,m 17 1,o 18 (.lookup (.agg [vi 0,vi 0,ve]) (.t 16) (.t 17) true),m 12 18,xe 19 12 0,xe 20 12 1,o 6 (.new [vi 0,vi 0,ve] none),xs 3 6 19,m 7 20]
(.seq (Q [m 21 7,o 22 (.un .not (.t 21))]
(.cond (.t 22)
(Q [o 23 (.build [ve,ve,vi 0,vi 0] []),xs 4 4 23,o 5 (.mv (.c (.bool false)))]
(.ret [4,5]))
.skip))
(.seq (.plain [m 24 0,o 25 (.nilck (.t 24)),xa 26 0 25,xf 27 26,m 28 1,xa 29 0 6,xf 30 29,xa 31 1 6,xf 32 31,o 33 (.build [ve,ve,vi 0,vi 0] [(0,1,(.t 27)),(1,1,(.t 28)),(2,1,(.t 30)),(3,1,(.t 32))]),xs 4 4 33,o 5 (.mv (.c (.bool true)))])
(.ret [4,5]))))))⟩
/-! slices.Clone[[]legate/api.File,legate/api.File] -/
def K_slices_Clone_api_File_api_File : KF := ⟨1,8,[(.tmp 2)],(Q [o 2 (.mv (.c .nils))]
(.seq (Q [m 3 0,o 4 (.bin .eql 7 true (.t 3) (.c .nils))]
(.cond (.t 4)
(Q [o 2 (.mv (.c .nils))]
(.ret [2]))
.skip))
(Q [o 5 (.buildSl [ve,ve] 0 2 []),m 6 0,o 7 (.app false 2 32 none (.t 5) (.t 6)),m 2 7]
(.ret [2]))))⟩
/-! slices.Clone[[]string,string] -/
def K_slices_Clone_string_string : KF := ⟨1,8,[(.tmp 2)],(Q [o 2 (.mv (.c .nils))]
(.seq (Q [m 3 0,o 4 (.bin .eql 7 true (.t 3) (.c .nils))]
(.cond (.t 4)
(Q [o 2 (.mv (.c .nils))]
(.ret [2]))
.skip))
(Q [o 5 (.buildSl [ve] 0 1 []),m 6 0,o 7 (.app false 1 16 none (.t 5) (.t 6)),m 2 7]
(.ret [2]))))⟩
/-! legate/root.keysMay -/
def L_root_keysMay_0 : KC :=
(Q [o 14 (.bin .lss 0 false (.t 13) (.t 12))]
(.seq (.cond (.t 14)
.skip
(.exit [] 0))
(.seq (.block 1
(Q [o 15 (.idxAddrSl 2 (.t 11) (.t 13)),xl 16 2 15,o 5 (.new [ve,ve] none),xs 2 5 16]
(Q [xl 18 2 5,o 19 (.callF f_key_ID [.t 18]),m 17 19,xe 20 17 0,xe 21 17 1,m 6 20,m 7 21]
(.seq (Q [m 22 7,o 23 (.bin .neq 0 true (.t 22) (ci 0)),m 24 23,og 25 24 false (.mv (.t 6)),og 26 24 false (.mv (.t 3)),og 27 24 false (.bin .leq 0 false (.t 25) (.t 26)),o 28 (.pick (.t 24) (.c (.bool true)) (.t 27))]
(.cond (.t 28)
(Q [o 2 (.mv (.c (.bool false)))]
(.ret [2]))
.skip))
(.ops [m 29 6,m 3 29])))))
(.ops [o 30 (.bin .add 0 true (.t 13) (ci 1)),m 13 30]))))
def K_root_keysMay : KF := ⟨1,31,[(.tmp 2)],(Q [o 2 (.mv (.c (.bool false)))]
(.seq (Q [m 8 0,o 9 (.len 1 (.t 8)),o 10 (.bin .gtr 0 true (.t 9) (ci 32))]
(.cond (.t 10)
(Q [o 2 (.mv (.c (.bool false)))]
(.ret [2]))
.skip))
(Q [o 3 (.mv (cs []))]
(.seq (Q [m 11 0,o 12 (.len 1 (.t 11)),o 13 (.mv (ci 0))]
(.block 0
(.loop [3,11,12,13] L_root_keysMay_0)))
(Q [o 2 (.mv (.c (.bool true)))]
(.ret [2]))))))⟩
/-! legate/auth.May -/
def K_auth_May : KF := ⟨1,28,[(.tmp 2)],(Q [o 1 (.box (.t 0)),o 2 (.mv (.c (.bool false)))]
(Q [xa 4 1 1,xf 5 4,o 6 (.len 1 (.t 5)),m 3 6]
(.seq (Q [m 7 3,o 8 (.bin .lss 0 true (.t 7) (ci 1)),m 9 8,og 10 9 false (.mv (.t 3)),og 11 9 false (.bin .gtr 0 true (.t 10) (ci 16)),o 12 (.pick (.t 9) (.c (.bool true)) (.t 11)),m 13 12,og 14 13 false (.fieldAddr 0 (.t 1)),og 15 13 false (.load false 1 (.t 14)),og 16 13 false (.bin .lss 0 true (.t 15) (ci 1)),o 17 (.pick (.t 13) (.c (.bool true)) (.t 16)),m 18 17,og 19 18 false (.fieldAddr 0 (.t 1)),og 20 18 false (.load false 1 (.t 19)),og 21 18 false (.mv (.t 3)),og 22 18 false (.bin .gtr 0 false (.t 20) (.t 21)),o 23 (.pick (.t 18) (.c (.bool true)) (.t 22))]
(.cond (.t 23)
(Q [o 2 (.mv (.c (.bool false)))]
(.ret [2]))
.skip))
(Q [xa 24 1 1,xf 25 24,o 26 (.callF f_auth_wrong [.t 25]),o 27 (.bin .eql 0 true (.t 26) (ci 0)),m 2 27]
(.ret [2])))))⟩
/-! legate/when.start -/
def K_when_start : KF := ⟨1,12,[(.tmp 2)],(Q [o 2 (.mv (ci 0))]
(Q [m 3 0,o 4 (.bin .sub 0 true (.t 3) (ci 1970)),o 5 (.bin .mul 0 true (ci 365) (.t 4)),m 6 0,o 7 (.bin .sub 0 true (.t 6) (ci 1)),o 8 (.callF f_when_leaps [.t 7]),o 9 (.bin .add 0 false (.t 5) (.t 8)),o 10 (.callF f_when_leaps [ci 1969]),o 11 (.bin .sub 0 false (.t 9) (.t 10)),m 2 11]
(.ret [2])))⟩
/-! legate/when.Days -/
def K_when_Days : KF := ⟨2,37,[(.tmp 4)],(Q [o 4 (.mv (ci 0))]
(.seq (Q [m 6 0,o 7 (.bin .lss 0 true (.t 6) (ci 1970)),m 8 7,og 9 8 false (.mv (.t 0)),og 10 8 false (.bin .gtr 0 true (.t 9) (ci 9999)),o 11 (.pick (.t 8) (.c (.bool true)) (.t 10)),m 12 11,og 13 12 false (.mv (.t 1)),og 14 12 false (.bin .lss 0 true (.t 13) (ci 1)),o 15 (.pick (.t 12) (.c (.bool true)) (.t 14)),m 16 15,og 17 16 false (.mv (.t 1)),og 18 16 false (.bin .gtr 0 true (.t 17) (ci 12)),o 19 (.pick (.t 16) (.c (.bool true)) (.t 18))]
(.cond (.t 19)
(Q [o 4 (.mv (ci 0))]
(.ret [4]))
.skip))
(.seq (.plain [m 20 1,o 21 (.idxAddrArr 13 1 (.g g_when_before) (.t 20)),xf 22 21,m 23 1,o 24 (.bin .sub 0 true (.t 23) (ci 1)),o 25 (.idxAddrArr 13 1 (.g g_when_before) (.t 24)),xf 26 25,o 27 (.bin .sub 0 false (.t 22) (.t 26)),m 5 27])
(.seq (Q [m 28 1,o 29 (.bin .eql 0 true (.t 28) (ci 2)),m 30 29,og 31 30 true (.mv (.t 0)),og 32 30 true (.callF f_when_leap [.t 31]),o 33 (.pick (.t 30) (.t 32) (.c (.bool false)))]
(.cond (.t 33)
(.ops [m 34 5,o 35 (.bin .add 0 true (.t 34) (ci 1)),m 5 35])
.skip))
(Q [m 36 5,m 4 36]
(.ret [4]))))))⟩
/-! legate/when.pad -/
def K_when_pad : KF := ⟨2,20,[(.tmp 4)],(Q [o 4 (.mv (cs []))]
(Q [m 6 0,o 7 (.callF f_strconv_Itoa [.t 6]),m 5 7]
(.seq (Q [m 8 5,o 9 (.len 0 (.t 8)),m 10 1,o 11 (.bin .lss 0 false (.t 9) (.t 10))]
(.cond (.t 11)
(.ops [m 12 1,m 13 5,o 14 (.len 0 (.t 13)),o 15 (.bin .sub 0 false (.t 12) (.t 14)),o 16 (.callF f_strings_Repeat [cs [48],.t 15]),m 17 5,o 18 (.bin .add 0 false (.t 16) (.t 17)),m 5 18])
.skip))
(Q [m 19 5,m 4 19]
(.ret [4])))))⟩
/-! legate/key.entryOf -/
def K_key_entryOf : KF := ⟨1,28,[(.cell 2 true 6),(.tmp 3)],(Q [o 1 (.box (.t 0)),o 2 (.new [ve,vu 0,vi 0,ve,.nils,.nils] none),o 3 (.mv (ci 0))]
(Q [xl 8 2 1,o 9 (.callF f_key_ID [.t 8]),m 7 9,xe 10 7 0,xe 11 7 1,m 4 10,m 5 11]
(.seq (Q [m 12 5,o 13 (.bin .neq 0 true (.t 12) (ci 0))]
(.cond (.t 13)
(Q [o 14 (.build [ve,vu 0,vi 0,ve,.nils,.nils] []),m 15 5,xs 6 2 14,m 3 15]
(.ret [2,3]))
.skip))
(Q [xl 17 2 1,o 18 (.callF f_key_Value [.t 17]),m 16 18,xe 19 16 0,xe 20 16 1,o 6 (.new [vu 0,vi 0,ve,.nils,.nils] none),xs 5 6 19,m 5 20]
(.seq (Q [m 21 5,o 22 (.bin .neq 0 true (.t 21) (ci 0))]
(.cond (.t 22)
(Q [o 23 (.build [ve,vu 0,vi 0,ve,.nils,.nils] []),m 24 5,xs 6 2 23,m 3 24]
(.ret [2,3]))
.skip))
(Q [m 25 4,xl 26 5 6,o 27 (.build [ve,vu 0,vi 0,ve,.nils,.nils] [(0,1,(.t 25)),(1,5,(.t 26))]),xs 6 2 27,o 3 (.mv (ci 0))]
(.ret [2,3])))))))⟩
/-! slices.SortFunc[[]legate/key.entry,legate/key.entry] -/
def K_slices_SortFunc_key_entry_key_entry : KF := ⟨2,14,[],(Q [m 5 0,o 6 (.len 1 (.t 5)),m 4 6]
(.ops [m 7 0,m 8 4,m 9 4,o 10 (.i2i .u64 (.t 9)),o 11 (.callF f_math_bits_Len [.t 10]),m 12 1,o 13 (.callF f_slices_pdqsortCmpFunc_key_entry [.t 7,ci 0,.t 8,.t 11,.t 12])]))⟩
/-! legate/auth.Members -/
def K_auth_Members : KF := ⟨1,12,[(.tmp 2)],(Q [o 1 (.box (.t 0)),o 2 (.mv (.c .nils))]
(.seq (.drawn [xa 3 1 1,xf 4 3,o 5 (.callF f_pick_TextsOf [.t 4]),o 6 (.build [ve,vu 0,vi 0,ve,.nils,.nils] [(0,1,(cs [107,101,121,105,100,115])),(1,5,(.t 5))]),xa 7 0 1,⟨(some 8),(.load false 1 (.t 7)),none,[2]⟩,o 9 (.callF f_pick_NumOf [.t 8]),o 10 (.build [ve,vu 0,vi 0,ve,.nils,.nils] [(0,1,(cs [116,104,114,101,115,104,111,108,100])),(1,5,(.t 9))]),o 11 (.buildSl [ve,vu 0,vi 0,ve,.nils,.nils] 2 6 [(0,6,(.t 6)),(6,6,(.t 10))]),m 2 11])
(.ret [2])))⟩
/-! slices.Clone[[]legate/pick.Member,legate/pick.Member] -/
def K_slices_Clone_pick_Member_pick_Member : KF := ⟨1,8,[(.tmp 2)],(Q [o 2 (.mv (.c .nils))]
(.seq (Q [m 3 0,o 4 (.bin .eql 7 true (.t 3) (.c .nils))]
(.cond (.t 4)
(Q [o 2 (.mv (.c .nils))]
(.ret [2]))
.skip))
(Q [o 5 (.buildSl [ve,vu 0,vi 0,ve,.nils,.nils] 0 6 []),m 6 0,o 7 (.app false 6 96 none (.t 5) (.t 6)),m 2 7]
(.ret [2]))))⟩
/-! slices.SortFunc[[]legate/pick.Member,legate/pick.Member] -/
def K_slices_SortFunc_pick_Member_pick_Member : KF := ⟨2,14,[],(Q [m 5 0,o 6 (.len 1 (.t 5)),m 4 6]
(.ops [m 7 0,m 8 4,m 9 4,o 10 (.i2i .u64 (.t 9)),o 11 (.callF f_math_bits_Len [.t 10]),m 12 1,o 13 (.callF f_slices_pdqsortCmpFunc_pick_Member [.t 7,ci 0,.t 8,.t 11,.t 12])]))⟩
/-! legate/pick.ObjectOf$1 -/
def K_pick_ObjectOf_1 : KF := ⟨2,10,[(.tmp 4)],(Q [o 2 (.box (.t 0)),o 3 (.box (.t 1)),o 4 (.mv (ci 0))]
(Q [xa 5 0 2,xf 6 5,xa 7 0 3,xf 8 7,o 9 (.callF f_strings_Compare [.t 6,.t 8]),m 4 9]
(.ret [4])))⟩
/-! strings.Compare -/
def K_strings_Compare : KF := ⟨2,8,[(.tmp 4)],(Q [o 4 (.mv (ci 0))]
(Q [m 5 0,m 6 1,o 7 (.callF f_internal_bytealg_CompareString [.t 5,.t 6]),m 4 7]
(.ret [4])))⟩
/-! legate/value.Copy -/
def L_value_Copy_0 : KC :=
(Q [o 20 (.bin .lss 0 false (.t 19) (.t 18))]
(.seq (.cond (.t 20)
.skip
(.exit [2,3] 0))
(.seq (.block 1
(Q [o 21 (.idxAddrSl 5 (.t 17) (.t 19)),xl 22 5 21,o 5 (.new [vu 0,vi 0,ve,.nils,.nils] none),xs 5 5 22]
(.seq (Q [xa 23 4 5,xf 24 23,o 25 (.callF f_value_endless [.t 24,ci 1,(.c .nilp),(.c (.bool false))])]
(.cond (.t 25)
(.ops [o 26 (.build [vu 0,vi 0,ve,.nils,.nils] []),xs 5 5 26])
.skip))
(.drawn [xa 27 4 3,⟨(some 28),(.load false 1 (.t 27)),none,[3]⟩,xl 29 5 5,o 30 (.callF f_value_duplicate [.t 29]),o 31 (.buildSl [vu 0,vi 0,ve,.nils,.nils] 1 5 [(0,5,(.t 30))]),o 32 (.app false 5 80 none (.t 28) (.t 31)),xa 33 4 3,xs 1 33 32]))))
(.ops [o 34 (.bin .add 0 true (.t 19) (ci 1)),m 19 34]))))
def K_value_Copy : KF := ⟨1,36,[(.cell 2 true 5)],(Q [o 1 (.box (.t 0)),o 2 (.new [vu 0,vi 0,ve,.nils,.nils] none)]
(.seq (.drawn [xa 6 0 1,⟨(some 7),(.load false 1 (.t 6)),none,[8]⟩,xa 8 1 1,⟨(some 9),(.load false 1 (.t 8)),none,[8]⟩,xa 10 2 1,⟨(some 11),(.load false 1 (.t 10)),none,[8]⟩,xa 12 3 1,xf 13 12,o 14 (.callF f_slices_Clone_string_string [.t 13]),o 15 (.build [vu 0,vi 0,ve,.nils,.nils] [(0,1,(.t 7)),(1,1,(.t 9)),(2,1,(.t 11)),(3,1,(.t 14))]),u .pend,o 3 (.fill 10 3 5 (.t 15))])
(.seq (Q [xa 16 4 1,xf 17 16,o 18 (.len 1 (.t 17)),o 19 (.mv (ci 0))]
(.block 0
(.loop [2,3,17,18,19] L_value_Copy_0)))
(Q [xl 35 5 3,xs 5 2 35]
(.ret [2])))))⟩
/-! legate/snap.MayPin -/
def K_snap_MayPin : KF := ⟨1,38,[(.tmp 2)],(Q [o 1 (.box (.t 0)),o 2 (.mv (.c (.bool false)))]
(.seq (Q [xa 6 0 1,xf 7 6,o 8 (.callF f_name_RoleOf [.t 7]),m 5 8,xe 9 5 0,xe 10 5 1,m 3 9,m 4 10]
(Q [m 11 4,o 12 (.bin .neq 0 true (.t 11) (ci 0))]
(.cond (.t 12)
(Q [o 2 (.mv (.c (.bool false)))]
(.ret [2]))
.skip)))
(.seq (Q [xa 13 1 1,xf 14 13,o 15 (.bin .lss 0 true (.t 14) (ci 1)),m 16 15,og 17 16 false (.fieldAddr 1 (.t 1)),og 18 16 false (.load false 1 (.t 17)),og 19 16 false (.bin .gtr 0 true (.t 18) (ci 1099511627776)),o 20 (.pick (.t 16) (.c (.bool true)) (.t 19))]
(.cond (.t 20)
(Q [o 2 (.mv (.c (.bool false)))]
(.ret [2]))
.skip))
(.seq (Q [xa 21 2 1,xf 22 21,o 23 (.bin .lss 0 true (.t 22) (ci (-1))),m 24 23,og 25 24 false (.fieldAddr 2 (.t 1)),og 26 24 false (.load false 1 (.t 25)),og 27 24 false (.bin .gtr 0 true (.t 26) (ci 1099511627776)),o 28 (.pick (.t 24) (.c (.bool true)) (.t 27))]
(.cond (.t 28)
(Q [o 2 (.mv (.c (.bool false)))]
(.ret [2]))
.skip))
(Q [xa 29 3 1,xf 30 29,o 31 (.len 1 (.t 30)),o 32 (.bin .eql 0 true (.t 31) (ci 0)),m 33 32,og 34 33 false (.fieldAddr 3 (.t 1)),og 35 33 false (.load false 1 (.t 34)),og 36 33 false (.callF f_record_MayHashes [.t 35]),o 37 (.pick (.t 33) (.c (.bool true)) (.t 36)),m 2 37]
(.ret [2]))))))⟩
/-! legate/targ.listMay -/
def L_targ_listMay_0 : KC :=
(Q [o 11 (.bin .lss 0 false (.t 10) (.t 9))]
(.seq (.cond (.t 11)
.skip
(.exit [] 0))
(.seq (.block 1
(Q [m 12 10,o 13 (.idxAddrSl 8 (.t 8) (.t 10)),xl 14 8 13,o 4 (.new [ve,vi 0,.nils,vu 0,vi 0,ve,.nils,.nils] none),m 3 12,xs 8 4 14]
(.seq (Q [xa 15 0 4,xf 16 15,o 17 (.callF f_name_Path [.t 16]),o 18 (.un .not (.t 17)),m 19 18,og 20 19 false (.fieldAddr 1 (.t 4)),og 21 19 false (.load true 7 (.t 20)),og 22 19 false (.callF f_record_May [.t 21]),og 23 19 false (.un .not (.t 22)),o 24 (.pick (.t 19) (.c (.bool true)) (.t 23))]
(.cond (.t 24)
(Q [o 2 (.mv (.c (.bool false)))]
(.ret [2]))
.skip))
(.seq (.plain [m 25 3,o 26 (.bin .gtr 0 true (.t 25) (ci 0)),m 27 26,og 28 27 true (.fieldAddr 0 (.t 4)),og 29 27 true (.load false 1 (.t 28)),og 30 27 true (.mv (.t 0)),og 31 27 true (.mv (.t 3)),og 32 27 true (.bin .sub 0 true (.t 31) (ci 1)),og 33 27 true (.idxAddrSl 8 (.t 30) (.t 32)),og 34 27 true (.fieldAddr 0 (.t 33)),og 35 27 true (.load false 1 (.t 34)),og 36 27 true (.bin .leq 0 false (.t 29) (.t 35)),o 37 (.pick (.t 27) (.t 36) (.c (.bool false)))])
(.cond (.t 37)
(Q [o 2 (.mv (.c (.bool false)))]
(.ret [2]))
.skip)))))
(.ops [o 38 (.bin .add 0 true (.t 10) (ci 1)),m 10 38]))))
def K_targ_listMay : KF := ⟨1,39,[(.tmp 2)],(Q [o 2 (.mv (.c (.bool false)))]
(.seq (Q [m 5 0,o 6 (.len 1 (.t 5)),o 7 (.bin .gtr 0 true (.t 6) (ci 256))]
(.cond (.t 7)
(Q [o 2 (.mv (.c (.bool false)))]
(.ret [2]))
.skip))
(.seq (Q [m 8 0,o 9 (.len 1 (.t 8)),o 10 (.mv (ci 0))]
(.block 0
(.loop [0,8,9,10] L_targ_listMay_0)))
(Q [o 2 (.mv (.c (.bool true)))]
(.ret [2])))))⟩
/-! legate/deleg.May -/
def K_deleg_May : KF := ⟨1,27,[(.tmp 2)],(Q [o 1 (.box (.t 0)),o 2 (.mv (.c (.bool false)))]
(.seq (Q [xa 3 0 1,xf 4 3,o 5 (.callF f_deleg_keysMay [.t 4]),o 6 (.un .not (.t 5))]
(.cond (.t 6)
(Q [o 2 (.mv (.c (.bool false)))]
(.ret [2]))
.skip))
(.seq (Q [xa 7 2 1,xl 8 4 7,o 9 (.callF f_deleg_noBins [.t 8])]
(.cond (.t 9)
(Q [xa 10 1 1,xf 11 10,o 12 (.callF f_deleg_rolesMay [.t 11]),o 13 (.un .not (.t 12))]
(.cond (.t 13)
(Q [o 2 (.mv (.c (.bool false)))]
(.ret [2]))
.skip))
(Q [xa 14 1 1,xf 15 14,o 16 (.len 1 (.t 15)),o 17 (.bin .gtr 0 true (.t 16) (ci 0)),m 18 17,og 19 18 false (.fieldAddr 2 (.t 1)),og 20 18 false (.load true 4 (.t 19)),og 21 18 false (.callF f_deleg_binsMay [.t 20]),og 22 18 false (.un .not (.t 21)),o 23 (.pick (.t 18) (.c (.bool true)) (.t 22))]
(.cond (.t 23)
(Q [o 2 (.mv (.c (.bool false)))]
(.ret [2]))
.skip))))
(Q [xl 24 6 1,o 25 (.callF f_deleg_object [.t 24]),o 26 (.callF f_value_May [.t 25]),m 2 26]
(.ret [2])))))⟩
/-! legate/value.May -/
def K_value_May : KF := ⟨1,6,[(.tmp 2)],(Q [o 1 (.box (.t 0)),o 2 (.mv (.c (.bool false)))]
(Q [o 3 (.new [vi 0] none),u (.store 1 (.t 3) (ci 8192))]
(Q [xl 4 5 1,o 5 (.callF f_value_may [.t 4,ci 12,.t 3]),m 2 5]
(.ret [2]))))⟩
/-! legate/targ.empty -/
def K_targ_empty : KF := ⟨1,19,[(.tmp 2)],(Q [o 1 (.box (.t 0)),o 2 (.mv (.c (.bool false)))]
(Q [xa 3 0 1,xf 4 3,o 5 (.len 1 (.t 4)),o 6 (.bin .eql 0 true (.t 5) (ci 0)),m 7 6,og 8 7 true (.fieldAddr 1 (.t 1)),og 9 7 true (.load false 1 (.t 8)),og 10 7 true (.len 1 (.t 9)),og 11 7 true (.bin .eql 0 true (.t 10) (ci 0)),o 12 (.pick (.t 7) (.t 11) (.c (.bool false))),m 13 12,og 14 13 true (.fieldAddr 2 (.t 1)),og 15 13 true (.fieldAddr 2 (.t 14)),og 16 13 true (.load false 1 (.t 15)),og 17 13 true (.bin .eql 0 true (.t 16) (ci 0)),o 18 (.pick (.t 13) (.t 17) (.c (.bool false))),m 2 18]
(.ret [2])))⟩
/-! legate/sign.May -/
def L_sign_May_0 : KC :=
(Q [o 19 (.bin .lss 0 false (.t 18) (.t 17))]
(.seq (.cond (.t 19)
.skip
(.exit [1] 0))
(.seq (.block 1
(Q [o 20 (.idxAddrSl 2 (.t 16) (.t 18)),xl 21 2 20,o 4 (.new [ve,ve] none),xs 2 4 21]
(Q [xl 22 2 4,o 23 (.callF f_sign_maySig [.t 22]),o 24 (.un .not (.t 23))]
(.cond (.t 24)
(Q [o 2 (.mv (.c (.bool false)))]
(.ret [2]))
.skip))))
(.ops [o 25 (.bin .add 0 true (.t 18) (ci 1)),m 18 25]))))
def K_sign_May : KF := ⟨1,29,[(.tmp 2)],(Q [o 1 (.box (.t 0)),o 2 (.mv (.c (.bool false)))]
(.seq (Q [xa 5 5 1,xf 6 5,o 7 (.len 1 (.t 6)),o 8 (.bin .gtr 0 true (.t 7) (ci 32)),m 9 8,og 10 9 false (.fieldAddr 0 (.t 1)),og 11 9 false (.fieldAddr 0 (.t 10)),og 12 9 false (.load false 1 (.t 11)),og 13 9 false (.bin .neq 0 true (.t 12) (cu 5)),o 14 (.pick (.t 9) (.c (.bool true)) (.t 13))]
(.cond (.t 14)
(Q [o 2 (.mv (.c (.bool false)))]
(.ret [2]))
.skip))
(.seq (Q [xa 15 5 1,xf 16 15,o 17 (.len 1 (.t 16)),o 18 (.mv (ci 0))]
(.block 0
(.loop [1,16,17,18] L_sign_May_0)))
(Q [xl 26 6 1,o 27 (.callF f_sign_object [.t 26]),o 28 (.callF f_value_May [.t 27]),m 2 28]
(.ret [2])))))⟩
/-! legate/sign.object -/
def L_sign_object_0 : KC :=
(Q [o 11 (.bin .lss 0 false (.t 10) (.t 9))]
(.seq (.cond (.t 11)
.skip
(.exit [1,2,3] 0))
(.seq (.block 1
(Q [o 12 (.idxAddrSl 2 (.t 8) (.t 10)),xl 13 2 12,o 5 (.new [ve,ve] none),xs 2 5 13]
(.drawn [xa 14 4 3,⟨(some 15),(.load false 1 (.t 14)),none,[5,8]⟩,o 16 (.buildSl [ve] 2 1 [(0,1,(cs [107,101,121,105,100])),(1,1,(cs [115,105,103]))]),xa 17 0 5,xf 18 17,o 19 (.callF f_pick_TextOf [.t 18]),xa 20 1 5,⟨(some 21),(.load false 1 (.t 20)),none,[5]⟩,o 22 (.callF f_pick_TextOf [.t 21]),o 23 (.buildSl [vu 0,vi 0,ve,.nils,.nils] 2 5 [(0,5,(.t 19)),(5,5,(.t 22))]),o 24 (.build [vu 0,vi 0,ve,.nils,.nils] [(0,1,(cu 5)),(3,1,(.t 16)),(4,1,(.t 23))]),o 25 (.buildSl [vu 0,vi 0,ve,.nils,.nils] 1 5 [(0,5,(.t 24))]),o 26 (.app false 5 80 none (.t 15) (.t 25)),xa 27 4 3,xs 1 27 26])))
(.ops [o 28 (.bin .add 0 true (.t 10) (ci 1)),m 10 28]))))
def K_sign_object : KF := ⟨1,35,[(.cell 2 true 5)],(Q [o 1 (.box (.t 0)),o 2 (.new [vu 0,vi 0,ve,.nils,.nils] none)]
(Q [o 6 (.build [vu 0,vi 0,ve,.nils,.nils] [(0,1,(cu 4))]),o 3 (.new [vu 0,vi 0,ve,.nils,.nils] none),xs 5 3 6]
(.seq (Q [xa 7 5 1,xf 8 7,o 9 (.len 1 (.t 8)),o 10 (.mv (ci 0))]
(.block 0
(.loop [1,2,3,8,9,10] L_sign_object_0)))
(Q [o 29 (.buildSl [ve] 2 1 [(0,1,(cs [115,105,103,110,97,116,117,114,101,115])),(1,1,(cs [115,105,103,110,101,100]))]),xl 30 5 3,xa 31 0 1,xl 32 5 31,o 33 (.buildSl [vu 0,vi 0,ve,.nils,.nils] 2 5 [(0,5,(.t 30)),(5,5,(.t 32))]),o 34 (.build [vu 0,vi 0,ve,.nils,.nils] [(0,1,(cu 5)),(3,1,(.t 29)),(4,1,(.t 33))]),xs 5 2 34]
(.ret [2])))))⟩
/-! legate/name.Role -/
def L_name_Role_0 : KC :=
(Q [o 19 (.bin .lss 0 false (.t 18) (.t 17))]
(.seq (.cond (.t 19)
.skip
(.exit [] 0))
(.seq (.block 1
(Q [m 20 18,m 3 20]
(Q [m 21 0,m 22 3,o 23 (.idxStr (.t 21) (.t 22)),o 24 (.callF f_name_allowed [.t 23]),o 25 (.un .not (.t 24))]
(.cond (.t 25)
(Q [o 2 (.mv (.c (.bool false)))]
(.ret [2]))
.skip))))
(.ops [o 26 (.bin .add 0 true (.t 18) (ci 1)),m 18 26]))))
def K_name_Role : KF := ⟨1,27,[(.tmp 2)],(Q [o 2 (.mv (.c (.bool false)))]
(.seq (Q [m 4 0,o 5 (.bin .eql 0 true (.t 4) (cs [])),m 6 5,og 7 6 false (.mv (.t 0)),og 8 6 false (.len 0 (.t 7)),og 9 6 false (.bin .gtr 0 true (.t 8) (ci 64)),o 10 (.pick (.t 6) (.c (.bool true)) (.t 9)),m 11 10,og 12 11 false (.mv (.t 0)),og 13 11 false (.idxStr (.t 12) (ci 0)),og 14 11 false (.bin .eql 0 true (.t 13) (cu 46)),o 15 (.pick (.t 11) (.c (.bool true)) (.t 14))]
(.cond (.t 15)
(Q [o 2 (.mv (.c (.bool false)))]
(.ret [2]))
.skip))
(.seq (Q [m 16 0,o 17 (.len 0 (.t 16)),o 18 (.mv (ci 0))]
(.block 0
(.loop [0,17,18] L_name_Role_0)))
(Q [o 2 (.mv (.c (.bool true)))]
(.ret [2])))))⟩
/-! legate/sign.Read -/
def K_sign_Read : KF := ⟨1,21,[(.cell 2 true 6),(.tmp 3)],(Q [o 2 (.new [vu 0,vi 0,ve,.nils,.nils,.nils] none),o 3 (.mv (ci 0))]
(Q [m 8 0,o 9 (.callF f_read_Read [.t 8]),m 7 9,xe 10 7 0,xe 11 7 1,xe 12 7 2,o 4 (.new [vu 0,vi 0,ve,.nils,.nils] none),xs 5 4 10,m 5 11,m 6 12]
(.seq (Q [m 13 6,o 14 (.bin .neq 0 true (.t 13) (ci 0))]
(.cond (.t 14)
(Q [o 15 (.build [vu 0,vi 0,ve,.nils,.nils,.nils] []),m 16 6,xs 6 2 15,m 3 16]
(.ret [2,3]))
.skip))
(Q [xl 17 5 4,o 18 (.callF f_sign_Of [.t 17]),xe 19 18 0,xe 20 18 1,xs 6 2 19,m 3 20]
(.ret [2,3])))))⟩
/-! legate/root.Of -/
def K_root_Of : KF := ⟨1,68,[(.cell 2 true 9),(.tmp 3)],(Q [o 1 (.box (.t 0)),o 2 (.new [vi 0,vi 0,.nils,vi 0,.nils,vi 0,.nils,vi 0,.nils] none),o 3 (.mv (ci 0))]
(.seq (Q [xl 9 5 1,o 10 (.callF f_value_May [.t 9]),o 11 (.un .not (.t 10))]
(.cond (.t 11)
(Q [o 12 (.build [vi 0,vi 0,.nils,vi 0,.nils,vi 0,.nils,vi 0,.nils] []),xs 9 2 12,o 3 (.mv (ci 3))]
(.ret [2,3]))
.skip))
(Q [xl 13 5 1,o 14 (.callF f_pick_Of [.t 13]),m 4 14]
(Q [o 5 (.new [vi 0,vi 0,.nils,vi 0,.nils,vi 0,.nils,vi 0,.nils] none)]
(Q [o 6 (.mv (ci 0))]
(.seq (Q [m 15 4,o 16 (.callF f_pick_Obj_Text [.t 15,cs [95,116,121,112,101]]),o 17 (.bin .neq 0 true (.t 16) (cs [114,111,111,116]))]
(.cond (.t 17)
(.ops [m 18 4,o 19 (.callF f_pick_Obj_Fail [.t 18,ci 13])])
.skip))
(Q [m 20 4,o 21 (.callF f_pick_Obj_Num [.t 20,cs [118,101,114,115,105,111,110],ci 1,ci 1099511627776]),xa 22 0 5,xs 1 22 21]
(Q [m 24 4,o 25 (.callF f_pick_Obj_Text [.t 24,cs [101,120,112,105,114,101,115]]),o 26 (.callF f_when_Read [.t 25]),m 23 26,xe 27 23 0,xe 28 23 1,xa 29 1 5,xs 1 29 27,m 6 28]
(Q [m 30 4,m 31 6,o 32 (.callF f_pick_Obj_Fail [.t 30,.t 31])]
(Q [m 34 4,o 35 (.callF f_pick_Obj_Object [.t 34,cs [107,101,121,115],ci 32]),o 36 (.callF f_key_Keys [.t 35]),m 33 36,xe 37 33 0,xe 38 33 1,xa 39 2 5,xs 1 39 37,m 6 38]
(Q [m 40 4,m 41 6,o 42 (.callF f_pick_Obj_Fail [.t 40,.t 41])]
(Q [m 44 4,o 45 (.callF f_pick_Obj_Object [.t 44,cs [114,111,108,101,115],ci 8192]),o 46 (.callF f_root_authsOf [.t 45]),m 43 46,xe 47 43 0,xe 48 43 1,o 7 (.new [vi 0,.nils,vi 0,.nils,vi 0,.nils] none),xs 6 7 47,m 6 48]
(Q [m 49 4,m 50 6,o 51 (.callF f_pick_Obj_Fail [.t 49,.t 50])]
(.seq (.drawn [o 52 (.idxAddrArr 3 2 (.t 7) (ci 0)),xl 53 2 52,o 54 (.idxAddrArr 3 2 (.t 7) (ci 1)),⟨(some 55),(.load true 2 (.t 54)),none,[7]⟩,o 56 (.idxAddrArr 3 2 (.t 7) (ci 2)),⟨(some 57),(.load true 2 (.t 56)),none,[7,9]⟩,xa 58 3 5,xs 2 58 53,xa 59 5 5,xs 2 59 55,xa 60 7 5,xs 2 60 57])
(.seq (Q [m 61 4,o 62 (.callF f_pick_Obj_Done [.t 61]),m 8 62]
(Q [m 63 8,o 64 (.bin .neq 0 true (.t 63) (ci 0))]
(.cond (.t 64)
(Q [o 65 (.build [vi 0,vi 0,.nils,vi 0,.nils,vi 0,.nils,vi 0,.nils] []),m 66 8,xs 9 2 65,m 3 66]
(.ret [2,3]))
.skip)))
(Q [xl 67 9 5,xs 9 2 67,o 3 (.mv (ci 0))]
(.ret [2,3])))))))))))))))))⟩
/-! legate/judge.Enough -/
def K_judge_Enough : KF := ⟨4,21,[(.tmp 8)],(Q [o 5 (.box (.t 1)),o 6 (.box (.t 2)),o 8 (.mv (.c (.bool false)))]
(.seq (.drawn [xl 9 2 6,o 10 (.callF f_auth_May [.t 9]),m 11 10,og 12 11 true (.mv (.t 0)),og 13 11 true (.load true 6 (.t 5)),og 14 11 true (.load true 2 (.t 6)),og 15 11 true (.mv (.t 3)),og 16 11 true (.callF f_judge_Count [.t 12,.t 13,.t 14,.t 15]),og 17 11 true (.fieldAddr 0 (.t 6)),⟨(some 18),(.load false 1 (.t 17)),(some (11,true)),[7]⟩,og 19 11 true (.bin .geq 0 false (.t 16) (.t 18)),o 20 (.pick (.t 11) (.t 19) (.c (.bool false))),m 8 20])
(.ret [8])))⟩
/-! legate/name.File -/
def K_name_File : KF := ⟨1,9,[(.tmp 2),(.tmp 3)],(Q [o 2 (.mv (cs [])),o 3 (.mv (ci 0))]
(.seq (Q [m 4 0,o 5 (.callF f_name_Role [.t 4]),o 6 (.un .not (.t 5))]
(.cond (.t 6)
(Q [o 2 (.mv (cs [])),o 3 (.mv (ci 3))]
(.ret [2,3]))
.skip))
(Q [m 7 0,o 8 (.bin .add 0 true (.t 7) (cs [46,106,115,111,110])),m 2 8,o 3 (.mv (ci 0))]
(.ret [2,3]))))⟩
/-! (*legate/store.Store).Get -/
def K_store_Store_Get : KF := ⟨3,55,[(.tmp 6),(.tmp 7),(.tmp 8)],(Q [o 6 (.mv (cs [])),o 7 (.mv (ci 0)),o 8 (.mv (ci 0))]
(.seq (Q [m 11 0,o 12 (.callF f_store_Store_made [.t 11]),o 13 (.un .not (.t 12))]
(.cond (.t 13)
(Q [o 6 (.mv (cs [])),o 7 (.mv (ci 0)),o 8 (.mv (ci 2))]
(.ret [6,7,8]))
.skip))
(.seq (Q [m 14 2,o 15 (.bin .lss 0 true (.t 14) (ci 0)),m 16 15,og 17 16 false (.mv (.t 2)),og 18 16 false (.bin .gtr 0 true (.t 17) (ci 65536)),o 19 (.pick (.t 16) (.c (.bool true)) (.t 18))]
(.cond (.t 19)
(Q [o 6 (.mv (cs [])),o 7 (.mv (ci 0)),o 8 (.mv (ci 1))]
(.ret [6,7,8]))
.skip))
(Q [m 21 0,o 22 (.nilck (.t 21)),xa 23 2 22,xf 24 23,m 25 1,o 26 (.lookup (.agg [vi 0,vi 0,ve]) (.t 24) (.t 25) true),m 20 26,xe 27 20 0,xe 28 20 1,o 9 (.new [vi 0,vi 0,ve] none),xs 3 9 27,m 10 28]
(.seq (Q [m 29 10,o 30 (.un .not (.t 29))]
(.cond (.t 30)
(Q [m 31 0,m 32 1,m 33 2,o 34 (.callF f_store_Store_fetch [.t 31,.t 32,.t 33]),xs 3 9 34]
(.seq (.plain [m 35 0,o 36 (.nilck (.t 35)),xa 37 2 36,xf 38 37,m 39 1,xl 40 3 9,u (.mapUpd (.t 38) (.t 39) (.t 40))])
(.ops [m 41 0,m 42 0,o 43 (.nilck (.t 42)),xa 44 3 43,xf 45 44,m 46 1,o 47 (.buildSl [ve] 1 1 [(0,1,(.t 46))]),o 48 (.app false 1 16 none (.t 45) (.t 47)),o 49 (.nilck (.t 41)),xa 50 3 49,xs 1 50 48])))
.skip))
(.seq (.plain [xa 51 2 9,xf 52 51,xa 53 1 9,xf 54 53,m 6 52,m 7 54,o 8 (.mv (ci 0))])
(.ret [6,7,8])))))))⟩
/-! legate/check.Snapshot$1 -/
def K_check_Snapshot_1 : KF := ⟨2,20,[(.tmp 2)],(Q [o 2 (.mv (.c (.bool false)))]
(Q [o 3 (.mv (ci 0))]
(Q [xf 5 0,o 6 (.nilck (.t 5)),xa 7 16 6,xa 8 0 7,xl 9 5 8,o 10 (.callF f_snap_Of [.t 9]),m 4 10,xe 11 4 0,xe 12 4 1,xs 3 1 11,m 3 12]
(Q [xf 13 0,xa 14 1 1,xf 15 14,o 16 (.nilck (.t 13)),xa 17 23 16,xs 1 17 15]
(Q [m 18 3,o 19 (.bin .neq 0 true (.t 18) (ci 0)),m 2 19]
(.ret [2]))))))⟩
/-! legate/snap.Of -/
def L_snap_Of_0 : KC :=
(Q [o 18 (.bin .lss 0 false (.t 17) (.t 16))]
(.seq (.cond (.t 18)
.skip
(.exit [2,4,5] 0))
(.seq (.block 1
(Q [o 19 (.idxAddrSl 1 (.t 15) (.t 17)),xl 20 1 19,o 7 (.new [.nilFunc] none),xs 1 7 20]
(.ops [xa 21 0 7,xf 22 21,m 23 4,o 24 (.callV (.t 22) [.t 23,.t 5])])))
(.ops [o 25 (.bin .add 0 true (.t 17) (ci 1)),m 17 25]))))
def K_snap_Of : KF := ⟨1,33,[(.cell 2 true 3),(.tmp 3)],(Q [o 1 (.box (.t 0)),o 2 (.new [vi 0,vi 0,.nils] none),o 3 (.mv (ci 0))]
(.seq (Q [xl 9 5 1,o 10 (.callF f_value_May [.t 9]),o 11 (.un .not (.t 10))]
(.cond (.t 11)
(Q [o 12 (.build [vi 0,vi 0,.nils] []),xs 3 2 12,o 3 (.mv (ci 3))]
(.ret [2,3]))
.skip))
(Q [xl 13 5 1,o 14 (.callF f_pick_Of [.t 13]),m 4 14]
(Q [o 5 (.new [vi 0,vi 0,.nils] none)]
(.seq (Q [o 15 (.callF f_snap_parts []),o 16 (.len 1 (.t 15)),o 17 (.mv (ci 0))]
(.block 0
(.loop [2,4,5,15,16,17] L_snap_Of_0)))
(.seq (Q [m 26 4,o 27 (.callF f_pick_Obj_Done [.t 26]),m 8 27]
(Q [m 28 8,o 29 (.bin .neq 0 true (.t 28) (ci 0))]
(.cond (.t 29)
(Q [o 30 (.build [vi 0,vi 0,.nils] []),m 31 8,xs 3 2 30,m 3 31]
(.ret [2,3]))
.skip)))
(Q [xl 32 3 5,xs 3 2 32,o 3 (.mv (ci 0))]
(.ret [2,3]))))))))⟩
/-! legate/check.first -/
def L_check_first_0 : KC :=
(Q [o 8 (.bin .lss 0 false (.t 7) (.t 6))]
(.seq (.cond (.t 8)
.skip
(.exit [] 0))
(.seq (.block 1
(Q [o 9 (.idxAddrSl 2 (.t 5) (.t 7)),xl 10 2 9,o 4 (.new [vu 0,.nilFunc] none),xs 2 4 10]
(Q [xa 11 1 4,xf 12 11,o 13 (.callV (.t 12) [])]
(.cond (.t 13)
(Q [xa 14 0 4,xf 15 14,m 2 15]
(.ret [2]))
.skip))))
(.ops [o 16 (.bin .add 0 true (.t 7) (ci 1)),m 7 16]))))
def K_check_first : KF := ⟨1,17,[(.tmp 2)],(Q [o 2 (.mv (cu 0))]
(.seq (Q [m 5 0,o 6 (.len 1 (.t 5)),o 7 (.mv (ci 0))]
(.block 0
(.loop [5,6,7] L_check_first_0)))
(Q [o 2 (.mv (cu 0))]
(.ret [2]))))⟩
/-! (*legate/check.file).missing -/
def K_check_file_missing : KF := ⟨1,8,[(.tmp 2)],(Q [o 2 (.mv (.c (.bool false)))]
(Q [m 3 0,o 4 (.nilck (.t 3)),xa 5 10 4,xf 6 5,o 7 (.bin .eql 0 true (.t 6) (ci (-1))),m 2 7]
(.ret [2])))⟩
/-! (*legate/check.file).big -/
def K_check_file_big : KF := ⟨1,29,[(.tmp 2)],(Q [o 2 (.mv (.c (.bool false)))]
(.seq (.plain [m 3 0,o 4 (.nilck (.t 3)),xa 5 10 4,xf 6 5,o 7 (.bin .lss 0 true (.t 6) (ci 0)),m 8 7,og 9 8 false (.mv (.t 0)),og 10 8 false (.nilck (.t 9)),og 11 8 false (.fieldAddr 4 (.t 10)),og 12 8 false (.fieldAddr 2 (.t 11)),og 13 8 false (.load false 1 (.t 12)),og 14 8 false (.bin .geq 0 true (.t 13) (ci 0)),og 15 8 false (.mv (.t 14)),og 16 15 true (.mv (.t 0)),og 17 15 true (.nilck (.t 16)),og 18 15 true (.fieldAddr 9 (.t 17)),og 19 15 true (.load false 1 (.t 18)),og 20 15 true (.len 0 (.t 19)),og 21 15 true (.mv (.t 0)),og 22 15 true (.nilck (.t 21)),og 23 15 true (.fieldAddr 4 (.t 22)),og 24 15 true (.fieldAddr 2 (.t 23)),og 25 15 true (.load false 1 (.t 24)),og 26 15 true (.bin .gtr 0 false (.t 20) (.t 25)),og 27 8 false (.pick (.t 15) (.t 26) (.c (.bool false))),o 28 (.pick (.t 8) (.c (.bool true)) (.t 27)),m 2 28])
(.ret [2])))⟩
/-! (*legate/check.file).noText -/
def K_check_file_noText : KF := ⟨1,21,[(.tmp 2)],(Q [o 2 (.mv (.c (.bool false)))]
(Q [m 7 0,o 8 (.nilck (.t 7)),xa 9 9 8,xf 10 9,o 11 (.callF f_read_Read [.t 10]),m 6 11,xe 12 6 0,xe 13 6 1,xe 14 6 2,o 3 (.new [vu 0,vi 0,ve,.nils,.nils] none),xs 5 3 12,m 4 13,m 5 14]
(Q [m 15 0,xl 16 5 3,o 17 (.nilck (.t 15)),xa 18 11 17,xs 5 18 16]
(Q [m 19 5,o 20 (.bin .neq 0 true (.t 19) (ci 0)),m 2 20]
(.ret [2])))))⟩
/-! (*legate/check.file).noEnvelope -/
def K_check_file_noEnvelope : KF := ⟨1,19,[(.tmp 2)],(Q [o 2 (.mv (.c (.bool false)))]
(Q [m 6 0,o 7 (.nilck (.t 6)),xa 8 11 7,xl 9 5 8,o 10 (.callF f_sign_Of [.t 9]),m 5 10,xe 11 5 0,xe 12 5 1,o 3 (.new [vu 0,vi 0,ve,.nils,.nils,.nils] none),xs 6 3 11,m 4 12]
(Q [m 13 0,xl 14 6 3,o 15 (.nilck (.t 13)),xa 16 16 15,xs 6 16 14]
(Q [m 17 4,o 18 (.bin .neq 0 true (.t 17) (ci 0)),m 2 18]
(.ret [2])))))⟩
/-! (*legate/check.file).unsigned -/
def K_check_file_unsigned : KF := ⟨1,21,[(.tmp 2)],(Q [o 2 (.mv (.c (.bool false)))]
(.seq (.plain [m 3 0,o 4 (.nilck (.t 3)),xa 5 0 4,xf 6 5,m 7 0,o 8 (.nilck (.t 7)),xa 9 16 8,xl 10 6 9,m 11 0,o 12 (.nilck (.t 11)),xa 13 1 12,xl 14 2 13,m 15 0,o 16 (.nilck (.t 15)),xa 17 3 16,xf 18 17,o 19 (.callF f_judge_Enough [.t 6,.t 10,.t 14,.t 18]),o 20 (.un .not (.t 19)),m 2 20])
(.ret [2])))⟩
/-! (*legate/check.file).expired -/
def K_check_file_expired : KF := ⟨1,12,[(.tmp 2)],(Q [o 2 (.mv (.c (.bool false)))]
(.seq (.plain [m 3 0,o 4 (.nilck (.t 3)),xa 5 23 4,xf 6 5,m 7 0,o 8 (.nilck (.t 7)),xa 9 8 8,xf 10 9,o 11 (.callF f_when_Over [.t 6,.t 10]),m 2 11])
(.ret [2])))⟩
/-! legate/key.May -/
def K_key_May : KF := ⟨1,27,[(.tmp 2)],(Q [o 1 (.box (.t 0)),o 2 (.mv (.c (.bool false)))]
(.seq (Q [xa 4 0 1,xf 5 4,o 6 (.callF f_name_Role [.t 5]),o 7 (.un .not (.t 6))]
(.cond (.t 7)
(Q [o 2 (.mv (.c (.bool false)))]
(.ret [2]))
.skip))
(Q [xa 8 1 1,xf 9 8,o 10 (.len 0 (.t 9)),m 3 10]
(Q [m 11 3,o 12 (.bin .gtr 0 true (.t 11) (ci 0)),m 13 12,og 14 13 true (.mv (.t 3)),og 15 13 true (.bin .leq 0 true (.t 14) (ci 128)),o 16 (.pick (.t 13) (.t 15) (.c (.bool false))),m 17 16,og 18 17 true (.mv (.t 3)),og 19 17 true (.bin .rem 0 true (.t 18) (ci 2)),og 20 17 true (.bin .eql 0 true (.t 19) (ci 0)),o 21 (.pick (.t 17) (.t 20) (.c (.bool false))),m 22 21,og 23 22 true (.fieldAddr 1 (.t 1)),og 24 22 true (.load false 1 (.t 23)),og 25 22 true (.callF f_hex_Is [.t 24]),o 26 (.pick (.t 22) (.t 25) (.c (.bool false))),m 2 26]
(.ret [2])))))⟩
/-! legate/canon.Encode$1 -/
def K_canon_Encode_1 : KF := ⟨2,12,[],(Q [m 6 0,o 7 (.callF f_quote_Quote [.t 6]),m 5 7,xe 8 5 0,xe 9 5 1,m 3 8,m 4 9]
(.ops [m 10 3,o 11 (.callF f_strings_Builder_WriteString [.t 1,.t 10])]))⟩
/-! (*strings.Builder).WriteString -/
def K_strings_Builder_WriteString : KF := ⟨2,19,[(.tmp 4),(.tmp 5)],(Q [o 4 (.mv (ci 0)),o 5 (.mv (.c .nilIface))]
(Q [m 6 0,o 7 (.callF f_strings_Builder_copyCheck [.t 6])]
(Q [m 8 0,m 9 0,o 10 (.nilck (.t 9)),xa 11 1 10,xf 12 11,m 13 1,o 14 (.app true 1 1 (some (5,false)) (.t 12) (.t 13)),o 15 (.nilck (.t 8)),xa 16 1 15,xs 1 16 14]
(Q [m 17 1,o 18 (.len 0 (.t 17)),m 4 18,o 5 (.mv (.c .nilIface))]
(.ret [4,5])))))⟩
/-! legate/canon.Encode$2 -/
def L_canon_Encode_2_0 : KC :=
(Q [o 37 (.bin .lss 0 false (.t 36) (.t 35))]
(.seq (.cond (.t 37)
.skip
(.exit [1] 1))
(.seq (.block 2
(Q [m 38 36,o 39 (.idxAddrSl 5 (.t 34) (.t 36)),xl 40 5 39,o 6 (.new [vu 0,vi 0,ve,.nils,.nils] none),m 5 38,xs 5 6 40]
(.seq (Q [m 41 5,o 42 (.bin .gtr 0 true (.t 41) (ci 0))]
(.cond (.t 42)
(.ops [o 43 (.callF f_strings_Builder_WriteByte [.t 1,cu 44])])
.skip))
(.ops [xf 44 3,xl 45 5 6,o 46 (.callV (.t 44) [.t 45])]))))
(.ops [o 47 (.bin .add 0 true (.t 36) (ci 1)),m 36 47]))))
def L_canon_Encode_2_1 : KC :=
(Q [o 56 (.bin .lss 0 false (.t 55) (.t 54))]
(.seq (.cond (.t 56)
.skip
(.exit [1] 3))
(.seq (.block 4
(Q [m 57 55,o 58 (.idxAddrSl 5 (.t 53) (.t 55)),xl 59 5 58,o 8 (.new [vu 0,vi 0,ve,.nils,.nils] none),m 7 57,xs 5 8 59]
(.seq (Q [m 60 7,o 61 (.bin .gtr 0 true (.t 60) (ci 0))]
(.cond (.t 61)
(.ops [o 62 (.callF f_strings_Builder_WriteByte [.t 1,cu 44])])
.skip))
(.seq (.plain [xf 63 2,xa 64 3 4,xf 65 64,m 66 7,o 67 (.idxAddrSl 1 (.t 65) (.t 66)),xf 68 67,o 69 (.callV (.t 63) [.t 68])])
(Q [o 70 (.callF f_strings_Builder_WriteByte [.t 1,cu 58])]
(.ops [xf 71 3,xl 72 5 8,o 73 (.callV (.t 71) [.t 72])]))))))
(.ops [o 74 (.bin .add 0 true (.t 55) (ci 1)),m 55 74]))))
def K_canon_Encode_2 : KF := ⟨4,76,[],(Q [o 4 (.box (.t 0))]
(Q [xa 9 0 4,xf 10 9]
(.block 0
(Q [o 12 (.bin .eql 0 true (.t 10) (cu 1)),m 11 12]
(.cond (.t 11)
(Q [xa 13 1 4,xf 14 13,o 15 (.bin .eql 0 true (.t 14) (ci 1))]
(.cond (.t 15)
(.ops [o 16 (.callF f_strings_Builder_WriteString [.t 1,cs [116,114,117,101]])])
(.ops [o 17 (.callF f_strings_Builder_WriteString [.t 1,cs [102,97,108,115,101]])])))
(Q [o 19 (.bin .eql 0 true (.t 10) (cu 2)),m 18 19]
(.cond (.t 18)
(.ops [xa 20 1 4,xf 21 20,o 22 (.callF f_num_Show [.t 21]),o 23 (.callF f_strings_Builder_WriteString [.t 1,.t 22])])
(Q [o 25 (.bin .eql 0 true (.t 10) (cu 3)),m 24 25]
(.cond (.t 24)
(.ops [xf 26 2,xa 27 2 4,xf 28 27,o 29 (.callV (.t 26) [.t 28])])
(Q [o 31 (.bin .eql 0 true (.t 10) (cu 4)),m 30 31]
(.cond (.t 30)
(Q [o 32 (.callF f_strings_Builder_WriteByte [.t 1,cu 91])]
(.seq (Q [xa 33 4 4,xf 34 33,o 35 (.len 1 (.t 34)),o 36 (.mv (ci 0))]
(.block 1
(.loop [1,3,34,35,36] L_canon_Encode_2_0)))
(.ops [o 48 (.callF f_strings_Builder_WriteByte [.t 1,cu 93])])))
(Q [o 50 (.bin .eql 0 true (.t 10) (cu 5)),m 49 50]
(.cond (.t 49)
(Q [o 51 (.callF f_strings_Builder_WriteByte [.t 1,cu 123])]
(.seq (Q [xa 52 4 4,xf 53 52,o 54 (.len 1 (.t 53)),o 55 (.mv (ci 0))]
(.block 3
(.loop [1,2,3,4,53,54,55] L_canon_Encode_2_1)))
(.ops [o 75 (.callF f_strings_Builder_WriteByte [.t 1,cu 125])])))
.skip)))))))))))))⟩
/-! legate/num.Show -/
def K_num_Show : KF := ⟨1,5,[(.tmp 2)],(Q [o 2 (.mv (cs []))]
(Q [m 3 0,o 4 (.callF f_strconv_FormatInt [.t 3,ci 10]),m 2 4]
(.ret [2])))⟩
/-! (*strings.Builder).WriteByte -/
def K_strings_Builder_WriteByte : KF := ⟨2,17,[(.tmp 4)],(Q [o 4 (.mv (.c .nilIface))]
(Q [m 5 0,o 6 (.callF f_strings_Builder_copyCheck [.t 5])]
(Q [m 7 0,m 8 0,o 9 (.nilck (.t 8)),xa 10 1 9,xf 11 10,m 12 1,o 13 (.buildSl [vu 0] 1 1 [(0,1,(.t 12))]),o 14 (.app false 1 1 (some (5,false)) (.t 11) (.t 13)),o 15 (.nilck (.t 7)),xa 16 1 15,xs 1 16 14]
(Q [o 4 (.mv (.c .nilIface))]
(.ret [4])))))⟩
/-! (*strings.Builder).String -/
def K_strings_Builder_String : KF := ⟨1,14,[(.tmp 2)],(Q [o 2 (.mv (cs []))]
(.seq (.plain [m 3 0,o 4 (.nilck (.t 3)),xa 5 1 4,xf 6 5,o 7 .fail,m 8 0,o 9 (.nilck (.t 8)),xa 10 1 9,xf 11 10,o 12 (.len 1 (.t 11)),o 13 .fail,m 2 13])
(.ret [2])))⟩
/-! legate/snap.Pin -/
def L_snap_Pin_0 : KC :=
(Q [o 22 (.bin .lss 0 false (.t 21) (.t 20))]
(.seq (.cond (.t 22)
.skip
(.exit [4] 0))
(.seq (.block 1
(Q [o 23 (.idxAddrSl 4 (.t 19) (.t 21)),xl 24 4 23,o 9 (.new [ve,vi 0,vi 0,.nils] none),xs 4 9 24]
(Q [xa 25 0 9,xf 26 25,m 27 6,o 28 (.bin .eql 0 false (.t 26) (.t 27))]
(.cond (.t 28)
(Q [xa 29 3 9,xf 30 29,o 31 (.callF f_slices_Clone_api_Hash_api_Hash [.t 30]),xa 32 3 9,xs 1 32 31]
(Q [xl 33 4 9,xs 4 4 33,o 5 (.mv (.c (.bool true)))]
(.ret [4,5])))
.skip))))
(.ops [o 34 (.bin .add 0 true (.t 21) (ci 1)),m 21 34]))))
def K_snap_Pin : KF := ⟨2,36,[(.cell 4 true 4),(.tmp 5)],(Q [o 2 (.box (.t 0)),o 4 (.new [ve,vi 0,vi 0,.nils] none),o 5 (.mv (.c (.bool false)))]
(Q [m 11 1,o 12 (.callF f_name_File [.t 11]),m 10 12,xe 13 10 0,xe 14 10 1,m 6 13,m 7 14]
(.seq (Q [m 15 7,o 16 (.bin .neq 0 true (.t 15) (ci 0))]
(.cond (.t 16)
(Q [o 17 (.build [ve,vi 0,vi 0,.nils] []),xs 4 4 17,o 5 (.mv (.c (.bool false)))]
(.ret [4,5]))
.skip))
(.seq (Q [xa 18 2 2,xf 19 18,o 20 (.len 1 (.t 19)),o 21 (.mv (ci 0))]
(.block 0
(.loop [4,6,19,20,21] L_snap_Pin_0)))
(Q [o 35 (.build [ve,vi 0,vi 0,.nils] []),xs 4 4 35,o 5 (.mv (.c (.bool false)))]
(.ret [4,5]))))))⟩
/-! legate/check.Role$1 -/
def K_check_Role_1 : KF := ⟨2,25,[(.tmp 2)],(Q [o 2 (.mv (.c (.bool false)))]
(Q [o 3 (.mv (ci 0))]
(Q [xf 5 0,o 6 (.nilck (.t 5)),xa 7 16 6,xa 8 0 7,xl 9 5 8,o 10 (.callF f_targ_Of [.t 9]),m 4 10,xe 11 4 0,xe 12 4 1,xs 9 1 11,m 3 12]
(.seq (.drawn [xf 13 0,⟨(some 14),(.load false 1 (.t 0)),none,[8]⟩,xa 15 0 1,xf 16 15,xa 17 1 1,⟨(some 18),(.load false 1 (.t 17)),none,[8]⟩,o 19 (.nilck (.t 13)),xa 20 22 19,xs 1 20 16,o 21 (.nilck (.t 14)),xa 22 23 21,xs 1 22 18])
(Q [m 23 3,o 24 (.bin .neq 0 true (.t 23) (ci 0)),m 2 24]
(.ret [2]))))))⟩
/-! legate/targ.Of -/
def K_targ_Of : KF := ⟨1,61,[(.cell 2 true 9),(.tmp 3)],(Q [o 1 (.box (.t 0)),o 2 (.new [vi 0,vi 0,.nils,.nils,.nils,vi 0,.nils,vi 0,ve] none),o 3 (.mv (ci 0))]
(.seq (Q [xl 8 5 1,o 9 (.callF f_value_May [.t 8]),o 10 (.un .not (.t 9))]
(.cond (.t 10)
(Q [o 11 (.build [vi 0,vi 0,.nils,.nils,.nils,vi 0,.nils,vi 0,ve] []),xs 9 2 11,o 3 (.mv (ci 3))]
(.ret [2,3]))
.skip))
(Q [xl 12 5 1,o 13 (.callF f_pick_Of [.t 12]),m 4 13]
(Q [o 5 (.new [vi 0,vi 0,.nils,.nils,.nils,vi 0,.nils,vi 0,ve] none)]
(Q [o 6 (.mv (ci 0))]
(.seq (Q [m 14 4,o 15 (.callF f_pick_Obj_Text [.t 14,cs [95,116,121,112,101]]),o 16 (.bin .neq 0 true (.t 15) (cs [116,97,114,103,101,116,115]))]
(.cond (.t 16)
(.ops [m 17 4,o 18 (.callF f_pick_Obj_Fail [.t 17,ci 13])])
.skip))
(Q [m 19 4,o 20 (.callF f_pick_Obj_Num [.t 19,cs [118,101,114,115,105,111,110],ci 1,ci 1099511627776]),xa 21 0 5,xs 1 21 20]
(Q [m 23 4,o 24 (.callF f_pick_Obj_Text [.t 23,cs [101,120,112,105,114,101,115]]),o 25 (.callF f_when_Read [.t 24]),m 22 25,xe 26 22 0,xe 27 22 1,xa 28 1 5,xs 1 28 26,m 6 27]
(Q [m 29 4,m 30 6,o 31 (.callF f_pick_Obj_Fail [.t 29,.t 30])]
(Q [m 33 4,o 34 (.callF f_pick_Obj_Object [.t 33,cs [116,97,114,103,101,116,115],ci 256]),o 35 (.callF f_targ_listOf [.t 34]),m 32 35,xe 36 32 0,xe 37 32 1,xa 38 2 5,xs 1 38 36,m 6 37]
(Q [m 39 4,m 40 6,o 41 (.callF f_pick_Obj_Fail [.t 39,.t 40])]
(.seq (Q [m 42 4,o 43 (.callF f_pick_Obj_Has [.t 42,cs [100,101,108,101,103,97,116,105,111,110,115]])]
(.cond (.t 43)
(Q [m 45 4,o 46 (.callF f_pick_Obj_Object [.t 45,cs [100,101,108,101,103,97,116,105,111,110,115],ci 8192]),o 47 (.callF f_deleg_Of [.t 46]),m 44 47,xe 48 44 0,xe 49 44 1,xa 50 3 5,xs 6 50 48,m 6 49]
(.ops [m 51 4,m 52 6,o 53 (.callF f_pick_Obj_Fail [.t 51,.t 52])]))
.skip))
(.seq (Q [m 54 4,o 55 (.callF f_pick_Obj_Done [.t 54]),m 7 55]
(Q [m 56 7,o 57 (.bin .neq 0 true (.t 56) (ci 0))]
(.cond (.t 57)
(Q [o 58 (.build [vi 0,vi 0,.nils,.nils,.nils,vi 0,.nils,vi 0,ve] []),m 59 7,xs 9 2 58,m 3 59]
(.ret [2,3]))
.skip)))
(Q [xl 60 9 5,xs 9 2 60,o 3 (.mv (ci 0))]
(.ret [2,3])))))))))))))))⟩
/-! (*legate/check.file).small -/
def K_check_file_small : KF := ⟨1,22,[(.tmp 2)],(Q [o 2 (.mv (.c (.bool false)))]
(.seq (.plain [m 3 0,o 4 (.nilck (.t 3)),xa 5 4 4,xa 6 2 5,xf 7 6,o 8 (.bin .geq 0 true (.t 7) (ci 0)),m 9 8,og 10 9 true (.mv (.t 0)),og 11 9 true (.nilck (.t 10)),og 12 9 true (.fieldAddr 9 (.t 11)),og 13 9 true (.load false 1 (.t 12)),og 14 9 true (.len 0 (.t 13)),og 15 9 true (.mv (.t 0)),og 16 9 true (.nilck (.t 15)),og 17 9 true (.fieldAddr 4 (.t 16)),og 18 9 true (.fieldAddr 2 (.t 17)),og 19 9 true (.load false 1 (.t 18)),og 20 9 true (.bin .lss 0 false (.t 14) (.t 19)),o 21 (.pick (.t 9) (.t 20) (.c (.bool false))),m 2 21])
(.ret [2])))⟩
/-! (*legate/check.file).otherDigest -/
def K_check_file_otherDigest : KF := ⟨1,32,[(.tmp 2)],(Q [o 2 (.mv (.c (.bool false)))]
(.seq (Q [m 5 0,o 6 (.nilck (.t 5)),xa 7 4 6,xa 8 3 7,xf 9 8,o 10 (.len 1 (.t 9)),o 11 (.bin .eql 0 true (.t 10) (ci 0))]
(.cond (.t 11)
(Q [o 2 (.mv (.c (.bool false)))]
(.ret [2]))
.skip))
(Q [m 13 0,o 14 (.nilck (.t 13)),xa 15 4 14,xa 16 3 15,xf 17 16,o 18 (.callF f_record_Hash [.t 17,cs [115,104,97,50,53,54]]),m 12 18,xe 19 12 0,xe 20 12 1,m 3 19,m 4 20]
(Q [m 21 4,o 22 (.un .not (.t 21)),m 23 22,og 24 23 false (.mv (.t 3)),og 25 23 false (.mv (.t 0)),og 26 23 false (.nilck (.t 25)),og 27 23 false (.fieldAddr 9 (.t 26)),og 28 23 false (.load false 1 (.t 27)),og 29 23 false (.callF f_sha_Digest [.t 28]),og 30 23 false (.bin .neq 0 false (.t 24) (.t 29)),o 31 (.pick (.t 23) (.c (.bool true)) (.t 30)),m 2 31]
(.ret [2])))))⟩
/-! (*legate/check.file).otherVersion -/
def K_check_file_otherVersion : KF := ⟨1,13,[(.tmp 2)],(Q [o 2 (.mv (.c (.bool false)))]
(.seq (.plain [m 3 0,o 4 (.nilck (.t 3)),xa 5 22 4,xf 6 5,m 7 0,o 8 (.nilck (.t 7)),xa 9 4 8,xa 10 1 9,xf 11 10,o 12 (.bin .neq 0 false (.t 6) (.t 11)),m 2 12])
(.ret [2])))⟩
/-! legate/auth.wrong -/
def L_auth_wrong_0 : KC :=
(Q [o 10 (.bin .lss 0 false (.t 9) (.t 8))]
(.seq (.cond (.t 10)
.skip
(.exit [] 0))
(.seq (.block 1
(Q [o 11 (.idxAddrSl 1 (.t 7) (.t 9)),xf 12 11,m 5 12]
(.seq (Q [m 13 5,o 14 (.len 0 (.t 13)),o 15 (.bin .neq 0 true (.t 14) (ci 64)),m 16 15,og 17 16 false (.mv (.t 5)),og 18 16 false (.callF f_hex_Is [.t 17]),og 19 16 false (.un .not (.t 18)),o 20 (.pick (.t 16) (.c (.bool true)) (.t 19))]
(.cond (.t 20)
(Q [o 2 (.mv (ci 3))]
(.ret [2]))
.skip))
(.seq (Q [m 21 3,m 22 5,o 23 (.lookup (vi 0) (.t 21) (.t 22) false),o 24 (.bin .gtr 0 true (.t 23) (ci 0))]
(.cond (.t 24)
(Q [o 2 (.mv (ci 7))]
(.ret [2]))
.skip))
(.ops [m 25 3,m 26 5,o 27 (.lookup (vi 0) (.t 25) (.t 26) false),o 28 (.bin .add 0 true (.t 27) (ci 1)),u (.mapUpd (.t 25) (.t 26) (.t 28))])))))
(.ops [o 29 (.bin .add 0 true (.t 9) (ci 1)),m 9 29]))))
def K_auth_wrong : KF := ⟨1,30,[(.tmp 2)],(Q [o 2 (.mv (ci 0))]
(Q [o 6 .mkMap,m 3 6]
(.seq (Q [m 7 0,o 8 (.len 1 (.t 7)),o 9 (.mv (ci 0))]
(.block 0
(.loop [3,7,8,9] L_auth_wrong_0)))
(Q [o 2 (.mv (ci 0))]
(.ret [2])))))⟩
/-! legate/when.leaps -/
def K_when_leaps : KF := ⟨1,11,[(.tmp 2)],(Q [o 2 (.mv (ci 0))]
(Q [m 3 0,o 4 (.bin .quo 0 true (.t 3) (ci 4)),m 5 0,o 6 (.bin .quo 0 true (.t 5) (ci 100)),o 7 (.bin .sub 0 false (.t 4) (.t 6)),m 8 0,o 9 (.bin .quo 0 true (.t 8) (ci 400)),o 10 (.bin .add 0 false (.t 7) (.t 9)),m 2 10]
(.ret [2])))⟩
/-! strconv.Itoa -/
def K_strconv_Itoa : KF := ⟨1,5,[(.tmp 2)],(Q [o 2 (.mv (cs []))]
(Q [m 3 0,o 4 (.callF f_internal_strconv_Itoa [.t 3]),m 2 4]
(.ret [2])))⟩
/-! slices.pdqsortCmpFunc[legate/key.entry] -/
def L_slices_pdqsortCmpFunc_key_entry_0 : KC :=
(.block 1
(Q [m 21 2,m 22 1,o 23 (.bin .sub 0 false (.t 21) (.t 22)),m 12 23]
(.seq (Q [m 24 12,o 25 (.bin .leq 0 true (.t 24) (ci 12))]
(.cond (.t 25)
(Q [m 26 0,m 27 1,m 28 2,m 29 4,o 30 (.callF f_slices_insertionSortCmpFunc_key_entry [.t 26,.t 27,.t 28,.t 29])]
(.ret []))
.skip))
(.seq (Q [m 31 3,o 32 (.bin .eql 0 true (.t 31) (ci 0))]
(.cond (.t 32)
(Q [m 33 0,m 34 1,m 35 2,m 36 4,o 37 (.callF f_slices_heapSortCmpFunc_key_entry [.t 33,.t 34,.t 35,.t 36])]
(.ret []))
.skip))
(.seq (Q [m 38 10,o 39 (.un .not (.t 38))]
(.cond (.t 39)
(Q [m 40 0,m 41 1,m 42 2,m 43 4,o 44 (.callF f_slices_breakPatternsCmpFunc_key_entry [.t 40,.t 41,.t 42,.t 43])]
(.ops [m 45 3,o 46 (.bin .sub 0 true (.t 45) (ci 1)),m 3 46]))
.skip))
(Q [m 48 0,m 49 1,m 50 2,m 51 4,o 52 (.callF f_slices_choosePivotCmpFunc_key_entry [.t 48,.t 49,.t 50,.t 51]),m 47 52,xe 53 47 0,xe 54 47 1,m 13 53,m 14 54]
(.seq (Q [m 55 14,o 56 (.bin .eql 0 true (.t 55) (ci 2))]
(.cond (.t 56)
(Q [m 57 0,m 58 1,m 59 2,m 60 4,o 61 (.callF f_slices_reverseRangeCmpFunc_key_entry [.t 57,.t 58,.t 59,.t 60])]
(Q [m 62 2,o 63 (.bin .sub 0 true (.t 62) (ci 1)),m 64 13,m 65 1,o 66 (.bin .sub 0 false (.t 64) (.t 65)),o 67 (.bin .sub 0 false (.t 63) (.t 66)),m 13 67]
(.ops [o 14 (.mv (ci 1))])))
.skip))
(.seq (Q [m 68 10,m 69 68,og 70 69 true (.mv (.t 11)),o 71 (.pick (.t 69) (.t 70) (.c (.bool false))),m 72 71,og 73 72 true (.mv (.t 14)),og 74 72 true (.bin .eql 0 true (.t 73) (ci 1)),o 75 (.pick (.t 72) (.t 74) (.c (.bool false)))]
(.cond (.t 75)
(Q [m 76 0,m 77 1,m 78 2,m 79 4,o 80 (.callF f_slices_partialInsertionSortCmpFunc_key_entry [.t 76,.t 77,.t 78,.t 79])]
(.cond (.t 80)
(.ret [])
.skip))
.skip))
(.seq (.seq (.plain [m 81 1,o 82 (.bin .gtr 0 true (.t 81) (ci 0)),m 83 82,og 84 83 true (.mv (.t 4)),og 85 83 true (.mv (.t 0)),og 86 83 true (.mv (.t 1)),og 87 83 true (.bin .sub 0 true (.t 86) (ci 1)),og 88 83 true (.idxAddrSl 6 (.t 85) (.t 87)),og 89 83 true (.load true 6 (.t 88)),og 90 83 true (.mv (.t 0)),og 91 83 true (.mv (.t 13)),og 92 83 true (.idxAddrSl 6 (.t 90) (.t 91)),og 93 83 true (.load true 6 (.t 92)),og 94 83 true (.callV (.t 84) [.t 89,.t 93]),og 95 83 true (.bin .lss 0 true (.t 94) (ci 0)),og 96 83 true (.un .not (.t 95)),o 97 (.pick (.t 83) (.t 96) (.c (.bool false)))])
(.cond (.t 97)
(Q [m 98 0,m 99 1,m 100 2,m 101 13,m 102 4,o 103 (.callF f_slices_partitionEqualCmpFunc_key_entry [.t 98,.t 99,.t 100,.t 101,.t 102]),m 15 103]
(Q [m 104 15,m 1 104]
(.exit [0,1,2,3,4,10,11] 1)))
.skip))
(Q [m 106 0,m 107 1,m 108 2,m 109 13,m 110 4,o 111 (.callF f_slices_partitionCmpFunc_key_entry [.t 106,.t 107,.t 108,.t 109,.t 110]),m 105 111,xe 112 105 0,xe 113 105 1,m 16 112,m 17 113]
(Q [m 114 17,m 11 114]
(Q [m 115 16,m 116 1,o 117 (.bin .sub 0 false (.t 115) (.t 116)),m 118 2,m 119 16,o 120 (.bin .sub 0 false (.t 118) (.t 119)),m 18 117,m 19 120]
(Q [m 121 12,o 122 (.bin .quo 0 true (.t 121) (ci 8)),m 20 122]
(Q [m 123 18,m 124 19,o 125 (.bin .lss 0 false (.t 123) (.t 124))]
(.cond (.t 125)
(Q [m 126 18,m 127 20,o 128 (.bin .geq 0 false (.t 126) (.t 127)),m 10 128]
(Q [m 129 0,m 130 1,m 131 16,m 132 3,m 133 4,o 134 (.callF f_slices_pdqsortCmpFunc_key_entry [.t 129,.t 130,.t 131,.t 132,.t 133])]
(.ops [m 135 16,o 136 (.bin .add 0 true (.t 135) (ci 1)),m 1 136])))
(Q [m 137 19,m 138 20,o 139 (.bin .geq 0 false (.t 137) (.t 138)),m 10 139]
(Q [m 140 0,m 141 16,o 142 (.bin .add 0 true (.t 141) (ci 1)),m 143 2,m 144 3,m 145 4,o 146 (.callF f_slices_pdqsortCmpFunc_key_entry [.t 140,.t 142,.t 143,.t 144,.t 145])]
(.ops [m 147 16,m 2 147]))))))))))))))))))
def K_slices_pdqsortCmpFunc_key_entry : KF := ⟨5,148,[],(Q [o 10 (.mv (.c (.bool true)))]
(Q [o 11 (.mv (.c (.bool true)))]
(.block 0
(.loop [0,1,2,3,4,10,11] L_slices_pdqsortCmpFunc_key_entry_0))))⟩
/-! math/bits.Len -/
def K_math_bits_Len : KF := ⟨1,8,[(.tmp 2)],(Q [o 2 (.mv (ci 0))]
(.seq (.cond (.c (.bool false))
(Q [m 3 0,o 4 (.i2i .u32 (.t 3)),o 5 (.callF f_math_bits_Len32 [.t 4]),m 2 5]
(.ret [2]))
.skip)
(Q [m 6 0,o 7 (.callF f_math_bits_Len64 [.t 6]),m 2 7]
(.ret [2]))))⟩
/-! legate/pick.TextsOf -/
def L_pick_TextsOf_0 : KC :=
(Q [o 10 (.bin .lss 0 false (.t 9) (.t 8))]
(.seq (.cond (.t 10)
.skip
(.exit [2,3] 0))
(.seq (.block 1
(Q [o 11 (.idxAddrSl 1 (.t 7) (.t 9)),xf 12 11,m 5 12]
(.drawn [xa 13 4 3,⟨(some 14),(.load false 1 (.t 13)),none,[3]⟩,m 15 5,o 16 (.callF f_pick_TextOf [.t 15]),o 17 (.buildSl [vu 0,vi 0,ve,.nils,.nils] 1 5 [(0,5,(.t 16))]),o 18 (.app false 5 80 none (.t 14) (.t 17)),xa 19 4 3,xs 1 19 18])))
(.ops [o 20 (.bin .add 0 true (.t 9) (ci 1)),m 9 20]))))
def K_pick_TextsOf : KF := ⟨1,22,[(.cell 2 true 5)],(Q [o 2 (.new [vu 0,vi 0,ve,.nils,.nils] none)]
(Q [o 6 (.build [vu 0,vi 0,ve,.nils,.nils] [(0,1,(cu 4))]),o 3 (.new [vu 0,vi 0,ve,.nils,.nils] none),xs 5 3 6]
(.seq (Q [m 7 0,o 8 (.len 1 (.t 7)),o 9 (.mv (ci 0))]
(.block 0
(.loop [2,3,7,8,9] L_pick_TextsOf_0)))
(Q [xl 21 5 3,xs 5 2 21]
(.ret [2])))))⟩
/-! slices.pdqsortCmpFunc[legate/pick.Member] -/
def L_slices_pdqsortCmpFunc_pick_Member_0 : KC :=
(.block 1
(Q [m 21 2,m 22 1,o 23 (.bin .sub 0 false (.t 21) (.t 22)),m 12 23]
(.seq (Q [m 24 12,o 25 (.bin .leq 0 true (.t 24) (ci 12))]
(.cond (.t 25)
(Q [m 26 0,m 27 1,m 28 2,m 29 4,o 30 (.callF f_slices_insertionSortCmpFunc_pick_Member [.t 26,.t 27,.t 28,.t 29])]
(.ret []))
.skip))
(.seq (Q [m 31 3,o 32 (.bin .eql 0 true (.t 31) (ci 0))]
(.cond (.t 32)
(Q [m 33 0,m 34 1,m 35 2,m 36 4,o 37 (.callF f_slices_heapSortCmpFunc_pick_Member [.t 33,.t 34,.t 35,.t 36])]
(.ret []))
.skip))
(.seq (Q [m 38 10,o 39 (.un .not (.t 38))]
(.cond (.t 39)
(Q [m 40 0,m 41 1,m 42 2,m 43 4,o 44 (.callF f_slices_breakPatternsCmpFunc_pick_Member [.t 40,.t 41,.t 42,.t 43])]
(.ops [m 45 3,o 46 (.bin .sub 0 true (.t 45) (ci 1)),m 3 46]))
.skip))
(Q [m 48 0,m 49 1,m 50 2,m 51 4,o 52 (.callF f_slices_choosePivotCmpFunc_pick_Member [.t 48,.t 49,.t 50,.t 51]),m 47 52,xe 53 47 0,xe 54 47 1,m 13 53,m 14 54]
(.seq (Q [m 55 14,o 56 (.bin .eql 0 true (.t 55) (ci 2))]
(.cond (.t 56)
(Q [m 57 0,m 58 1,m 59 2,m 60 4,o 61 (.callF f_slices_reverseRangeCmpFunc_pick_Member [.t 57,.t 58,.t 59,.t 60])]
(Q [m 62 2,o 63 (.bin .sub 0 true (.t 62) (ci 1)),m 64 13,m 65 1,o 66 (.bin .sub 0 false (.t 64) (.t 65)),o 67 (.bin .sub 0 false (.t 63) (.t 66)),m 13 67]
(.ops [o 14 (.mv (ci 1))])))
.skip))
(.seq (Q [m 68 10,m 69 68,og 70 69 true (.mv (.t 11)),o 71 (.pick (.t 69) (.t 70) (.c (.bool false))),m 72 71,og 73 72 true (.mv (.t 14)),og 74 72 true (.bin .eql 0 true (.t 73) (ci 1)),o 75 (.pick (.t 72) (.t 74) (.c (.bool false)))]
(.cond (.t 75)
(Q [m 76 0,m 77 1,m 78 2,m 79 4,o 80 (.callF f_slices_partialInsertionSortCmpFunc_pick_Member [.t 76,.t 77,.t 78,.t 79])]
(.cond (.t 80)
(.ret [])
.skip))
.skip))
(.seq (.seq (.plain [m 81 1,o 82 (.bin .gtr 0 true (.t 81) (ci 0)),m 83 82,og 84 83 true (.mv (.t 4)),og 85 83 true (.mv (.t 0)),og 86 83 true (.mv (.t 1)),og 87 83 true (.bin .sub 0 true (.t 86) (ci 1)),og 88 83 true (.idxAddrSl 6 (.t 85) (.t 87)),og 89 83 true (.load true 6 (.t 88)),og 90 83 true (.mv (.t 0)),og 91 83 true (.mv (.t 13)),og 92 83 true (.idxAddrSl 6 (.t 90) (.t 91)),og 93 83 true (.load true 6 (.t 92)),og 94 83 true (.callV (.t 84) [.t 89,.t 93]),og 95 83 true (.bin .lss 0 true (.t 94) (ci 0)),og 96 83 true (.un .not (.t 95)),o 97 (.pick (.t 83) (.t 96) (.c (.bool false)))])
(.cond (.t 97)
(Q [m 98 0,m 99 1,m 100 2,m 101 13,m 102 4,o 103 (.callF f_slices_partitionEqualCmpFunc_pick_Member [.t 98,.t 99,.t 100,.t 101,.t 102]),m 15 103]
(Q [m 104 15,m 1 104]
(.exit [0,1,2,3,4,10,11] 1)))
.skip))
(Q [m 106 0,m 107 1,m 108 2,m 109 13,m 110 4,o 111 (.callF f_slices_partitionCmpFunc_pick_Member [.t 106,.t 107,.t 108,.t 109,.t 110]),m 105 111,xe 112 105 0,xe 113 105 1,m 16 112,m 17 113]
(Q [m 114 17,m 11 114]
(Q [m 115 16,m 116 1,o 117 (.bin .sub 0 false (.t 115) (.t 116)),m 118 2,m 119 16,o 120 (.bin .sub 0 false (.t 118) (.t 119)),m 18 117,m 19 120]
(Q [m 121 12,o 122 (.bin .quo 0 true (.t 121) (ci 8)),m 20 122]
(Q [m 123 18,m 124 19,o 125 (.bin .lss 0 false (.t 123) (.t 124))]
(.cond (.t 125)
(Q [m 126 18,m 127 20,o 128 (.bin .geq 0 false (.t 126) (.t 127)),m 10 128]
(Q [m 129 0,m 130 1,m 131 16,m 132 3,m 133 4,o 134 (.callF f_slices_pdqsortCmpFunc_pick_Member [.t 129,.t 130,.t 131,.t 132,.t 133])]
(.ops [m 135 16,o 136 (.bin .add 0 true (.t 135) (ci 1)),m 1 136])))
(Q [m 137 19,m 138 20,o 139 (.bin .geq 0 false (.t 137) (.t 138)),m 10 139]
(Q [m 140 0,m 141 16,o 142 (.bin .add 0 true (.t 141) (ci 1)),m 143 2,m 144 3,m 145 4,o 146 (.callF f_slices_pdqsortCmpFunc_pick_Member [.t 140,.t 142,.t 143,.t 144,.t 145])]
(.ops [m 147 16,m 2 147]))))))))))))))))))
def K_slices_pdqsortCmpFunc_pick_Member : KF := ⟨5,148,[],(Q [o 10 (.mv (.c (.bool true)))]
(Q [o 11 (.mv (.c (.bool true)))]
(.block 0
(.loop [0,1,2,3,4,10,11] L_slices_pdqsortCmpFunc_pick_Member_0))))⟩
/-! internal/bytealg.CompareString -/
def K_internal_bytealg_CompareString : KF := ⟨2,8,[(.tmp 4)],(Q [o 4 (.mv (ci 0))]
(Q [m 5 0,m 6 1,o 7 (.callF f_internal_bytealg_abigen_runtime_cmpstring [.t 5,.t 6]),m 4 7]
(.ret [4])))⟩
/-! legate/value.endless -/
def L_value_endless_0 : KC :=
(Q [o 15 (.bin .lss 0 false (.t 14) (.t 13))]
(.seq (.cond (.t 15)
.skip
(.exit [] 0))
(.seq (.block 1
(Q [m 16 14,m 9 16]
(Q [m 17 0,m 18 9,o 19 (.idxAddrSl 5 (.t 17) (.t 18)),m 10 19]
(.seq (Q [m 20 3,m 21 20,og 22 21 true (.mv (.t 10)),og 23 21 true (.nilck (.t 22)),og 24 21 true (.fieldAddr 0 (.t 23)),og 25 21 true (.load false 1 (.t 24)),og 26 21 true (.bin .neq 0 true (.t 25) (cu 4)),o 27 (.pick (.t 21) (.t 26) (.c (.bool false))),m 28 27,og 29 28 true (.mv (.t 10)),og 30 28 true (.nilck (.t 29)),og 31 28 true (.fieldAddr 0 (.t 30)),og 32 28 true (.load false 1 (.t 31)),og 33 28 true (.bin .neq 0 true (.t 32) (cu 5)),o 34 (.pick (.t 28) (.t 33) (.c (.bool false)))]
(.cond (.t 34)
(.exit [0,1,2,3,13,14] 1)
.skip))
(.seq (Q [m 35 10,m 36 2,o 37 (.bin .eql 3 false (.t 35) (.t 36))]
(.cond (.t 37)
(Q [o 8 (.mv (.c (.bool true)))]
(.ret [8]))
.skip))
(Q [m 38 2,m 11 38]
(.seq (Q [m 39 1,m 40 1,o 41 (.bin .sub 0 true (.t 40) (ci 1)),o 42 (.bin .and 0 false (.t 39) (.t 41)),o 43 (.bin .eql 0 true (.t 42) (ci 0))]
(.cond (.t 43)
(.ops [m 44 10,m 11 44])
.skip))
(Q [m 45 10,o 46 (.nilck (.t 45)),xa 47 4 46,xf 48 47,m 49 1,o 50 (.bin .add 0 true (.t 49) (ci 1)),m 51 11,m 52 3,o 53 (.callF f_value_endless [.t 48,.t 50,.t 51,.t 52])]
(.cond (.t 53)
(Q [o 8 (.mv (.c (.bool true)))]
(.ret [8]))
.skip)))))))))
(.ops [o 54 (.bin .add 0 true (.t 14) (ci 1)),m 14 54]))))
def K_value_endless : KF := ⟨4,55,[(.tmp 8)],(Q [o 8 (.mv (.c (.bool false)))]
(.seq (Q [m 12 0,o 13 (.len 1 (.t 12)),o 14 (.mv (ci 0))]
(.block 0
(.loop [0,1,2,3,13,14] L_value_endless_0)))
(Q [o 8 (.mv (.c (.bool false)))]
(.ret [8]))))⟩
/-! legate/value.duplicate -/
def L_value_duplicate_0 : KC :=
(Q [o 20 (.bin .lss 0 false (.t 19) (.t 18))]
(.seq (.cond (.t 20)
.skip
(.exit [2,3] 0))
(.seq (.block 1
(Q [o 21 (.idxAddrSl 5 (.t 17) (.t 19)),xl 22 5 21,o 5 (.new [vu 0,vi 0,ve,.nils,.nils] none),xs 5 5 22]
(.drawn [xa 23 4 3,⟨(some 24),(.load false 1 (.t 23)),none,[3]⟩,xl 25 5 5,o 26 (.callF f_value_duplicate [.t 25]),o 27 (.buildSl [vu 0,vi 0,ve,.nils,.nils] 1 5 [(0,5,(.t 26))]),o 28 (.app false 5 80 none (.t 24) (.t 27)),xa 29 4 3,xs 1 29 28])))
(.ops [o 30 (.bin .add 0 true (.t 19) (ci 1)),m 19 30]))))
def K_value_duplicate : KF := ⟨1,32,[(.cell 2 true 5)],(Q [o 1 (.box (.t 0)),o 2 (.new [vu 0,vi 0,ve,.nils,.nils] none)]
(.seq (.drawn [xa 6 0 1,⟨(some 7),(.load false 1 (.t 6)),none,[8]⟩,xa 8 1 1,⟨(some 9),(.load false 1 (.t 8)),none,[8]⟩,xa 10 2 1,⟨(some 11),(.load false 1 (.t 10)),none,[8]⟩,xa 12 3 1,xf 13 12,o 14 (.callF f_slices_Clone_string_string [.t 13]),o 15 (.build [vu 0,vi 0,ve,.nils,.nils] [(0,1,(.t 7)),(1,1,(.t 9)),(2,1,(.t 11)),(3,1,(.t 14))]),u .pend,o 3 (.fill 10 3 5 (.t 15))])
(.seq (Q [xa 16 4 1,xf 17 16,o 18 (.len 1 (.t 17)),o 19 (.mv (ci 0))]
(.block 0
(.loop [2,3,17,18,19] L_value_duplicate_0)))
(Q [xl 31 5 3,xs 5 2 31]
(.ret [2])))))⟩
/-! legate/name.RoleOf -/
def K_name_RoleOf : KF := ⟨1,19,[(.tmp 2),(.tmp 3)],(Q [o 2 (.mv (cs [])),o 3 (.mv (ci 0))]
(Q [m 7 0,o 8 (.callF f_strings_CutSuffix [.t 7,cs [46,106,115,111,110]]),m 6 8,xe 9 6 0,xe 10 6 1,m 4 9,m 5 10]
(.seq (Q [m 11 5,o 12 (.un .not (.t 11)),m 13 12,og 14 13 false (.mv (.t 4)),og 15 13 false (.callF f_name_Role [.t 14]),og 16 13 false (.un .not (.t 15)),o 17 (.pick (.t 13) (.c (.bool true)) (.t 16))]
(.cond (.t 17)
(Q [o 2 (.mv (cs [])),o 3 (.mv (ci 3))]
(.ret [2,3]))
.skip))
(Q [m 18 4,m 2 18,o 3 (.mv (ci 0))]
(.ret [2,3])))))⟩
/-! legate/deleg.keysMay -/
def L_deleg_keysMay_0 : KC :=
(Q [o 14 (.bin .lss 0 false (.t 13) (.t 12))]
(.seq (.cond (.t 14)
.skip
(.exit [] 0))
(.seq (.block 1
(Q [o 15 (.idxAddrSl 2 (.t 11) (.t 13)),xl 16 2 15,o 5 (.new [ve,ve] none),xs 2 5 16]
(Q [xl 18 2 5,o 19 (.callF f_key_ID [.t 18]),m 17 19,xe 20 17 0,xe 21 17 1,m 6 20,m 7 21]
(.seq (Q [m 22 7,o 23 (.bin .neq 0 true (.t 22) (ci 0)),m 24 23,og 25 24 false (.mv (.t 6)),og 26 24 false (.mv (.t 3)),og 27 24 false (.bin .leq 0 false (.t 25) (.t 26)),o 28 (.pick (.t 24) (.c (.bool true)) (.t 27))]
(.cond (.t 28)
(Q [o 2 (.mv (.c (.bool false)))]
(.ret [2]))
.skip))
(.ops [m 29 6,m 3 29])))))
(.ops [o 30 (.bin .add 0 true (.t 13) (ci 1)),m 13 30]))))
def K_deleg_keysMay : KF := ⟨1,31,[(.tmp 2)],(Q [o 2 (.mv (.c (.bool false)))]
(.seq (Q [m 8 0,o 9 (.len 1 (.t 8)),o 10 (.bin .gtr 0 true (.t 9) (ci 32))]
(.cond (.t 10)
(Q [o 2 (.mv (.c (.bool false)))]
(.ret [2]))
.skip))
(Q [o 3 (.mv (cs []))]
(.seq (Q [m 11 0,o 12 (.len 1 (.t 11)),o 13 (.mv (ci 0))]
(.block 0
(.loop [3,11,12,13] L_deleg_keysMay_0)))
(Q [o 2 (.mv (.c (.bool true)))]
(.ret [2]))))))⟩
/-! legate/deleg.noBins -/
def K_deleg_noBins : KF := ⟨1,24,[(.tmp 2)],(Q [o 1 (.box (.t 0)),o 2 (.mv (.c (.bool false)))]
(Q [xa 3 2 1,xf 4 3,o 5 (.bin .eql 0 true (.t 4) (ci 0)),m 6 5,og 7 6 true (.fieldAddr 3 (.t 1)),og 8 6 true (.load false 1 (.t 7)),og 9 6 true (.bin .eql 0 true (.t 8) (cs [])),o 10 (.pick (.t 6) (.t 9) (.c (.bool false))),m 11 10,og 12 11 true (.fieldAddr 0 (.t 1)),og 13 11 true (.fieldAddr 0 (.t 12)),og 14 11 true (.load false 1 (.t 13)),og 15 11 true (.bin .eql 0 true (.t 14) (ci 0)),o 16 (.pick (.t 11) (.t 15) (.c (.bool false))),m 17 16,og 18 17 true (.fieldAddr 0 (.t 1)),og 19 17 true (.fieldAddr 1 (.t 18)),og 20 17 true (.load false 1 (.t 19)),og 21 17 true (.len 1 (.t 20)),og 22 17 true (.bin .eql 0 true (.t 21) (ci 0)),o 23 (.pick (.t 17) (.t 22) (.c (.bool false))),m 2 23]
(.ret [2])))⟩
/-! legate/deleg.rolesMay -/
def L_deleg_rolesMay_0 : KC :=
(Q [o 11 (.bin .lss 0 false (.t 10) (.t 9))]
(.seq (.cond (.t 11)
.skip
(.exit [] 0))
(.seq (.block 1
(Q [m 12 10,o 13 (.idxAddrSl 6 (.t 8) (.t 10)),xl 14 6 13,o 4 (.new [ve,vi 0,.nils,(.bool false),.nils,.nils] none),m 3 12,xs 6 4 14]
(.seq (.plain [xl 15 6 4,o 16 (.callF f_deleg_roleMay [.t 15]),o 17 (.un .not (.t 16)),m 18 17,og 19 18 false (.mv (.t 0)),og 20 18 false (.mv (.t 3)),og 21 18 false (.sliceSl 6 (.t 19) none (some (.t 20)) none),og 22 18 false (.fieldAddr 0 (.t 4)),og 23 18 false (.load false 1 (.t 22)),og 24 18 false (.callF f_deleg_hasName [.t 21,.t 23]),o 25 (.pick (.t 18) (.c (.bool true)) (.t 24))])
(.cond (.t 25)
(Q [o 2 (.mv (.c (.bool false)))]
(.ret [2]))
.skip))))
(.ops [o 26 (.bin .add 0 true (.t 10) (ci 1)),m 10 26]))))
def K_deleg_rolesMay : KF := ⟨1,27,[(.tmp 2)],(Q [o 2 (.mv (.c (.bool false)))]
(.seq (Q [m 5 0,o 6 (.len 1 (.t 5)),o 7 (.bin .gtr 0 true (.t 6) (ci 64))]
(.cond (.t 7)
(Q [o 2 (.mv (.c (.bool false)))]
(.ret [2]))
.skip))
(.seq (Q [m 8 0,o 9 (.len 1 (.t 8)),o 10 (.mv (ci 0))]
(.block 0
(.loop [0,8,9,10] L_deleg_rolesMay_0)))
(Q [o 2 (.mv (.c (.bool true)))]
(.ret [2])))))⟩
/-! legate/deleg.object -/
def L_deleg_object_0 : KC :=
(Q [o 31 (.bin .lss 0 false (.t 30) (.t 29))]
(.seq (.cond (.t 31)
.skip
(.exit [2,5,6] 0))
(.seq (.block 1
(Q [o 32 (.idxAddrSl 6 (.t 28) (.t 30)),xl 33 6 32,o 8 (.new [ve,vi 0,.nils,(.bool false),.nils,.nils] none),xs 6 8 33]
(.ops [m 34 6,xl 35 6 8,o 36 (.callF f_deleg_roleObject [.t 35]),o 37 (.buildSl [vu 0,vi 0,ve,.nils,.nils] 1 5 [(0,5,(.t 36))]),o 38 (.app false 5 80 none (.t 34) (.t 37)),m 6 38])))
(.ops [o 39 (.bin .add 0 true (.t 30) (ci 1)),m 30 39]))))
def K_deleg_object : KF := ⟨1,59,[(.cell 2 true 5)],(Q [o 1 (.box (.t 0)),o 2 (.new [vu 0,vi 0,ve,.nils,.nils] none)]
(Q [xa 12 0 1,xf 13 12,o 14 (.callF f_key_Table [.t 13]),m 11 14,xe 15 11 0,xe 16 11 1,o 3 (.new [vu 0,vi 0,ve,.nils,.nils] none),xs 5 3 15,m 4 16]
(Q [xl 17 5 3,o 18 (.build [ve,vu 0,vi 0,ve,.nils,.nils] [(0,1,(cs [107,101,121,115])),(1,5,(.t 17))]),o 19 (.buildSl [ve,vu 0,vi 0,ve,.nils,.nils] 1 6 [(0,6,(.t 18))]),m 5 19]
(.seq (Q [xa 20 2 1,xl 21 4 20,o 22 (.callF f_deleg_noBins [.t 21])]
(.cond (.t 22)
(Q [xa 23 1 1,xf 24 23,o 25 (.len 1 (.t 24)),o 26 (.mkSlice [vu 0,vi 0,ve,.nils,.nils] 5 80 (ci 0) (.t 25)),m 6 26]
(.seq (Q [xa 27 1 1,xf 28 27,o 29 (.len 1 (.t 28)),o 30 (.mv (ci 0))]
(.block 0
(.loop [2,5,6,28,29,30] L_deleg_object_0)))
(.ops [m 40 5,m 41 6,o 42 (.callF f_pick_ListOf [.t 41]),o 43 (.build [ve,vu 0,vi 0,ve,.nils,.nils] [(0,1,(cs [114,111,108,101,115])),(1,5,(.t 42))]),o 44 (.buildSl [ve,vu 0,vi 0,ve,.nils,.nils] 1 6 [(0,6,(.t 43))]),o 45 (.app false 6 96 none (.t 40) (.t 44)),m 5 45])))
(.ops [m 46 5,xa 47 2 1,xl 48 4 47,o 49 (.callF f_deleg_binsObject [.t 48]),o 50 (.build [ve,vu 0,vi 0,ve,.nils,.nils] [(0,1,(cs [115,117,99,99,105,110,99,116,95,114,111,108,101,115])),(1,5,(.t 49))]),o 51 (.buildSl [ve,vu 0,vi 0,ve,.nils,.nils] 1 6 [(0,6,(.t 50))]),o 52 (.app false 6 96 none (.t 46) (.t 51)),m 5 52])))
(Q [m 54 5,o 55 (.callF f_pick_ObjectOf [.t 54]),m 53 55,xe 56 53 0,xe 57 53 1,o 9 (.new [vu 0,vi 0,ve,.nils,.nils] none),xs 5 9 56,m 10 57]
(Q [xl 58 5 9,xs 5 2 58]
(.ret [2])))))))⟩
/-! legate/value.may -/
def L_value_may_0 : KC :=
(Q [o 37 (.bin .lss 0 false (.t 36) (.t 35))]
(.seq (.cond (.t 37)
.skip
(.exit [] 0))
(.seq (.block 1
(Q [o 38 (.idxAddrSl 5 (.t 34) (.t 36)),xl 39 5 38,o 8 (.new [vu 0,vi 0,ve,.nils,.nils] none),xs 5 8 39]
(Q [xl 40 5 8,m 41 1,o 42 (.bin .sub 0 true (.t 41) (ci 1)),m 43 2,o 44 (.callF f_value_may [.t 40,.t 42,.t 43]),o 45 (.un .not (.t 44))]
(.cond (.t 45)
(Q [o 6 (.mv (.c (.bool false)))]
(.ret [6]))
.skip))))
(.ops [o 46 (.bin .add 0 true (.t 36) (ci 1)),m 36 46]))))
def K_value_may : KF := ⟨3,47,[(.tmp 6)],(Q [o 3 (.box (.t 0)),o 6 (.mv (.c (.bool false)))]
(Q [m 9 2,o 10 (.nilck (.t 9)),xf 11 10,o 12 (.bin .sub 0 true (.t 11) (ci 1)),o 13 (.nilck (.t 9)),xs 1 13 12]
(.seq (Q [m 14 2,o 15 (.nilck (.t 14)),xf 16 15,o 17 (.bin .lss 0 true (.t 16) (ci 0)),m 18 17,og 19 18 false (.load true 5 (.t 3)),og 20 18 false (.callF f_value_proper [.t 19]),og 21 18 false (.un .not (.t 20)),o 22 (.pick (.t 18) (.c (.bool true)) (.t 21))]
(.cond (.t 22)
(Q [o 6 (.mv (.c (.bool false)))]
(.ret [6]))
.skip))
(.seq (Q [xa 23 0 3,xf 24 23,o 25 (.bin .neq 0 true (.t 24) (cu 4)),m 26 25,og 27 26 true (.fieldAddr 0 (.t 3)),og 28 26 true (.load false 1 (.t 27)),og 29 26 true (.bin .neq 0 true (.t 28) (cu 5)),o 30 (.pick (.t 26) (.t 29) (.c (.bool false)))]
(.cond (.t 30)
(Q [o 6 (.mv (.c (.bool true)))]
(.ret [6]))
.skip))
(.seq (Q [m 31 1,o 32 (.bin .eql 0 true (.t 31) (ci 0))]
(.cond (.t 32)
(Q [o 6 (.mv (.c (.bool false)))]
(.ret [6]))
.skip))
(.seq (Q [xa 33 4 3,xf 34 33,o 35 (.len 1 (.t 34)),o 36 (.mv (ci 0))]
(.block 0
(.loop [1,2,34,35,36] L_value_may_0)))
(Q [o 6 (.mv (.c (.bool true)))]
(.ret [6]))))))))⟩
/-! legate/sign.maySig -/
def K_sign_maySig : KF := ⟨1,33,[(.tmp 2)],(Q [o 1 (.box (.t 0)),o 2 (.mv (.c (.bool false)))]
(.seq (Q [xa 4 0 1,xf 5 4,o 6 (.len 0 (.t 5)),o 7 (.bin .neq 0 true (.t 6) (ci 64)),m 8 7,og 9 8 false (.fieldAddr 0 (.t 1)),og 10 8 false (.load false 1 (.t 9)),og 11 8 false (.callF f_hex_Is [.t 10]),og 12 8 false (.un .not (.t 11)),o 13 (.pick (.t 8) (.c (.bool true)) (.t 12))]
(.cond (.t 13)
(Q [o 2 (.mv (.c (.bool false)))]
(.ret [2]))
.skip))
(Q [xa 14 1 1,xf 15 14,o 16 (.len 0 (.t 15)),m 3 16]
(Q [m 17 3,o 18 (.bin .gtr 0 true (.t 17) (ci 0)),m 19 18,og 20 19 true (.mv (.t 3)),og 21 19 true (.bin .leq 0 true (.t 20) (ci 128)),o 22 (.pick (.t 19) (.t 21) (.c (.bool false))),m 23 22,og 24 23 true (.mv (.t 3)),og 25 23 true (.bin .rem 0 true (.t 24) (ci 2)),og 26 23 true (.bin .eql 0 true (.t 25) (ci 0)),o 27 (.pick (.t 23) (.t 26) (.c (.bool false))),m 28 27,og 29 28 true (.fieldAddr 1 (.t 1)),og 30 28 true (.load false 1 (.t 29)),og 31 28 true (.callF f_hex_Is [.t 30]),o 32 (.pick (.t 28) (.t 31) (.c (.bool false))),m 2 32]
(.ret [2])))))⟩
/-! legate/name.allowed -/
def K_name_allowed : KF := ⟨1,32,[(.tmp 2)],(Q [o 2 (.mv (.c (.bool false)))]
(.seq (.block 0
(.seq (Q [m 4 0,o 5 (.bin .geq 0 true (.t 4) (cu 97)),m 6 5,og 7 6 true (.mv (.t 0)),og 8 6 true (.bin .leq 0 true (.t 7) (cu 122)),o 9 (.pick (.t 6) (.t 8) (.c (.bool false))),m 3 9]
(.cond (.t 3)
.skip
(Q [m 10 0,o 11 (.bin .geq 0 true (.t 10) (cu 65)),m 12 11,og 13 12 true (.mv (.t 0)),og 14 12 true (.bin .leq 0 true (.t 13) (cu 90)),o 15 (.pick (.t 12) (.t 14) (.c (.bool false))),m 3 15]
(.cond (.t 3)
.skip
(.ops [m 16 0,o 17 (.bin .geq 0 true (.t 16) (cu 48)),m 18 17,og 19 18 true (.mv (.t 0)),og 20 18 true (.bin .leq 0 true (.t 19) (cu 57)),o 21 (.pick (.t 18) (.t 20) (.c (.bool false))),m 3 21])))))
(.cond (.t 3)
(Q [o 2 (.mv (.c (.bool true)))]
(.ret [2]))
.skip)))
(Q [m 22 0,o 23 (.bin .eql 0 true (.t 22) (cu 46)),m 24 23,og 25 24 false (.mv (.t 0)),og 26 24 false (.bin .eql 0 true (.t 25) (cu 95)),o 27 (.pick (.t 24) (.c (.bool true)) (.t 26)),m 28 27,og 29 28 false (.mv (.t 0)),og 30 28 false (.bin .eql 0 true (.t 29) (cu 45)),o 31 (.pick (.t 28) (.c (.bool true)) (.t 30)),m 2 31]
(.ret [2]))))⟩
/-! legate/read.Read -/
def K_read_Read : KF := ⟨1,52,[(.cell 2 true 5),(.tmp 3),(.tmp 4)],(Q [o 2 (.new [vu 0,vi 0,ve,.nils,.nils] none),o 3 (.mv (ci 0)),o 4 (.mv (ci 0))]
(.seq (Q [m 6 0,o 7 (.len 0 (.t 6)),o 8 (.bin .gtr 0 true (.t 7) (ci 65536))]
(.cond (.t 8)
(Q [o 9 (.build [vu 0,vi 0,ve,.nils,.nils] []),xs 5 2 9,o 3 (.mv (ci 0)),o 4 (.mv (ci 5))]
(.ret [2,3,4]))
.skip))
(Q [m 10 0,o 11 (.build [ve,vi 0,vu 0,vi 0,vi 0,vi 0,ve,vi 0] [(0,1,(.t 10))]),o 12 (.build [ve,vi 0,vu 0,vi 0,vi 0,vi 0,ve,vi 0,vi 0,vi 0] [(0,8,(.t 11))]),o 5 (.new [ve,vi 0,vu 0,vi 0,vi 0,vi 0,ve,vi 0,vi 0,vi 0] none),xs 10 5 12]
(.seq (Q [xa 13 0 5,o 14 (.callF f_read_tokens_next [.t 13]),m 4 14]
(Q [m 15 4,o 16 (.bin .neq 0 true (.t 15) (ci 0))]
(.cond (.t 16)
(.seq (.drawn [o 17 (.build [vu 0,vi 0,ve,.nils,.nils] []),xa 18 0 5,xa 19 1 18,⟨(some 20),(.load false 1 (.t 19)),none,[5]⟩,m 21 4,xs 5 2 17,m 3 20,m 4 21])
(.ret [2,3,4]))
.skip)))
(.seq (Q [o 23 (.callF f_read_values_value [.t 5]),m 22 23,xe 24 22 0,xe 25 22 1,xs 5 2 24,m 4 25]
(Q [m 26 4,o 27 (.bin .neq 0 true (.t 26) (ci 0))]
(.cond (.t 27)
(.seq (.drawn [o 28 (.build [vu 0,vi 0,ve,.nils,.nils] []),xa 29 0 5,xa 30 1 29,⟨(some 31),(.load false 1 (.t 30)),none,[5]⟩,m 32 4,xs 5 2 28,m 3 31,m 4 32])
(.ret [2,3,4]))
.skip)))
(.seq (Q [xa 33 0 5,o 34 (.callF f_read_tokens_next [.t 33]),m 4 34]
(Q [m 35 4,o 36 (.bin .neq 0 true (.t 35) (ci 0))]
(.cond (.t 36)
(.seq (.drawn [o 37 (.build [vu 0,vi 0,ve,.nils,.nils] []),xa 38 0 5,xa 39 1 38,⟨(some 40),(.load false 1 (.t 39)),none,[5]⟩,m 41 4,xs 5 2 37,m 3 40,m 4 41])
(.ret [2,3,4]))
.skip)))
(.seq (Q [xa 42 0 5,xa 43 2 42,xa 44 0 43,xf 45 44,o 46 (.bin .neq 0 true (.t 45) (cu 11))]
(.cond (.t 46)
(.seq (.drawn [o 47 (.build [vu 0,vi 0,ve,.nils,.nils] []),xa 48 0 5,xa 49 1 48,⟨(some 50),(.load false 1 (.t 49)),none,[4]⟩,xs 5 2 47,m 3 50,o 4 (.mv (ci 11))])
(.ret [2,3,4]))
.skip))
(Q [xl 51 5 2,xs 5 2 51,o 3 (.mv (ci 0)),o 4 (.mv (ci 0))]
(.ret [2,3,4])))))))))⟩
/-! legate/sign.Of -/
def L_sign_Of_0 : KC :=
(Q [o 21 (.bin .lss 0 false (.t 20) (.t 19))]
(.seq (.cond (.t 21)
.skip
(.exit [2,4,5] 0))
(.seq (.block 1
(Q [o 22 (.idxAddrSl 5 (.t 18) (.t 20)),xl 23 5 22,o 7 (.new [vu 0,vi 0,ve,.nils,.nils] none),xs 5 7 23]
(Q [xl 25 5 7,o 26 (.callF f_sign_sigOf [.t 25]),m 24 26,xe 27 24 0,xe 28 24 1,o 8 (.new [ve,ve] none),xs 2 8 27,m 9 28]
(Q [m 29 9]
(.block 2
(Q [o 34 (.bin .eql 0 true (.t 29) (ci 0)),m 33 34]
(.cond (.t 33)
(.ops [xa 35 5 5,xf 36 35,xl 37 2 8,o 38 (.buildSl [ve,ve] 1 2 [(0,2,(.t 37))]),o 39 (.app false 2 32 none (.t 36) (.t 38)),xa 40 5 5,xs 1 40 39])
(Q [m 30 4,m 31 9,o 32 (.callF f_pick_Obj_Fail [.t 30,.t 31])]
(.exit [2,4,5] 0)))))))))
(.ops [o 41 (.bin .add 0 true (.t 20) (ci 1)),m 20 41]))))
def K_sign_Of : KF := ⟨1,52,[(.cell 2 true 6),(.tmp 3)],(Q [o 1 (.box (.t 0)),o 2 (.new [vu 0,vi 0,ve,.nils,.nils,.nils] none),o 3 (.mv (ci 0))]
(.scope (.seq (Q [xl 11 5 1,o 12 (.callF f_value_May [.t 11]),o 13 (.un .not (.t 12))]
(.cond (.t 13)
(Q [o 14 (.build [vu 0,vi 0,ve,.nils,.nils,.nils] []),xs 6 2 14,o 3 (.mv (ci 3))]
(.ret [2,3]))
.skip))
(Q [xl 15 5 1,o 16 (.callF f_pick_Of [.t 15]),m 4 16]
(Q [o 5 (.new [vu 0,vi 0,ve,.nils,.nils,.nils] none)]
(.seq .skip
(.seq (Q [m 17 4,o 18 (.callF f_pick_Obj_List [.t 17,cs [115,105,103,110,97,116,117,114,101,115],ci 32]),o 19 (.len 1 (.t 18)),o 20 (.mv (ci 0))]
(.block 0
(.loop [2,4,5,18,19,20] L_sign_Of_0)))
(Q [m 42 4,o 43 (.callF f_pick_Obj_Object [.t 42,cs [115,105,103,110,101,100],ci 8192]),xa 44 0 5,xs 5 44 43]
(.seq (Q [m 45 4,o 46 (.callF f_pick_Obj_Done [.t 45]),m 10 46]
(Q [m 47 10,o 48 (.bin .neq 0 true (.t 47) (ci 0))]
(.cond (.t 48)
(Q [o 49 (.build [vu 0,vi 0,ve,.nils,.nils,.nils] []),m 50 10,xs 6 2 49,m 3 50]
(.ret [2,3]))
.skip)))
(Q [xl 51 6 5,xs 6 2 51,o 3 (.mv (ci 0))]
(.ret [2,3])))))))))))⟩
/-! legate/pick.Of -/
def L_pick_Of_0 : KC :=
(.seq (Q [m 18 3,xa 19 3 1,xf 20 19,o 21 (.len 1 (.t 20)),o 22 (.bin .lss 0 false (.t 18) (.t 21))]
(.cond (.t 22)
.skip
(.exit [1] 0)))
(.seq (.block 1
(.seq (.plain [xa 25 3 1,xf 26 25,m 27 3,o 28 (.bin .sub 0 true (.t 27) (ci 1)),o 29 (.idxAddrSl 1 (.t 26) (.t 28)),xf 30 29,xa 31 3 1,xf 32 31,m 33 3,o 34 (.idxAddrSl 1 (.t 32) (.t 33)),xf 35 34,o 36 (.bin .geq 0 false (.t 30) (.t 35))])
(.cond (.t 36)
(Q [o 37 (.build [vu 0,vi 0,ve,.nils,.nils,.nilMap,vi 0] [(6,1,(ci 3))]),o 38 (.box (.t 37)),m 2 38]
(.ret [2]))
.skip)))
(.ops [m 23 3,o 24 (.bin .add 0 true (.t 23) (ci 1)),m 3 24])))
def K_pick_Of : KF := ⟨1,44,[(.tmp 2)],(Q [o 1 (.box (.t 0)),o 2 (.mv (.c .nilp))]
(.seq (Q [xa 4 0 1,xf 5 4,o 6 (.bin .neq 0 true (.t 5) (cu 5))]
(.cond (.t 6)
(Q [o 7 (.build [vu 0,vi 0,ve,.nils,.nils,.nilMap,vi 0] [(6,1,(ci 10))]),o 8 (.box (.t 7)),m 2 8]
(.ret [2]))
.skip))
(.seq (Q [xa 9 3 1,xf 10 9,o 11 (.len 1 (.t 10)),xa 12 4 1,xf 13 12,o 14 (.len 1 (.t 13)),o 15 (.bin .neq 0 false (.t 11) (.t 14))]
(.cond (.t 15)
(Q [o 16 (.build [vu 0,vi 0,ve,.nils,.nils,.nilMap,vi 0] [(6,1,(ci 3))]),o 17 (.box (.t 16)),m 2 17]
(.ret [2]))
.skip))
(.seq (Q [o 3 (.mv (ci 1))]
(.block 0
(.loop [1,3] L_pick_Of_0)))
(Q [xl 39 5 1,o 40 (.callF f_value_Copy [.t 39]),o 41 .mkMap,o 42 (.build [vu 0,vi 0,ve,.nils,.nils,.nilMap,vi 0] [(0,5,(.t 40)),(5,1,(.t 41))]),o 43 (.box (.t 42)),m 2 43]
(.ret [2]))))))⟩
/-! (*legate/pick.Obj).Text -/
def K_pick_Obj_Text : KF := ⟨2,8,[(.tmp 4)],(Q [o 4 (.mv (cs []))]
(Q [m 5 0,m 6 1,o 7 (.callF f_pick_take_string [.t 5,.t 6,(.c (.func (.func f_pick_Obj_Text_1) [] []))]),m 4 7]
(.ret [4])))⟩
/-! (*legate/pick.Obj).Fail -/
def K_pick_Obj_Fail : KF := ⟨2,11,[],(Q [m 4 0,o 5 (.callF f_pick_Obj_Err [.t 4]),o 6 (.bin .eql 0 true (.t 5) (ci 0))]
(.cond (.t 6)
(.ops [m 7 0,m 8 1,o 9 (.nilck (.t 7)),xa 10 6 9,xs 1 10 8])
.skip))⟩
/-! (*legate/pick.Obj).Num -/
def K_pick_Obj_Num : KF := ⟨4,13,[(.tmp 8)],(Q [o 6 (.box (.t 2)),o 7 (.box (.t 3)),o 8 (.mv (ci 0))]
(Q [m 9 0,m 10 1,o 11 (.mkFunc (.func f_pick_Obj_Num_1) [] [.t 6,.t 7]),o 12 (.callF f_pick_take_int64 [.t 9,.t 10,.t 11]),m 8 12]
(.ret [8])))⟩
/-! legate/when.Read -/
def K_when_Read : KF := ⟨1,110,[(.tmp 2),(.tmp 3)],(Q [o 2 (.mv (ci 0)),o 3 (.mv (ci 0))]
(.seq (Q [m 11 0,o 12 (.len 0 (.t 11)),o 13 (.bin .neq 0 true (.t 12) (ci 20))]
(.cond (.t 13)
(Q [o 2 (.mv (ci 0)),o 3 (.mv (ci 3))]
(.ret [2,3]))
.skip))
(.seq (Q [m 14 0,o 15 (.idxStr (.t 14) (ci 4)),o 16 (.bin .neq 0 true (.t 15) (cu 45)),m 17 16,og 18 17 false (.mv (.t 0)),og 19 17 false (.idxStr (.t 18) (ci 7)),og 20 17 false (.bin .neq 0 true (.t 19) (cu 45)),o 21 (.pick (.t 17) (.c (.bool true)) (.t 20)),m 22 21,og 23 22 false (.mv (.t 0)),og 24 22 false (.idxStr (.t 23) (ci 10)),og 25 22 false (.bin .neq 0 true (.t 24) (cu 84)),o 26 (.pick (.t 22) (.c (.bool true)) (.t 25)),m 27 26,og 28 27 false (.mv (.t 0)),og 29 27 false (.idxStr (.t 28) (ci 13)),og 30 27 false (.bin .neq 0 true (.t 29) (cu 58)),o 31 (.pick (.t 27) (.c (.bool true)) (.t 30)),m 32 31,og 33 32 false (.mv (.t 0)),og 34 32 false (.idxStr (.t 33) (ci 16)),og 35 32 false (.bin .neq 0 true (.t 34) (cu 58)),o 36 (.pick (.t 32) (.c (.bool true)) (.t 35)),m 37 36,og 38 37 false (.mv (.t 0)),og 39 37 false (.idxStr (.t 38) (ci 19)),og 40 37 false (.bin .neq 0 true (.t 39) (cu 90)),o 41 (.pick (.t 37) (.c (.bool true)) (.t 40))]
(.cond (.t 41)
(Q [o 2 (.mv (ci 0)),o 3 (.mv (ci 3))]
(.ret [2,3]))
.skip))
(.seq (.plain [m 42 0,o 43 (.sliceStr (.t 42) (some (ci 0)) (some (ci 4))),o 44 (.callF f_when_digits [.t 43]),m 45 0,o 46 (.sliceStr (.t 45) (some (ci 5)) (some (ci 7))),o 47 (.callF f_when_digits [.t 46]),m 48 0,o 49 (.sliceStr (.t 48) (some (ci 8)) (some (ci 10))),o 50 (.callF f_when_digits [.t 49]),m 4 44,m 5 47,m 6 50])
(.seq (Q [m 51 6,o 52 (.bin .lss 0 true (.t 51) (ci 1)),m 53 52,og 54 53 false (.mv (.t 6)),og 55 53 false (.mv (.t 4)),og 56 53 false (.mv (.t 5)),og 57 53 false (.callF f_when_Days [.t 55,.t 56]),og 58 53 false (.bin .gtr 0 false (.t 54) (.t 57)),o 59 (.pick (.t 53) (.c (.bool true)) (.t 58))]
(.cond (.t 59)
(Q [o 2 (.mv (ci 0)),o 3 (.mv (ci 3))]
(.ret [2,3]))
.skip))
(.seq (.plain [m 60 0,o 61 (.sliceStr (.t 60) (some (ci 11)) (some (ci 13))),o 62 (.callF f_when_digits [.t 61]),m 63 0,o 64 (.sliceStr (.t 63) (some (ci 14)) (some (ci 16))),o 65 (.callF f_when_digits [.t 64]),m 66 0,o 67 (.sliceStr (.t 66) (some (ci 17)) (some (ci 19))),o 68 (.callF f_when_digits [.t 67]),m 7 62,m 8 65,m 9 68])
(.seq (Q [m 69 7,o 70 (.callF f_when_upTo [.t 69,ci 23]),o 71 (.un .not (.t 70)),m 72 71,og 73 72 false (.mv (.t 8)),og 74 72 false (.callF f_when_upTo [.t 73,ci 59]),og 75 72 false (.un .not (.t 74)),o 76 (.pick (.t 72) (.c (.bool true)) (.t 75)),m 77 76,og 78 77 false (.mv (.t 9)),og 79 77 false (.callF f_when_upTo [.t 78,ci 59]),og 80 77 false (.un .not (.t 79)),o 81 (.pick (.t 77) (.c (.bool true)) (.t 80))]
(.cond (.t 81)
(Q [o 2 (.mv (ci 0)),o 3 (.mv (ci 3))]
(.ret [2,3]))
.skip))
(.seq (.drawn [m 82 4,o 83 (.callF f_when_start [.t 82]),m 84 5,o 85 (.bin .sub 0 true (.t 84) (ci 1)),o 86 (.idxAddrArr 13 1 (.g g_when_before) (.t 85)),⟨(some 87),(.load false 1 (.t 86)),none,[1]⟩,o 88 (.bin .add 0 false (.t 83) (.t 87)),m 89 6,o 90 (.bin .add 0 false (.t 88) (.t 89)),o 91 (.bin .sub 0 true (.t 90) (ci 1)),m 10 91])
(.seq (Q [m 92 5,o 93 (.bin .gtr 0 true (.t 92) (ci 2)),m 94 93,og 95 94 true (.mv (.t 4)),og 96 94 true (.callF f_when_leap [.t 95]),o 97 (.pick (.t 94) (.t 96) (.c (.bool false)))]
(.cond (.t 97)
(.ops [m 98 10,o 99 (.bin .add 0 true (.t 98) (ci 1)),m 10 99])
.skip))
(Q [m 100 10,o 101 (.bin .mul 0 true (.t 100) (ci 86400)),m 102 7,o 103 (.bin .mul 0 true (.t 102) (ci 3600)),m 104 8,o 105 (.bin .mul 0 true (.t 104) (ci 60)),o 106 (.bin .add 0 false (.t 103) (.t 105)),m 107 9,o 108 (.bin .add 0 false (.t 106) (.t 107)),o 109 (.bin .add 0 false (.t 101) (.t 108)),m 2 109,o 3 (.mv (ci 0))]
(.ret [2,3])))))))))))⟩
/-! legate/key.Keys -/
def L_key_Keys_0 : KC :=
(Q [o 24 (.bin .lss 0 false (.t 23) (.t 22))]
(.seq (.cond (.t 24)
.skip
(.exit [4] 0))
(.seq (.block 1
(Q [m 25 23,o 26 (.idxAddrSl 1 (.t 21) (.t 23)),xf 27 26,m 5 25,m 6 27]
(Q [xa 29 4 1,xf 30 29,m 31 5,o 32 (.idxAddrSl 5 (.t 30) (.t 31)),xl 33 5 32,o 34 (.callF f_key_Of [.t 33]),m 28 34,xe 35 28 0,xe 36 28 1,o 7 (.new [ve,ve] none),xs 2 7 35,m 8 36]
(.seq (Q [m 37 8,o 38 (.bin .neq 0 true (.t 37) (ci 0))]
(.cond (.t 38)
(Q [m 39 8,o 2 (.mv (.c .nils)),m 3 39]
(.ret [2,3]))
.skip))
(Q [xl 41 2 7,o 42 (.callF f_key_ID [.t 41]),m 40 42,xe 43 40 0,xe 44 40 1,m 9 43,m 8 44]
(.seq (Q [m 45 8,o 46 (.bin .neq 0 true (.t 45) (ci 0))]
(.cond (.t 46)
(Q [m 47 8,o 2 (.mv (.c .nils)),m 3 47]
(.ret [2,3]))
.skip))
(.seq (Q [m 48 9,m 49 6,o 50 (.bin .neq 0 false (.t 48) (.t 49))]
(.cond (.t 50)
(Q [o 2 (.mv (.c .nils)),o 3 (.mv (ci 3))]
(.ret [2,3]))
.skip))
(.ops [m 51 4,xl 52 2 7,o 53 (.buildSl [ve,ve] 1 2 [(0,2,(.t 52))]),o 54 (.app false 2 32 none (.t 51) (.t 53)),m 4 54]))))))))
(.ops [o 55 (.bin .add 0 true (.t 23) (ci 1)),m 23 55]))))
def K_key_Keys : KF := ⟨1,57,[(.tmp 2),(.tmp 3)],(Q [o 1 (.box (.t 0)),o 2 (.mv (.c .nils)),o 3 (.mv (ci 0))]
(.seq (Q [xl 10 5 1,o 11 (.callF f_value_May [.t 10]),o 12 (.un .not (.t 11))]
(.cond (.t 12)
(Q [o 2 (.mv (.c .nils)),o 3 (.mv (ci 3))]
(.ret [2,3]))
.skip))
(.seq (Q [xa 13 0 1,xf 14 13,o 15 (.bin .neq 0 true (.t 14) (cu 5))]
(.cond (.t 15)
(Q [o 2 (.mv (.c .nils)),o 3 (.mv (ci 10))]
(.ret [2,3]))
.skip))
(.seq (Q [xa 16 3 1,xf 17 16,o 18 (.len 1 (.t 17)),o 19 (.bin .gtr 0 true (.t 18) (ci 32))]
(.cond (.t 19)
(Q [o 2 (.mv (.c .nils)),o 3 (.mv (ci 5))]
(.ret [2,3]))
.skip))
(Q [o 4 (.mv (.c .nils))]
(.seq (Q [xa 20 3 1,xf 21 20,o 22 (.len 1 (.t 21)),o 23 (.mv (ci 0))]
(.block 0
(.loop [1,4,21,22,23] L_key_Keys_0)))
(Q [m 56 4,m 2 56,o 3 (.mv (ci 0))]
(.ret [2,3]))))))))⟩
end Go.Ev

