/- Code of functions as the evaluator has it, and what some of them compute. No conditions. -/
import Derived.Test.YtomedkaiefgbeaaGreatDoorEvC
set_option linter.unusedVariables false
set_option linter.unusedSimpArgs false
namespace Go.Ev
abbrev a2p : FuncId:=3
abbrev a9i : FuncId:=4
abbrev a0v : FuncId:=5
abbrev a9e : FuncId:=6
abbrev a0d : FuncId:=7
abbrev a0e : FuncId:=8
abbrev a3q : FuncId:=9
abbrev c5t : FuncId:=10
abbrev b7i : FuncId:=11
abbrev b0v : FuncId:=12
abbrev b1d : FuncId:=13
abbrev a9o : FuncId:=14
abbrev a4t : FuncId:=15
abbrev a8d : FuncId:=16
abbrev c4z : FuncId:=17
abbrev a2z : FuncId:=18
abbrev d7e : FuncId:=19
abbrev b2n : FuncId:=20
abbrev b8y : FuncId:=21
abbrev a1p : FuncId:=22
abbrev a7h : FuncId:=23
abbrev b5h : FuncId:=24
abbrev a9g : FuncId:=25
abbrev b5c : FuncId:=26
abbrev b3s : FuncId:=27
abbrev c1s : FuncId:=28
abbrev e4y : FuncId:=29
abbrev d3j : FuncId:=30
abbrev e4g : FuncId:=31
abbrev c1g : FuncId:=32
abbrev d8i : FuncId:=33
abbrev b6i : FuncId:=34
abbrev b5v : FuncId:=35
abbrev a6d : FuncId:=36
abbrev b3e : FuncId:=37
abbrev b0o : FuncId:=38
abbrev e7y : FuncId:=39
abbrev a9m : FuncId:=40
abbrev d0g : FuncId:=41
abbrev c3q : FuncId:=42
abbrev d7l : FuncId:=43
abbrev a0l : FuncId:=44
abbrev a1l : FuncId:=45
abbrev a4z : FuncId:=46
abbrev a5a : FuncId:=47
abbrev d8c : FuncId:=48
abbrev e0u : FuncId:=49
abbrev b1l : FuncId:=50
abbrev a1y : FuncId:=51
abbrev a9r : FuncId:=52
abbrev a2d : FuncId:=53
abbrev a3n : FuncId:=54
abbrev a2v : FuncId:=55
abbrev e3j : FuncId:=56
abbrev b3g : FuncId:=57
abbrev c3e : FuncId:=58
abbrev c1c : FuncId:=59
abbrev a8l : FuncId:=60
abbrev a2l : FuncId:=61
abbrev c1r : FuncId:=62
abbrev d0s : FuncId:=63
abbrev a3y : FuncId:=64
abbrev c5n : FuncId:=65
abbrev a7i : FuncId:=66
abbrev a4l : FuncId:=67
abbrev e4a : FuncId:=68
abbrev e2x : FuncId:=69
abbrev b8a : FuncId:=70
abbrev a9w : FuncId:=71
abbrev b0l : FuncId:=72
abbrev a6z : FuncId:=73
abbrev b6s : FuncId:=74
abbrev c9z : FuncId:=75
abbrev a0f : FuncId:=76
abbrev c8i : FuncId:=77
abbrev b4o : FuncId:=78
abbrev b7b : FuncId:=79
abbrev c0n : FuncId:=80
abbrev b1s : FuncId:=81
abbrev d2b : FuncId:=82
abbrev a3f : FuncId:=83
abbrev c9m : FuncId:=84
abbrev b8d : FuncId:=85
abbrev a2x : FuncId:=86
abbrev a2i : FuncId:=87
abbrev b9n : FuncId:=88
abbrev b1w : FuncId:=89
abbrev a0h : FuncId:=90
abbrev d4t : FuncId:=91
abbrev b7h : FuncId:=92
abbrev a1j : FuncId:=93
abbrev c1i : FuncId:=94
abbrev c8d : FuncId:=95
abbrev c1f : FuncId:=96
abbrev a0c : FuncId:=97
abbrev b7z : FuncId:=98
abbrev d7o : FuncId:=99
abbrev d1f : FuncId:=100
abbrev d3h : FuncId:=101
abbrev a3d : FuncId:=102
abbrev b2d : FuncId:=103
abbrev b9z : FuncId:=104
abbrev b4b : FuncId:=105
abbrev d3p : FuncId:=107
abbrev b5a : FuncId:=108
abbrev b1n : FuncId:=109
abbrev c2a : FuncId:=110
abbrev a2b : FuncId:=111
abbrev b2c : FuncId:=112
abbrev h0y : FuncId:=113
abbrev b3j : FuncId:=114
abbrev e7x : FuncId:=115
abbrev c8e : FuncId:=116
abbrev a0q : FuncId:=117
abbrev a0z : FuncId:=118
abbrev a4u : FuncId:=119
abbrev a1g : FuncId:=120
abbrev a0i : FuncId:=121
abbrev a3l : FuncId:=122
abbrev c0l : FuncId:=123
abbrev c5r : FuncId:=124
abbrev a0w : FuncId:=125
abbrev b8f : FuncId:=126
abbrev a1c : FuncId:=127
abbrev d3i : FuncId:=128
abbrev e0p : FuncId:=129
abbrev c2o : FuncId:=130
abbrev g1n : FuncId:=131
abbrev a1i : FuncId:=132
abbrev c2b : FuncId:=133
abbrev e9z : FuncId:=134
abbrev a0t : FuncId:=135
abbrev b8q : FuncId:=136
abbrev c5g : FuncId:=137
abbrev c4w : FuncId:=138
abbrev e2q : FuncId:=139
abbrev c7v : FuncId:=140
abbrev a3c : FuncId:=141
abbrev a1m : FuncId:=142
abbrev b1a : FuncId:=143
abbrev b1z : FuncId:=144
abbrev a1f : FuncId:=145
abbrev a4i : FuncId:=146
abbrev a1v : FuncId:=147
abbrev b5u : FuncId:=148
abbrev b1o : FuncId:=149
abbrev c0k : FuncId:=150
abbrev b2a : FuncId:=151
abbrev a7o : FuncId:=152
abbrev b9v : FuncId:=153
abbrev b0w : FuncId:=154
abbrev b8n : FuncId:=155
abbrev b8i : FuncId:=156
abbrev c5q : FuncId:=157
abbrev c5i : FuncId:=158
abbrev c2j : FuncId:=159
abbrev e5n : FuncId:=160
abbrev a1t : FuncId:=161
abbrev c9r : FuncId:=162
abbrev b4y : FuncId:=163
abbrev a4e : FuncId:=164
abbrev c1e : FuncId:=165
abbrev a6o : FuncId:=166
abbrev a7q : FuncId:=167
abbrev e2h : FuncId:=169
abbrev d6u : FuncId:=170
abbrev d0i : FuncId:=171
abbrev b8z : FuncId:=172
abbrev b6j : FuncId:=173
abbrev a3s : FuncId:=174
abbrev c0u : FuncId:=175
abbrev a8n : FuncId:=176
abbrev b3i : FuncId:=177
abbrev a9j : FuncId:=178
abbrev a5d : FuncId:=179
abbrev a7s : FuncId:=180
abbrev a8k : FuncId:=181
abbrev b1b : FuncId:=185
abbrev b9q : FuncId:=186
abbrev a1n : FuncId:=187
abbrev a5h : FuncId:=188
abbrev b5t : FuncId:=189
abbrev d8p : FuncId:=190
abbrev b7m : FuncId:=191
abbrev b9t : FuncId:=192
abbrev a1q : FuncId:=193
abbrev b9l : FuncId:=194
abbrev c1q : FuncId:=195
abbrev a5e : FuncId:=196
abbrev c0g : FuncId:=197
abbrev h2s : FuncId:=198
abbrev b2m : FuncId:=199
abbrev b5k : FuncId:=200
abbrev e1z : FuncId:=201
abbrev g0e : FuncId:=202
abbrev b4c : FuncId:=203
abbrev a7x : FuncId:=204
abbrev b6a : FuncId:=205
abbrev b0k : FuncId:=206
abbrev a2r : FuncId:=210
abbrev b0h : FuncId:=211
abbrev a7w : FuncId:=212
abbrev a8r : FuncId:=213
abbrev a8c : FuncId:=214
abbrev a4p : FuncId:=215
abbrev a7d : FuncId:=216
abbrev a9q : FuncId:=217
abbrev d4s : FuncId:=218
abbrev b1x : FuncId:=219
abbrev a2h : FuncId:=220
abbrev a8u : FuncId:=221
abbrev a6i : FuncId:=222
abbrev a7t : FuncId:=223
abbrev a7c : FuncId:=224
abbrev a4a : FuncId:=225
abbrev a5w : FuncId:=226
abbrev a8q : FuncId:=227
abbrev a1z : FuncId:=228
abbrev b9x : FuncId:=229
abbrev b6b : FuncId:=230
abbrev g0c : FuncId:=231
abbrev b7k : FuncId:=232
abbrev d3u : FuncId:=233
abbrev d4b : FuncId:=234
abbrev c7z : FuncId:=235
abbrev a0g : FuncId:=236
abbrev b4w : FuncId:=237
abbrev b0z : FuncId:=238
abbrev e8t : FuncId:=240
abbrev c8h : FuncId:=241
abbrev a4s : FuncId:=242
abbrev b7o : FuncId:=243
abbrev a9y : FuncId:=244
abbrev a8z : FuncId:=245
abbrev b4u : FuncId:=246
abbrev d9c : FuncId:=247
abbrev e4o : FuncId:=248
abbrev c9k : FuncId:=253
abbrev b7w : FuncId:=254
abbrev h7r : FuncId:=255
abbrev d7b : FuncId:=256
abbrev e9j : FuncId:=257
abbrev a5k : FuncId:=258
abbrev b6q : FuncId:=259
abbrev b3t : FuncId:=260
abbrev a9a : FuncId:=261
abbrev b9a : FuncId:=262
abbrev c4o : FuncId:=263
abbrev a1e : FuncId:=264
abbrev c8x : FuncId:=265
abbrev b2v : FuncId:=266
abbrev c0e : FuncId:=267
abbrev a3i : FuncId:=268
abbrev d3n : FuncId:=280
abbrev b5e : FuncId:=281
abbrev b1u : FuncId:=282
abbrev a4n : FuncId:=283
abbrev d0r : FuncId:=284
abbrev a4f : FuncId:=285
abbrev c6b : FuncId:=286
abbrev d2y : FuncId:=287
abbrev c2h : FuncId:=288
abbrev b5d : FuncId:=289
abbrev b5s : FuncId:=290
abbrev c1x : FuncId:=291
abbrev c9q : FuncId:=292
abbrev e5m : FuncId:=293
abbrev e9l : FuncId:=294
abbrev b0n : FuncId:=295
abbrev b3u : FuncId:=296
abbrev d1p : FuncId:=297
abbrev d7q : FuncId:=298
abbrev a9f : FuncId:=299
abbrev c8j : FuncId:=300
abbrev b0c : FuncId:=301
abbrev a6p : FuncId:=302
abbrev a4r : FuncId:=303
abbrev b3l : FuncId:=304
abbrev a4o : FuncId:=308
abbrev c8r : FuncId:=309
abbrev e7f : FuncId:=310
abbrev c5d : FuncId:=311
abbrev a1b : FuncId:=312
abbrev d4m : FuncId:=313
abbrev d4n : FuncId:=314
abbrev c9n : FuncId:=315
abbrev d5w : FuncId:=316
abbrev d0h : FuncId:=317
abbrev d0d : FuncId:=318
abbrev a9u : FuncId:=319
abbrev d4u : FuncId:=320
abbrev d5x : FuncId:=321
abbrev b3z : FuncId:=322
abbrev a2g : FuncId:=323
abbrev c3s : FuncId:=324
abbrev b4m : FuncId:=325
abbrev d4c : FuncId:=326
abbrev c8b : FuncId:=327
abbrev b1g : FuncId:=328
abbrev b6w : FuncId:=329
abbrev a7b : FuncId:=330
abbrev a6q : FuncId:=331
abbrev b1j : FuncId:=334
abbrev e6r : FuncId:=335
abbrev a2n : FuncId:=336
abbrev b1p : FuncId:=337
abbrev e9g : FuncId:=338
abbrev g4n : FuncId:=339
abbrev a1d : FuncId:=340
abbrev c4t : FuncId:=344
abbrev d7g : FuncId:=345
abbrev b6x : FuncId:=346
abbrev a2j : FuncId:=349
abbrev a9c : FuncId:=350
abbrev a6k : FuncId:=351
abbrev a7n : FuncId:=352
abbrev a7f : FuncId:=353
abbrev a4b : FuncId:=354
abbrev a6c : FuncId:=355
abbrev a8h : FuncId:=356
abbrev c2d : FuncId:=357
abbrev b8u : FuncId:=358
abbrev a7m : FuncId:=359
abbrev d5j : FuncId:=360
abbrev a6r : FuncId:=366
abbrev a1o : FuncId:=376
abbrev b1r : FuncId:=377
abbrev d0z : FuncId:=399
abbrev e7p : FuncId:=400
abbrev c6j : FuncId:=402
abbrev g0p : FuncId:=403
abbrev d6o : FuncId:=404
abbrev d7m : FuncId:=405
abbrev d8w : FuncId:=406
abbrev d4l : FuncId:=407
abbrev c9f : Nat:=0
abbrev b0b : Nat:=1
abbrev b4k : Nat:=2
abbrev a5n : Nat:=3
abbrev a4x : Nat:=5
abbrev a4y : Nat:=6
end Go.Ev
namespace Go.Ev
def a3b : KF:=⟨2,39,[(.tmp 4),(.tmp 5)],
(.seq (.ops [o 4 (.mv (.c (.int .i64 0))),
o 5 (.mv (.c (.bool false)))])
(.seq (.seq (.ops [m 7 1,
o 8 (.bin .lss 0 true (.t 7) (.c (.int .i64 0))),
m 9 8,
og 10 9 false (.mv (.t 1)),
og 11 9 false (.mv (.t 0)),
og 12 9 false (.len 0 (.t 11)),
og 13 9 false (.bin .geq 0 false (.t 10) (.t 12)),
o 14 (.pick (.t 9) (.c (.bool true)) (.t 13))])
(.cond (.t 14)
(.seq (.ops [o 4 (.mv (.c (.int .i64 0))),
o 5 (.mv (.c (.bool false)))])
(.ret [4,5]))
.skip))
(.seq (.seq (.ops [m 15 0,
m 16 1,
o 17 (.idxStr (.t 15) (.t 16)),
m 6 17])
(.block 0
(.seq (.ops [m 19 6,
o 20 (.bin .leq 0 true (.c (.int .u8 48)) (.t 19)),
m 21 20,
og 22 21 true (.mv (.t 6)),
og 23 21 true (.bin .leq 0 true (.t 22) (.c (.int .u8 57))),
o 24 (.pick (.t 21) (.t 23) (.c (.bool false))),
m 18 24])
(.cond (.t 18)
(.seq (.ops [m 25 6,
o 26 (.bin .sub 0 true (.t 25) (.c (.int .u8 48))),
o 27 (.i2i .i64 (.t 26)),
m 4 27,
o 5 (.mv (.c (.bool true)))])
(.ret [4,5]))
(.seq (.ops [m 29 6,
o 30 (.bin .leq 0 true (.c (.int .u8 97)) (.t 29)),
m 31 30,
og 32 31 true (.mv (.t 6)),
og 33 31 true (.bin .leq 0 true (.t 32) (.c (.int .u8 102))),
o 34 (.pick (.t 31) (.t 33) (.c (.bool false))),
m 28 34])
(.cond (.t 28)
(.seq (.ops [m 35 6,
o 36 (.bin .sub 0 true (.t 35) (.c (.int .u8 97))),
o 37 (.i2i .i64 (.t 36)),
o 38 (.bin .add 0 true (.t 37) (.c (.int .i64 10))),
m 4 38,
o 5 (.mv (.c (.bool true)))])
(.ret [4,5]))
.skip))))))
(.seq (.ops [o 4 (.mv (.c (.int .i64 0))),
o 5 (.mv (.c (.bool false)))])
(.ret [4,5])))))⟩
def b4p : KC:=
(.seq (.ops [o 9 (.bin .lss 0 false (.t 8) (.t 7))])
(.seq (.cond (.t 9)
.skip
(.exit [] 0))
(.seq (.block 1
(.seq (.ops [m 10 8,
m 3 10])
(.seq (.ops [m 12 0,
m 13 3,
o 14 (.callF a7o [(.t 12),(.t 13)]),
m 11 14,
o 15 (.extract (.t 11) 0),
o 16 (.extract (.t 11) 1),
m 4 15,
m 5 16])
(.seq (.ops [m 17 5,
o 18 (.un .not (.t 17))])
(.cond (.t 18)
(.seq (.ops [o 2 (.mv (.c (.bool false)))])
(.ret [2]))
.skip)))))
(.ops [o 19 (.bin .add 0 true (.t 8) (.c (.int .i64 1))),
m 8 19]))))
def g0q : KF:=⟨1,20,[(.tmp 2)],
(.seq (.ops [o 2 (.mv (.c (.bool false)))])
(.seq (.seq (.ops [m 6 0,
o 7 (.len 0 (.t 6)),
o 8 (.mv (.c (.int .i64 0)))])
(.block 0
(.loop [0,7,8] b4p)))
(.seq (.ops [o 2 (.mv (.c (.bool true)))])
(.ret [2]))))⟩
def a8t : KC:=
(.seq (.seq (.ops [m 9 4,
m 10 0,
o 11 (.len 0 (.t 10)),
o 12 (.bin .lss 0 false (.t 9) (.t 11))])
(.cond (.t 12)
.skip
(.exit [3] 0)))
(.seq (.block 1
(.plain [m 15 3,
m 16 0,
m 17 4,
o 18 (.idxStr (.t 16) (.t 17)),
o 19 (.bin .shr 0 true (.t 18) (.c (.int .u64 4))),
o 20 (.idxAddrArr 16 1 (.g b0b) (.t 19)),
o 21 (.load false 1 (.t 20)),
m 22 0,
m 23 4,
o 24 (.idxStr (.t 22) (.t 23)),
o 25 (.bin .and 0 true (.t 24) (.c (.int .u8 15))),
o 26 (.idxAddrArr 16 1 (.g b0b) (.t 25)),
o 27 (.load false 1 (.t 26)),
o 28 (.buildSl [(.int .u8 0)] 2 1 [(0,1,(.t 21)),(1,1,(.t 27))]),
o 29 (.app false 1 1 (some (5,false)) (.t 15) (.t 28)),
m 3 29]))
(.ops [m 13 4,
o 14 (.bin .add 0 true (.t 13) (.c (.int .i64 1))),
m 4 14])))
def c4v : KF:=⟨1,32,[(.tmp 2)],
(.seq (.ops [o 2 (.mv (.c (.str [])))])
(.seq (.ops [m 5 0,
o 6 (.len 0 (.t 5)),
o 7 (.bin .mul 0 true (.c (.int .i64 2)) (.t 6)),
o 8 (.mkSlice [(.int .u8 0)] 1 1 (.c (.int .i64 0)) (.t 7)),
m 3 8])
(.seq (.seq (.ops [o 4 (.mv (.c (.int .i64 0)))])
(.block 0
(.loop [0,3,4] a8t)))
(.seq (.ops [m 30 3,
o 31 (.b2s (.t 30)),
m 2 31])
(.ret [2])))))⟩
def e5z : KC:=
(.seq (.seq (.ops [m 21 5,
m 22 0,
o 23 (.len 0 (.t 22)),
o 24 (.bin .lss 0 false (.t 21) (.t 23))])
(.cond (.t 24)
.skip
(.exit [4] 0)))
(.seq (.block 1
(.seq (.ops [m 28 0,
m 29 5,
o 30 (.callF a7o [(.t 28),(.t 29)]),
m 27 30,
o 31 (.extract (.t 27) 0),
o 32 (.extract (.t 27) 1),
m 6 31,
m 7 32])
(.seq (.ops [m 34 0,
m 35 5,
o 36 (.bin .add 0 true (.t 35) (.c (.int .i64 1))),
o 37 (.callF a7o [(.t 34),(.t 36)]),
m 33 37,
o 38 (.extract (.t 33) 0),
o 39 (.extract (.t 33) 1),
m 8 38,
m 9 39])
(.ops [m 40 4,
m 41 6,
o 42 (.bin .shl 0 true (.t 41) (.c (.int .u64 4))),
m 43 8,
o 44 (.bin .or 0 false (.t 42) (.t 43)),
o 45 (.i2i .u8 (.t 44)),
o 46 (.buildSl [(.int .u8 0)] 1 1 [(0,1,(.t 45))]),
o 47 (.app false 1 1 (some (5,false)) (.t 40) (.t 46)),
m 4 47]))))
(.ops [m 25 5,
o 26 (.bin .add 0 true (.t 25) (.c (.int .i64 2))),
m 5 26])))
def d7a : KF:=⟨1,50,[(.tmp 2),(.tmp 3)],
(.seq (.ops [o 2 (.mv (.c (.str []))),
o 3 (.mv (.c (.int .i64 0)))])
(.seq (.seq (.ops [m 10 0,
o 11 (.callF b2a [(.t 10)]),
o 12 (.un .not (.t 11))])
(.cond (.t 12)
(.seq (.ops [o 2 (.mv (.c (.str []))),
o 3 (.mv (.c (.int .i64 3)))])
(.ret [2,3]))
.skip))
(.seq (.seq (.ops [m 13 0,
o 14 (.len 0 (.t 13)),
o 15 (.bin .rem 0 true (.t 14) (.c (.int .i64 2))),
o 16 (.bin .neq 0 true (.t 15) (.c (.int .i64 0)))])
(.cond (.t 16)
(.seq (.ops [o 2 (.mv (.c (.str []))),
o 3 (.mv (.c (.int .i64 4)))])
(.ret [2,3]))
.skip))
(.seq (.ops [m 17 0,
o 18 (.len 0 (.t 17)),
o 19 (.bin .quo 0 true (.t 18) (.c (.int .i64 2))),
o 20 (.mkSlice [(.int .u8 0)] 1 1 (.c (.int .i64 0)) (.t 19)),
m 4 20])
(.seq (.seq (.ops [o 5 (.mv (.c (.int .i64 0)))])
(.block 0
(.loop [0,4,5] e5z)))
(.seq (.ops [m 48 4,
o 49 (.b2s (.t 48)),
m 2 49,
o 3 (.mv (.c (.int .i64 0)))])
(.ret [2,3])))))))⟩
end Go.Ev
namespace Go.Ev
set_option maxRecDepth 100000
set_option linter.unusedSimpArgs false
variable {C : Ctx}
def hexV (b : UInt8) : Option Nat:=
 if 48 ≤ b.toNat ∧ b.toNat ≤ 57 then some (b.toNat - 48) else if 97 ≤ b.toNat ∧ b.toNat ≤ 102 then some (b.toNat - 87) else none
def g3o (s : List UInt8) (i : Int) : Option Nat:=
 if i < 0 then none else s[i.toNat]?.bind hexV
def e6h (o : Option Nat) : AV:=
 .tup [.int .i64 (o.getD 0 : Nat),.bool o.isSome]
theorem g6b (hC : Has C a7o a3b) (s : List UInt8) (i : Int) (σ : St) :
 semF C a7o [.str s,.int .i64 i] σ = some (e6h (g3o s i),σ):=by
 rw [hC.run]
 unfold runK
 by_cases h0 : i < 0
 ·simp only [a3b,h0,g3o,e6h,EVC,EVA,Nat.reduceEqDiff,eqOp,eqA,a1w,lenA,a1a,a0j,pt,a0n,Nat.reduceSub,Nat.reduceGT,Nat.reduceLT,Nat.reduceAdd,hand,a3e,a0u,a1k,freeze,reduceIte,reduceCtorEq,a0m,a0p,isStr,a1x,rep,a2q,a2w,Nat.reduceMul,Nat.reduceLeDiff]
  rfl
 ·by_cases h1 : (s.length : Int) ≤ i
  ·have h2 : s[i.toNat]? = none:=List.getElem?_eq_none (by omega)
   simp only [a3b,h0,h1,h2,g3o,e6h,ge_iff_le,EVC,EVA,Nat.reduceEqDiff,eqOp,eqA,a1w,lenA,a1a,a0j,pt,a0n,Nat.reduceSub,Nat.reduceGT,Nat.reduceLT,Nat.reduceAdd,hand,a3e,a0u,a1k,freeze,reduceIte,reduceCtorEq,a0m,a0p,isStr,a1x,rep,a2q,a2w,Nat.reduceMul,Nat.reduceLeDiff]
   rfl
  ·have h2 : i.toNat < s.length:=by omega
   have h3 : 0 ≤ i:=by omega
   obtain ⟨b,hb⟩ : ∃ b,s[i.toNat]? = some b:=⟨_,List.getElem?_eq_getElem h2⟩
   have hlt : b.toNat < 256:=b.toNat_lt
   have hA : ((48 : Int) ≤ b.toNat) = (48 ≤ b.toNat):=by simp; omega
   have hB : ((b.toNat : Int) ≤ 57) = (b.toNat ≤ 57):=by simp; omega
   have hD : ((97 : Int) ≤ b.toNat) = (97 ≤ b.toNat):=by simp; omega
   have hE : ((b.toNat : Int) ≤ 102) = (b.toNat ≤ 102):=by simp; omega
   have hv : g3o s i = hexV b:=by simp [g3o,h0,hb]
   rw [hv]
   by_cases h4 : 48 ≤ b.toNat
   ·by_cases h5 : b.toNat ≤ 57
    ·have e1 : IntKind.u8.wrap ((b.toNat : Int) - 48) = ((b.toNat - 48 : Nat) : Int):=by rw [wu8] <;> omega
     have e2 : IntKind.i64.wrap ((b.toNat - 48 : Nat) : Int) = ((b.toNat - 48 : Nat) : Int):=by rw [w64] <;> omega
     simp only [a3b,h0,h1,h2,h3,hb,h4,h5,hA,hB,e1,e2,ge_iff_le,EVC,EVA,Nat.reduceEqDiff,eqOp,eqA,a1w,lenA,a1a,a0j,pt,a0n,Nat.reduceSub,Nat.reduceGT,Nat.reduceLT,Nat.reduceAdd,hand,a3e,a0u,a1k,freeze,reduceIte,reduceCtorEq,a0m,a0p,isStr,a1x,rep,a2q,a2w,Nat.reduceMul,Nat.reduceLeDiff]
     simp [e6h,hexV,h4,h5]
    ·by_cases h6 : 97 ≤ b.toNat
     ·by_cases h7 : b.toNat ≤ 102
      ·have e1 : IntKind.u8.wrap ((b.toNat : Int) - 97) = ((b.toNat - 97 : Nat) : Int):=by rw [wu8] <;> omega
       have e2 : IntKind.i64.wrap ((b.toNat - 97 : Nat) : Int) = ((b.toNat - 97 : Nat) : Int):=by rw [w64] <;> omega
       have e3 : IntKind.i64.wrap (((b.toNat - 97 : Nat) : Int) + 10) = ((b.toNat - 87 : Nat) : Int):=by rw [w64] <;> omega
       simp only [a3b,h0,h1,h2,h3,hb,h4,h5,h6,h7,hA,hB,hD,hE,e1,e2,e3,ge_iff_le,EVC,EVA,Nat.reduceEqDiff,eqOp,eqA,a1w,lenA,a1a,a0j,pt,a0n,Nat.reduceSub,Nat.reduceGT,Nat.reduceLT,Nat.reduceAdd,hand,a3e,a0u,a1k,freeze,reduceIte,reduceCtorEq,a0m,a0p,isStr,a1x,rep,a2q,a2w,Nat.reduceMul,Nat.reduceLeDiff]
       simp [e6h,hexV,h4,h5,h6,h7]
      ·simp only [a3b,h0,h1,h2,h3,hb,h4,h5,h6,h7,hA,hB,hD,hE,ge_iff_le,EVC,EVA,Nat.reduceEqDiff,eqOp,eqA,a1w,lenA,a1a,a0j,pt,a0n,Nat.reduceSub,Nat.reduceGT,Nat.reduceLT,Nat.reduceAdd,hand,a3e,a0u,a1k,freeze,reduceIte,reduceCtorEq,a0m,a0p,isStr,a1x,rep,a2q,a2w,Nat.reduceMul,Nat.reduceLeDiff]
       simp [e6h,hexV,h4,h5,h6,h7]
     ·simp only [a3b,h0,h1,h2,h3,hb,h4,h5,h6,hA,hB,hD,hE,ge_iff_le,EVC,EVA,Nat.reduceEqDiff,eqOp,eqA,a1w,lenA,a1a,a0j,pt,a0n,Nat.reduceSub,Nat.reduceGT,Nat.reduceLT,Nat.reduceAdd,hand,a3e,a0u,a1k,freeze,reduceIte,reduceCtorEq,a0m,a0p,isStr,a1x,rep,a2q,a2w,Nat.reduceMul,Nat.reduceLeDiff]
      simp [e6h,hexV,h4,h5,h6]
   ·have h6 : ¬ 97 ≤ b.toNat:=by omega
    simp only [a3b,h0,h1,h2,h3,hb,h4,h6,hA,hB,hD,hE,ge_iff_le,EVC,EVA,Nat.reduceEqDiff,eqOp,eqA,a1w,lenA,a1a,a0j,pt,a0n,Nat.reduceSub,Nat.reduceGT,Nat.reduceLT,Nat.reduceAdd,hand,a3e,a0u,a1k,freeze,reduceIte,reduceCtorEq,a0m,a0p,isStr,a1x,rep,a2q,a2w,Nat.reduceMul,Nat.reduceLeDiff]
    simp [e6h,hexV,h4,h6]
def h0x (b : UInt8) : Bool:=(hexV b).isSome
theorem i3v {s : List UInt8} {i : Nat} {b : UInt8} (h : s[i]? = some b) : (g3o s i).isSome = h0x b:=by
 have : ¬ ((i : Int) < 0):=by omega
 simp [g3o,h,h0x,this]
theorem e1c (hd : Has C a7o a3b) (s : List UInt8) (hs : s.length ≤ 1099511627776) (σ : St) : ∀ (n i : Nat),i + n = s.length →
  b1k C (semF C) 20 [0,7,8] b4p [(0,.str s),(7,.int .i64 s.length),(8,.int .i64 i)] σ =
   if (s.drop i).all h0x then some (.exit 0,[],σ) else some (.ret,[(2,.bool false)],σ)
 | 0,i,hi=>by
   rw [a3h (he:=rfl)]
   have h : ¬ ((i : Int) < (s.length : Int)):=by omega
   have h' : s.drop i = []:=List.drop_eq_nil_of_le (by omega)
   simp only [b4p,h,h',List.all_nil,EVC,EVA,Nat.reduceEqDiff,eqOp,eqA,a1w,lenA,a1a,a0j,pt,a0n,Nat.reduceSub,Nat.reduceGT,Nat.reduceLT,Nat.reduceAdd,hand,a3e,a0u,a1k,freeze,reduceIte,reduceCtorEq,a0m,a0p,isStr,a1x,rep,a2q,a2w,Nat.reduceMul,Nat.reduceLeDiff]
 | n + 1,i,hi=>by
   rw [a3h (he:=rfl)]
   generalize hk : b1k C (semF C) 20 [0,7,8] b4p = k
   have h : ((i : Int) < (s.length : Int)):=by omega
   have h2 : i < s.length:=by omega
   have hb : s[i]? = some s[i]:=List.getElem?_eq_getElem h2
   have h' : s.drop i = s[i] :: s.drop (i + 1):=List.drop_eq_getElem_cons h2
   have hw : IntKind.i64.wrap ((i : Int) + 1) = ((i + 1 : Nat) : Int):=by rw [w64] <;> omega
   rw [h',List.all_cons,← i3v hb]
   cases hx : (g3o s i).isSome
   ·simp only [b4p,h,g6b hd,e6h,hx,Bool.false_and,EVC,EVA,Nat.reduceEqDiff,eqOp,eqA,a1w,lenA,a1a,a0j,pt,a0n,Nat.reduceSub,Nat.reduceGT,Nat.reduceLT,Nat.reduceAdd,hand,a3e,a0u,a1k,freeze,reduceIte,reduceCtorEq,a0m,a0p,isStr,a1x,rep,a2q,a2w,Nat.reduceMul,Nat.reduceLeDiff]
   ·simp only [b4p,h,g6b hd,e6h,hx,hw,Bool.true_and,EVC,EVA,Nat.reduceEqDiff,eqOp,eqA,a1w,lenA,a1a,a0j,pt,a0n,Nat.reduceSub,Nat.reduceGT,Nat.reduceLT,Nat.reduceAdd,hand,a3e,a0u,a1k,freeze,reduceIte,reduceCtorEq,a0m,a0p,isStr,a1x,rep,a2q,a2w,Nat.reduceMul,Nat.reduceLeDiff]
    rw [← hk,e1c hd s hs σ n (i + 1) (by omega)]
theorem j3h (hC : Has C b2a g0q) (hd : Has C a7o a3b) (s : List UInt8) (hs : s.length ≤ 1099511627776) (σ : St) :
 semF C b2a [.str s] σ = some (.bool (s.all h0x),σ):=by
 rw [hC.run]
 unfold runK
 have:=e1c hd s hs σ s.length 0 (by omega)
 simp only [Int.ofNat_zero,Int.natCast_zero,Int.cast_ofNat_Int,Int.ofNat_eq_natCast,List.drop_zero,EVC,EVA,Nat.reduceEqDiff,eqOp,eqA,a1w,lenA,a1a,a0j,pt,a0n,Nat.reduceSub,Nat.reduceGT,Nat.reduceLT,Nat.reduceAdd,hand,a3e,a0u,a1k,freeze,reduceIte,reduceCtorEq,a0m,a0p,isStr,a1x,rep,a2q,a2w,Nat.reduceMul,Nat.reduceLeDiff] at this
 cases hx : s.all h0x
 ·rw [hx] at this
  simp only [g0q,this,EVC,EVA,Nat.reduceEqDiff,eqOp,eqA,a1w,lenA,a1a,a0j,pt,a0n,Nat.reduceSub,Nat.reduceGT,Nat.reduceLT,Nat.reduceAdd,hand,a3e,a0u,a1k,freeze,reduceIte,reduceCtorEq,a0m,a0p,isStr,a1x,rep,a2q,a2w,Nat.reduceMul,Nat.reduceLeDiff]
 ·rw [hx] at this
  simp only [g0q,this,EVC,EVA,Nat.reduceEqDiff,eqOp,eqA,a1w,lenA,a1a,a0j,pt,a0n,Nat.reduceSub,Nat.reduceGT,Nat.reduceLT,Nat.reduceAdd,hand,a3e,a0u,a1k,freeze,reduceIte,reduceCtorEq,a0m,a0p,isStr,a1x,rep,a2q,a2w,Nat.reduceMul,Nat.reduceLeDiff]
end Go.Ev
namespace Go.Ev
set_option maxRecDepth 100000
set_option linter.unusedSimpArgs false
variable {C : Ctx}
def hexC (n : Nat) : UInt8:=if n < 10 then UInt8.ofNat (48 + n) else UInt8.ofNat (87 + n)
def hexDigits : List UInt8:=[48,49,50,51,52,53,54,55,56,57,97,98,99,100,101,102]
def encB (b : UInt8) : List UInt8:=[hexC (b.toNat / 16),hexC (b.toNat % 16)]
def b7c (s : List UInt8) : List UInt8:=s.flatMap encB
theorem h8m (n : Nat) (h : n < 16) : ((ofBytes hexDigits).drop n).head? = some (.int .u8 (hexC n).toNat):=by
 have : ∀ n : Fin 16,((hexDigits.drop n.1).head?).map (fun b=>(AV.int .u8 (b.toNat : Int))) = some (.int .u8 ((hexC n.1).toNat : Int)):=by
  intro n
  obtain ⟨n,hn⟩:=n
  rcases (by omega : n = 0 ∨ n = 1 ∨ n = 2 ∨ n = 3 ∨ n = 4 ∨ n = 5 ∨ n = 6 ∨ n = 7 ∨ n = 8 ∨ n = 9 ∨ n = 10 ∨ n = 11 ∨ n = 12 ∨ n = 13 ∨ n = 14 ∨ n = 15) with h | h | h | h | h | h | h | h | h | h | h | h | h | h | h | h <;> subst h <;> rfl
 have:=this ⟨n,h⟩
 unfold ofBytes
 rw [← List.map_drop,List.head?_map]
 exact this
theorem g5y {tg : Option (TypeId × Bool)} (σ : St) (k : Nat) (acc cs : List UInt8) (m : Nat) (hm : cs.length = m) (h0 : 0 < m) (hl : acc.length + m ≤ 70368744177664) :
  appA (pile σ k (.cells (ofBytes acc) ⟨false,none⟩)) 1 1 tg (.msl (σ.length + k) 0 acc.length 1) m (ofBytes cs) = some (.msl (σ.length + (k + 1)) 0 (acc ++ cs).length 1,pile σ (k + 1) (.cells (ofBytes (acc ++ cs)) ⟨false,none⟩)):=by
 have hm0 : ¬ m = 0:=by omega
 have ht : (if none = tg then tg else none) = none:=by split <;> simp_all
 unfold appA
 rw [if_neg hm0]
 simp only [g1u]
 rw [if_pos ⟨trivial,by rw [a0k]; omega,by omega,hl⟩,i3k,g8u,h1p,List.length_append,hm,ht]
theorem c3u (hg : C.gl b0b = some (ofBytes hexDigits)) (s : List UInt8) (hs : s.length ≤ 1099511627776) (σ : St) : ∀ (n i k : Nat) (acc : List UInt8),i + n = s.length → acc.length = 2 * i →
  b1k C (semF C) 32 [0,3,4] a8t [(0,.str s),(3,.msl (σ.length + k) 0 acc.length 1),(4,.int .i64 i)] (pile σ k (.cells (ofBytes acc) ⟨false,none⟩)) =
   some (.exit 0,[(3,.msl (σ.length + (k + n)) 0 (acc ++ b7c (s.drop i)).length 1)],pile σ (k + n) (.cells (ofBytes (acc ++ b7c (s.drop i))) ⟨false,none⟩))
 | 0,i,k,acc,hi,ha=>by
   rw [a3h (he:=rfl)]
   have h : ¬ ((i : Int) < (s.length : Int)):=by omega
   have h' : s.drop i = []:=List.drop_eq_nil_of_le (by omega)
   simp only [a8t,h,h',b7c,List.flatMap_nil,Nat.add_zero,EVC,EVA,Nat.reduceEqDiff,eqOp,eqA,a1w,lenA,a1a,a0j,pt,a0n,Nat.reduceSub,Nat.reduceGT,Nat.reduceLT,Nat.reduceAdd,hand,a3e,a0u,a1k,freeze,reduceIte,reduceCtorEq,a0m,a0p,isStr,a1x,rep,a2q,a2w,Nat.reduceMul,Nat.reduceLeDiff]
 | n + 1,i,k,acc,hi,ha=>by
   rw [a3h (he:=rfl)]
   generalize hk : b1k C (semF C) 32 [0,3,4] a8t = rest
   have h : ((i : Int) < (s.length : Int)):=by omega
   have h2 : i < s.length:=by omega
   have hb : s[i]? = some s[i]:=List.getElem?_eq_getElem h2
   have h' : s.drop i = s[i] :: s.drop (i + 1):=List.drop_eq_getElem_cons h2
   have hw : IntKind.i64.wrap ((i : Int) + 1) = ((i + 1 : Nat) : Int):=by rw [w64] <;> omega
   rw [h']
   generalize s[i] = b at hb
   have hlt : b.toNat < 256:=b.toNat_lt
   have h0 : (0 : Int) ≤ i:=by omega
   have e1 : ((b.toNat : Int)).fdiv (2 ^ (min (4 : Int).toNat IntKind.u8.bits)) = ((b.toNat / 16 : Nat) : Int):=by
    show ((b.toNat : Int)).fdiv 16 = _
    rw [Int.fdiv_eq_ediv_of_nonneg _ (by omega)]; omega
   have e2 : IntKind.u8.wrap ((BitVec.ofInt IntKind.u8.bits (b.toNat : Int) &&& BitVec.ofInt IntKind.u8.bits 15).toNat : Int) = ((b.toNat % 16 : Nat) : Int):=by
    have:=j4u .u8 rfl b.toNat 15 hlt (by decide)
    rw [show ((15 : Nat) : Int) = 15 from rfl] at this
    rw [this,show 15 = 2 ^ 4 - 1 from rfl,Nat.and_two_pow_sub_one_eq_mod]
   have e3 : (0 : Int) ≤ ((b.toNat / 16 : Nat) : Int):=by omega
   have e4 : (0 : Int) ≤ ((b.toNat % 16 : Nat) : Int):=by omega
   have e5 : (((b.toNat / 16 : Nat) : Int)).toNat < 16 ∧ (((b.toNat / 16 : Nat) : Int)).toNat * 1 ≤ (ofBytes hexDigits).length:=by rw [a0k]; simp [hexDigits]; omega
   have e6 : (((b.toNat % 16 : Nat) : Int)).toNat < 16 ∧ (((b.toNat % 16 : Nat) : Int)).toNat * 1 ≤ (ofBytes hexDigits).length:=by rw [a0k]; simp [hexDigits]; omega
   have d1 : ((ofBytes hexDigits).drop ((((b.toNat / 16 : Nat) : Int)).toNat * 1)).head? = some (.int .u8 (hexC (b.toNat / 16)).toNat):=by
    rw [Int.toNat_natCast,Nat.mul_one]; exact h8m _ (by omega)
   have d2 : ((ofBytes hexDigits).drop ((((b.toNat % 16 : Nat) : Int)).toNat * 1)).head? = some (.int .u8 (hexC (b.toNat % 16)).toNat):=by
    rw [Int.toNat_natCast,Nat.mul_one]; exact h8m _ (by omega)
   have n4 : ¬ ((4 : Int) < 0):=by decide
   have ti : ((i : Int)).toNat = i:=Int.toNat_natCast i
   have happ : ∀ tg,appA (pile σ k (.cells (ofBytes acc) ⟨false,none⟩)) 1 1 tg (.msl (σ.length + k) 0 acc.length 1) 2 [.int .u8 (hexC (b.toNat / 16)).toNat,.int .u8 (hexC (b.toNat % 16)).toNat] = _:=fun tg=>g5y σ k acc (encB b) 2 rfl (by omega) (by omega)
   simp only [Int.toNat_natCast,Nat.mul_one] at e5 e6 d1 d2
   simp only [a8t,h,h0,hb,ti,hw,n4,e1,e2,e3,e4,e5,e6,d1,d2,hg,happ,Int.toNat_natCast,Option.getD_some,EVC,EVA,Nat.reduceEqDiff,eqOp,eqA,a1w,lenA,a1a,a0j,pt,a0n,Nat.reduceSub,Nat.reduceGT,Nat.reduceLT,Nat.reduceAdd,hand,a3e,a0u,a1k,freeze,reduceIte,reduceCtorEq,a0m,a0p,isStr,a1x,rep,a2q,a2w,Nat.reduceMul,Nat.reduceLeDiff]
   rw [← hk,c3u hg s hs σ n (i + 1) (k + 1) (acc ++ encB b) (by omega) (by rw [List.length_append,ha]; simp [encB]; omega)]
   simp [b7c,Nat.add_assoc,Nat.add_comm 1 n]
theorem hex_Encode (hC : Has C a9r c4v) (hg : C.gl b0b = some (ofBytes hexDigits)) (s : List UInt8) (hs : s.length ≤ 1099511627776) (σ : St) (hσ : Ok σ) :
 semF C a9r [.str s] σ = some (.str (b7c s),σ):=by
 rw [hC.run]
 unfold runK
 have hl:=c3u hg s hs σ s.length 0 0 [] (by omega) rfl
 have hw : IntKind.i64.wrap (2 * (s.length : Int)) = ((2 * s.length : Nat) : Int):=by rw [w64] <;> omega
 have hp : σ ++ [AO.cells [] ⟨false,none⟩] = pile σ 0 (.cells (ofBytes []) ⟨false,none⟩):=rfl
 have hc : (0 : Int) ≤ 0 ∧ (0 : Int) ≤ ((2 * s.length : Nat) : Int) ∧ ((2 * s.length : Nat) : Int) ≤ 9223372036854775807 ∧ (1 : Int) * ((2 * s.length : Nat) : Int) ≤ 140737488355328:=by omega
 simp only [List.drop_zero,List.nil_append,Nat.zero_add,List.length_nil,Nat.add_zero,Int.cast_ofNat_Int] at hl
 have hb:=b8v (b7c s)
 have ht : (ofBytes (b7c s)).take (b7c s).length = ofBytes (b7c s):=List.take_of_length_le (by rw [a0k]; omega)
 have hy : tidy σ.length [.str (b7c s)] (pile σ s.length (.cells (ofBytes (b7c s)) ⟨false,none⟩)) = σ:=i2n hσ rfl _ _
 simp only [c4v,hw,hc,hp,hl,hb,ht,hy,g1u,a0k,Int.toNat_zero,EVC,EVA,Nat.reduceEqDiff,eqOp,eqA,a1w,lenA,a1a,a0j,pt,a0n,Nat.reduceSub,Nat.reduceGT,Nat.reduceLT,Nat.reduceAdd,hand,a3e,a0u,a1k,freeze,reduceIte,reduceCtorEq,a0m,a0p,isStr,a1x,rep,a2q,a2w,Nat.reduceMul,Nat.reduceLeDiff]
end Go.Ev
namespace Go.Ev
def a0r : KF:=⟨2,17,[(.tmp 4)],
(.seq (.ops [o 4 (.mv (.c (.int .u32 0)))])
(.seq (.ops [m 6 1,
o 7 (.i2i .u64 (.t 6)),
o 8 (.bin .and 0 true (.t 7) (.c (.int .u64 31))),
m 5 8])
(.seq (.ops [m 9 0,
m 10 5,
o 11 (.bin .shl 0 false (.t 9) (.t 10)),
m 12 0,
m 13 5,
o 14 (.bin .sub 0 true (.c (.int .u64 32)) (.t 13)),
o 15 (.bin .shr 0 false (.t 12) (.t 14)),
o 16 (.bin .or 0 false (.t 11) (.t 15)),
m 4 16])
(.ret [4]))))⟩
def a5r : KC:=
(.seq (.ops [o 22 (.bin .lss 0 true (.t 21) (.c (.int .i64 16)))])
(.seq (.cond (.t 22)
.skip
(.exit [0,2] 0))
(.seq (.block 1
(.seq (.ops [m 23 21,
m 3 23])
(.plain [m 24 3,
m 25 0,
m 26 3,
o 27 (.bin .mul 0 true (.c (.int .i64 4)) (.t 26)),
o 28 (.nilck (.t 25)),
o 29 (.fieldAddr 9 (.t 28)),
o 30 (.idxAddrArr 64 1 (.t 29) (.t 27)),
o 31 (.load false 1 (.t 30)),
o 32 (.i2i .u32 (.t 31)),
o 33 (.bin .shl 0 true (.t 32) (.c (.int .u64 24))),
m 34 0,
m 35 3,
o 36 (.bin .mul 0 true (.c (.int .i64 4)) (.t 35)),
o 37 (.bin .add 0 true (.t 36) (.c (.int .i64 1))),
o 38 (.nilck (.t 34)),
o 39 (.fieldAddr 9 (.t 38)),
o 40 (.idxAddrArr 64 1 (.t 39) (.t 37)),
o 41 (.load false 1 (.t 40)),
o 42 (.i2i .u32 (.t 41)),
o 43 (.bin .shl 0 true (.t 42) (.c (.int .u64 16))),
o 44 (.bin .or 0 false (.t 33) (.t 43)),
m 45 0,
m 46 3,
o 47 (.bin .mul 0 true (.c (.int .i64 4)) (.t 46)),
o 48 (.bin .add 0 true (.t 47) (.c (.int .i64 2))),
o 49 (.nilck (.t 45)),
o 50 (.fieldAddr 9 (.t 49)),
o 51 (.idxAddrArr 64 1 (.t 50) (.t 48)),
o 52 (.load false 1 (.t 51)),
o 53 (.i2i .u32 (.t 52)),
o 54 (.bin .shl 0 true (.t 53) (.c (.int .u64 8))),
o 55 (.bin .or 0 false (.t 44) (.t 54)),
m 56 0,
m 57 3,
o 58 (.bin .mul 0 true (.c (.int .i64 4)) (.t 57)),
o 59 (.bin .add 0 true (.t 58) (.c (.int .i64 3))),
o 60 (.nilck (.t 56)),
o 61 (.fieldAddr 9 (.t 60)),
o 62 (.idxAddrArr 64 1 (.t 61) (.t 59)),
o 63 (.load false 1 (.t 62)),
o 64 (.i2i .u32 (.t 63)),
o 65 (.bin .or 0 false (.t 55) (.t 64)),
o 66 (.idxAddrArr 64 1 (.t 2) (.t 24)),
u (.store 1 (.t 66) (.t 65))])))
(.ops [o 67 (.bin .add 0 true (.t 21) (.c (.int .i64 1))),
m 21 67]))))
def a6b : KC:=
(.seq (.seq (.ops [m 68 4,
o 69 (.bin .lss 0 true (.t 68) (.c (.int .i64 64)))])
(.cond (.t 69)
.skip
(.exit [0,2] 2)))
(.seq (.block 3
(.seq (.plain [m 72 4,
o 73 (.bin .sub 0 true (.t 72) (.c (.int .i64 15))),
o 74 (.idxAddrArr 64 1 (.t 2) (.t 73)),
o 75 (.load false 1 (.t 74)),
m 76 4,
o 77 (.bin .sub 0 true (.t 76) (.c (.int .i64 2))),
o 78 (.idxAddrArr 64 1 (.t 2) (.t 77)),
o 79 (.load false 1 (.t 78)),
m 5 75,
m 6 79])
(.seq (.ops [m 80 5,
o 81 (.callF a0g [(.t 80),(.c (.int .i64 (-7)))]),
m 82 5,
o 83 (.callF a0g [(.t 82),(.c (.int .i64 (-18)))]),
o 84 (.bin .xor 0 false (.t 81) (.t 83)),
m 85 5,
o 86 (.bin .shr 0 true (.t 85) (.c (.int .u64 3))),
o 87 (.bin .xor 0 false (.t 84) (.t 86)),
m 7 87])
(.seq (.ops [m 88 6,
o 89 (.callF a0g [(.t 88),(.c (.int .i64 (-17)))]),
m 90 6,
o 91 (.callF a0g [(.t 90),(.c (.int .i64 (-19)))]),
o 92 (.bin .xor 0 false (.t 89) (.t 91)),
m 93 6,
o 94 (.bin .shr 0 true (.t 93) (.c (.int .u64 10))),
o 95 (.bin .xor 0 false (.t 92) (.t 94)),
m 8 95])
(.plain [m 96 4,
m 97 4,
o 98 (.bin .sub 0 true (.t 97) (.c (.int .i64 16))),
o 99 (.idxAddrArr 64 1 (.t 2) (.t 98)),
o 100 (.load false 1 (.t 99)),
m 101 7,
o 102 (.bin .add 0 false (.t 100) (.t 101)),
m 103 4,
o 104 (.bin .sub 0 true (.t 103) (.c (.int .i64 7))),
o 105 (.idxAddrArr 64 1 (.t 2) (.t 104)),
o 106 (.load false 1 (.t 105)),
o 107 (.bin .add 0 false (.t 102) (.t 106)),
m 108 8,
o 109 (.bin .add 0 false (.t 107) (.t 108)),
o 110 (.idxAddrArr 64 1 (.t 2) (.t 96)),
u (.store 1 (.t 110) (.t 109))])))))
(.ops [m 70 4,
o 71 (.bin .add 0 true (.t 70) (.c (.int .i64 1))),
m 4 71])))
def a6e : KC:=
(.seq (.ops [o 116 (.bin .lss 0 true (.t 115) (.c (.int .i64 64)))])
(.seq (.cond (.t 116)
.skip
(.exit [0,9] 4))
(.seq (.block 5
(.seq (.ops [m 117 115,
m 10 117])
(.seq (.plain [o 118 (.idxAddrArr 8 1 (.t 9) (.c (.int .i64 0))),
o 119 (.load false 1 (.t 118)),
o 120 (.idxAddrArr 8 1 (.t 9) (.c (.int .i64 1))),
o 121 (.load false 1 (.t 120)),
o 122 (.idxAddrArr 8 1 (.t 9) (.c (.int .i64 2))),
o 123 (.load false 1 (.t 122)),
o 124 (.idxAddrArr 8 1 (.t 9) (.c (.int .i64 4))),
o 125 (.load false 1 (.t 124)),
m 11 119,
m 12 121,
m 13 123,
m 14 125])
(.seq (.ops [m 126 14,
o 127 (.callF a0g [(.t 126),(.c (.int .i64 (-6)))]),
m 128 14,
o 129 (.callF a0g [(.t 128),(.c (.int .i64 (-11)))]),
o 130 (.bin .xor 0 false (.t 127) (.t 129)),
m 131 14,
o 132 (.callF a0g [(.t 131),(.c (.int .i64 (-25)))]),
o 133 (.bin .xor 0 false (.t 130) (.t 132)),
m 15 133])
(.seq (.ops [m 134 14,
o 135 (.idxAddrArr 8 1 (.t 9) (.c (.int .i64 5))),
o 136 (.load false 1 (.t 135)),
o 137 (.bin .and 0 false (.t 134) (.t 136)),
m 138 14,
o 139 (.un .xor (.t 138)),
o 140 (.idxAddrArr 8 1 (.t 9) (.c (.int .i64 6))),
o 141 (.load false 1 (.t 140)),
o 142 (.bin .and 0 false (.t 139) (.t 141)),
o 143 (.bin .xor 0 false (.t 137) (.t 142)),
m 16 143])
(.seq (.plain [o 144 (.idxAddrArr 8 1 (.t 9) (.c (.int .i64 7))),
o 145 (.load false 1 (.t 144)),
m 146 15,
o 147 (.bin .add 0 false (.t 145) (.t 146)),
m 148 16,
o 149 (.bin .add 0 false (.t 147) (.t 148)),
m 150 10,
o 151 (.idxAddrArr 64 1 (.g a4x) (.t 150)),
o 152 (.load false 1 (.t 151)),
o 153 (.bin .add 0 false (.t 149) (.t 152)),
m 154 10,
o 155 (.idxAddrArr 64 1 (.t 2) (.t 154)),
o 156 (.load false 1 (.t 155)),
o 157 (.bin .add 0 false (.t 153) (.t 156)),
m 17 157])
(.seq (.ops [m 158 11,
o 159 (.callF a0g [(.t 158),(.c (.int .i64 (-2)))]),
m 160 11,
o 161 (.callF a0g [(.t 160),(.c (.int .i64 (-13)))]),
o 162 (.bin .xor 0 false (.t 159) (.t 161)),
m 163 11,
o 164 (.callF a0g [(.t 163),(.c (.int .i64 (-22)))]),
o 165 (.bin .xor 0 false (.t 162) (.t 164)),
m 18 165])
(.seq (.ops [m 166 11,
m 167 12,
o 168 (.bin .and 0 false (.t 166) (.t 167)),
m 169 11,
m 170 13,
o 171 (.bin .and 0 false (.t 169) (.t 170)),
o 172 (.bin .xor 0 false (.t 168) (.t 171)),
m 173 12,
m 174 13,
o 175 (.bin .and 0 false (.t 173) (.t 174)),
o 176 (.bin .xor 0 false (.t 172) (.t 175)),
m 19 176])
(.ops [m 177 17,
m 178 18,
o 179 (.bin .add 0 false (.t 177) (.t 178)),
m 180 19,
o 181 (.bin .add 0 false (.t 179) (.t 180)),
m 182 11,
m 183 12,
m 184 13,
o 185 (.idxAddrArr 8 1 (.t 9) (.c (.int .i64 3))),
o 186 (.load false 1 (.t 185)),
m 187 17,
o 188 (.bin .add 0 false (.t 186) (.t 187)),
m 189 14,
o 190 (.idxAddrArr 8 1 (.t 9) (.c (.int .i64 5))),
o 191 (.load false 1 (.t 190)),
o 192 (.idxAddrArr 8 1 (.t 9) (.c (.int .i64 6))),
o 193 (.load false 1 (.t 192)),
o 194 (.build [(.int .u32 0),(.int .u32 0),(.int .u32 0),(.int .u32 0),(.int .u32 0),(.int .u32 0),(.int .u32 0),(.int .u32 0)] [(0,1,(.t 181)),(1,1,(.t 182)),(2,1,(.t 183)),(3,1,(.t 184)),(4,1,(.t 188)),(5,1,(.t 189)),(6,1,(.t 191)),(7,1,(.t 193))]),
u (.store 8 (.t 9) (.t 194))])))))))))
(.ops [o 195 (.bin .add 0 true (.t 115) (.c (.int .i64 1))),
m 115 195]))))
def a5z : KC:=
(.seq (.ops [o 197 (.bin .lss 0 true (.t 196) (.c (.int .i64 8)))])
(.seq (.cond (.t 197)
.skip
(.exit [] 6))
(.seq (.block 7
(.seq (.ops [m 198 196,
m 20 198])
(.plain [m 199 0,
m 200 20,
o 201 (.nilck (.t 199)),
o 202 (.fieldAddr 1 (.t 201)),
o 203 (.idxAddrArr 8 1 (.t 202) (.t 200)),
o 204 (.load false 1 (.t 203)),
m 205 20,
o 206 (.idxAddrArr 8 1 (.t 9) (.t 205)),
o 207 (.load false 1 (.t 206)),
o 208 (.bin .add 0 false (.t 204) (.t 207)),
o 209 (.nilck (.t 199)),
o 210 (.fieldAddr 1 (.t 209)),
o 211 (.idxAddrArr 8 1 (.t 210) (.t 200)),
u (.store 1 (.t 211) (.t 208))])))
(.ops [o 212 (.bin .add 0 true (.t 196) (.c (.int .i64 1))),
m 196 212]))))
def a6g : KF:=⟨1,213,[],
(.seq (.ops [o 2 (.new [(.int .u32 0),(.int .u32 0),(.int .u32 0),(.int .u32 0),(.int .u32 0),(.int .u32 0),(.int .u32 0),(.int .u32 0),(.int .u32 0),(.int .u32 0),(.int .u32 0),(.int .u32 0),(.int .u32 0),(.int .u32 0),(.int .u32 0),(.int .u32 0),(.int .u32 0),(.int .u32 0),(.int .u32 0),(.int .u32 0),(.int .u32 0),(.int .u32 0),(.int .u32 0),(.int .u32 0),(.int .u32 0),(.int .u32 0),(.int .u32 0),(.int .u32 0),(.int .u32 0),(.int .u32 0),(.int .u32 0),(.int .u32 0),(.int .u32 0),(.int .u32 0),(.int .u32 0),(.int .u32 0),(.int .u32 0),(.int .u32 0),(.int .u32 0),(.int .u32 0),(.int .u32 0),(.int .u32 0),(.int .u32 0),(.int .u32 0),(.int .u32 0),(.int .u32 0),(.int .u32 0),(.int .u32 0),(.int .u32 0),(.int .u32 0),(.int .u32 0),(.int .u32 0),(.int .u32 0),(.int .u32 0),(.int .u32 0),(.int .u32 0),(.int .u32 0),(.int .u32 0),(.int .u32 0),(.int .u32 0),(.int .u32 0),(.int .u32 0),(.int .u32 0),(.int .u32 0)] none)])
(.seq (.seq (.ops [o 21 (.mv (.c (.int .i64 0)))])
(.block 0
(.loop [0,2,21] a5r)))
(.seq (.seq (.ops [o 4 (.mv (.c (.int .i64 16)))])
(.block 2
(.loop [0,2,4] a6b)))
(.seq (.ops [m 111 0,
o 112 (.nilck (.t 111)),
o 113 (.fieldAddr 1 (.t 112)),
o 114 (.load true 8 (.t 113)),
o 9 (.new [(.int .u32 0),(.int .u32 0),(.int .u32 0),(.int .u32 0),(.int .u32 0),(.int .u32 0),(.int .u32 0),(.int .u32 0)] none),
u (.store 8 (.t 9) (.t 114))])
(.seq (.seq (.ops [o 115 (.mv (.c (.int .i64 0)))])
(.block 4
(.loop [0,2,9,115] a6e)))
(.seq (.ops [o 196 (.mv (.c (.int .i64 0)))])
(.block 6
(.loop [0,9,196] a5z))))))))⟩
def a2y : KC:=
(.seq (.seq (.ops [m 35 1,
o 36 (.len 0 (.t 35)),
o 37 (.bin .gtr 0 true (.t 36) (.c (.int .i64 0)))])
(.cond (.t 37)
.skip
(.exit [] 0)))
(.block 1
(.seq (.ops [m 38 0,
o 39 (.nilck (.t 38)),
o 40 (.fieldAddr 9 (.t 39)),
m 41 5,
o 42 (.sliceArr 64 1 (.t 40) (some (.t 41)) none none),
m 43 1,
o 44 (.cpy 1 (.t 42) (.t 43)),
m 6 44])
(.seq (.ops [m 45 1,
m 46 6,
o 47 (.sliceStr (.t 45) (some (.t 46)) none),
m 1 47])
(.seq (.ops [m 48 5,
m 49 6,
o 50 (.bin .add 0 false (.t 48) (.t 49)),
m 5 50])
(.seq (.ops [m 51 5,
o 52 (.bin .eql 0 true (.t 51) (.c (.int .i64 64)))])
(.cond (.t 52)
(.seq (.ops [m 53 0,
o 54 (.callF a4e [(.t 53)])])
(.ops [o 5 (.mv (.c (.int .i64 0)))]))
.skip)))))))
def a5u : KF:=⟨2,55,[(.tmp 4)],
(.seq (.ops [o 4 (.mv (.c (.int .i64 0)))])
(.seq (.seq (.ops [m 7 0,
o 8 (.bin .eql 3 true (.t 7) (.c .nilp))])
(.cond (.t 8)
(.seq (.ops [o 4 (.mv (.c (.int .i64 2)))])
(.ret [4]))
.skip))
(.seq (.seq (.ops [m 9 0,
o 10 (.nilck (.t 9)),
o 11 (.fieldAddr 0 (.t 10)),
o 12 (.load false 1 (.t 11)),
o 13 (.un .not (.t 12))])
(.cond (.t 13)
(.ops [m 14 0,
m 15 0,
o 16 (.load true 8 (.g a5n)),
o 17 (.nilck (.t 14)),
o 18 (.fieldAddr 0 (.t 17)),
u (.store 1 (.t 18) (.c (.bool true))),
o 19 (.nilck (.t 15)),
o 20 (.fieldAddr 1 (.t 19)),
u (.store 8 (.t 20) (.t 16))])
.skip))
(.seq (.ops [m 21 0,
o 22 (.nilck (.t 21)),
o 23 (.fieldAddr 73 (.t 22)),
o 24 (.load false 1 (.t 23)),
o 25 (.bin .rem 0 true (.t 24) (.c (.int .i64 64))),
m 5 25])
(.seq (.ops [m 26 0,
o 27 (.nilck (.t 26)),
o 28 (.fieldAddr 73 (.t 27)),
o 29 (.load false 1 (.t 28)),
m 30 1,
o 31 (.len 0 (.t 30)),
o 32 (.bin .add 0 false (.t 29) (.t 31)),
o 33 (.nilck (.t 26)),
o 34 (.fieldAddr 73 (.t 33)),
u (.store 1 (.t 34) (.t 32))])
(.seq (.block 0
(.loop [0,1,5] a2y))
(.seq (.ops [o 4 (.mv (.c (.int .i64 0)))])
(.ret [4]))))))))⟩
def a5y : KC:=
(.seq (.ops [o 32 (.bin .lss 0 true (.t 31) (.c (.int .i64 8)))])
(.seq (.cond (.t 32)
.skip
(.exit [3,5] 0))
(.seq (.block 1
(.seq (.ops [m 33 31,
m 6 33])
(.ops [m 34 6,
m 35 4,
m 36 6,
o 37 (.bin .mul 0 true (.c (.int .i64 8)) (.t 36)),
o 38 (.bin .sub 0 true (.c (.int .i64 56)) (.t 37)),
o 39 (.bin .shr 0 false (.t 35) (.t 38)),
o 40 (.i2i .u8 (.t 39)),
o 41 (.idxAddrArr 8 1 (.t 5) (.t 34)),
u (.store 1 (.t 41) (.t 40))])))
(.ops [o 42 (.bin .add 0 true (.t 31) (.c (.int .i64 1))),
m 31 42]))))
def a5t : KC:=
(.seq (.ops [o 50 (.bin .lss 0 true (.t 49) (.c (.int .i64 8)))])
(.seq (.cond (.t 50)
.skip
(.exit [7] 2))
(.seq (.block 3
(.seq (.ops [o 51 (.idxArr 8 false 1 (.t 48) (.t 49)),
m 9 51])
(.ops [m 52 7,
m 53 9,
o 54 (.bin .shr 0 true (.t 53) (.c (.int .u64 24))),
o 55 (.i2i .u8 (.t 54)),
m 56 9,
o 57 (.bin .shr 0 true (.t 56) (.c (.int .u64 16))),
o 58 (.i2i .u8 (.t 57)),
m 59 9,
o 60 (.bin .shr 0 true (.t 59) (.c (.int .u64 8))),
o 61 (.i2i .u8 (.t 60)),
m 62 9,
o 63 (.i2i .u8 (.t 62)),
o 64 (.buildSl [(.int .u8 0)] 4 1 [(0,1,(.t 55)),(1,1,(.t 58)),(2,1,(.t 61)),(3,1,(.t 63))]),
o 65 (.app false 1 1 (some (5,false)) (.t 52) (.t 64)),
m 7 65])))
(.ops [o 66 (.bin .add 0 true (.t 49) (.c (.int .i64 1))),
m 49 66]))))
def b7x : KF:=⟨1,69,[(.tmp 2)],
(.seq (.ops [o 2 (.mv (.c (.str [])))])
(.seq (.seq (.ops [m 10 0,
o 11 (.bin .eql 3 true (.t 10) (.c .nilp))])
(.cond (.t 11)
(.seq (.ops [o 2 (.mv (.c (.str [])))])
(.ret [2]))
.skip))
(.seq (.ops [m 12 0,
o 13 (.nilck (.t 12)),
o 14 (.load true 74 (.t 13)),
o 3 (.new [(.bool false),(.int .u32 0),(.int .u32 0),(.int .u32 0),(.int .u32 0),(.int .u32 0),(.int .u32 0),(.int .u32 0),(.int .u32 0),(.int .u8 0),(.int .u8 0),(.int .u8 0),(.int .u8 0),(.int .u8 0),(.int .u8 0),(.int .u8 0),(.int .u8 0),(.int .u8 0),(.int .u8 0),(.int .u8 0),(.int .u8 0),(.int .u8 0),(.int .u8 0),(.int .u8 0),(.int .u8 0),(.int .u8 0),(.int .u8 0),(.int .u8 0),(.int .u8 0),(.int .u8 0),(.int .u8 0),(.int .u8 0),(.int .u8 0),(.int .u8 0),(.int .u8 0),(.int .u8 0),(.int .u8 0),(.int .u8 0),(.int .u8 0),(.int .u8 0),(.int .u8 0),(.int .u8 0),(.int .u8 0),(.int .u8 0),(.int .u8 0),(.int .u8 0),(.int .u8 0),(.int .u8 0),(.int .u8 0),(.int .u8 0),(.int .u8 0),(.int .u8 0),(.int .u8 0),(.int .u8 0),(.int .u8 0),(.int .u8 0),(.int .u8 0),(.int .u8 0),(.int .u8 0),(.int .u8 0),(.int .u8 0),(.int .u8 0),(.int .u8 0),(.int .u8 0),(.int .u8 0),(.int .u8 0),(.int .u8 0),(.int .u8 0),(.int .u8 0),(.int .u8 0),(.int .u8 0),(.int .u8 0),(.int .u8 0),(.int .i64 0)] none),
u (.store 74 (.t 3) (.t 14))])
(.seq (.ops [m 15 0,
o 16 (.nilck (.t 15)),
o 17 (.fieldAddr 73 (.t 16)),
o 18 (.load false 1 (.t 17)),
o 19 (.i2i .u64 (.t 18)),
o 20 (.bin .mul 0 true (.t 19) (.c (.int .u64 8))),
m 4 20])
(.seq (.ops [m 21 0,
o 22 (.nilck (.t 21)),
o 23 (.fieldAddr 73 (.t 22)),
o 24 (.load false 1 (.t 23)),
o 25 (.bin .rem 0 true (.t 24) (.c (.int .i64 64))),
o 26 (.bin .sub 0 true (.c (.int .i64 119)) (.t 25)),
o 27 (.bin .rem 0 true (.t 26) (.c (.int .i64 64))),
o 28 (.callF a3c [(.c (.str [0])),(.t 27)]),
o 29 (.bin .add 0 true (.c (.str [128])) (.t 28)),
o 30 (.callF a3d [(.t 3),(.t 29)])])
(.seq (.ops [o 5 (.new [(.int .u8 0),(.int .u8 0),(.int .u8 0),(.int .u8 0),(.int .u8 0),(.int .u8 0),(.int .u8 0),(.int .u8 0)] none)])
(.seq (.seq (.ops [o 31 (.mv (.c (.int .i64 0)))])
(.block 0
(.loop [3,4,5,31] a5y)))
(.seq (.ops [o 43 (.sliceArr 8 1 (.t 5) none none none),
o 44 (.b2s (.t 43)),
o 45 (.callF a3d [(.t 3),(.t 44)])])
(.seq (.ops [o 46 (.mkSlice [(.int .u8 0)] 1 1 (.c (.int .i64 0)) (.c (.int .i64 32))),
m 7 46])
(.seq (.seq (.ops [o 47 (.fieldAddr 1 (.t 3)),
o 48 (.load true 8 (.t 47)),
o 49 (.mv (.c (.int .i64 0)))])
(.block 2
(.loop [7,48,49] a5t)))
(.seq (.ops [m 67 7,
o 68 (.b2s (.t 67)),
m 2 68])
(.ret [2]))))))))))))⟩
def e2i : KF:=⟨0,4,[(.tmp 0)],
(.seq (.ops [o 0 (.mv (.c .nilp))])
(.seq (.ops [o 1 (.load true 8 (.g a5n)),
o 2 (.build [(.bool false),(.int .u32 0),(.int .u32 0),(.int .u32 0),(.int .u32 0),(.int .u32 0),(.int .u32 0),(.int .u32 0),(.int .u32 0),(.int .u8 0),(.int .u8 0),(.int .u8 0),(.int .u8 0),(.int .u8 0),(.int .u8 0),(.int .u8 0),(.int .u8 0),(.int .u8 0),(.int .u8 0),(.int .u8 0),(.int .u8 0),(.int .u8 0),(.int .u8 0),(.int .u8 0),(.int .u8 0),(.int .u8 0),(.int .u8 0),(.int .u8 0),(.int .u8 0),(.int .u8 0),(.int .u8 0),(.int .u8 0),(.int .u8 0),(.int .u8 0),(.int .u8 0),(.int .u8 0),(.int .u8 0),(.int .u8 0),(.int .u8 0),(.int .u8 0),(.int .u8 0),(.int .u8 0),(.int .u8 0),(.int .u8 0),(.int .u8 0),(.int .u8 0),(.int .u8 0),(.int .u8 0),(.int .u8 0),(.int .u8 0),(.int .u8 0),(.int .u8 0),(.int .u8 0),(.int .u8 0),(.int .u8 0),(.int .u8 0),(.int .u8 0),(.int .u8 0),(.int .u8 0),(.int .u8 0),(.int .u8 0),(.int .u8 0),(.int .u8 0),(.int .u8 0),(.int .u8 0),(.int .u8 0),(.int .u8 0),(.int .u8 0),(.int .u8 0),(.int .u8 0),(.int .u8 0),(.int .u8 0),(.int .u8 0),(.int .i64 0)] [(0,1,(.c (.bool true))),(1,8,(.t 1))]),
o 3 (.box (.t 2)),
m 0 3])
(.ret [0])))⟩
def g5r : KF:=⟨1,10,[(.tmp 2)],
(.seq (.ops [o 2 (.mv (.c (.str [])))])
(.seq (.ops [o 4 (.callF d3h []),
m 3 4])
(.seq (.ops [m 5 3,
m 6 0,
o 7 (.callF a3d [(.t 5),(.t 6)])])
(.seq (.ops [m 8 3,
o 9 (.callF b2d [(.t 8)]),
m 2 9])
(.ret [2])))))⟩
def c5e : KF:=⟨1,6,[(.tmp 2)],
(.seq (.ops [o 2 (.mv (.c (.str [])))])
(.seq (.ops [m 3 0,
o 4 (.callF a2d [(.t 3)]),
o 5 (.callF a9r [(.t 4)]),
m 2 5])
(.ret [2])))⟩
end Go.Ev
namespace Go.Ev
set_option maxRecDepth 100000
set_option linter.unusedSimpArgs false
variable {C : Ctx}
abbrev Wd:=BitVec 32
def iw (x : Wd) : AV:=.int .u32 (x.toNat : Int)
theorem b6e (np : Bool) (op : BinOp) (ek : Nat) (c : Bool) (x : Wd) (y : AV) : binC np op ek c (iw x) y = binOp op ek c (iw x) y:=by cases np <;> rfl
theorem h0f (x : Wd) : BitVec.ofInt 32 (x.toNat : Int) = x:=by
 apply BitVec.eq_of_toNat_eq
 rw [bvOf 32 x.toNat x.isLt]
theorem g2e (x : Wd) : IntKind.u32.wrap (x.toNat : Int) = (x.toNat : Int):=j0h .u32 rfl _ x.isLt
theorem i7b (b : Bool) (x y : Wd) : binOp .xor 0 b (iw x) (iw y) = some (iw (x ^^^ y)):=by
 show some (AV.int .u32 (IntKind.u32.wrap ((BitVec.ofInt 32 (x.toNat : Int) ^^^ BitVec.ofInt 32 (y.toNat : Int)).toNat : Int))) = _
 rw [h0f,h0f,g2e]; rfl
theorem j3z (b : Bool) (x y : Wd) : binOp .and 0 b (iw x) (iw y) = some (iw (x &&& y)):=by
 show some (AV.int .u32 (IntKind.u32.wrap ((BitVec.ofInt 32 (x.toNat : Int) &&& BitVec.ofInt 32 (y.toNat : Int)).toNat : Int))) = _
 rw [h0f,h0f,g2e]; rfl
theorem j2m (b : Bool) (x y : Wd) : binOp .or 0 b (iw x) (iw y) = some (iw (x ||| y)):=by
 show some (AV.int .u32 (IntKind.u32.wrap ((BitVec.ofInt 32 (x.toNat : Int) ||| BitVec.ofInt 32 (y.toNat : Int)).toNat : Int))) = _
 rw [h0f,h0f,g2e]; rfl
theorem i2y (b : Bool) (x y : Wd) : binOp .add 0 b (iw x) (iw y) = some (iw (x + y)):=by
 show some (AV.int .u32 (IntKind.u32.wrap ((x.toNat : Int) + (y.toNat : Int)))) = _
 have : IntKind.u32.wrap ((x.toNat : Int) + (y.toNat : Int)) = ((x + y).toNat : Int):=by
  rw [IntKind.wrap_u32,BitVec.toNat_add]
  omega
 rw [this]; rfl
theorem j2r (x : Wd) : unOp .xor (iw x) = some (iw (~~~ x)):=by
 show some (AV.int .u32 (IntKind.u32.wrap ((BitVec.ofInt 32 4294967295 ^^^ BitVec.ofInt 32 (x.toNat : Int)).toNat : Int))) = _
 rw [h0f,g2e]
 have : BitVec.ofInt 32 4294967295 ^^^ x = ~~~ x:=by
  rw [show BitVec.ofInt 32 4294967295 = BitVec.allOnes 32 from rfl,BitVec.allOnes_xor]
 rw [this]; rfl
theorem i8a (b : Bool) (x : Wd) (k : IntKind) (n : Nat) : binOp .shl 0 b (iw x) (.int k (n : Int)) = some (iw (x <<< (min n 32))):=by
 show a8b .shl .u32 (x.toNat : Int) (n : Int) = _
 unfold a8b
 rw [if_neg (by omega)]
 show some (AV.int .u32 (IntKind.u32.wrap ((x.toNat : Int) * 2 ^ (min n 32)))) = _
 have : IntKind.u32.wrap ((x.toNat : Int) * 2 ^ (min n 32)) = ((x <<< (min n 32)).toNat : Int):=by
  rw [IntKind.wrap_u32,BitVec.toNat_shiftLeft,Nat.shiftLeft_eq,Int.natCast_emod,Int.natCast_mul,Int.natCast_pow]
  rfl
 rw [this]; rfl
theorem i8b (b : Bool) (x : Wd) (k : IntKind) (n : Nat) : binOp .shr 0 b (iw x) (.int k (n : Int)) = some (iw (x >>> (min n 32))):=by
 show a8b .shr .u32 (x.toNat : Int) (n : Int) = _
 unfold a8b
 rw [if_neg (by omega)]
 show some (AV.int .u32 ((x.toNat : Int).fdiv (2 ^ (min n 32)))) = _
 have : (x.toNat : Int).fdiv (2 ^ (min n 32)) = ((x >>> (min n 32)).toNat : Int):=by
  rw [BitVec.toNat_ushiftRight,Nat.shiftRight_eq_div_pow,Int.fdiv_eq_ediv_of_nonneg _ (Int.pow_nonneg (by decide)),Int.natCast_ediv,Int.natCast_pow]
  rfl
 rw [this]; rfl
def rotl (x : Wd) (n : Nat) : Wd:=(x <<< n) ||| (x >>> (32 - n))
theorem g5e (hC : Has C a0g a0r) (x : Wd) (k : Int) (n : Nat) (hn : n < 32)
  (hk : IntKind.u64.wrap ((BitVec.ofInt IntKind.u64.bits (IntKind.u64.wrap k) &&& BitVec.ofInt IntKind.u64.bits 31).toNat : Int) = (n : Int)) (σ : St) :
  semF C a0g [iw x,.int .i64 k] σ = some (iw (rotl x n),σ):=by
 rw [hC.run]
 unfold runK
 have h1 : IntKind.u64.wrap (32 - (n : Int)) = ((32 - n : Nat) : Int):=by rw [wu64] <;> omega
 have h2 : min n 32 = n:=by omega
 have h3 : min (32 - n) 32 = 32 - n:=by omega
 have hn' : ∀ σ r,a1k σ r (iw x) = some (iw x,[]):=fun _ _=>by unfold iw a1k; rfl
 have hn2 : ∀ σ r,a1k σ r (iw (x <<< n ||| x >>> (32 - n))) = some (iw (x <<< n ||| x >>> (32 - n)),[]):=fun _ _=>by unfold iw a1k; rfl
 simp only [a0r,hk,h1,i8a,i8b,j2m,h2,h3,hn',hn2,rotl,b6e,EVC,EVA,Nat.reduceEqDiff,eqOp,eqA,a1w,lenA,a1a,a0j,pt,a0n,Nat.reduceSub,Nat.reduceGT,Nat.reduceLT,Nat.reduceAdd,hand,a3e,a0u,a1k,freeze,reduceIte,reduceCtorEq,a0m,a0p,isStr,a1x,rep,a2q,a2w,Nat.reduceMul,Nat.reduceLeDiff]
end Go.Ev
namespace Go.Ev
set_option maxRecDepth 100000
set_option linter.unusedSimpArgs false
variable {C : Ctx}
theorem e0k (x : Wd) : (iw x).cells = [iw x]:=rfl
theorem g3f (x : Wd) : (iw x).flat = true:=rfl
theorem j1o (b : Bool) (x : Wd) (k : IntKind) (z : Int) (h0 : 0 ≤ z) (h1 : z ≤ 32) : binOp .shl 0 b (iw x) (.int k z) = some (iw (x <<< z.toNat)):=by
 have:=i8a b x k z.toNat
 rw [Int.toNat_of_nonneg h0,Nat.min_eq_left (by omega)] at this
 exact this
theorem i0y (b : Bool) (x : Wd) (k : IntKind) (z : Int) (h0 : 0 ≤ z) (h1 : z ≤ 32) : binOp .shr 0 b (iw x) (.int k z) = some (iw (x >>> z.toNat)):=by
 have:=i8b b x k z.toNat
 rw [Int.toNat_of_nonneg h0,Nat.min_eq_left (by omega)] at this
 exact this
def wb (b : UInt8) : Wd:=BitVec.ofNat 32 b.toNat
theorem j5g (b : UInt8) : AV.int .u32 (IntKind.u32.wrap (b.toNat : Int)) = iw (wb b):=by
 have hlt : b.toNat < 256:=b.toNat_lt
 unfold iw wb
 rw [wu32 (by omega) (by omega),BitVec.toNat_ofNat,Nat.mod_eq_of_lt (by omega)]
theorem b3p (l : List Wd) (i : Nat) (h : i < l.length) : ((l.map iw).drop i).head? = some (iw (l.getD i 0)):=by
 rw [List.head?_drop,List.getElem?_map,List.getElem?_eq_getElem h,List.getD_eq_getElem?_getD,List.getElem?_eq_getElem h]
 rfl
theorem c5u {α : Type} (f : α → AV) (l : List α) (i : Nat) (v : α) (h : i < l.length) : splice (l.map f) i [f v] = (l.set i v).map f:=by
 unfold splice
 rw [List.set_eq_take_append_cons_drop,if_pos h]
 simp
def a1u (b : Bool) (st : List Wd) (part : List UInt8) (sz : Int) : List AV:=.bool b :: (st.map iw ++ (ofBytes part ++ [.int .i64 sz]))
theorem a4c {b st part sz} (h8 : st.length = 8) (h64 : part.length = 64) : (a1u b st part sz).length = 74:=by
 simp [a1u,a0k,h8,h64]
theorem h5q {b st part sz} (h8 : st.length = 8) (h64 : part.length = 64) (i : Nat) (hi : i < 64) : ((a1u b st part sz).drop (9 + i)).head? = some (.int .u8 ((part.getD i 0).toNat : Int)):=by
 unfold a1u ofBytes
 rw [List.head?_drop,show 9 + i = (8 + i) + 1 by omega,List.getElem?_cons_succ,List.getElem?_append_right (by simp [h8]),List.getElem?_append_left (by simp [h8,h64]; omega)]
 simp only [List.length_map,h8,List.getElem?_map,show 8 + i - 8 = i by omega]
 rw [List.getElem?_eq_getElem (by omega),List.getD_eq_getElem?_getD,List.getElem?_eq_getElem (by omega)]
 rfl
theorem g9a {b st part sz} (h8 : st.length = 8) (i : Nat) (hi : i < 8) : ((a1u b st part sz).drop (1 + i)).head? = some (iw (st.getD i 0)):=by
 unfold a1u
 rw [List.head?_drop,Nat.add_comm 1 i,List.getElem?_cons_succ,List.getElem?_append_left (by simp [h8]; omega),List.getElem?_map,List.getElem?_eq_getElem (by omega),List.getD_eq_getElem?_getD,List.getElem?_eq_getElem (by omega)]
 rfl
theorem i2a {b st part sz} (h8 : st.length = 8) (i : Nat) (hi : i < 8) (v : Wd) : splice (a1u b st part sz) (1 + i) [iw v] = a1u b (st.set i v) part sz:=by
 unfold a1u splice
 rw [Nat.add_comm 1 i,List.take_succ_cons,show i + 1 + [iw v].length = (i + 1) + 1 from rfl,List.drop_succ_cons,List.take_append_of_le_length (by simp [h8]; omega),List.drop_append_of_le_length (by simp [h8]; omega)]
 have:=c5u iw st i v (by omega)
 unfold splice at this
 rw [← this]
 simp
theorem a3w (σ : St) (x : AO) : (σ ++ [x])[σ.length]? = some x:=by simp
theorem a6y (σ : St) (x y : AO) : (σ ++ [x]).set σ.length y = σ ++ [y]:=by simp
theorem b8e {σ : St} {o : Nat} {x : AO} (h : σ[o]? = some x) (l : St) : (σ ++ l)[o]? = some x:=by
 have : o < σ.length:=(List.getElem?_eq_some_iff.mp h).1
 rw [List.getElem?_append_left this,h]
def wordAt (part : List UInt8) (i : Nat) : Wd:=wb (part.getD (4 * i) 0) <<< 24 ||| wb (part.getD (4 * i + 1) 0) <<< 16 ||| wb (part.getD (4 * i + 2) 0) <<< 8 ||| wb (part.getD (4 * i + 3) 0)
def h1h (part : List UInt8) : Nat → Nat → List Wd → List Wd
 | 0,_,w=>w
 | n + 1,i,w=>h1h part n (i + 1) (w.set i (wordAt part i))
theorem g3t (b : Bool) (st : List Wd) (part : List UInt8) (sz : Int) (σ : St) (p : Nat) (hp : σ[p]? = some (.cells (a1u b st part sz) ⟨false,none⟩)) (h8 : st.length = 8) (h64 : part.length = 64) :
  ∀ (n i : Nat) (w : List Wd),i + n = 16 → w.length = 64 →
  b1k C (semF C) 213 [0,2,21] a5r [(0,.ref p 0),(2,.ref σ.length 0),(21,.int .i64 i)] (σ ++ [.cells (w.map iw) ⟨false,none⟩]) =
   some (.exit 0,[(0,.ref p 0),(2,.ref σ.length 0)],σ ++ [.cells ((h1h part n i w).map iw) ⟨false,none⟩])
 | 0,i,w,hi,hw=>by
   rw [a3h (he:=rfl)]
   have h : ¬ ((i : Int) < 16):=by omega
   simp only [a5r,h,h1h,b6e,EVC,EVA,Nat.reduceEqDiff,eqOp,eqA,a1w,lenA,a1a,a0j,pt,a0n,Nat.reduceSub,Nat.reduceGT,Nat.reduceLT,Nat.reduceAdd,hand,a3e,a0u,a1k,freeze,reduceIte,reduceCtorEq,a0m,a0p,isStr,a1x,rep,a2q,a2w,Nat.reduceMul,Nat.reduceLeDiff]
 | n + 1,i,w,hi,hw=>by
   rw [a3h (he:=rfl)]
   generalize hk : b1k C (semF C) 213 [0,2,21] a5r = rest
   have h : ((i : Int) < 16):=by omega
   have w1 : IntKind.i64.wrap (4 * (i : Int)) = ((4 * i : Nat) : Int):=by rw [w64] <;> omega
   have w2 : IntKind.i64.wrap (((4 * i : Nat) : Int) + 1) = ((4 * i + 1 : Nat) : Int):=by rw [w64] <;> omega
   have w3 : IntKind.i64.wrap (((4 * i : Nat) : Int) + 2) = ((4 * i + 2 : Nat) : Int):=by rw [w64] <;> omega
   have w4 : IntKind.i64.wrap (((4 * i : Nat) : Int) + 3) = ((4 * i + 3 : Nat) : Int):=by rw [w64] <;> omega
   have w5 : IntKind.i64.wrap ((i : Int) + 1) = ((i + 1 : Nat) : Int):=by rw [w64] <;> omega
   have p1 : ∀ j : Nat,(0 : Int) ≤ (j : Int):=fun j=>by omega
   have l1 : 4 * i < 64:=by omega
   have l2 : 4 * i + 1 < 64:=by omega
   have l3 : 4 * i + 2 < 64:=by omega
   have l4 : 4 * i + 3 < 64:=by omega
   have l5 : i < 64:=by omega
   have l6 : i + 1 ≤ 64:=by omega
   have g:=b8e hp [.cells (w.map iw) ⟨false,none⟩]
   have s1:=c5u iw w i (wordAt part i) (by omega)
   unfold wordAt at s1
   simp only [a5r,h,w1,w2,w3,w4,w5,p1,l1,l2,l3,l4,l5,l6,g,hw,List.length_map,h5q h8 h64,j5g,j1o,j2m,e0k,g3f,a3w,a6y,s1,Int.toNat_natCast,Int.reduceLE,Int.reduceToNat,b6e,EVC,EVA,Nat.reduceEqDiff,eqOp,eqA,a1w,lenA,a1a,a0j,pt,a0n,Nat.reduceSub,Nat.reduceGT,Nat.reduceLT,Nat.reduceAdd,hand,a3e,a0u,a1k,freeze,reduceIte,reduceCtorEq,a0m,a0p,isStr,a1x,rep,a2q,a2w,Nat.reduceMul,Nat.reduceLeDiff]
   rw [← hk,g3t b st part sz σ p hp h8 h64 n (i + 1) _ (by omega) (by rw [List.length_set,hw])]
   rfl
end Go.Ev
namespace Go.Ev
set_option maxRecDepth 100000
set_option linter.unusedSimpArgs false
variable {C : Ctx}
def rk (k : Int) : Nat:=(IntKind.u64.wrap ((BitVec.ofInt IntKind.u64.bits (IntKind.u64.wrap k) &&& BitVec.ofInt IntKind.u64.bits 31).toNat : Int)).toNat
theorem rot (hC : Has C a0g a0r) (k : Int) (n : Nat) (hn : n < 32)
  (hk : IntKind.u64.wrap ((BitVec.ofInt IntKind.u64.bits (IntKind.u64.wrap k) &&& BitVec.ofInt IntKind.u64.bits 31).toNat : Int) = (n : Int)) :
  ∀ (x : Wd) (σ : St),semF C a0g [iw x,.int .i64 k] σ = some (iw (rotl x n),σ):=fun x σ=>g5e hC x k n hn hk σ
def low1 (x : Wd) : Wd:=rotl x 25 ^^^ rotl x 14 ^^^ x >>> 3
def j4m (x : Wd) : Wd:=rotl x 15 ^^^ rotl x 13 ^^^ x >>> 10
def i9i (w : List Wd) (i : Nat) : Wd:=w.getD (i - 16) 0 + low1 (w.getD (i - 15) 0) + w.getD (i - 7) 0 + j4m (w.getD (i - 2) 0)
def g9j : Nat → Nat → List Wd → List Wd
 | 0,_,w=>w
 | n + 1,i,w=>g9j n (i + 1) (w.set i (i9i w i))
theorem g4o (hR : Has C a0g a0r) (σ : St) (p : Nat) :
  ∀ (n i : Nat) (w : List Wd),16 ≤ i → i + n = 64 → w.length = 64 →
  b1k C (semF C) 213 [0,2,4] a6b [(0,.ref p 0),(2,.ref σ.length 0),(4,.int .i64 i)] (σ ++ [.cells (w.map iw) ⟨false,none⟩]) =
   some (.exit 2,[(0,.ref p 0),(2,.ref σ.length 0)],σ ++ [.cells ((g9j n i w).map iw) ⟨false,none⟩])
 | 0,i,w,h16,hi,hw=>by
   rw [a3h (he:=rfl)]
   have h : ¬ ((i : Int) < 64):=by omega
   simp only [a6b,h,g9j,b6e,EVC,EVA,Nat.reduceEqDiff,eqOp,eqA,a1w,lenA,a1a,a0j,pt,a0n,Nat.reduceSub,Nat.reduceGT,Nat.reduceLT,Nat.reduceAdd,hand,a3e,a0u,a1k,freeze,reduceIte,reduceCtorEq,a0m,a0p,isStr,a1x,rep,a2q,a2w,Nat.reduceMul,Nat.reduceLeDiff]
 | n + 1,i,w,h16,hi,hw=>by
   rw [a3h (he:=rfl)]
   generalize hk : b1k C (semF C) 213 [0,2,4] a6b = rest
   have h : ((i : Int) < 64):=by omega
   have w1 : IntKind.i64.wrap ((i : Int) - 15) = ((i - 15 : Nat) : Int):=by rw [w64] <;> omega
   have w2 : IntKind.i64.wrap ((i : Int) - 2) = ((i - 2 : Nat) : Int):=by rw [w64] <;> omega
   have w3 : IntKind.i64.wrap ((i : Int) - 16) = ((i - 16 : Nat) : Int):=by rw [w64] <;> omega
   have w4 : IntKind.i64.wrap ((i : Int) - 7) = ((i - 7 : Nat) : Int):=by rw [w64] <;> omega
   have w5 : IntKind.i64.wrap ((i : Int) + 1) = ((i + 1 : Nat) : Int):=by rw [w64] <;> omega
   have p1 : ∀ j : Nat,(0 : Int) ≤ (j : Int):=fun j=>by omega
   have l1 : i - 15 < 64:=by omega
   have l2 : i - 2 < 64:=by omega
   have l3 : i - 16 < 64:=by omega
   have l4 : i - 7 < 64:=by omega
   have l5 : i < 64:=by omega
   have l6 : i + 1 ≤ 64:=by omega
   have a1:=b3p w (i - 15) (by omega)
   have a2:=b3p w (i - 2) (by omega)
   have a3:=b3p w (i - 16) (by omega)
   have a4:=b3p w (i - 7) (by omega)
   have r1:=rot hR (-7) 25 (by decide) (by decide)
   have r2:=rot hR (-18) 14 (by decide) (by decide)
   have r3:=rot hR (-17) 15 (by decide) (by decide)
   have r4:=rot hR (-19) 13 (by decide) (by decide)
   have s1:=c5u iw w i (i9i w i) (by omega)
   unfold i9i low1 j4m at s1
   simp only [a6b,h,w1,w2,w3,w4,w5,p1,l1,l2,l3,l4,l5,l6,hw,a1,a2,a3,a4,r1,r2,r3,r4,List.length_map,i0y,i7b,i2y,e0k,g3f,a3w,a6y,s1,Int.toNat_natCast,Int.reduceLE,Int.reduceToNat,b6e,EVC,EVA,Nat.reduceEqDiff,eqOp,eqA,a1w,lenA,a1a,a0j,pt,a0n,Nat.reduceSub,Nat.reduceGT,Nat.reduceLT,Nat.reduceAdd,hand,a3e,a0u,a1k,freeze,reduceIte,reduceCtorEq,a0m,a0p,isStr,a1x,rep,a2q,a2w,Nat.reduceMul,Nat.reduceLeDiff]
   rw [← hk,g4o hR σ p n (i + 1) _ (by omega) (by omega) (by rw [List.length_set,hw])]
   rfl
end Go.Ev
namespace Go.Ev
set_option maxRecDepth 100000
set_option linter.unusedSimpArgs false
variable {C : Ctx}
def kR : List Wd:=[0x428a2f98,0x71374491,0xb5c0fbcf,0xe9b5dba5,0x3956c25b,0x59f111f1,0x923f82a4,0xab1c5ed5,
 0xd807aa98,0x12835b01,0x243185be,0x550c7dc3,0x72be5d74,0x80deb1fe,0x9bdc06a7,0xc19bf174,
 0xe49b69c1,0xefbe4786,0x0fc19dc6,0x240ca1cc,0x2de92c6f,0x4a7484aa,0x5cb0a9dc,0x76f988da,
 0x983e5152,0xa831c66d,0xb00327c8,0xbf597fc7,0xc6e00bf3,0xd5a79147,0x06ca6351,0x14292967,
 0x27b70a85,0x2e1b2138,0x4d2c6dfc,0x53380d13,0x650a7354,0x766a0abb,0x81c2c92e,0x92722c85,
 0xa2bfe8a1,0xa81a664b,0xc24b8b70,0xc76c51a3,0xd192e819,0xd6990624,0xf40e3585,0x106aa070,
 0x19a4c116,0x1e376c08,0x2748774c,0x34b0bcb5,0x391c0cb3,0x4ed8aa4a,0x5b9cca4f,0x682e6ff3,
 0x748f82ee,0x78a5636f,0x84c87814,0x8cc70208,0x90befffa,0xa4506ceb,0xbef9a3f7,0xc67178f2]
def hI : List Wd:=[0x6a09e667,0xbb67ae85,0x3c6ef372,0xa54ff53a,0x510e527f,0x9b05688c,0x1f83d9ab,0x5be0cd19]
def h7t (w : List Wd) (i : Nat) (e f g h : Wd) : Wd:=h + (rotl e 26 ^^^ rotl e 21 ^^^ rotl e 7) + (e &&& f ^^^ ~~~e &&& g) + kR.getD i 0 + w.getD i 0
def j4y (a b c : Wd) : Wd:=(a &&& b ^^^ a &&& c ^^^ b &&& c)
def g0a (w : List Wd) (i : Nat) (s : List Wd) : List Wd:=
 [h7t w i (s.getD 4 0) (s.getD 5 0) (s.getD 6 0) (s.getD 7 0) + (rotl (s.getD 0 0) 30 ^^^ rotl (s.getD 0 0) 19 ^^^ rotl (s.getD 0 0) 10) + j4y (s.getD 0 0) (s.getD 1 0) (s.getD 2 0),
  s.getD 0 0,s.getD 1 0,s.getD 2 0,s.getD 3 0 + h7t w i (s.getD 4 0) (s.getD 5 0) (s.getD 6 0) (s.getD 7 0),s.getD 4 0,s.getD 5 0,s.getD 6 0]
def c9a (w : List Wd) : Nat → Nat → List Wd → List Wd
 | 0,_,s=>s
 | n + 1,i,s=>c9a w n (i + 1) (g0a w i s)
theorem b8k (l v : List AV) (h : l.length = v.length) : splice l 0 v = v:=by
 unfold splice
 rw [List.take_zero,List.nil_append,Nat.zero_add,List.drop_eq_nil_of_le (by omega),List.append_nil]
theorem g5l (hR : Has C a0g a0r) (hg : C.gl a4x = some (kR.map iw)) (τ : St) (p q : Nat) (w : List Wd) (hw : w.length = 64) (hq : τ[q]? = some (.cells (w.map iw) ⟨false,none⟩)) :
  ∀ (n i : Nat) (s : List Wd),i + n = 64 → s.length = 8 →
  b1k C (semF C) 213 [0,2,9,115] a6e [(0,.ref p 0),(2,.ref q 0),(9,.ref τ.length 0),(115,.int .i64 i)] (τ ++ [.cells (s.map iw) ⟨false,none⟩]) =
   some (.exit 4,[(0,.ref p 0),(9,.ref τ.length 0)],τ ++ [.cells ((c9a w n i s).map iw) ⟨false,none⟩])
 | 0,i,s,hi,hs=>by
   rw [a3h (he:=rfl)]
   have h : ¬ ((i : Int) < 64):=by omega
   simp only [a6e,h,c9a,b6e,EVC,EVA,Nat.reduceEqDiff,eqOp,eqA,a1w,lenA,a1a,a0j,pt,a0n,Nat.reduceSub,Nat.reduceGT,Nat.reduceLT,Nat.reduceAdd,hand,a3e,a0u,a1k,freeze,reduceIte,reduceCtorEq,a0m,a0p,isStr,a1x,rep,a2q,a2w,Nat.reduceMul,Nat.reduceLeDiff]
 | n + 1,i,s,hi,hs=>by
   rw [a3h (he:=rfl)]
   generalize hk : b1k C (semF C) 213 [0,2,9,115] a6e = rest
   have h : ((i : Int) < 64):=by omega
   have w5 : IntKind.i64.wrap ((i : Int) + 1) = ((i + 1 : Nat) : Int):=by rw [w64] <;> omega
   have p1 : ∀ j : Nat,(0 : Int) ≤ (j : Int):=fun j=>by omega
   have l5 : i < 64:=by omega
   have l6 : i ≤ kR.length:=by show i ≤ 64; omega
   have a0 : (s.map iw).head? = some (iw (s.getD 0 0)):=b3p s 0 (by omega)
   have a1:=b3p s 1 (by omega)
   have a2:=b3p s 2 (by omega)
   have a3:=b3p s 3 (by omega)
   have a4:=b3p s 4 (by omega)
   have a5:=b3p s 5 (by omega)
   have a6:=b3p s 6 (by omega)
   have a7:=b3p s 7 (by omega)
   have b1:=b3p w i (by omega)
   have b2:=b3p kR i (by show i < 64; omega)
   have r1:=rot hR (-6) 26 (by decide) (by decide)
   have r2:=rot hR (-11) 21 (by decide) (by decide)
   have r3:=rot hR (-25) 7 (by decide) (by decide)
   have r4:=rot hR (-2) 30 (by decide) (by decide)
   have r5:=rot hR (-13) 19 (by decide) (by decide)
   have r6:=rot hR (-22) 10 (by decide) (by decide)
   have g:=b8e hq [.cells (s.map iw) ⟨false,none⟩]
   have s1 : splice (s.map iw) 0 ((g0a w i s).map iw) = (g0a w i s).map iw:=b8k _ _ (by simp [hs,g0a])
   unfold g0a h7t j4y at s1
   simp only [List.map_cons,List.map_nil] at s1
   simp only [a6e,h,w5,p1,l5,l6,hs,g,hg,Option.getD_some,a0,a1,a2,a3,a4,a5,a6,a7,b1,b2,r1,r2,r3,r4,r5,r6,List.length_map,i7b,i2y,j3z,j2r,e0k,g3f,a3w,a6y,s1,Int.toNat_natCast,Int.reduceLE,Int.reduceToNat,b6e,EVC,EVA,Nat.reduceEqDiff,eqOp,eqA,a1w,lenA,a1a,a0j,pt,a0n,Nat.reduceSub,Nat.reduceGT,Nat.reduceLT,Nat.reduceAdd,hand,a3e,a0u,a1k,freeze,reduceIte,reduceCtorEq,a0m,a0p,isStr,a1x,rep,a2q,a2w,Nat.reduceMul,Nat.reduceLeDiff]
   rw [← hk]
   exact g5l hR hg τ p q w hw hq n (i + 1) (g0a w i s) (by omega) rfl
end Go.Ev
namespace Go.Ev
set_option maxRecDepth 100000
set_option linter.unusedSimpArgs false
variable {C : Ctx}
theorem j0w {σ : St} {p : Nat} (hp : p < σ.length) (x : AO) (l : St) : (σ.set p x ++ l)[p]? = some x:=by
 rw [List.getElem?_append_left (by rw [List.length_set]; exact hp),List.getElem?_set_self hp]
theorem set_set {σ : St} {p : Nat} (hp : p < σ.length) (x y : AO) (l : St) : (σ.set p x ++ l).set p y = σ.set p y ++ l:=by
 rw [List.set_append_left _ _ (by rw [List.length_set]; exact hp),List.set_set]
theorem i4n (σ : St) (p : Nat) (x y : AO) : (σ.set p x ++ [y])[σ.length]? = some y:=by
 rw [List.getElem?_append_right (by rw [List.length_set]; omega)]
 simp
theorem Ok.set {σ : St} (h : Ok σ) (p : Nat) {x : AO} (hx : AO.below σ.length x = true) : Ok (σ.set p x):=by
 unfold Ok
 rw [List.length_set,List.all_eq_true]
 intro y hy
 rcases List.mem_or_eq_of_mem_set hy with h' | h'
 ·exact List.all_eq_true.mp h y h'
 ·rw [h']; exact hx
def g8q (s : List Wd) : Nat → Nat → List Wd → List Wd
 | 0,_,st=>st
 | n + 1,i,st=>g8q s n (i + 1) (st.set i (st.getD i 0 + s.getD i 0))
theorem g4z (b : Bool) (part : List UInt8) (sz : Int) (h64 : part.length = 64) (τ : St) (p : Nat) (hp : p < τ.length) (s : List Wd) (hs : s.length = 8) :
  ∀ (n i : Nat) (st : List Wd),i + n = 8 → st.length = 8 →
  b1k C (semF C) 213 [0,9,196] a5z [(0,.ref p 0),(9,.ref τ.length 0),(196,.int .i64 i)] (τ.set p (.cells (a1u b st part sz) ⟨false,none⟩) ++ [.cells (s.map iw) ⟨false,none⟩]) =
   some (.exit 6,[],τ.set p (.cells (a1u b (g8q s n i st) part sz) ⟨false,none⟩) ++ [.cells (s.map iw) ⟨false,none⟩])
 | 0,i,st,hi,hst=>by
   rw [a3h (he:=rfl)]
   have h : ¬ ((i : Int) < 8):=by omega
   simp only [a5z,h,g8q,b6e,EVC,EVA,Nat.reduceEqDiff,eqOp,eqA,a1w,lenA,a1a,a0j,pt,a0n,Nat.reduceSub,Nat.reduceGT,Nat.reduceLT,Nat.reduceAdd,hand,a3e,a0u,a1k,freeze,reduceIte,reduceCtorEq,a0m,a0p,isStr,a1x,rep,a2q,a2w,Nat.reduceMul,Nat.reduceLeDiff]
 | n + 1,i,st,hi,hst=>by
   rw [a3h (he:=rfl)]
   generalize hk : b1k C (semF C) 213 [0,9,196] a5z = rest
   have h : ((i : Int) < 8):=by omega
   have w5 : IntKind.i64.wrap ((i : Int) + 1) = ((i + 1 : Nat) : Int):=by rw [w64] <;> omega
   have p1 : ∀ j : Nat,(0 : Int) ≤ (j : Int):=fun j=>by omega
   have l5 : i < 8:=by omega
   have l6 : 1 + i + 1 ≤ 74:=by omega
   have hl:=a4c (b:=b) (sz:=sz) hst h64
   have a0:=b3p s i (by omega)
   have a1:=g9a (b:=b) (part:=part) (sz:=sz) hst i (by omega)
   have s1:=i2a (b:=b) (part:=part) (sz:=sz) hst i (by omega) (st.getD i 0 + s.getD i 0)
   simp only [a5z,h,w5,p1,l5,l6,hl,a0,a1,s1,j0w hp,set_set hp,i4n,i2y,e0k,g3f,Int.toNat_natCast,b6e,EVC,EVA,Nat.reduceEqDiff,eqOp,eqA,a1w,lenA,a1a,a0j,pt,a0n,Nat.reduceSub,Nat.reduceGT,Nat.reduceLT,Nat.reduceAdd,hand,a3e,a0u,a1k,freeze,reduceIte,reduceCtorEq,a0m,a0p,isStr,a1x,rep,a2q,a2w,Nat.reduceMul,Nat.reduceLeDiff]
   rw [← hk]
   exact g4z b part sz h64 τ p hp s hs n (i + 1) _ (by omega) (by rw [List.length_set,hst])
def e0v : List Wd:=List.replicate 64 0
def mixW (st : List Wd) (part : List UInt8) : List Wd:=g8q (c9a (g9j 48 16 (h1h part 16 0 e0v)) 64 0 st) 8 0 st
theorem d9a (part : List UInt8) : ∀ (n i : Nat) (w : List Wd),(h1h part n i w).length = w.length
 | 0,_,_=>rfl
 | n + 1,i,w=>by unfold h1h; rw [d9a part n,List.length_set]
theorem d7j : ∀ (n i : Nat) (w : List Wd),(g9j n i w).length = w.length
 | 0,_,_=>rfl
 | n + 1,i,w=>by unfold g9j; rw [d7j n,List.length_set]
theorem d8s (s : List Wd) : ∀ (n i : Nat) (w : List Wd),(g8q s n i w).length = w.length
 | 0,_,_=>rfl
 | n + 1,i,w=>by unfold g8q; rw [d8s s n,List.length_set]
theorem c7p (w : List Wd) : ∀ (n i : Nat) (s : List Wd),s.length = 8 → (c9a w n i s).length = 8
 | 0,_,_,h=>h
 | n + 1,i,s,_=>by unfold c9a; exact c7p w n _ _ rfl
theorem e4l {st : List Wd} (h : st.length = 8) (part : List UInt8) : (mixW st part).length = 8:=by unfold mixW; rw [d8s,h]
theorem g7p (n : Nat) : ∀ l : List Wd,a1h n (l.map iw) = true
 | []=>rfl
 | x :: l=>by
   rw [List.map_cons]
   unfold a1h
   rw [g7p n l]
   rfl
theorem d2m (n : Nat) : ∀ l r : List AV,a1h n (l ++ r) = (a1h n l && a1h n r)
 | [],r=>by simp [a1h]
 | x :: l,r=>by simp [a1h,d2m n l r,Bool.and_assoc]
theorem b1q (n : Nat) (b st part sz) : AO.below n (.cells (a1u b st part sz) ⟨false,none⟩) = true:=by
 unfold AO.below a1u
 simp [a1h,below,d2m,g7p,a6h]
theorem j0c (hC : Has C a4e a6g) (hR : Has C a0g a0r) (hg : C.gl a4x = some (kR.map iw))
  (σ : St) (hσ : Ok σ) (p : Nat) (b : Bool) (st : List Wd) (part : List UInt8) (sz : Int) (hp : σ[p]? = some (.cells (a1u b st part sz) ⟨false,none⟩)) (h8 : st.length = 8) (h64 : part.length = 64) :
  semF C a4e [.ref p 0] σ = some (.tup [],σ.set p (.cells (a1u b (mixW st part) part sz) ⟨false,none⟩)):=by
 rw [hC.run]
 unfold runK
 have hpl : p < σ.length:=(List.getElem?_eq_some_iff.mp hp).1
 obtain ⟨w0,hw0⟩ : ∃ w0,w0 = h1h part 16 0 e0v:=⟨_,rfl⟩
 obtain ⟨w,hw⟩ : ∃ w,w = g9j 48 16 w0:=⟨_,rfl⟩
 obtain ⟨s,hs⟩ : ∃ s,s = c9a w 64 0 st:=⟨_,rfl⟩
 obtain ⟨st',hst⟩ : ∃ st',st' = g8q s 8 0 st:=⟨_,rfl⟩
 have lw0 : w0.length = 64:=by rw [hw0,d9a]; rfl
 have lw : w.length = 64:=by rw [hw,d7j,lw0]
 have ls : s.length = 8:=by rw [hs]; exact c7p w 64 0 st h8
 have hm : mixW st part = st':= by unfold mixW; rw [hst,hs,hw,hw0]
 rw [hm]
 have q0:=g3t (C:=C) b st part sz σ p hp h8 h64 16 0 e0v (by omega) (by unfold e0v; rw [List.length_replicate])
 have q1:=g4o hR σ p 48 16 w0 (by omega) (by omega) lw0
 have q2:=g5l hR hg (σ ++ [.cells (w.map iw) ⟨false,none⟩]) p σ.length w lw (by rw [a3w]) 64 0 st (by omega) h8
 have q3:=g4z (C:=C) b part sz h64 (σ ++ [.cells (w.map iw) ⟨false,none⟩]) p (by rw [List.length_append]; omega) s ls 8 0 st (by omega) h8
 rw [← hw0] at q0
 rw [← hw] at q1
 rw [← hs] at q2
 rw [← hst] at q3
 have e1 : (σ ++ [AO.cells (w.map iw) ⟨false,none⟩]).set p (.cells (a1u b st part sz) ⟨false,none⟩) = σ ++ [AO.cells (w.map iw) ⟨false,none⟩]:=by
  rw [List.set_append_left _ _ hpl,← (List.getElem?_eq_some_iff.mp hp).2,List.set_getElem_self]
 rw [e1] at q3
 rw [List.set_append_left _ _ hpl] at q3
 have z64 : σ ++ [AO.cells [AV.int .u32 0,AV.int .u32 0,AV.int .u32 0,AV.int .u32 0,AV.int .u32 0,AV.int .u32 0,AV.int .u32 0,AV.int .u32 0,AV.int .u32 0,AV.int .u32 0,AV.int .u32 0,AV.int .u32 0,AV.int .u32 0,AV.int .u32 0,AV.int .u32 0,AV.int .u32 0,AV.int .u32 0,AV.int .u32 0,AV.int .u32 0,AV.int .u32 0,AV.int .u32 0,AV.int .u32 0,AV.int .u32 0,AV.int .u32 0,AV.int .u32 0,AV.int .u32 0,AV.int .u32 0,AV.int .u32 0,AV.int .u32 0,AV.int .u32 0,AV.int .u32 0,AV.int .u32 0,AV.int .u32 0,AV.int .u32 0,AV.int .u32 0,AV.int .u32 0,AV.int .u32 0,AV.int .u32 0,AV.int .u32 0,AV.int .u32 0,AV.int .u32 0,AV.int .u32 0,AV.int .u32 0,AV.int .u32 0,AV.int .u32 0,AV.int .u32 0,AV.int .u32 0,AV.int .u32 0,AV.int .u32 0,AV.int .u32 0,AV.int .u32 0,AV.int .u32 0,AV.int .u32 0,AV.int .u32 0,AV.int .u32 0,AV.int .u32 0,AV.int .u32 0,AV.int .u32 0,AV.int .u32 0,AV.int .u32 0,AV.int .u32 0,AV.int .u32 0,AV.int .u32 0,AV.int .u32 0] ⟨false,none⟩] = σ ++ [.cells (e0v.map iw) ⟨false,none⟩]:=rfl
 have g2 : ∀ l,(σ ++ [AO.cells (w.map iw) ⟨false,none⟩] ++ l)[p]? = some (.cells (a1u b st part sz) ⟨false,none⟩):=fun l=>b8e (b8e hp _) l
 have g1:=b8e hp [AO.cells (w.map iw) ⟨false,none⟩]
 have tk : 8 ≤ ((a1u b st part sz).drop 1).length:=by rw [List.length_drop,a4c h8 h64]; omega
 have tk2 : ((a1u b st part sz).drop 1).take 8 = st.map iw:=by
  unfold a1u
  rw [List.drop_succ_cons,List.drop_zero,List.take_append_of_le_length (by simp [h8]),List.take_of_length_le (by simp [h8])]
 have fl : (st.map iw).all AV.flat = true:=by
  rw [List.all_eq_true]; intro x hx; obtain ⟨y,_,rfl⟩:=List.mem_map.mp hx; rfl
 have sp : splice [AV.int .u32 0,AV.int .u32 0,AV.int .u32 0,AV.int .u32 0,AV.int .u32 0,AV.int .u32 0,AV.int .u32 0,AV.int .u32 0] 0 (st.map iw) = st.map iw:=b8k _ _ (by simp [h8])
 have ty : tidy σ.length [] (σ.set p (.cells (a1u b st' part sz) ⟨false,none⟩) ++ [.cells (w.map iw) ⟨false,none⟩] ++ [.cells (s.map iw) ⟨false,none⟩]) = σ.set p (.cells (a1u b st' part sz) ⟨false,none⟩):=by
  have:=c0p (hσ.set p (b1q σ.length b st' part sz)) (vs:=[]) rfl ([.cells (w.map iw) ⟨false,none⟩] ++ [.cells (s.map iw) ⟨false,none⟩])
  rw [List.length_set,← List.append_assoc] at this
  exact this
 simp only [Int.cast_ofNat_Int] at q0 q1 q2 q3
 simp only [a6g,z64,q0,q1,q2,q3,g1,g2,tk,tk2,fl,sp,ty,h8,List.length_map,a3w,a6y,b6e,EVC,EVA,Nat.reduceEqDiff,eqOp,eqA,a1w,lenA,a1a,a0j,pt,a0n,Nat.reduceSub,Nat.reduceGT,Nat.reduceLT,Nat.reduceAdd,hand,a3e,a0u,a1k,freeze,reduceIte,reduceCtorEq,a0m,a0p,isStr,a1x,rep,a2q,a2w,Nat.reduceMul,Nat.reduceLeDiff]
end Go.Ev
namespace Go.Ev
set_option maxRecDepth 100000
set_option linter.unusedSimpArgs false
variable {C : Ctx}
def lay (part : List UInt8) (used : Nat) (s : List UInt8) : List UInt8:=part.take used ++ s ++ part.drop (used + s.length)
def a8f : Nat → List Wd → List UInt8 → Nat → List UInt8 → List Wd × List UInt8
 | 0,st,part,_,_=>(st,part)
 | n + 1,st,part,used,s=>
   if s = [] then (st,part) else
   if used + min s.length (64 - used) = 64 then
    a8f n (mixW st (lay part used (s.take (min s.length (64 - used))))) (lay part used (s.take (min s.length (64 - used)))) 0 (s.drop (min s.length (64 - used)))
   else (st,lay part used (s.take (min s.length (64 - used))))
theorem d4q {part s : List UInt8} {used : Nat} (h : used + s.length ≤ part.length) : (lay part used s).length = part.length:=by
 simp [lay]; omega
theorem i0g {b st part sz} (h8 : st.length = 8) {used : Nat} {s : List UInt8} (h : used + s.length ≤ part.length) : splice (a1u b st part sz) (9 + used) (ofBytes s) = a1u b st (lay part used s) sz:=by
 unfold a1u splice lay
 rw [show 9 + used = (8 + used) + 1 by omega,List.take_succ_cons,show (8 + used) + 1 + (ofBytes s).length = (8 + used + s.length) + 1 by rw [a0k]; omega,List.drop_succ_cons]
 have e1 : (st.map iw ++ (ofBytes part ++ [AV.int .i64 sz])).take (8 + used) = st.map iw ++ ofBytes (part.take used):=by
  rw [List.take_append,List.take_of_length_le (by simp [h8])]
  simp only [List.length_map,h8,Nat.add_sub_cancel_left]
  rw [List.take_append_of_le_length (by rw [a0k]; omega)]
  unfold ofBytes
  rw [List.map_take]
 have e2 : (st.map iw ++ (ofBytes part ++ [AV.int .i64 sz])).drop (8 + used + s.length) = ofBytes (part.drop (used + s.length)) ++ [AV.int .i64 sz]:=by
  rw [List.drop_append,List.drop_eq_nil_of_le (by simp [h8]; omega)]
  simp only [List.length_map,h8,List.nil_append,show 8 + used + s.length - 8 = used + s.length by omega]
  rw [List.drop_append_of_le_length (by rw [a0k]; omega)]
  unfold ofBytes
  rw [List.map_drop]
 rw [e1,e2]
 simp [ofBytes]
theorem b8b (hM : Has C a4e a6g) (hR : Has C a0g a0r) (hg : C.gl a4x = some (kR.map iw))
  (b : Bool) (sz : Int) (σ : St) (hσ : Ok σ) (p : Nat) (hp : p < σ.length) :
  ∀ (n : Nat) (s : List UInt8) (st : List Wd) (part : List UInt8) (used : Nat),s.length < n → used < 64 → s.length ≤ 1099511627776 → st.length = 8 → part.length = 64 →
  b1k C (semF C) 55 [0,1,5] a2y [(0,.ref p 0),(1,.str s),(5,.int .i64 used)] (σ.set p (.cells (a1u b st part sz) ⟨false,none⟩)) =
   some (.exit 0,[],σ.set p (.cells (a1u b (a8f n st part used s).1 (a8f n st part used s).2 sz) ⟨false,none⟩))
 | 0,s,_,_,_,hn,_,_,_,_=>absurd hn (by omega)
 | n + 1,s,st,part,used,hn,hu,hl,h8,h64=>by
   rw [a3h (he:=rfl)]
   generalize hk : b1k C (semF C) 55 [0,1,5] a2y = rest
   by_cases hs : s = []
   ·subst hs
    simp only [a2y,a8f,Int.reduceLT,b6e,EVC,EVA,Nat.reduceEqDiff,eqOp,eqA,a1w,lenA,a1a,a0j,pt,a0n,Nat.reduceSub,Nat.reduceGT,Nat.reduceLT,Nat.reduceAdd,hand,a3e,a0u,a1k,freeze,reduceIte,reduceCtorEq,a0m,a0p,isStr,a1x,rep,a2q,a2w,Nat.reduceMul,Nat.reduceLeDiff]
   ·have hpos : 0 < s.length:=List.length_pos_iff.mpr hs
    have h0 : ((s.length : Int) > 0):=by omega
    obtain ⟨k,hkd⟩ : ∃ k,k = min s.length (64 - used):=⟨_,rfl⟩
    have k1 : k ≤ s.length:=by omega
    have k2 : used + k ≤ 64:=by omega
    have k3 : 0 < k:=by omega
    have hlen:=a4c (b:=b) (sz:=sz) h8 h64
    have g0 : ∀ x,(σ.set p x)[p]? = some x:=fun x=>List.getElem?_set_self hp
    have c1 : used ≤ 64:=by omega
    have c2 : ¬ used = 64:=by omega
    have c3 : (0 : Int) ≤ (used : Int):=by omega
    have c4 : 9 + used + k ≤ 74:=by omega
    have tkk : (ofBytes s).take k = ofBytes (s.take k):=by unfold ofBytes; rw [List.map_take]
    have hlay:=i0g (b:=b) (sz:=sz) h8 (used:=used) (s:=s.take k) (part:=part) (by rw [List.length_take,h64]; omega)
    have c5 : (0 : Int) ≤ (k : Int):=by omega
    have w1 : IntKind.i64.wrap ((used : Int) + (k : Int)) = ((used + k : Nat) : Int):=by rw [w64] <;> omega
    have tks : s.take s.length = s:=List.take_length
    have lp : (lay part used (s.take k)).length = 64:=by rw [d4q (by rw [List.length_take,h64]; omega),h64]
    have ok1 : Ok (σ.set p (.cells (a1u b st (lay part used (s.take k)) sz) ⟨false,none⟩)):=hσ.set p (b1q _ _ _ _ _)
    by_cases h64' : used + k = 64
    ·have b1 : ((((used + k : Nat) : Int) == 64)) = true:=by rw [h64']; rfl
     have hmx:=j0c hM hR hg (σ.set p (.cells (a1u b st (lay part used (s.take k)) sz) ⟨false,none⟩)) ok1 p b st (lay part used (s.take k)) sz (g0 _) h8 lp
     rw [List.set_set] at hmx
     simp only [a2y,a8f,hs,h0,g0,hlen,c1,c2,c3,c4,c5,← hkd,tkk,hlay,w1,tks,b1,h64',hmx,b2q,List.set_set,Int.toNat_natCast,k1,Int.reduceLT,b6e,EVC,EVA,Nat.reduceEqDiff,eqOp,eqA,a1w,lenA,a1a,a0j,pt,a0n,Nat.reduceSub,Nat.reduceGT,Nat.reduceLT,Nat.reduceAdd,hand,a3e,a0u,a1k,freeze,reduceIte,reduceCtorEq,a0m,a0p,isStr,a1x,rep,a2q,a2w,Nat.reduceMul,Nat.reduceLeDiff]
     rw [← hk]
     have:=b8b hM hR hg b sz σ hσ p hp n (s.drop k) (mixW st (lay part used (s.take k))) (lay part used (s.take k)) 0 (by rw [List.length_drop]; omega) (by omega) (by rw [List.length_drop]; omega) (e4l h8 _) lp
     simp only [Int.cast_ofNat_Int] at this
     exact this
    ·have b1 : ((((used + k : Nat) : Int) == 64)) = false:=by
      rw [beq_eq_false_iff_ne]; omega
     have hnil : s.drop k = []:=List.drop_eq_nil_of_le (by omega)
     simp only [a2y,a8f,hs,h0,g0,hlen,c1,c2,c3,c4,c5,← hkd,tkk,hlay,w1,tks,b1,h64',b2q,List.set_set,Int.toNat_natCast,k1,Int.reduceLT,b6e,EVC,EVA,Nat.reduceEqDiff,eqOp,eqA,a1w,lenA,a1a,a0j,pt,a0n,Nat.reduceSub,Nat.reduceGT,Nat.reduceLT,Nat.reduceAdd,hand,a3e,a0u,a1k,freeze,reduceIte,reduceCtorEq,a0m,a0p,isStr,a1x,rep,a2q,a2w,Nat.reduceMul,Nat.reduceLeDiff]
     rw [← hk,hnil]
     have:=b8b hM hR hg b sz σ hσ p hp n [] st (lay part used (s.take k)) (used + k) (by simp; omega) (by omega) (by simp) h8 lp
     rw [this]
     cases n <;> rfl
end Go.Ev
namespace Go.Ev
set_option maxRecDepth 100000
set_option linter.unusedSimpArgs false
variable {C : Ctx}
theorem e8p {b st part sz} : (a1u b st part sz).head? = some (.bool b):=rfl
theorem d5q {b st part sz} (h8 : st.length = 8) (h64 : part.length = 64) : ((a1u b st part sz).drop 73).head? = some (.int .i64 sz):=by
 unfold a1u
 rw [List.head?_drop,List.getElem?_cons_succ,List.getElem?_append_right (by simp [h8]),List.getElem?_append_right (by simp [h8,h64,a0k])]
 simp [h8,h64,a0k]
theorem d2k {b st part sz} (h8 : st.length = 8) (h64 : part.length = 64) (z : Int) : splice (a1u b st part sz) 73 [.int .i64 z] = a1u b st part z:=by
 unfold a1u splice
 rw [List.take_succ_cons,show 73 + [AV.int .i64 z].length = 73 + 1 from rfl,List.drop_succ_cons,← List.append_assoc,List.take_append_of_le_length (by simp [h8,h64,a0k]),List.take_of_length_le (by simp [h8,h64,a0k]),List.drop_eq_nil_of_le (by simp [h8,h64,a0k])]
 simp
def b0x (b : Bool) (st : List Wd) : List Wd:=if b then st else hI
theorem b5w {b : Bool} {st : List Wd} (h8 : st.length = 8) : (b0x b st).length = 8:=by cases b <;> simp [b0x,h8,hI]
theorem e2g (hC : Has C a3d a5u) (hM : Has C a4e a6g) (hR : Has C a0g a0r) (hg : C.gl a4x = some (kR.map iw)) (hi : C.gl a5n = some (hI.map iw))
  (σ : St) (hσ : Ok σ) (p : Nat) (b : Bool) (st : List Wd) (part : List UInt8) (sz : Nat) (hp : σ[p]? = some (.cells (a1u b st part sz) ⟨false,none⟩)) (h8 : st.length = 8) (h64 : part.length = 64) (hsz : sz ≤ 4398046511104)
  (s : List UInt8) (hl : s.length ≤ 1099511627776) :
  semF C a3d [.ref p 0,.str s] σ = some (.int .i64 0,σ.set p (.cells (a1u true (a8f (s.length + 1) (b0x b st) part (sz % 64) s).1 (a8f (s.length + 1) (b0x b st) part (sz % 64) s).2 ((sz + s.length : Nat) : Int)) ⟨false,none⟩)):=by
 rw [hC.run]
 unfold runK
 have hpl : p < σ.length:=(List.getElem?_eq_some_iff.mp hp).1
 have g0 : ∀ x,(σ.set p x)[p]? = some x:=fun x=>List.getElem?_set_self hpl
 have w1 : ((sz : Int)).tmod 64 = ((sz % 64 : Nat) : Int):=by rw [Int.tmod_eq_emod_of_nonneg (by omega)]; omega
 have w2 : IntKind.i64.wrap ((sz : Int) + (s.length : Int)) = ((sz + s.length : Nat) : Int):=by rw [w64] <;> omega
 have q:=b8b hM hR hg true ((sz + s.length : Nat) : Int) σ hσ p hpl (s.length + 1) s (b0x b st) part (sz % 64) (by omega) (by omega) hl (b5w h8) h64
 have n64 : ¬ ((64 : Int) = 0):=by decide
 have ty : ∀ x,tidy σ.length [.int .i64 0] (σ.set p x) = σ.set p x:=fun x=>by
  have:=e5f (σ.set p x) [.int .i64 0]
  rw [List.length_set] at this
  exact this
 cases b with
 | true=>
   have hl0:=a4c (b:=true) (sz:=sz) h8 h64
   have z1:=d5q (b:=true) (sz:=sz) h8 h64
   have z2:=d2k (b:=true) (sz:=sz) h8 h64 ((sz + s.length : Nat) : Int)
   have z0:=e8p (b:=true) (st:=st) (part:=part) (sz:=sz)
   have e : b0x true st = st:=rfl
   rw [e] at q ⊢
   simp only [a5u,hp,z0,z1,z2,hl0,w1,w2,n64,q,g0,ty,b6e,EVC,EVA,Nat.reduceEqDiff,eqOp,eqA,a1w,lenA,a1a,a0j,pt,a0n,Nat.reduceSub,Nat.reduceGT,Nat.reduceLT,Nat.reduceAdd,hand,a3e,a0u,a1k,freeze,reduceIte,reduceCtorEq,a0m,a0p,isStr,a1x,rep,a2q,a2w,Nat.reduceMul,Nat.reduceLeDiff]
 | false=>
   have e : b0x false st = hI:=rfl
   have hl0:=a4c (b:=false) (sz:=sz) h8 h64
   have hl1:=a4c (b:=true) (sz:=sz) h8 h64
   have hl2:=a4c (b:=true) (sz:=sz) (st:=hI) rfl h64
   have z0:=e8p (b:=false) (st:=st) (part:=part) (sz:=sz)
   have z1:=d5q (b:=true) (sz:=sz) (st:=hI) rfl h64
   have z2:=d2k (b:=true) (sz:=sz) (st:=hI) rfl h64 ((sz + s.length : Nat) : Int)
   have z3 : splice (a1u false st part sz) 0 [.bool true] = a1u true st part sz:=rfl
   have z4 : splice (a1u true st part sz) 1 (hI.map iw) = a1u true hI part sz:=by
    unfold a1u splice
    rw [List.take_succ_cons,show 1 + (hI.map iw).length = 8 + 1 from rfl,List.drop_succ_cons,List.drop_append,List.drop_eq_nil_of_le (by simp [h8])]
    simp [h8]
   have z5 : 8 ≤ (hI.map iw).length:=by decide
   have z6 : (hI.map iw).take 8 = hI.map iw:=rfl
   have z7 : (hI.map iw).length = 8:=rfl
   have z8 : (hI.map iw).all AV.flat = true:=rfl
   rw [e] at q ⊢
   simp only [a5u,hp,hi,Option.getD_some,z0,z1,z2,z3,z4,z6,z7,z8,hl0,hl1,hl2,w1,w2,n64,q,g0,ty,List.set_set,b6e,EVC,EVA,Nat.reduceEqDiff,eqOp,eqA,a1w,lenA,a1a,a0j,pt,a0n,Nat.reduceSub,Nat.reduceGT,Nat.reduceLT,Nat.reduceAdd,hand,a3e,a0u,a1k,freeze,reduceIte,reduceCtorEq,a0m,a0p,isStr,a1x,rep,a2q,a2w,Nat.reduceMul,Nat.reduceLeDiff]
end Go.Ev
namespace Go.Ev
set_option maxRecDepth 100000
set_option linter.unusedSimpArgs false
variable {C : Ctx}
def be64 (len i : Nat) : UInt8:=UInt8.ofNat (len / 2 ^ (56 - 8 * i))
def g9r (len : Nat) : Nat → Nat → List UInt8 → List UInt8
 | 0,_,t=>t
 | n + 1,i,t=>g9r len n (i + 1) (t.set i (be64 len i))
theorem e0y (l : List UInt8) (i : Nat) (v : UInt8) (h : i < l.length) : splice (ofBytes l) i [.int .u8 (v.toNat : Int)] = ofBytes (l.set i v):=c5u (fun b : UInt8=>AV.int .u8 (b.toNat : Int)) l i v h
theorem j3p (n : Nat) : IntKind.u8.wrap (n : Int) = ((UInt8.ofNat n).toNat : Int):=by
 rw [IntKind.wrap_u8,UInt8.toNat_ofNat']; omega
theorem d1i (τ : St) (p len : Nat) :
  ∀ (n i : Nat) (t : List UInt8),i + n = 8 → t.length = 8 →
  b1k C (semF C) 69 [3,4,5,31] a5y [(3,.ref p 0),(4,.int .u64 len),(5,.ref τ.length 0),(31,.int .i64 i)] (τ ++ [.cells (ofBytes t) ⟨false,none⟩]) =
   some (.exit 0,[(3,.ref p 0),(5,.ref τ.length 0)],τ ++ [.cells (ofBytes (g9r len n i t)) ⟨false,none⟩])
 | 0,i,t,hi,ht=>by
   rw [a3h (he:=rfl)]
   have h : ¬ ((i : Int) < 8):=by omega
   simp only [a5y,h,g9r,b6e,EVC,EVA,Nat.reduceEqDiff,eqOp,eqA,a1w,lenA,a1a,a0j,pt,a0n,Nat.reduceSub,Nat.reduceGT,Nat.reduceLT,Nat.reduceAdd,hand,a3e,a0u,a1k,freeze,reduceIte,reduceCtorEq,a0m,a0p,isStr,a1x,rep,a2q,a2w,Nat.reduceMul,Nat.reduceLeDiff]
 | n + 1,i,t,hi,ht=>by
   rw [a3h (he:=rfl)]
   generalize hk : b1k C (semF C) 69 [3,4,5,31] a5y = rest
   have h : ((i : Int) < 8):=by omega
   have w1 : IntKind.i64.wrap (8 * (i : Int)) = ((8 * i : Nat) : Int):=by rw [w64] <;> omega
   have w2 : IntKind.i64.wrap (56 - ((8 * i : Nat) : Int)) = ((56 - 8 * i : Nat) : Int):=by rw [w64] <;> omega
   have w5 : IntKind.i64.wrap ((i : Int) + 1) = ((i + 1 : Nat) : Int):=by rw [w64] <;> omega
   have p1 : ∀ j : Nat,(0 : Int) ≤ (j : Int):=fun j=>by omega
   have p2 : ∀ j : Nat,¬ ((j : Int) < 0):=fun j=>by omega
   have m1 : min (56 - 8 * i) IntKind.u64.bits = 56 - 8 * i:=by show min (56 - 8 * i) 64 = _; omega
   have f1 : (len : Int).fdiv (2 ^ (56 - 8 * i)) = ((len / 2 ^ (56 - 8 * i) : Nat) : Int):=by
    rw [Int.fdiv_eq_ediv_of_nonneg _ (Int.pow_nonneg (by decide)),Int.natCast_ediv,Int.natCast_pow]; rfl
   have l5 : i < 8:=by omega
   have l6 : i + 1 ≤ 8:=by omega
   have s1:=e0y t i (be64 len i) (by omega)
   unfold be64 at s1
   simp only [a5y,h,w1,w2,w5,p1,p2,m1,f1,j3p,l5,l6,s1,ht,a0k,a3w,a6y,Int.toNat_natCast,b6e,EVC,EVA,Nat.reduceEqDiff,eqOp,eqA,a1w,lenA,a1a,a0j,pt,a0n,Nat.reduceSub,Nat.reduceGT,Nat.reduceLT,Nat.reduceAdd,hand,a3e,a0u,a1k,freeze,reduceIte,reduceCtorEq,a0m,a0p,isStr,a1x,rep,a2q,a2w,Nat.reduceMul,Nat.reduceLeDiff]
   rw [← hk]
   exact d1i τ p len n (i + 1) _ (by omega) (by rw [List.length_set,ht])
def be32 (x : Wd) : List UInt8:=[UInt8.ofNat (x >>> 24).toNat,UInt8.ofNat (x >>> 16).toNat,UInt8.ofNat (x >>> 8).toNat,UInt8.ofNat x.toNat]
theorem j2j (y : Wd) (σ : St) : i2iA .u8 (iw y) σ = some (.val (.int .u8 ((UInt8.ofNat y.toNat).toNat : Int)) σ):=by
 unfold iw
 rw [h1w,j3p]
theorem d1e (σ : St) (st : List Wd) (h8 : st.length = 8) :
  ∀ (n i k : Nat) (acc : List UInt8),i + n = 8 → acc.length = 4 * i →
  b1k C (semF C) 69 [7,48,49] a5t [(7,.msl (σ.length + k) 0 acc.length 1),(48,.agg (st.map iw)),(49,.int .i64 i)] (pile σ k (.cells (ofBytes acc) ⟨false,none⟩)) =
   some (.exit 2,[(7,.msl (σ.length + (k + n)) 0 (acc ++ (st.drop i).flatMap be32).length 1)],pile σ (k + n) (.cells (ofBytes (acc ++ (st.drop i).flatMap be32)) ⟨false,none⟩))
 | 0,i,k,acc,hi,ha=>by
   rw [a3h (he:=rfl)]
   have h : ¬ ((i : Int) < 8):=by omega
   have h' : st.drop i = []:=List.drop_eq_nil_of_le (by omega)
   simp only [a5t,h,h',List.flatMap_nil,List.append_nil,Nat.add_zero,b6e,EVC,EVA,Nat.reduceEqDiff,eqOp,eqA,a1w,lenA,a1a,a0j,pt,a0n,Nat.reduceSub,Nat.reduceGT,Nat.reduceLT,Nat.reduceAdd,hand,a3e,a0u,a1k,freeze,reduceIte,reduceCtorEq,a0m,a0p,isStr,a1x,rep,a2q,a2w,Nat.reduceMul,Nat.reduceLeDiff]
 | n + 1,i,k,acc,hi,ha=>by
   rw [a3h (he:=rfl)]
   generalize hk : b1k C (semF C) 69 [7,48,49] a5t = rest
   have h : ((i : Int) < 8):=by omega
   have p1 : ∀ j : Nat,(0 : Int) ≤ (j : Int):=fun j=>by omega
   have w5 : IntKind.i64.wrap ((i : Int) + 1) = ((i + 1 : Nat) : Int):=by rw [w64] <;> omega
   have l5 : i < 8:=by omega
   have a0:=b3p st i (by omega)
   have h' : st.drop i = st.getD i 0 :: st.drop (i + 1):=by
    rw [List.drop_eq_getElem_cons (by omega),List.getD_eq_getElem?_getD,List.getElem?_eq_getElem (by omega)]; rfl
   rw [h']
   generalize st.getD i 0 = x at a0
   have happ : ∀ tg,appA (pile σ k (.cells (ofBytes acc) ⟨false,none⟩)) 1 1 tg (.msl (σ.length + k) 0 acc.length 1) 4 [.int .u8 (UInt8.ofNat (x >>> 24).toNat).toNat,.int .u8 (UInt8.ofNat (x >>> 16).toNat).toNat,.int .u8 (UInt8.ofNat (x >>> 8).toNat).toNat,.int .u8 (UInt8.ofNat x.toNat).toNat] = _:=fun tg=>g5y σ k acc (be32 x) 4 rfl (by omega) (by omega)
   simp only [a5t,h,p1,w5,l5,a0,i0y,j2j,happ,Int.toNat_natCast,Int.reduceLE,Int.reduceToNat,b6e,EVC,EVA,Nat.reduceEqDiff,eqOp,eqA,a1w,lenA,a1a,a0j,pt,a0n,Nat.reduceSub,Nat.reduceGT,Nat.reduceLT,Nat.reduceAdd,hand,a3e,a0u,a1k,freeze,reduceIte,reduceCtorEq,a0m,a0p,isStr,a1x,rep,a2q,a2w,Nat.reduceMul,Nat.reduceLeDiff]
   rw [← hk,d1e σ st h8 n (i + 1) (k + 1) (acc ++ be32 x) (by omega) (by rw [List.length_append,ha]; simp [be32]; omega)]
   simp [Nat.add_assoc,Nat.add_comm 1 n]
end Go.Ev
namespace Go.Ev
set_option maxRecDepth 100000
set_option linter.unusedSimpArgs false
variable {C : Ctx}
theorem a5c : ∀ (n : Nat) (st : List Wd) (part : List UInt8) (used : Nat) (s : List UInt8),st.length = 8 → part.length = 64 → used ≤ 64 → (a8f n st part used s).1.length = 8 ∧ (a8f n st part used s).2.length = 64
 | 0,_,_,_,_,h8,h64,_=>⟨h8,h64⟩
 | n + 1,st,part,used,s,h8,h64,hu=>by
   have lp : (lay part used (s.take (min s.length (64 - used)))).length = 64:=by rw [d4q (by rw [List.length_take,h64]; omega),h64]
   unfold a8f
   split
   ·exact ⟨h8,h64⟩
   ·split
    ·exact a5c n _ _ 0 _ (e4l h8 _) lp (by omega)
    ·exact ⟨h8,lp⟩
theorem d8k (len : Nat) : ∀ (n i : Nat) (t : List UInt8),(g9r len n i t).length = t.length
 | 0,_,_=>rfl
 | n + 1,i,t=>by unfold g9r; rw [d8k len n,List.length_set]
def d8r (sz : Nat) : List UInt8:=128 :: List.replicate ((119 - sz % 64) % 64) 0
def d6k (sz : Nat) : List UInt8:=g9r (sz * 8) 8 0 (List.replicate 8 0)
def i1f (b : Bool) (st : List Wd) (part : List UInt8) (sz : Nat) : List Wd × List UInt8:=a8f ((d8r sz).length + 1) (b0x b st) part (sz % 64) (d8r sz)
def h7g (b : Bool) (st : List Wd) (part : List UInt8) (sz : Nat) : List Wd × List UInt8:=
 a8f ((d6k sz).length + 1) (i1f b st part sz).1 (i1f b st part sz).2 ((sz + (d8r sz).length) % 64) (d6k sz)
def b5g (b : Bool) (st : List Wd) (part : List UInt8) (sz : Nat) : List UInt8:=(h7g b st part sz).1.flatMap be32
theorem i5n (hC : Has C b2d b7x) (hW : Has C a3d a5u) (hM : Has C a4e a6g) (hR : Has C a0g a0r) (hg : C.gl a4x = some (kR.map iw)) (hi : C.gl a5n = some (hI.map iw))
  (hRep : ∀ n : Nat,n < 64 → ∀ σ,semF C a3c [.str [0],.int .i64 n] σ = some (.str (List.replicate n 0),σ))
  (σ : St) (hσ : Ok σ) (p : Nat) (b : Bool) (st : List Wd) (part : List UInt8) (sz : Nat) (hp : σ[p]? = some (.cells (a1u b st part sz) ⟨false,none⟩)) (h8 : st.length = 8) (h64 : part.length = 64) (hsz : sz ≤ 2199023255552) :
  semF C b2d [.ref p 0] σ = some (.str (b5g b st part sz),σ):=by
 rw [hC.run]
 unfold runK
 have hl0:=a4c (b:=b) (sz:=sz) h8 h64
 have z1:=d5q (b:=b) (sz:=sz) h8 h64
 obtain ⟨pad,hpad⟩ : ∃ x,x = d8r sz:=⟨_,rfl⟩
 obtain ⟨tl,htl⟩ : ∃ x,x = d6k sz:=⟨_,rfl⟩
 obtain ⟨r1,hr1⟩ : ∃ x,x = i1f b st part sz:=⟨_,rfl⟩
 obtain ⟨r2,hr2⟩ : ∃ x,x = h7g b st part sz:=⟨_,rfl⟩
 have lpad : pad.length ≤ 64:=by rw [hpad]; unfold d8r; simp; omega
 have ltl : tl.length = 8:=by rw [htl]; unfold d6k; rw [d8k]; rfl
 have a1 : r1.1.length = 8 ∧ r1.2.length = 64:=by rw [hr1]; exact a5c _ _ _ _ _ (b5w h8) h64 (by omega)
 have a2 : r2.1.length = 8 ∧ r2.2.length = 64:=by rw [hr2]; unfold h7g; rw [← hr1]; exact a5c _ _ _ _ _ a1.1 a1.2 (by omega)
 have ok1 : Ok (σ ++ [.cells (a1u b st part sz) ⟨false,none⟩]):=hσ.app (by simp [b1q])
 have q1:=e2g hW hM hR hg hi (σ ++ [.cells (a1u b st part sz) ⟨false,none⟩]) ok1 σ.length b st part sz (a3w _ _) h8 h64 (by omega) pad (by omega)
 rw [a6y,hpad] at q1
 have e1 : a8f ((d8r sz).length + 1) (b0x b st) part (sz % 64) (d8r sz) = r1:=hr1.symm
 rw [e1,← hpad] at q1
 have ok2 : Ok (σ ++ [.cells (a1u true r1.1 r1.2 ((sz + pad.length : Nat) : Int)) ⟨false,none⟩] ++ [.cells (ofBytes tl) ⟨false,none⟩]):=by
  refine Ok.app (hσ.app (by simp [b1q])) (by simp [AO.below,a6h])
 have q2:=e2g hW hM hR hg hi _ ok2 σ.length true r1.1 r1.2 (sz + pad.length) (b8e (a3w _ _) _) a1.1 a1.2 (by omega) tl (by omega)
 have e2 : a8f (tl.length + 1) (b0x true r1.1) r1.2 ((sz + pad.length) % 64) tl = r2:=by rw [hr2]; unfold h7g; rw [← hr1,← hpad,← htl]; rfl
 have e3 : ∀ x y z : AO,(σ ++ [x] ++ [y]).set σ.length z = σ ++ [z] ++ [y]:=fun x y z=>by
  rw [List.set_append_left _ _ (by simp),a6y]
 rw [e2,e3] at q2
 have q3:=d1i (C:=C) (σ ++ [.cells (a1u true r1.1 r1.2 ((sz + pad.length : Nat) : Int)) ⟨false,none⟩]) σ.length (sz * 8) 8 0 (List.replicate 8 0) (by omega) (by simp)
 have e4 : g9r (sz * 8) 8 0 (List.replicate 8 0) = tl:=htl.symm
 rw [e4] at q3
 obtain ⟨τ,hτ⟩ : ∃ τ,τ = σ ++ [.cells (a1u true r2.1 r2.2 ((sz + pad.length + tl.length : Nat) : Int)) ⟨false,none⟩] ++ [.cells (ofBytes tl) ⟨false,none⟩]:=⟨_,rfl⟩
 rw [← hτ] at q2
 have q4:=d1e (C:=C) τ r2.1 a2.1 8 0 0 [] (by omega) rfl
 simp only [List.drop_zero,List.nil_append,Nat.zero_add,List.length_nil,Nat.add_zero,Int.cast_ofNat_Int] at q3 q4
 have hout : r2.1.flatMap be32 = b5g b st part sz:=by unfold b5g; rw [hr2]
 rw [hout] at q4
 have m1 : ((sz : Int)).tmod 64 = ((sz % 64 : Nat) : Int):=by rw [Int.tmod_eq_emod_of_nonneg (by omega)]; omega
 have w0 : IntKind.u64.wrap (sz : Int) = (sz : Int):=by rw [wu64] <;> omega
 have w1 : IntKind.u64.wrap ((sz : Int) * 8) = ((sz * 8 : Nat) : Int):=by rw [wu64] <;> omega
 have w2 : IntKind.i64.wrap (119 - ((sz % 64 : Nat) : Int)) = ((119 - sz % 64 : Nat) : Int):=by rw [w64] <;> omega
 have m2 : ((119 - sz % 64 : Nat) : Int).tmod 64 = (((119 - sz % 64) % 64 : Nat) : Int):=by rw [Int.tmod_eq_emod_of_nonneg (by omega)]; omega
 have rp:=hRep ((119 - sz % 64) % 64) (by omega)
 have fl : (a1u b st part (sz : Int)).all AV.flat = true:=by
  rw [List.all_eq_true]; intro x hx
  unfold a1u at hx
  rcases List.mem_cons.mp hx with h | h
  ·rw [h]; rfl
  ·rcases List.mem_append.mp h with h | h
   ·obtain ⟨y,_,rfl⟩:=List.mem_map.mp h; rfl
   ·rcases List.mem_append.mp h with h | h
    ·unfold ofBytes at h; obtain ⟨y,_,rfl⟩:=List.mem_map.mp h; rfl
    ·rw [List.mem_singleton.mp h]; rfl
 have tk : (a1u b st part (sz : Int)).take 74 = a1u b st part sz:=List.take_of_length_le (by omega)
 have sp : ∀ l : List AV,l.length = 74 → splice l 0 (a1u b st part (sz : Int)) = a1u b st part sz:=fun l hl=>b8k _ _ (by rw [hl,hl0])
 have hpd : [(128 : UInt8)] ++ List.replicate ((119 - sz % 64) % 64) 0 = pad:=hpad.symm
 have bs : ∀ y,b9d .add [(128 : UInt8)] (List.replicate ((119 - sz % 64) % 64) 0) = y → y = some (.str pad):=by
  intro y hy
  rw [← hy]
  unfold b9d
  dsimp only
  rw [if_neg (by simp; omega),hpd]
 have bs:=bs _ rfl
 have z8 : ∀ τ : St,τ ++ [AO.cells [.int .u8 0,.int .u8 0,.int .u8 0,.int .u8 0,.int .u8 0,.int .u8 0,.int .u8 0,.int .u8 0] ⟨false,none⟩] = τ ++ [AO.cells (ofBytes (List.replicate 8 0)) ⟨false,none⟩]:=fun _=>rfl
 have tk2 : (ofBytes tl).take 8 = ofBytes tl:=List.take_of_length_le (by rw [a0k]; omega)
 have tp : τ ++ [AO.cells [] ⟨false,none⟩] = pile τ 0 (.cells (ofBytes []) ⟨false,none⟩):=rfl
 have g1 : ∀ k x,(pile τ k x)[σ.length]? = some (.cells (a1u true r2.1 r2.2 ((sz + pad.length + tl.length : Nat) : Int)) ⟨false,none⟩):=fun k x=>by
  unfold pile
  refine b8e ?_ _
  rw [hτ]
  exact b8e (a3w _ _) _
 have tk3 : ∀ z : Int,((a1u true r2.1 r2.2 z).drop 1).take 8 = r2.1.map iw:=by
  intro z
  unfold a1u
  rw [List.drop_succ_cons,List.drop_zero,List.take_append_of_le_length (by simp [a2.1]),List.take_of_length_le (by simp [a2.1])]
 have tk4 : ∀ z : Int,8 ≤ ((a1u true r2.1 r2.2 z).drop 1).length:=by intro z; rw [List.length_drop,a4c a2.1 a2.2]; omega
 have bo:=b8v (b5g b st part sz)
 have bt:=b8v tl
 have tk5 : (ofBytes (b5g b st part sz)).take (b5g b st part sz).length = ofBytes (b5g b st part sz):=List.take_of_length_le (by rw [a0k]; omega)
 have pg:=fun x=>g1u τ 8 x
 have ty : ∀ x,tidy σ.length [.str (b5g b st part sz)] (pile τ 8 x) = σ:=fun x=>by
  unfold pile
  rw [hτ,List.append_assoc,List.append_assoc]
  exact c0p hσ rfl _
 have c32 : (0 : Int) ≤ 0 ∧ (0 : Int) ≤ 32 ∧ (32 : Int) ≤ 9223372036854775807 ∧ (1 : Int) * 32 ≤ 140737488355328:=by decide
 have n64 : ¬ ((64 : Int) = 0):=by decide
 have g2:=b8e hp [AO.cells (a1u b st part (sz : Int)) ⟨false,none⟩]
 simp only [b7x,hp,g2,hl0,z1,fl,tk,sp,m1,w0,w1,w2,m2,rp,bs,q1,z8,q3,a3w,a6y,ltl,tk2,bt,q2,tp,q4,g1,tk3,tk4,bo,tk5,pg,ty,c32,n64,a0k,Int.toNat_zero,Int.reduceMul,Int.reduceLE,b6e,EVC,EVA,Nat.reduceEqDiff,eqOp,eqA,a1w,lenA,a1a,a0j,pt,a0n,Nat.reduceSub,Nat.reduceGT,Nat.reduceLT,Nat.reduceAdd,hand,a3e,a0u,a1k,freeze,reduceIte,reduceCtorEq,a0m,a0p,isStr,a1x,rep,a2q,a2w,Nat.reduceMul,Nat.reduceLeDiff]
end Go.Ev
namespace Go.Ev
set_option maxRecDepth 100000
set_option linter.unusedSimpArgs false
variable {C : Ctx}
def b3f : List UInt8:=List.replicate 64 0
theorem j1f (hC : Has C d3h e2i) (hi : C.gl a5n = some (hI.map iw)) (σ : St) (hσ : Ok σ) :
  semF C d3h [] σ = some (.ref σ.length 0,σ ++ [.cells (a1u true hI b3f 0) ⟨false,none⟩]):=by
 rw [hC.run]
 unfold runK
 have z5 : 8 ≤ (hI.map iw).length:=by decide
 have z6 : (hI.map iw).take 8 = hI.map iw:=rfl
 have z7 : (hI.map iw).length = 8:=rfl
 simp only [e2i,hi,Option.getD_some,z6,z7,b6e,EVC,EVA,Nat.reduceEqDiff,eqOp,eqA,a1w,lenA,a1a,a0j,pt,a0n,Nat.reduceSub,Nat.reduceGT,Nat.reduceLT,Nat.reduceAdd,hand,a3e,a0u,a1k,freeze,reduceIte,reduceCtorEq,a0m,a0p,isStr,a1x,rep,a2q,a2w,Nat.reduceMul,Nat.reduceLeDiff]
 rw [i0l (by simp [a1h,below])]
 rfl
def b1i (s : List UInt8) : List UInt8:=b5g true (a8f (s.length + 1) hI b3f 0 s).1 (a8f (s.length + 1) hI b3f 0 s).2 s.length
structure h2a (C : Ctx) : Prop where
 new : Has C d3h e2i
 sum : Has C b2d b7x
 write : Has C a3d a5u
 mix : Has C a4e a6g
 rot : Has C a0g a0r
 sumF : Has C a2d g5r
 digest : Has C b2n c5e
 encode : Has C a9r c4v
 gr : C.gl a4x = some (kR.map iw)
 gi : C.gl a5n = some (hI.map iw)
 gd : C.gl b0b = some (ofBytes hexDigits)
 rep : ∀ n : Nat,n < 64 → ∀ σ,semF C a3c [.str [0],.int .i64 n] σ = some (.str (List.replicate n 0),σ)
theorem g0t (h : h2a C) (s : List UInt8) (hs : s.length ≤ 1099511627776) (σ : St) (hσ : Ok σ) : semF C a2d [.str s] σ = some (.str (b1i s),σ):=by
 rw [h.sumF.run]
 unfold runK
 have q0:=j1f h.new h.gi σ hσ
 have ok1 : Ok (σ ++ [.cells (a1u true hI b3f (0 : Nat)) ⟨false,none⟩]):=hσ.app (by simp [b1q])
 have q1:=e2g h.write h.mix h.rot h.gr h.gi _ ok1 σ.length true hI b3f 0 (a3w _ _) rfl rfl (by omega) s hs
 rw [a6y] at q1
 have e : b0x true hI = hI:=rfl
 rw [e] at q1
 have la:=a5c (s.length + 1) hI b3f (0 % 64) s rfl rfl (by omega)
 simp only [Nat.zero_mod,Nat.zero_add] at q1 la
 obtain ⟨r,hr⟩ : ∃ r,r = a8f (s.length + 1) hI b3f 0 s:=⟨_,rfl⟩
 rw [← hr] at q1 la
 have ok2 : Ok (σ ++ [.cells (a1u true r.1 r.2 (s.length : Int)) ⟨false,none⟩]):=hσ.app (by simp [b1q])
 have q2:=i5n h.sum h.write h.mix h.rot h.gr h.gi h.rep _ ok2 σ.length true r.1 r.2 s.length (a3w _ _) la.1 la.2 (by omega)
 have e2 : b5g true r.1 r.2 s.length = b1i s:=by unfold b1i; rw [hr]
 rw [e2] at q2
 have ty : ∀ x,tidy σ.length [.str (b1i s)] (σ ++ [x]) = σ:=fun x=>c0p hσ rfl _
 simp only [Int.cast_ofNat_Int] at q1
 simp only [g5r,q0,q1,q2,ty,b6e,EVC,EVA,Nat.reduceEqDiff,eqOp,eqA,a1w,lenA,a1a,a0j,pt,a0n,Nat.reduceSub,Nat.reduceGT,Nat.reduceLT,Nat.reduceAdd,hand,a3e,a0u,a1k,freeze,reduceIte,reduceCtorEq,a0m,a0p,isStr,a1x,rep,a2q,a2w,Nat.reduceMul,Nat.reduceLeDiff]
theorem b4i (s : List UInt8) : (b1i s).length = 32:=by
 have la:=a5c (s.length + 1) hI b3f 0 s rfl rfl (by omega)
 unfold b1i b5g
 have l1 : (i1f true (a8f (s.length + 1) hI b3f 0 s).1 (a8f (s.length + 1) hI b3f 0 s).2 s.length).1.length = 8 ∧ (i1f true (a8f (s.length + 1) hI b3f 0 s).1 (a8f (s.length + 1) hI b3f 0 s).2 s.length).2.length = 64:=a5c _ _ _ _ _ (b5w la.1) la.2 (by omega)
 have l2:=(a5c ((d6k s.length).length + 1) _ _ ((s.length + (d8r s.length).length) % 64) (d6k s.length) l1.1 l1.2 (by omega)).1
 have : ∀ l : List Wd,(l.flatMap be32).length = 4 * l.length:=by
  intro l
  induction l with
  | nil=>rfl
  | cons x l ih=>rw [List.flatMap_cons,List.length_append,ih,List.length_cons]; simp [be32]; omega
 rw [this]
 unfold h7g
 rw [l2]
def j6z (s : List UInt8) : List UInt8:=b7c (b1i s)
end Go.Ev
namespace Go.Ev
def c1b : KF:=⟨1,13,[(.cell 2 true 64)],
(.seq (.ops [o 2 (.new [(.int .u8 0),(.int .u8 0),(.int .u8 0),(.int .u8 0),(.int .u8 0),(.int .u8 0),(.int .u8 0),(.int .u8 0),(.int .u8 0),(.int .u8 0),(.int .u8 0),(.int .u8 0),(.int .u8 0),(.int .u8 0),(.int .u8 0),(.int .u8 0),(.int .u8 0),(.int .u8 0),(.int .u8 0),(.int .u8 0),(.int .u8 0),(.int .u8 0),(.int .u8 0),(.int .u8 0),(.int .u8 0),(.int .u8 0),(.int .u8 0),(.int .u8 0),(.int .u8 0),(.int .u8 0),(.int .u8 0),(.int .u8 0),(.int .u8 0),(.int .u8 0),(.int .u8 0),(.int .u8 0),(.int .u8 0),(.int .u8 0),(.int .u8 0),(.int .u8 0),(.int .u8 0),(.int .u8 0),(.int .u8 0),(.int .u8 0),(.int .u8 0),(.int .u8 0),(.int .u8 0),(.int .u8 0),(.int .u8 0),(.int .u8 0),(.int .u8 0),(.int .u8 0),(.int .u8 0),(.int .u8 0),(.int .u8 0),(.int .u8 0),(.int .u8 0),(.int .u8 0),(.int .u8 0),(.int .u8 0),(.int .u8 0),(.int .u8 0),(.int .u8 0),(.int .u8 0)] none)])
(.seq (.ops [o 3 (.new [(.int .u8 0),(.int .u8 0),(.int .u8 0),(.int .u8 0),(.int .u8 0),(.int .u8 0),(.int .u8 0),(.int .u8 0),(.int .u8 0),(.int .u8 0),(.int .u8 0),(.int .u8 0),(.int .u8 0),(.int .u8 0),(.int .u8 0),(.int .u8 0),(.int .u8 0),(.int .u8 0),(.int .u8 0),(.int .u8 0),(.int .u8 0),(.int .u8 0),(.int .u8 0),(.int .u8 0),(.int .u8 0),(.int .u8 0),(.int .u8 0),(.int .u8 0),(.int .u8 0),(.int .u8 0),(.int .u8 0),(.int .u8 0),(.int .u8 0),(.int .u8 0),(.int .u8 0),(.int .u8 0),(.int .u8 0),(.int .u8 0),(.int .u8 0),(.int .u8 0),(.int .u8 0),(.int .u8 0),(.int .u8 0),(.int .u8 0),(.int .u8 0),(.int .u8 0),(.int .u8 0),(.int .u8 0),(.int .u8 0),(.int .u8 0),(.int .u8 0),(.int .u8 0),(.int .u8 0),(.int .u8 0),(.int .u8 0),(.int .u8 0),(.int .u8 0),(.int .u8 0),(.int .u8 0),(.int .u8 0),(.int .u8 0),(.int .u8 0),(.int .u8 0),(.int .u8 0)] none)])
(.seq (.seq (.ops [m 4 0,
o 5 (.len 0 (.t 4)),
o 6 (.bin .gtr 0 true (.t 5) (.c (.int .i64 64)))])
(.cond (.t 6)
(.ops [m 7 0,
o 8 (.callF a2d [(.t 7)]),
m 0 8])
.skip))
(.seq (.ops [o 9 (.sliceArr 64 1 (.t 3) none none none),
m 10 0,
o 11 (.cpy 1 (.t 9) (.t 10))])
(.seq (.ops [o 12 (.load true 64 (.t 3)),
u (.store 64 (.t 2) (.t 12))])
(.ret [2]))))))⟩
def a7y : KC:=
(.seq (.ops [o 7 (.bin .lss 0 true (.t 6) (.c (.int .i64 64)))])
(.seq (.cond (.t 7)
.skip
(.exit [2] 0))
(.seq (.block 1
(.seq (.ops [m 8 6,
m 5 8])
(.ops [m 9 5,
m 10 1,
m 11 5,
o 12 (.idxAddrArr 64 1 (.t 2) (.t 11)),
o 13 (.load false 1 (.t 12)),
o 14 (.callV (.t 10) [(.t 13)]),
o 15 (.idxAddrArr 64 1 (.t 2) (.t 9)),
u (.store 1 (.t 15) (.t 14))])))
(.ops [o 16 (.bin .add 0 true (.t 6) (.c (.int .i64 1))),
m 6 16]))))
def c1h : KF:=⟨2,19,[(.tmp 4)],
(.seq (.ops [o 2 (.box (.t 0)),
o 4 (.mv (.c (.str [])))])
(.seq (.seq (.ops [o 6 (.mv (.c (.int .i64 0)))])
(.block 0
(.loop [1,2,6] a7y)))
(.seq (.ops [o 17 (.sliceArr 64 1 (.t 2) none none none),
o 18 (.b2s (.t 17)),
m 4 18])
(.ret [4]))))⟩
def h2m : KF:=⟨2,19,[(.tmp 4)],
(.seq (.ops [o 4 (.mv (.c (.str [])))])
(.seq (.ops [m 7 0,
o 8 (.callF b9v [(.t 7)]),
o 5 (.new [(.int .u8 0),(.int .u8 0),(.int .u8 0),(.int .u8 0),(.int .u8 0),(.int .u8 0),(.int .u8 0),(.int .u8 0),(.int .u8 0),(.int .u8 0),(.int .u8 0),(.int .u8 0),(.int .u8 0),(.int .u8 0),(.int .u8 0),(.int .u8 0),(.int .u8 0),(.int .u8 0),(.int .u8 0),(.int .u8 0),(.int .u8 0),(.int .u8 0),(.int .u8 0),(.int .u8 0),(.int .u8 0),(.int .u8 0),(.int .u8 0),(.int .u8 0),(.int .u8 0),(.int .u8 0),(.int .u8 0),(.int .u8 0),(.int .u8 0),(.int .u8 0),(.int .u8 0),(.int .u8 0),(.int .u8 0),(.int .u8 0),(.int .u8 0),(.int .u8 0),(.int .u8 0),(.int .u8 0),(.int .u8 0),(.int .u8 0),(.int .u8 0),(.int .u8 0),(.int .u8 0),(.int .u8 0),(.int .u8 0),(.int .u8 0),(.int .u8 0),(.int .u8 0),(.int .u8 0),(.int .u8 0),(.int .u8 0),(.int .u8 0),(.int .u8 0),(.int .u8 0),(.int .u8 0),(.int .u8 0),(.int .u8 0),(.int .u8 0),(.int .u8 0),(.int .u8 0)] none),
u (.store 64 (.t 5) (.t 8))])
(.seq (.ops [o 9 (.load true 64 (.t 5)),
o 10 (.callF b0w [(.t 9),(.c (.func (.func b8n) [] []))]),
m 11 1,
o 12 (.bin .add 0 false (.t 10) (.t 11)),
o 13 (.callF a2d [(.t 12)]),
m 6 13])
(.seq (.ops [o 14 (.load true 64 (.t 5)),
o 15 (.callF b0w [(.t 14),(.c (.func (.func b8i) [] []))]),
m 16 6,
o 17 (.bin .add 0 false (.t 15) (.t 16)),
o 18 (.callF a2d [(.t 17)]),
m 4 18])
(.ret [4])))))⟩
def d6d : KF:=⟨1,5,[(.tmp 2)],
(.seq (.ops [o 2 (.mv (.c (.int .u8 0)))])
(.seq (.ops [m 3 0,
o 4 (.bin .xor 0 true (.t 3) (.c (.int .u8 54))),
m 2 4])
(.ret [2])))⟩
def d4k : KF:=⟨1,5,[(.tmp 2)],
(.seq (.ops [o 2 (.mv (.c (.int .u8 0)))])
(.seq (.ops [m 3 0,
o 4 (.bin .xor 0 true (.t 3) (.c (.int .u8 92))),
m 2 4])
(.ret [2])))⟩
def e8q : KF:=⟨2,8,[(.tmp 4)],
(.seq (.ops [o 4 (.mv (.c (.bool false)))])
(.seq (.ops [m 5 0,
m 6 1,
o 7 (.bin .eql 0 false (.t 5) (.t 6)),
m 4 7])
(.ret [4])))⟩
end Go.Ev
namespace Go.Ev
set_option maxRecDepth 100000
set_option linter.unusedSimpArgs false
variable {C : Ctx}
theorem u8_xor (b c : UInt8) : IntKind.u8.wrap ((BitVec.ofInt IntKind.u8.bits (b.toNat : Int) ^^^ BitVec.ofInt IntKind.u8.bits (c.toNat : Int)).toNat : Int) = ((b ^^^ c).toNat : Int):=by
 rw [j4z .u8 rfl b.toNat c.toNat b.toNat_lt c.toNat_lt,UInt8.toNat_xor]
theorem j6i (hC : Has C b8n d6d) (b : UInt8) (σ : St) : semF C b8n [.int .u8 (b.toNat : Int)] σ = some (.int .u8 ((b ^^^ 54).toNat : Int),σ):=by
 rw [hC.run]
 unfold runK
 have h : IntKind.u8.wrap ((BitVec.ofInt IntKind.u8.bits (b.toNat : Int) ^^^ BitVec.ofInt IntKind.u8.bits 54).toNat : Int) = ((b ^^^ 54).toNat : Int):=u8_xor b 54
 simp only [d6d,h,EVC,EVA,Nat.reduceEqDiff,eqOp,eqA,a1w,lenA,a1a,a0j,pt,a0n,Nat.reduceSub,Nat.reduceGT,Nat.reduceLT,Nat.reduceAdd,hand,a3e,a0u,a1k,freeze,reduceIte,reduceCtorEq,a0m,a0p,isStr,a1x,rep,a2q,a2w,Nat.reduceMul,Nat.reduceLeDiff]
theorem j5t (hC : Has C b8i d4k) (b : UInt8) (σ : St) : semF C b8i [.int .u8 (b.toNat : Int)] σ = some (.int .u8 ((b ^^^ 92).toNat : Int),σ):=by
 rw [hC.run]
 unfold runK
 have h : IntKind.u8.wrap ((BitVec.ofInt IntKind.u8.bits (b.toNat : Int) ^^^ BitVec.ofInt IntKind.u8.bits 92).toNat : Int) = ((b ^^^ 92).toNat : Int):=u8_xor b 92
 simp only [d4k,h,EVC,EVA,Nat.reduceEqDiff,eqOp,eqA,a1w,lenA,a1a,a0j,pt,a0n,Nat.reduceSub,Nat.reduceGT,Nat.reduceLT,Nat.reduceAdd,hand,a3e,a0u,a1k,freeze,reduceIte,reduceCtorEq,a0m,a0p,isStr,a1x,rep,a2q,a2w,Nat.reduceMul,Nat.reduceLeDiff]
def e2k (c : UInt8) : Nat → Nat → List UInt8 → List UInt8
 | 0,_,l=>l
 | n + 1,i,l=>e2k c n (i + 1) (l.set i (l.getD i 0 ^^^ c))
theorem b6u (c : UInt8) : ∀ (n i : Nat) (l : List UInt8),(e2k c n i l).length = l.length
 | 0,_,_=>rfl
 | n + 1,i,l=>by unfold e2k; rw [b6u c n,List.length_set]
theorem bytes_at (l : List UInt8) (i : Nat) (h : i < l.length) : ((ofBytes l).drop i).head? = some (.int .u8 ((l.getD i 0).toNat : Int)):=by
 unfold ofBytes
 rw [List.head?_drop,List.getElem?_map,List.getElem?_eq_getElem h,List.getD_eq_getElem?_getD,List.getElem?_eq_getElem h]
 rfl
theorem d7k (f : FuncId) (c : UInt8) (hf : ∀ (b : UInt8) (σ : St),semF C f [.int .u8 (b.toNat : Int)] σ = some (.int .u8 ((b ^^^ c).toNat : Int),σ)) (σ : St) :
  ∀ (n i : Nat) (l : List UInt8),i + n = 64 → l.length = 64 →
  b1k C (semF C) 19 [1,2,6] a7y [(1,.func (.func f) [] []),(2,.ref σ.length 0),(6,.int .i64 i)] (σ ++ [.cells (ofBytes l) ⟨false,none⟩]) =
   some (.exit 0,[(2,.ref σ.length 0)],σ ++ [.cells (ofBytes (e2k c n i l)) ⟨false,none⟩])
 | 0,i,l,hi,hl=>by
   rw [a3h (he:=rfl)]
   have h : ¬ ((i : Int) < 64):=by omega
   simp only [a7y,h,e2k,EVC,EVA,Nat.reduceEqDiff,eqOp,eqA,a1w,lenA,a1a,a0j,pt,a0n,Nat.reduceSub,Nat.reduceGT,Nat.reduceLT,Nat.reduceAdd,hand,a3e,a0u,a1k,freeze,reduceIte,reduceCtorEq,a0m,a0p,isStr,a1x,rep,a2q,a2w,Nat.reduceMul,Nat.reduceLeDiff]
 | n + 1,i,l,hi,hl=>by
   rw [a3h (he:=rfl)]
   generalize hk : b1k C (semF C) 19 [1,2,6] a7y = rest
   have h : ((i : Int) < 64):=by omega
   have w5 : IntKind.i64.wrap ((i : Int) + 1) = ((i + 1 : Nat) : Int):=by rw [w64] <;> omega
   have p1 : ∀ j : Nat,(0 : Int) ≤ (j : Int):=fun j=>by omega
   have l5 : i < 64:=by omega
   have l6 : i + 1 ≤ 64:=by omega
   have a0:=bytes_at l i (by omega)
   have s1:=e0y l i (l.getD i 0 ^^^ c) (by omega)
   simp only [a7y,h,w5,p1,l5,l6,a0,s1,hf,hl,b8g,a0k,a3w,a6y,Int.toNat_natCast,EVC,EVA,Nat.reduceEqDiff,eqOp,eqA,a1w,lenA,a1a,a0j,pt,a0n,Nat.reduceSub,Nat.reduceGT,Nat.reduceLT,Nat.reduceAdd,hand,a3e,a0u,a1k,freeze,reduceIte,reduceCtorEq,a0m,a0p,isStr,a1x,rep,a2q,a2w,Nat.reduceMul,Nat.reduceLeDiff]
   rw [← hk]
   exact d7k f c hf σ n (i + 1) _ (by omega) (by rw [List.length_set,hl])
theorem e1v (hC : Has C b0w c1h) (f : FuncId) (c : UInt8) (hf : ∀ (b : UInt8) (σ : St),semF C f [.int .u8 (b.toNat : Int)] σ = some (.int .u8 ((b ^^^ c).toNat : Int),σ)) (σ : St) (hσ : Ok σ) (l : List UInt8) (hl : l.length = 64) :
  semF C b0w [.agg (ofBytes l),.func (.func f) [] []] σ = some (.str (e2k c 64 0 l),σ):=by
 rw [hC.run]
 unfold runK
 have hn : ∀ (r) (l : List UInt8),a0u σ r (ofBytes l) = some (ofBytes l,[]):=by
  intro r l
  induction l with
  | nil=>rfl
  | cons b l ih=>
    show (match a1k σ r (.int .u8 (b.toNat : Int)),a0u σ r (ofBytes l) with | some (v,fs),some (l,gs)=>some (v :: l,fs ++ gs) | _,_=>none) = _
    rw [ih]
    rfl
 have q:=d7k f c hf σ 64 0 l (by omega) hl
 simp only [Int.cast_ofNat_Int] at q
 obtain ⟨r,hr⟩ : ∃ r,r = e2k c 64 0 l:=⟨_,rfl⟩
 rw [← hr] at q ⊢
 have lr : r.length = 64:=by rw [hr,b6u,hl]
 have bt:=b8v r
 have tk : (ofBytes r).take 64 = ofBytes r:=List.take_of_length_le (by rw [a0k]; omega)
 have ty : ∀ x,tidy σ.length [.str r] (σ ++ [x]) = σ:=fun x=>c0p hσ rfl _
 simp only [c1h,hn,q,lr,bt,tk,ty,a0k,a3w,EVC,EVA,Nat.reduceEqDiff,eqOp,eqA,a1w,lenA,a1a,a0j,pt,a0n,Nat.reduceSub,Nat.reduceGT,Nat.reduceLT,Nat.reduceAdd,hand,a3e,a0u,a1k,freeze,reduceIte,reduceCtorEq,a0m,a0p,isStr,a1x,rep,a2q,a2w,Nat.reduceMul,Nat.reduceLeDiff]
end Go.Ev
namespace Go.Ev
set_option maxRecDepth 100000
set_option linter.unusedSimpArgs false
variable {C : Ctx}
theorem d6g (σ : St) (r) : ∀ l : List UInt8,a0u σ r (ofBytes l) = some (ofBytes l,[])
 | []=>rfl
 | b :: l=>by
   show (match a1k σ r (.int .u8 (b.toNat : Int)),a0u σ r (ofBytes l) with | some (v,fs),some (l,gs)=>some (v :: l,fs ++ gs) | _,_=>none) = _
   rw [d6g σ r l]
   rfl
def a8a (key : List UInt8) : List UInt8:=lay b3f 0 ((if key.length > 64 then b1i key else key))
theorem c3w (key : List UInt8) : (a8a key).length = 64:=by
 unfold a8a
 have : b3f.length = 64:=rfl
 rw [d4q,this]
 split
 ·rw [b4i,this]; omega
 ·rw [this]; omega
theorem i1n {part s : List UInt8} {used : Nat} (h : used + s.length ≤ part.length) : splice (ofBytes part) used (ofBytes s) = ofBytes (lay part used s):=by
 unfold splice lay ofBytes
 simp
theorem g7e (e : As) (σ : St) (t : Nat) (ag : Bool) (sz : Nat) (l : List XR) : resL e σ (.cell t ag sz :: l) = match look e t,resL e σ l with
  | .ref o off,some vs=>match σ[o]? with
    | some (.cells c _)=>match pt ag sz (c.drop off) with
      | some v=>some (v :: vs)
      | none=>none
    | _=>none
  | _,_=>none:=rfl
theorem h8i (hC : Has C b9v c1b) (h : h2a C) (key : List UInt8) (hk : key.length ≤ 1099511627776) (σ : St) (hσ : Ok σ) :
  semF C b9v [.str key] σ = some (.agg (ofBytes (a8a key)),σ):=by
 rw [hC.run]
 unfold runK
 have z : ∀ τ : St,τ ++ [AO.cells [.int .u8 0,.int .u8 0,.int .u8 0,.int .u8 0,.int .u8 0,.int .u8 0,.int .u8 0,.int .u8 0,.int .u8 0,.int .u8 0,.int .u8 0,.int .u8 0,.int .u8 0,.int .u8 0,.int .u8 0,.int .u8 0,.int .u8 0,.int .u8 0,.int .u8 0,.int .u8 0,.int .u8 0,.int .u8 0,.int .u8 0,.int .u8 0,.int .u8 0,.int .u8 0,.int .u8 0,.int .u8 0,.int .u8 0,.int .u8 0,.int .u8 0,.int .u8 0,.int .u8 0,.int .u8 0,.int .u8 0,.int .u8 0,.int .u8 0,.int .u8 0,.int .u8 0,.int .u8 0,.int .u8 0,.int .u8 0,.int .u8 0,.int .u8 0,.int .u8 0,.int .u8 0,.int .u8 0,.int .u8 0,.int .u8 0,.int .u8 0,.int .u8 0,.int .u8 0,.int .u8 0,.int .u8 0,.int .u8 0,.int .u8 0,.int .u8 0,.int .u8 0,.int .u8 0,.int .u8 0,.int .u8 0,.int .u8 0,.int .u8 0,.int .u8 0] ⟨false,none⟩] = τ ++ [AO.cells (ofBytes b3f) ⟨false,none⟩]:=fun _=>rfl
 have ok1 : ∀ {τ : St},Ok τ → Ok (τ ++ [.cells (ofBytes b3f) ⟨false,none⟩]):=fun {τ} h=>h.app (by simp [AO.below,a6h])
 have lz : b3f.length = 64:=rfl
 obtain ⟨s,hs⟩ : ∃ s,s = (if key.length > 64 then b1i key else key):=⟨_,rfl⟩
 have ls : s.length ≤ 64:=by rw [hs]; split; (rw [b4i]; omega); omega
 have mn : min s.length 64 = s.length:=by omega
 have tk : (ofBytes s).take s.length = ofBytes s:=List.take_of_length_le (by rw [a0k]; omega)
 have hb : a8a key = lay b3f 0 s:=by unfold a8a; rw [hs]
 have lb:=c3w key
 have sp:=i1n (part:=b3f) (used:=0) (s:=s) (by rw [lz]; omega)
 rw [← hb] at sp
 have tkb : (ofBytes (a8a key)).take 64 = ofBytes (a8a key):=List.take_of_length_le (by rw [a0k]; omega)
 have spa : splice (ofBytes b3f) 0 (ofBytes (a8a key)) = ofBytes (a8a key):=b8k _ _ (by rw [a0k,a0k,lb,lz])
 have e3 : ∀ x y z : AO,(σ ++ [x] ++ [y]).set σ.length z = σ ++ [z] ++ [y]:=fun x y z=>by
  rw [List.set_append_left _ _ (by simp),a6y]
 have g3 : ∀ x y : AO,(σ ++ [x] ++ [y])[σ.length]? = some x:=fun x y=>b8e (a3w _ _) _
 have ty : ∀ x y,tidy σ.length [.agg (ofBytes (a8a key))] (σ ++ [x] ++ [y]) = σ:=fun x y=>by
  rw [List.append_assoc]
  exact c0p hσ (by simp [a1h,below,a6h]) _
 by_cases hg : key.length > 64
 ·have q:=g0t h key hk (σ ++ [.cells (ofBytes b3f) ⟨false,none⟩] ++ [.cells (ofBytes b3f) ⟨false,none⟩]) (ok1 (ok1 hσ))
  rw [if_pos hg] at hs
  rw [← hs] at q
  have hg' : ((key.length : Int) > 64):=by omega
  simp only [c1b,z,hg',q,lz,mn,tk,sp,spa,tkb,lb,ls,e3,g3,ty,a3w,a6y,d6g,g7e,a0k,b2q,EVC,EVA,Nat.reduceEqDiff,eqOp,eqA,a1w,lenA,a1a,a0j,pt,a0n,Nat.reduceSub,Nat.reduceGT,Nat.reduceLT,Nat.reduceAdd,hand,a3e,a0u,a1k,freeze,reduceIte,reduceCtorEq,a0m,a0p,isStr,a1x,rep,a2q,a2w,Nat.reduceMul,Nat.reduceLeDiff]
 ·rw [if_neg hg] at hs
  have hg' : ¬ ((key.length : Int) > 64):=by omega
  rw [hs] at *
  simp only [c1b,z,hg',lz,mn,tk,sp,spa,tkb,lb,ls,e3,g3,ty,a3w,a6y,d6g,g7e,a0k,b2q,EVC,EVA,Nat.reduceEqDiff,eqOp,eqA,a1w,lenA,a1a,a0j,pt,a0n,Nat.reduceSub,Nat.reduceGT,Nat.reduceLT,Nat.reduceAdd,hand,a3e,a0u,a1k,freeze,reduceIte,reduceCtorEq,a0m,a0p,isStr,a1x,rep,a2q,a2w,Nat.reduceMul,Nat.reduceLeDiff]
def hmac (key s : List UInt8) : List UInt8:=b1i (e2k 92 64 0 (a8a key) ++ b1i (e2k 54 64 0 (a8a key) ++ s))
structure i6z (C : Ctx) : Prop where
 sha : h2a C
 block : Has C b9v c1b
 combine : Has C b0w c1h
 of : Has C a1j h2m
 of1 : Has C b8n d6d
 of2 : Has C b8i d4k
theorem j2n (h : i6z C) (key s : List UInt8) (hk : key.length ≤ 1099511627776) (hs : s.length ≤ 1099511627000) (σ : St) (hσ : Ok σ) :
  semF C a1j [.str key,.str s] σ = some (.str (hmac key s),σ):=by
 rw [h.of.run]
 unfold runK
 have z : ∀ τ : St,τ ++ [AO.cells [.int .u8 0,.int .u8 0,.int .u8 0,.int .u8 0,.int .u8 0,.int .u8 0,.int .u8 0,.int .u8 0,.int .u8 0,.int .u8 0,.int .u8 0,.int .u8 0,.int .u8 0,.int .u8 0,.int .u8 0,.int .u8 0,.int .u8 0,.int .u8 0,.int .u8 0,.int .u8 0,.int .u8 0,.int .u8 0,.int .u8 0,.int .u8 0,.int .u8 0,.int .u8 0,.int .u8 0,.int .u8 0,.int .u8 0,.int .u8 0,.int .u8 0,.int .u8 0,.int .u8 0,.int .u8 0,.int .u8 0,.int .u8 0,.int .u8 0,.int .u8 0,.int .u8 0,.int .u8 0,.int .u8 0,.int .u8 0,.int .u8 0,.int .u8 0,.int .u8 0,.int .u8 0,.int .u8 0,.int .u8 0,.int .u8 0,.int .u8 0,.int .u8 0,.int .u8 0,.int .u8 0,.int .u8 0,.int .u8 0,.int .u8 0,.int .u8 0,.int .u8 0,.int .u8 0,.int .u8 0,.int .u8 0,.int .u8 0,.int .u8 0,.int .u8 0] ⟨false,none⟩] = τ ++ [AO.cells (ofBytes b3f) ⟨false,none⟩]:=fun _=>rfl
 have q0:=h8i h.block h.sha key hk σ hσ
 have lb:=c3w key
 obtain ⟨b,hb⟩ : ∃ b,b = a8a key:=⟨_,rfl⟩
 rw [← hb] at q0 lb
 have ok1 : Ok (σ ++ [.cells (ofBytes b) ⟨false,none⟩]):=hσ.app (by simp [AO.below,a6h])
 have q1:=e1v h.combine b8n 54 (j6i h.of1) _ ok1 b lb
 have q2:=e1v h.combine b8i 92 (j5t h.of2) _ ok1 b lb
 have l1:=b6u 54 64 0 b
 have l2:=b6u 92 64 0 b
 obtain ⟨x,hx⟩ : ∃ x,x = e2k 54 64 0 b:=⟨_,rfl⟩
 obtain ⟨y,hy⟩ : ∃ y,y = e2k 92 64 0 b:=⟨_,rfl⟩
 rw [← hx] at q1 l1
 rw [← hy] at q2 l2
 have q3:=g0t h.sha (x ++ s) (by rw [List.length_append,l1,lb]; omega) _ ok1
 have q4:=g0t h.sha (y ++ b1i (x ++ s)) (by rw [List.length_append,l2,lb,b4i]; omega) _ ok1
 have e : hmac key s = b1i (y ++ b1i (x ++ s)):=by unfold hmac; rw [hy,hx,hb]
 rw [e]
 have b1 : b9d .add x s = some (.str (x ++ s)):=by unfold b9d; dsimp only; rw [if_neg (by omega)]
 have b2 : b9d .add y (b1i (x ++ s)) = some (.str (y ++ b1i (x ++ s))):=by unfold b9d; dsimp only; rw [if_neg (by rw [b4i]; omega)]
 have spa : splice (ofBytes b3f) 0 (ofBytes b) = ofBytes b:=b8k _ _ (by rw [a0k,a0k,lb]; rfl)
 have lz : b3f.length = 64:=rfl
 have tkb : (ofBytes b).take 64 = ofBytes b:=List.take_of_length_le (by rw [a0k]; omega)
 have ty : ∀ v w,tidy σ.length [.str v] (σ ++ [w]) = σ:=fun v w=>c0p hσ rfl _
 simp only [h2m,z,q0,q1,q2,q3,q4,b1,b2,spa,lz,tkb,lb,ty,a3w,a6y,a0k,b2q,EVC,EVA,Nat.reduceEqDiff,eqOp,eqA,a1w,lenA,a1a,a0j,pt,a0n,Nat.reduceSub,Nat.reduceGT,Nat.reduceLT,Nat.reduceAdd,hand,a3e,a0u,a1k,freeze,reduceIte,reduceCtorEq,a0m,a0p,isStr,a1x,rep,a2q,a2w,Nat.reduceMul,Nat.reduceLeDiff]
end Go.Ev
