import Derived.Test.YthhlipkkjippfaaGreatDoorX6
set_option linter.all false
namespace Go.Proofs.YthhlipkkjippfaaGreatDoor
open Go Go.ak Go.Sy
variable [nc]
set_option maxRecDepth 100000
noncomputable def Jn:=bk [tI,tI] [.st 0] l7 [] Tryz.func21
noncomputable def RQ:=bk [] [.st 13,.st 14] GC [Jn] Tryz.func29
noncomputable def Tp:=bk [.st 21] [.bool] BV [] Tryz.func130
noncomputable def To:=bk [.st 8,.box (.st 9)] [.bool] GP [] Tryz.func222
noncomputable def Ua:=bk [.list (.st 8),.aH 222 (.box (.st 9))] [tI] G6 [To] Tryz.func226
noncomputable def TS:=bk [.list (.st 8),.aH 222 (.box (.st 9))] [.bool] Cb [Ua] Tryz.func221
noncomputable def Tn:=bk [.st 21] [.bool] BU [TS] Tryz.func131
noncomputable def Tw:=bk [.st 8,.box tI] [.bool] GR [] Tryz.func278
noncomputable def Ub:=bk [.list (.st 8),.aH 278 (.box tI)] [tI] G7 [Tw] Tryz.func226
noncomputable def TT:=bk [.list (.st 8),.aH 278 (.box tI)] [.bool] GX [Ub] Tryz.func221
noncomputable def Tv:=bk [.st 21,tI] [.bool] uT [TT] Tryz.func223
noncomputable def Tt:=bk [.st 21] [.bool] BX [Tv] Tryz.func132
noncomputable def Tq:=bk [.st 21,.st 10] [.bool] BW [] Tryz.func224
noncomputable def Tl:=bk [.st 21] [.bool] BT [Tq] Tryz.func133
noncomputable def JX:=bk [.st 21] [.aH 135 (.box (.st 21))] GS [] Tryz.func61
noncomputable def JV:=bk [.st 21,tI,tI,.bool] [.aH 225 (.aL (.box tI) (.aL (.box tI) (.aL (.box (.st 21)) (.box (.bool)))))] xP [] Tryz.func137
noncomputable def Ts:=bk [.st 9,.box tI,.box tI] [.bool] GQ [] Tryz.func280
noncomputable def T4:=bk [.list (.st 9),.aH 280 (.aL (.box tI) (.box tI))] [tI] G3 [Ts] Tryz.func306
noncomputable def TO:=bk [.list (.st 9),.aH 280 (.aL (.box tI) (.box tI))] [.bool] GW [T4] Tryz.func279
noncomputable def JW:=bk [.st 21,tI,tI] [.bool] jg [TO] Tryz.func228
noncomputable def Tu:=bk [.st 21] [.bool] BY [JX,JV,JW] Tryz.func134
noncomputable def Tk:=bk [.st 11] [.bool] BS [Tp,Tn,Tt,Tl,Tu] Tryz.func60
noncomputable def Tj:=bk [.st 10,.box (.st 19)] [.bool] GO [] Tryz.func62
noncomputable def T3:=bk [.list (.st 10),.aH 62 (.box (.st 19))] [tI] G2 [Tj] Tryz.func138
noncomputable def TN:=bk [.list (.st 10),.aH 62 (.box (.st 19))] [.bool] ji [T3] Tryz.func63
noncomputable def JU:=bk [.st 11] [.list (.st 19),tI] uS [Tk,JX,JV,TN,JW] Tryz.func26
noncomputable def tg:=bk [.st 0] [.bool] mM [JS] Tryz.func66
noncomputable def RA:=bk [.st 0] [.bool] AZ [tg] Tryz.func261
noncomputable def Jv:=bk [tI,tI,tI] [.bool] sn [] Tryz.func240
noncomputable def oA:=bk [.st 3] [.bool] iH [Jv] Tryz.func158
noncomputable def Rz:=bk [.st 16] [.bool] AY [RA,oA] Tryz.func185
noncomputable def RB:=bk [.st 16] [.bool] Gy [Rz] Tryz.func184
noncomputable def TZ:=bk [.list (.st 16),.fn 184] [.bool] Ce [RB] Tryz.func146
noncomputable def y1:=bk [.st 18] [.bool] sf [TZ] Tryz.func95
noncomputable def TM:=bk [.list tI] [.aH 231 (.box (.list tI))] N9 [] Tryz.func145
noncomputable def TY:=bk [.list (.st 16),.aH 147 (.box tI)] [.bool] Cd [] Tryz.func146
noncomputable def Rs:=bk [.st 17,.box (.list tI)] [.aH 148 (.box tI)] AT [TM,TY] Tryz.func144
noncomputable def RE:=bk [.st 17,.box (.aH 144 (.box (.list tI)))] [.st 17] xb [Rs] Tryz.func208
noncomputable def Rw:=bk [.list (.st 17),.aH 208 (.box (.aH 144 (.box (.list tI))))] [.list (.st 17)] Gx [RE] Tryz.func207
noncomputable def RG:=bk [.st 18,.aH 144 (.box (.list tI))] [.st 18] GA [Rw] Tryz.func117
noncomputable def Jm:=bk [.st 18,.list tI] [.st 18,tI] ph [y1,RG] Tryz.func67
noncomputable def vR:=bk [tI,tI,tI] [.bool] jh [] Tryz.func194
noncomputable def JZ:=bk [tI] [.bool] uU [vR] Tryz.func110
noncomputable def RV:=bk [.st 0] [.bool] xg [tg] Tryz.func139
noncomputable def DH:=bk [.st 0,.st 0] [tI,tI] sq [tg] Tryz.func28
noncomputable def RW:=bk [.st 0,.st 0] [.bool] xh [DH] Tryz.func140
noncomputable def Jo:=bk [.list (.st 1)] [.bool] xf [RV,RW] Tryz.func64
noncomputable def Jt:=bk [.st 2] [.bool] sj [Jv] Tryz.func284
noncomputable def y2:=bk [.st 2] [.st 2,tI] pj [Jt] Tryz.func238
noncomputable def RN:=bk [.st 2] [.bool] GB [y2] Tryz.func315
noncomputable def DB:=bk [.st 2] [tI,tI] uD [RN] Tryz.func301
noncomputable def TH:=bk [.st 2] [.bool] sr [DB,vR] Tryz.func265
noncomputable def Ju:=bk [.st 3] [tI] qC [] Tryz.func159
noncomputable def tf:=bk [.st 3] [tI,tI] mK [oA,Ju] Tryz.func74
noncomputable def JY:=bk [.st 3] [tI] nX [tf] Tryz.func202
noncomputable def TE:=bk [.st 4] [.bool] B4 [JZ,vR,TH,oA,JY] Tryz.func195
noncomputable def TA:=bk [.st 4,.box (.map tI (.st 4))] [.bool] B2 [] Tryz.func196
noncomputable def T7:=bk [.list (.st 4),.aH 196 (.box (.map tI (.st 4)))] [tI] Cf [TA] Tryz.func152
noncomputable def TR:=bk [.list (.st 4),.aH 196 (.box (.map tI (.st 4)))] [.bool] Ca [T7] Tryz.func197
noncomputable def Tz:=bk [.list (.st 4)] [.bool] B0 [vR,TE,TR] Tryz.func111
noncomputable def Jq:=bk [.list (.st 1)] [.map tI tI] xj [] Tryz.func198
noncomputable def Jr:=bk [.st 0] [tI,.bool] qB [tg] Tryz.func266
noncomputable def DD:=bk [tI,tI,tI] [.bool] si [] Tryz.func268
noncomputable def R1:=bk [tI] [.bool] xk [DD] Tryz.func267
noncomputable def R2:=bk [.st 3] [.bool] A9 [oA,DD] Tryz.func269
noncomputable def RZ:=bk [.st 1,.st 5] [.bool] A8 [Jr,R1,DD,R2] Tryz.func199
noncomputable def Jp:=bk [.list (.st 1),.list (.st 5)] [.bool] xi [Jo,Jq,RZ] Tryz.func112
noncomputable def TK:=bk [.st 5,.box (.map tI (.st 4))] [.bool] B6 [] Tryz.func200
noncomputable def T5:=bk [.list (.st 5),.aH 200 (.box (.map tI (.st 4)))] [tI] G4 [TK] Tryz.func270
noncomputable def TP:=bk [.list (.st 5),.aH 200 (.box (.map tI (.st 4)))] [.bool] B8 [T5] Tryz.func203
noncomputable def TL:=bk [.st 5,.box (.map tI (.st 4))] [.bool] B7 [JY,vR] Tryz.func201
noncomputable def T6:=bk [.list (.st 5),.aH 201 (.box (.map tI (.st 4)))] [tI] G5 [TL] Tryz.func270
noncomputable def TQ:=bk [.list (.st 5),.aH 201 (.box (.map tI (.st 4)))] [.bool] B9 [T6] Tryz.func203
noncomputable def TJ:=bk [.list (.st 4),.list (.st 5)] [tI] xQ [TP,TQ] Tryz.func113
noncomputable def T2:=bk [.list (.st 5),.list (.st 5)] [.bool] G1 [] Tryz.func115
noncomputable def TF:=bk [.st 4] [tI] GV [] Tryz.func150
noncomputable def TB:=bk [.st 4,.box (.fn 150),.box tI] [.bool] GU [TF] Tryz.func233
noncomputable def T8:=bk [.list (.st 4),.aH 233 (.aL (.box (.fn 150)) (.box tI))] [tI] Cg [TB] Tryz.func152
noncomputable def TC:=bk [.list (.st 4),tI,.fn 150] [tI,.bool] B3 [T8] Tryz.func149
noncomputable def TG:=bk [.st 6,.st 4] [.aH 234 (.aL (.box (.st 6)) (.aL (.box tI) (.box (.st 4))))] B5 [] Tryz.func151
noncomputable def Ul:=bk [.st 4,.box tI] [.bool] Hd [] Tryz.func153
noncomputable def T9:=bk [.list (.st 4),.aH 153 (.box tI)] [tI] Ch [Ul] Tryz.func152
noncomputable def DI:=bk [.st 6,tI] [.st 23,.bool] uX [T9] Tryz.func69
noncomputable def RM:=bk [tI,tI] [.bool] uB [] Tryz.func307
noncomputable def RK:=bk [.st 3] [tI] xc [tf] Tryz.func308
noncomputable def DA:=bk [.st 4] [.bool] uC [DB,RM,oA,RK] Tryz.func282
noncomputable def RO:=bk [tI] [.bool] sg [] Tryz.func309
noncomputable def DC:=bk [tI,.st 2] [tI,.st 2,tI] uE [DB,RO] Tryz.func283
noncomputable def R5:=bk [.st 3] [tI] GF [] Tryz.func286
noncomputable def R6:=bk [tI,tI] [tI,tI] Bb [] Tryz.func285
noncomputable def Js:=bk [.st 3,.st 2] [.st 3,tI] xl [oA,Jt,R5,R6,Ju] Tryz.func239
noncomputable def RJ:=bk [.st 4,tI,.st 3] [.st 3,tI] A4 [DA,y2,DC,oA,Js] Tryz.func235
noncomputable def Up:=bk [.st 23,.st 1,.st 5] [.st 16] x4 [RJ] Tryz.func155
noncomputable def RH:=bk [.st 4,tI] [tI,tI] A2 [DA,y2,DC] Tryz.func179
noncomputable def Kc:=bk [.st 23,.st 1,.list (.st 16)] [.st 17] x2 [RH] Tryz.func90
noncomputable def Ke:=bk [.st 0] [tI] qF [tg] Tryz.func182
noncomputable def Uo:=bk [.st 16] [tI] xZ [tf] Tryz.func180
noncomputable def Rl:=bk [tI] [.bool] AR [] Tryz.func260
noncomputable def Jl:=bk [tI,tI] [tI] qA [Rl] Tryz.func181
noncomputable def yZ:=bk [.list tI] [tI] se [] Tryz.func77
noncomputable def Un:=bk [.st 16,.st 16] [tI] xY [Ke,Jl,Uo,yZ] Tryz.func92
noncomputable def Uf:=bk [.list (.st 16),.fn 92] [.bool] Ci [Un] Tryz.func91
noncomputable def Uq:=bk [tI,tI,tI] [.bool] x5 [] Tryz.func183
noncomputable def Um:=bk [.st 16,.st 0] [.bool] xX [Uq,Ke,oA] Tryz.func93
noncomputable def RI:=bk [.st 4,tI,.st 3] [.st 3,tI] A3 [DA,y2,DC,oA,Js] Tryz.func156
noncomputable def Tf:=bk [.box (.st 0),.box (.st 0)] [.st 20] GM [] Tryz.func53
noncomputable def Tg:=bk [.st 20] [.st 0,tI] BR [JS,JT] Tryz.func124
noncomputable def Th:=bk [.st 0,.st 0,.aH 53 (.aL (.box (.st 0)) (.box (.st 0)))] [.st 0,tI] GN [tg,Tf,Tg] Tryz.func52
noncomputable def JR:=bk [.st 0,.st 0] [.st 0,tI] kh [Th] Tryz.func23
noncomputable def RT:=bk [.map tI (.bool)] [.aH 276 (.box (.map tI (.bool)))] N4 [] Tryz.func206
noncomputable def Ro:=bk [.st 17,.box tI] [.aH 119 (.box tI)] N3 [] Tryz.func118
noncomputable def RD:=bk [.st 17,.box (.aH 118 (.box tI))] [.st 17] xa [Ro] Tryz.func208
noncomputable def Rv:=bk [.list (.st 17),.aH 208 (.box (.aH 118 (.box tI)))] [.list (.st 17)] Gw [RD] Tryz.func207
noncomputable def RF:=bk [.st 18,.aH 118 (.box tI)] [.st 18] Gz [Rv] Tryz.func117
noncomputable def Rn:=bk [.st 18,tI] [.st 18,tI] w8 [y1,RF] Tryz.func47
noncomputable def Rq:=bk [.st 18] [.bool] Gt [y1] Tryz.func94
noncomputable def Uc:=bk [.list (.st 18),.fn 94] [tI] G8 [Rq] Tryz.func89
noncomputable def TU:=bk [.list (.st 18),.fn 94] [.bool] Cc [Uc] Tryz.func39
noncomputable def Ry:=bk [.st 17,.st 17] [.bool] AW [] Tryz.func187
noncomputable def T1:=bk [.list (.st 17),.list (.st 17),.fn 187] [.bool] G0 [Ry] Tryz.func186
noncomputable def Rx:=bk [.st 18,.st 18] [.bool] AV [T1] Tryz.func97
noncomputable def Rr:=bk [.st 18,.box (.list (.st 18))] [.bool] Gu [Rx] Tryz.func96
noncomputable def Ud:=bk [.list (.st 18),.aH 96 (.box (.list (.st 18)))] [tI] G9 [Rr] Tryz.func89
noncomputable def TV:=bk [.list (.st 18),.aH 96 (.box (.list (.st 18)))] [.bool] GY [Ud] Tryz.func39
noncomputable def RU:=bk [.map tI (.st 16)] [.aH 190 (.box (.map tI (.st 16)))] N5 [] Tryz.func99
noncomputable def JP:=bk [.list (.st 15),.list (.st 15)] [.bool] mL [] Tryz.func13
noncomputable def Sw:=bk [.st 11] [.bool] Bp [] Tryz.func30
noncomputable def S9:=bk [.st 13,.st 14] [.bool] BN [Sw] Tryz.func9
noncomputable def SN:=bk [.st 18] [.bool] BA [] Tryz.func31
noncomputable def RR:=bk [.list (.st 18)] [.bool] A6 [SN] Tryz.func10
noncomputable def JB:=bk [tI,tI] [tI] xt [] Tryz.func171
noncomputable def pU:=bk [.st 0] [tI] fR [JB] Tryz.func85
noncomputable def JA:=bk [.list (.st 1)] [.bool] xr [pU] Tryz.func54
noncomputable def y5:=bk [tI,tI,tI] [.bool] l8 [] Tryz.func56
noncomputable def Sc:=bk [tI,tI,tI] [.bool] Bf [] Tryz.func333
noncomputable def Sa:=bk [.st 2] [.bool] GI [Sc] Tryz.func305
noncomputable def Jz:=bk [.st 2] [tI,tI] xo [Sa] Tryz.func277
noncomputable def Ss:=bk [.st 2] [.bool] Bn [Jz,y5] Tryz.func217
noncomputable def DE:=bk [tI,tI,tI] [.bool] pk [] Tryz.func256
noncomputable def pT:=bk [.st 3] [.bool] jF [DE] Tryz.func175
noncomputable def R9:=bk [tI] [tI] GH [] Tryz.func264
noncomputable def qY:=bk [.st 3] [tI] fQ [R9] Tryz.func192
noncomputable def Sn:=bk [.st 4] [.bool] Bj [y5,Ss,pT,qY] Tryz.func125
noncomputable def y4:=bk [.list (.st 4),tI] [tI] qD [] Tryz.func101
noncomputable def Sp:=bk [.list (.st 4)] [.bool] Bl [Sn,y4] Tryz.func55
noncomputable def JC:=bk [.list (.st 1),tI] [tI] xu [] Tryz.func218
noncomputable def R7:=bk [.st 3] [.bool] Bd [pT,DE] Tryz.func219
noncomputable def Sj:=bk [tI,tI,tI] [.bool] uH [] Tryz.func220
noncomputable def Sh:=bk [.list (.st 1),.st 5] [.bool] Bh [JC,R7,Sj,pU] Tryz.func126
noncomputable def Si:=bk [.list (.st 1),.list (.st 5)] [.bool] Bi [JA,Sh] Tryz.func57
noncomputable def Sm:=bk [.list (.st 4),.st 5] [tI] uI [y4] Tryz.func127
noncomputable def Sr:=bk [.st 4,.st 3] [.bool] GJ [qY,y5] Tryz.func128
noncomputable def Sv:=bk [.list (.st 4),.list (.st 5)] [tI] xw [Sm,Sr] Tryz.func58
noncomputable def Sl:=bk [.list (.st 1),.st 5] [.list tI] xv [JC,pU,qY] Tryz.func129
noncomputable def Sg:=bk [.list (.st 1),.st 5,.st 5] [.bool] Bg [Sl] Tryz.func59
noncomputable def DF:=bk [.st 6] [.bool] uJ [JA,Sp,y5,Si,Sv,Sg] Tryz.func25
noncomputable def SH:=bk [.list (.st 8),tI] [.bool] Bw [] Tryz.func162
noncomputable def SE:=bk [.list (.st 8),tI,tI] [.bool] Bu [] Tryz.func251
noncomputable def SC:=bk [.st 11] [.bool] Bt [SE] Tryz.func163
noncomputable def SJ:=bk [.list (.st 8),tI] [.bool] uL [] Tryz.func252
noncomputable def SF:=bk [.st 11] [.bool] Bv [SJ] Tryz.func164
noncomputable def SB:=bk [.st 11,.st 10] [.bool] xy [] Tryz.func165
noncomputable def SD:=bk [.list (.st 10),.st 10] [tI] xz [] Tryz.func166
noncomputable def SI:=bk [.st 11,tI] [tI] uK [] Tryz.func214
noncomputable def SG:=bk [.st 11,tI,tI] [.bool] pn [] Tryz.func215
noncomputable def JE:=bk [.st 11] [.list tI] xA [SI,SG] Tryz.func51
noncomputable def JD:=bk [.st 11] [.bool] xx [SH,SC,SF,SB,SD,JE] Tryz.func78
noncomputable def y7:=bk [tI,tI,tI] [.bool] po [] Tryz.func120
noncomputable def JN:=bk [.list tI] [.bool] xJ [y7] Tryz.func79
noncomputable def JO:=bk [.st 13,.st 14] [.bool] xM [DF,JD,JN] Tryz.func36
noncomputable def Se:=bk [.st 0] [.bool] xp [pU] Tryz.func193
noncomputable def y6:=bk [.st 18] [.bool] so [y7,Se,pT] Tryz.func107
noncomputable def S3:=bk [.list (.st 16),.list tI] [tI] BI [] Tryz.func167
noncomputable def S2:=bk [.st 18,.list tI] [.st 18,tI] BH [y6,JN,S3] Tryz.func80
noncomputable def SX:=bk [.st 17] [.st 17] GL [] Tryz.func103
noncomputable def SM:=bk [tI,tI,tI] [.bool] xD [] Tryz.func255
noncomputable def DG:=bk [.st 4] [.bool] uM [pT,SM,qY] Tryz.func174
noncomputable def y3:=bk [tI] [.bool] uG [] Tryz.func176
noncomputable def Jy:=bk [.st 2] [.bool] xn [DE] Tryz.func257
noncomputable def Jx:=bk [.st 2] [.st 2,tI] uF [Jy] Tryz.func253
noncomputable def Sb:=bk [tI,.st 2] [tI,.st 2,tI] Be [Jz,y3] Tryz.func292
noncomputable def JH:=bk [.st 4,tI] [tI,.st 2] xE [Jx,Sb] Tryz.func254
noncomputable def JG:=bk [.st 4,tI] [tI,tI] xC [DG,y3,JH] Tryz.func173
noncomputable def SQ:=bk [.st 4,.st 1] [.st 17] BB [JG] Tryz.func87
noncomputable def JM:=bk [.st 17,.st 17] [.bool] xI [] Tryz.func102
noncomputable def SY:=bk [tI,tI,tI] [.bool] xH [] Tryz.func191
noncomputable def SO:=bk [.st 16,.st 0] [.bool] uN [SY,pU,pT] Tryz.func104
noncomputable def SP:=bk [.list (.st 16),tI] [.bool] uO [] Tryz.func105
noncomputable def JJ:=bk [.st 16,.st 16] [.bool] qE [pU,qY] Tryz.func106
noncomputable def JK:=bk [.st 6,.st 18] [.bool] xF [DF,y4,SX,SQ,JM,SO,SP,JJ] Tryz.func43
noncomputable def JF:=bk [.st 4,tI] [.st 2] xB [JH] Tryz.func178
noncomputable def R8:=bk [.st 3] [tI] GG [] Tryz.func258
noncomputable def Jw:=bk [.st 3,.st 2] [.st 3,tI] xm [pT,Jy,R8,qY] Tryz.func177
noncomputable def SK:=bk [.st 4,tI,.st 3] [.st 3,tI] By [DG,pT,y3,JF,Jx,Jw] Tryz.func168
noncomputable def SV:=bk [.st 6,.st 18] [.list (.st 5),tI] BF [JK,y4,SK] Tryz.func81
noncomputable def SA:=bk [.st 11] [.list (.st 19)] Bs [JE] Tryz.func22
noncomputable def Sx:=bk [.st 10,.st 19] [.bool] Bq [] Tryz.func169
noncomputable def Sz:=bk [.st 11] [.list (.st 19),tI] Br [JD,SA,Sx] Tryz.func82
noncomputable def Sf:=bk [tI] [.st 0] xq [JB] Tryz.func84
noncomputable def Td:=bk [.st 15,.st 15] [.bool] BQ [pU,qY] Tryz.func170
noncomputable def Te:=bk [.list (.st 15),.st 15] [.list (.st 15)] xO [Td] Tryz.func83
noncomputable def JQ:=bk [.list (.st 15),.st 13,.st 14,.st 18] [.list (.st 15),tI] uQ [S2,SV,Sz,pU,Sf,Te] Tryz.func37
noncomputable def S6:=bk [.st 18,.st 18] [.bool] BL [] Tryz.func108
noncomputable def S5:=bk [.list (.st 16),.list (.st 16)] [.list (.st 16),.bool] BK [JJ] Tryz.func109
noncomputable def S1:=bk [.list (.st 18)] [.st 18,tI] xL [y6,S6,S5] Tryz.func44
noncomputable def Tc:=bk [.st 13,.st 14,.list (.st 18)] [.list (.st 15),tI] BP [JO,JK,S1,JQ] Tryz.func15
noncomputable def S4:=bk [.st 18,tI] [.bool] BJ [] Tryz.func212
noncomputable def S7:=bk [.st 18] [.list tI] BM [S4] Tryz.func121
noncomputable def SZ:=bk [.st 18,tI] [.list tI,tI] BG [y6,y7,S7] Tryz.func48
noncomputable def S0:=bk [.st 18,tI] [.st 18,tI] xK [y6,y7] Tryz.func49
noncomputable def SU:=bk [.list (.st 16),.list (.st 16)] [.bool] GK [] Tryz.func213
noncomputable def SS:=bk [.list (.st 17),.list (.st 17)] [.bool] BE [JM,SU] Tryz.func122
noncomputable def SR:=bk [.st 18,.st 18] [.bool] BD [SS] Tryz.func50
noncomputable def Ta:=bk [.list (.st 18),.list (.st 18)] [.bool] xN [SR] Tryz.func18
noncomputable def R4:=bk [.st 5,.st 5,.box (.map tI tI)] [tI] GD [Jr,tf,yZ] Tryz.func273
noncomputable def Uj:=bk [.st 3] [tI] xT [tf] Tryz.func73
noncomputable def Uk:=bk [.st 15,.st 15,.box (.fn 73)] [tI] Hc [DH,Uj,yZ] Tryz.func76
noncomputable def Ru:=bk [.st 16,.st 16] [tI] Gv [DH,tf,Jl,yZ] Tryz.func100
end Go.Proofs.YthhlipkkjippfaaGreatDoor
namespace Go.Proofs.YthhlipkkjippfaaGreatDoor
open Go Go.ak Go.Sy
@[reducible] def bX:nc:=⟨False⟩
attribute [local instance] bP bX
def x9:∀(k:Nat)(a b:Int),b.natAbs<=k->0<=a->0<=b->gL a b=(Int.gcd a b:Int)
 |k,a,b,hk,j,B=>by
  by_cases h:b=0
  ·subst h;rw[Cl];simp[Int.gcd];omega
  rw[Hh h,l3 j];have F:0<=a%b:=Int.emod_nonneg _ h;have G:a%b<b:=Int.emod_lt_of_pos _ (by omega)
  match k,hk with
  |0,hk=>omega
  |k+1,hk=>
   rw[x9 k b (a%b) (by omega) B F];congr 1;unfold Int.gcd;have e:(a%b).natAbs=a.natAbs%b.natAbs:=by
    obtain⟨x,rfl⟩:=v7 j;obtain⟨y,rfl⟩:=v7 B;rw[<-Int.natCast_emod];rfl
   rw[e,Nat.gcd_comm,<-Nat.gcd_rec,Nat.gcd_comm]
def N8{n:Int}(h: -1000000000000<=n/\n<=1000000000000):nW n=some (n.natAbs:Int):=by
 unfold nW fk;rw[av (by omega)];congr 1;omega
def jL(q:Rat):Prop:=1<=q.d/\q.d<=1000000 /\ -1000000000<=q.n/\q.n<=1000000000/\Int.gcd q.n q.d=1
instance (q:Rat):Decidable (jL q):=inferInstanceAs (Decidable (_/\_/\_/\_/\_))
def Zu{n d:Int}(F:1<=d)(G:d<=1000000)(M: -1000000000<=n)(N:n<=1000000000):w7 ⟨n,d⟩=some ⟨n.tdiv (Int.gcd n d),d.tdiv (Int.gcd n d)⟩:=by
 unfold w7;rw[N8 (by dsimp only;omega),af,N8 (by dsimp only;omega),af,ag (by simp;omega),x9 _ _ _ (ec _) (by omega) (by omega)];have j:((Int.gcd (n.natAbs:Int) (d.natAbs:Int):Nat):Int)=(Int.gcd n d:Int):=by simp[Int.gcd]
 dsimp only;rw[j];have O:0<Int.gcd n d:=Kn n (by omega);have k:((n.tdiv (Int.gcd n d)).natAbs)<=n.natAbs:=by rw[adX];exact p1 _ _
 have B:((d.tdiv (Int.gcd n d)).natAbs)<=d.natAbs:=by rw[adX];exact p1 _ _
 unfold uA;rw[tT (by omega),tT (by unfold ig;dsimp only;omega),tT (by unfold ig;dsimp only;omega)]
def Ut(a b:Fraction):Ki a b=decide (a=b):=by
 obtain⟨j,k⟩:=a;obtain⟨B,F⟩:=b;rw[gl,ea,Fraction.mk.injEq];show c9 [.int .i64 j,.int .i64 k] [.int .i64 B,.int .i64 F]=true↔_;simp[c9,gB]
def sv(q:Rat):mM q=some (decide (jL q)):=by
 obtain⟨n,d⟩:=q;have G:¬(1<=d/\d<=1000000 /\ -1000000000<=n/\n<=1000000000)->decide (jL ⟨n,d⟩)=false:=λh=>da λk=>h ⟨k.1,k.2.1,k.2.2.1,k.2.2.2.1⟩;unfold mM;dsimp only;rw[N7];by_cases B:d<1
 ·rw[ah (by simp[B]),af,ah rfl,G (by omega)]
 by_cases j:1000000<d
 ·rw[ag (by simp[B]),ah (by simp[j]),af,ah rfl,G (by omega)]
 by_cases F:n < -1000000000
 ·rw[ag (by simp[B]),ag (by simp[j]),ah (by simp[F]),af,ah rfl,G (by omega)]
 rw[ag (by simp[B]),ag (by simp[j]),ag (by simp[F]),af];by_cases h:1000000000<n
 ·rw[ah (by simp[h]),G (by omega)]
 rw[ag (by simp[h]),Zu (by omega) (by omega) (by omega) (by omega),af,Ut];congr 1;rw[gl,ea,ea,Fraction.mk.injEq];have O:0<Int.gcd n d:=Kn n (by omega);constructor
 ·rintro⟨_,j⟩;refine⟨by dsimp only;omega,by dsimp only;omega,by dsimp only;omega,by dsimp only;omega,?_⟩;by_cases N:Int.gcd n d=1
  ·exact N
  exfalso;have F:(d.tdiv (Int.gcd n d)).natAbs=d.natAbs/Int.gcd n d:=by rw[adX];rfl
  rw[j]at F;have:d.natAbs/Int.gcd n d<d.natAbs:=Nat.div_lt_self (by omega) (by omega);omega
 rintro⟨_,_,_,_,M⟩;dsimp only at M;rw[M];simp
def bO(p:aV):Prop:=(0<=p.step/\p.step<=6)/\(-4<=p.alter/\p.alter<=4)/\(-8<=p.aO/\p.aO<=20)
instance (p:aV):Decidable (bO p):=inferInstanceAs (Decidable (_/\_/\_))
def Bc(n lo hi:Int):sn (n,lo,hi)=some (decide (lo<=n/\n<=hi)):=jR n lo hi
def Hp(n lo hi:Int):pk (n,lo,hi)=some (decide (lo<=n/\n<=hi)):=jR n lo hi
def Z5(n lo hi:Int):uH (n,lo,hi)=some (decide (lo<=n/\n<=hi)):=jR n lo hi
def Cy(n lo hi:Int):l8 (n,lo,hi)=some (decide (lo<=n/\n<=hi)):=jR n lo hi
def Gj(n lo hi:Int):si (n,lo,hi)=some (decide (lo<=n/\n<=hi)):=jR n lo hi
def yy(n lo hi:Int):jh (n,lo,hi)=some (decide (lo<=n/\n<=hi)):=jR n lo hi
def YR(n:Int):xk n=some (decide (1<=n/\n<=1000000)):=by unfold xk;rw[Gj,af]
def PH(n:Int):uU n=some (decide (1<=n/\n<=1000000)):=by unfold uU;rw[yy,af]
def mJ(p:aV):iH p=some (decide (bO p)):=by
 unfold iH bO;simp only[Bc,af,yT];exact iL (by simp[mv])
theorem oc(p:aV):jF p=some (decide (bO p)):=by
 unfold jF bO;simp only[Hp,af,yT];exact iL (by simp[mv])
def ur:List Int:=[0,2,4,5,7,9,11]
def gH(n:Int):Int:=(ur[n.toNat]?).getD 0
def num(p:aV):Int:=12*p.aO+gH p.step+p.alter
def r6(n:Int):0<=gH n/\gH n<=11:=by
 unfold gH ur;generalize n.toNat=k;rcases k with _|_|_|_|_|_|_|k<;>simp
def OA{n:Int}(h:0<=n/\n<=6):GH n=some (gH n):=by
 have:n=0\/n=1\/n=2\/n=3\/n=4\/n=5\/n=6:=by omega
 rcases this with rfl|rfl|rfl|rfl|rfl|rfl|rfl<;>rfl
def lr{p:aV}(h:bO p):fQ p=some (num p):=by
 have F:=r6 p.step;obtain⟨j,k,B⟩:=h;unfold fQ;rw[av (by omega),OA j,af,av (by omega),av (by omega)];rfl
def Oj{p:aV}(h:bO p):qC p=some (num p):=by
 obtain⟨⟨j,B⟩,⟨F,G⟩,M,N⟩:=h;have O:=r6 p.step;have k:an [0,2,4,5,7,9,11] p.step=some (gH p.step):=by
  show an ur p.step=_;unfold an gH;rw[if_pos j];have:p.step.toNat<ur.length:=by show _<7;omega
  rw[c5 this];rfl
 unfold qC;rw[av (by omega),aY k,av (by omega),av (by omega)];rfl
def qz(p:aV):mK p=some (if bO p then(num p,0)else(0,1)):=by
 unfold mK;rw[mJ,af];by_cases h:bO p
 ·rw[ag (by simp[h]),if_pos h,Oj h,af]
 rw[ah (by simp[h]),if_neg h]
def yu{p:aV}(h:bO p):nX p=some (num p):=by
 unfold nX;rw[qz,if_pos h,af]
def qx{p:aV}(h:bO p): -1000<=num p/\num p<=1000:=by
 have:=r6 p.step;unfold bO at h;unfold num;omega
def l6(p:aV):Prop:=bO p/\(-2<=p.alter/\p.alter<=2)/\(0<=p.aO/\p.aO<=9)
instance (p:aV):Decidable (l6 p):=inferInstanceAs (Decidable (_/\_/\_))
def ZV(p:aV):Bd p=some (decide (l6 p)):=by
 unfold Bd l6;simp only[oc,Hp,af,yT];exact iL (by simp[mv])
def YS(p:aV):A9 p=some (decide (l6 p)):=by
 unfold A9 l6;simp only[mJ,Gj,af,yT];exact iL (by simp[mv])
def gd(x y:Int):Int:=if x<y then -1 else if y<x then 1 else 0
def CA{a b:Rat}(j:jL a)(k:jL b):sq (a,b)=some (gd (a.n*b.d) (b.n*a.d),0):=by
 unfold sq;simp only[sv,af,rH,j,k,K2,pb,hR,h9];have key:∀{x y:Rat},jL x->jL y -> -9223372036854775808<=x.n*y.d/\x.n*y.d<=9223372036854775807:=by
  intro x y ⟨_,_,B,F,_⟩ ⟨N,O,_⟩;have G:x.n*y.d<=1000000000*y.d:=tb F (by omega);have M: -1000000000*y.d<=x.n*y.d:=tb B (by omega);omega
 rw[av (key j k),av (key k j)];unfold gd;simp only[ea];split
 ·rfl
 split<;>rfl
def bF(q:Rat):Prop:=jL q/\0<=q.n/\Int.tmod 1680 q.d=0
instance (q:Rat):Decidable (bF q):=inferInstanceAs (Decidable (_/\_/\_))
def bz(q:Rat):Int:=q.n*Int.tdiv 1680 q.d
def yA{q:Rat}(h:jL q):0<=Int.tdiv 1680 q.d/\Int.tdiv 1680 q.d<=1680:=by
 have B:=h.1;obtain⟨k,j⟩:∃k:Nat,q.d=k:=⟨q.d.toNat,by omega⟩;rw[j];exact⟨Int.tdiv_nonneg (by omega) (by omega),by
  have:=Int.tdiv_le_self (a:=1680) (k:Int) (by omega);exact this⟩
def kr{q:Rat}(h:bF q):0<=bz q/\bz q<=1680000000000:=by
 obtain⟨j,B,_⟩:=h;obtain⟨k,F⟩:=yA j;have G:=j.2.2.2.1;unfold bz;refine⟨Int.mul_nonneg B k,?_⟩
 calc q.n*Int.tdiv 1680 q.d<=1000000000*1680:=Int.mul_le_mul G F k (by omega)
  _=1680000000000:=by decide
def wZ(q:Rat):qB q=some (if bF q then(bz q,true)else(0,false)):=by
 unfold qB;rw[sv,af];by_cases j:jL q
 ·have M:q.d≠0:=by have:=j.1;omega
  have F:(!(aC q.d 0))=true:=by simp[M]
  rw[ag (by simp[j])];by_cases B:q.n<0
  ·rw[ah (by simp[B]),af,ah rfl,if_neg (by unfold bF;omega)]
  rw[ag (by simp[B]),bG F,af];by_cases k:Int.tmod 1680 q.d=0
  ·have G:bF q:=⟨j,by omega,k⟩;have:=kr G;have:=yA j;unfold bz at *;rw[ag (by simp[k]),bG F,av (by omega),av (by omega),if_pos G]
  rw[ah (by simp[k]),if_neg (by unfold bF;simp[k])]
 rw[ah (by simp[j]),af,ah rfl,if_neg (λh=>j h.1)]
def IE(q:Rat):qF q=some (if bF q then bz q else -1):=by
 unfold qF;rw[sv,af];by_cases j:jL q
 ·have M:q.d≠0:=by have:=j.1;omega
  have F:(!(aC q.d 0))=true:=by simp[M]
  rw[ag (by simp[j])];by_cases B:q.n<0
  ·rw[ah (by simp[B]),af,ah rfl,if_neg (by unfold bF;omega)]
  rw[ag (by simp[B]),bG F,af];by_cases k:Int.tmod 1680 q.d=0
  ·have G:bF q:=⟨j,by omega,k⟩;have:=kr G;have:=yA j;unfold bz at *;rw[ag (by simp[k]),bG F,av (by omega),av (by omega),if_pos G]
  rw[ah (by simp[k]),if_neg (by unfold bF;simp[k])]
 rw[ah (by simp[j]),af,ah rfl,if_neg (λh=>j h.1)]
def OD(a b:Int):xt (a,b)=some (gL a b):=by
 unfold xt;dsimp only;have key:∀(k:Nat)(a b:Int),b.natAbs<=k->aA (λj:(Int×Int)=>ab (!(aC j.2 0)) (ae (!(aC j.2 0)) <|some (.inl (j.2,(Int.tmod j.1 j.2)))) (some (.inr j.1))) (a,b)=some (gL a b):=by
  intro k;induction k with
  |zero=>
   intro a b B;have:b=0:=by omega
   subst this;rw[Cl];exact fj (by dsimp only;rw[ag (by simp)])
  |succ k F=>
   intro a b B;by_cases h:b=0
   ·subst h;rw[Cl];exact fj (by dsimp only;rw[ag (by simp)])
   rw[Hh h,jC (z':=(b,a.tmod b)) (by dsimp only;rw[ah (by simp[h]),bG (by simp[h])])];refine F b _ ?_;have:(a.tmod b).natAbs<b.natAbs:=by rw[adW];exact q6 _ (by omega)
   omega
 rw[key _ a b (ec _),af]
def VZ{d:Int}(B:1<=d)(j:Int.tmod 1680 d=0):d<=1680:=by
 have:=z1 1680 d;rw[j]at this;refine fl λh=>?_;have k:Int.tdiv 1680 d=0:=Int.tdiv_eq_zero_of_lt (by omega) (by omega);rw[k]at this;omega
def jK(q:Rat):fR q=some (if bF q then bz q else -1):=by
 unfold fR;by_cases F:q.d<1
 ·have:¬bF q:=λh=>by have:=h.1.1;omega
  rw[ah (by simp[F]),af,ah rfl,if_neg this]
 have O:q.d≠0:=by omega
 have N:(!(aC q.d 0))=true:=by simp[O]
 rw[ag (by simp[F]),bG N];by_cases j:Int.tmod 1680 q.d=0
 ·rw[ag (by simp[j])];by_cases G:q.n<0
  ·have:¬bF q:=λh=>by have:=h.2.1;omega
   rw[ah (by simp[G]),af,ah rfl,if_neg this]
  rw[ag (by simp[G])];by_cases M:1000000000<q.n
  ·have:¬bF q:=λh=>by have:=h.1.2.2.2.1;omega
   rw[ah (by simp[M]),af,ah rfl,if_neg this]
  rw[ag (by simp[M]),OD,x9 _ _ _ (ec _) (by omega) (by omega),af,af];have Y:=VZ (by omega) j;by_cases k:Int.gcd q.n q.d=1
  ·have B:bF q:=⟨⟨by omega,by omega,by omega,by omega,k⟩,by omega,j⟩;have Z:=yA B.1;have U:=kr B;unfold bz at U;rw[ag (by simp[k]),bG N,av (by omega),av (by omega),if_pos B];rfl
  have:¬bF q:=λh=>k h.1.2.2.2.2;rw[ah (by simp;omega),if_neg this]
 have:¬bF q:=λh=>j h.2.2;rw[ah (by simp[j]),af,ah rfl,if_neg this]
def mU{q:Rat}(h:bF q):0<=bz q:=(kr h).1
def Im{q:Rat}(h:bF q):q.d*Int.tdiv 1680 q.d=1680/\0<q.d/\0<Int.tdiv 1680 q.d:=by
 have j:=z1 1680 q.d;rw[h.2.2]at j;have k:=h.1.1;have B:=(yA h.1).1;refine⟨by omega,by omega,?_⟩;rcases adO 0 (Int.tdiv 1680 q.d)with h4|h4
 ·exact h4
 have:Int.tdiv 1680 q.d=0:=by omega
 rw[this]at j;simp at j
def Gp(z:Int):Unit⊕Int:=if z=0 then .inl ()else .inr z
def zh(l:List Int)(hl:l.length<=1000):se l=some (cP l):=by
 have key:∀(n k:Nat),k+n=l.length->aA (λB:Int=>ab (aj B (l.length:Int)) (aa (an l B) λM=>ab (!(aC M 0)) (some (.inr (.inr M))) (ae (ai (B+1)) <|some (.inl (B+1)))) (some (.inr (.inl ())))) (k:Int)=some (Gp (cP (l.drop k))):=by
  intro n;induction n with
  |zero=>
   intro k N;rw[mb (by omega)];refine fj ?_;rw[ag (by simp;omega)];rfl
  |succ n O=>
   intro k N;have j:k<l.length:=by omega
   have F:l[k]?=some l[k]:=c5 j;rw[hS j];simp only[cP];by_cases h0:l[k]=0
   ·rw[if_pos h0,jC (z':=((k+1:Nat):Int)) (by
     rw[ah (by simpa using j),aY (aF F),ag (by simp[h0]),av (by omega)];rfl)]
    exact O (k+1) (by omega)
   rw[if_neg h0];refine fj ?_;rw[ah (by simpa using j),aY (aF F),ah (by simp[h0])];simp[h0,Gp]
 have G:=key l.length 0 (by omega);rw[q4]at G;unfold se;refine(di G).trans ?_;unfold Gp;by_cases h:cP l=0
 ·rw[if_pos h,h];rfl
 rw[if_neg h];rfl
def nK(at_:List (Int×Int))(a:aq):List Int:=[ar at_ a.aw 0,a.part,bz a.start,a.aS,num a.aN,a.id]
theorem wS(at_:List (Int×Int))(a:aq):(nK at_ a).length=6:=rfl
def o9(at_:List (Int×Int))(a:aq):Prop:=(0<=ar at_ a.aw 0/\ar at_ a.aw 0<=1000000)/\(0<=a.part/\a.part<=1000000)/\bF a.start/\(0<=a.aS/\a.aS<=1000000)/\bO a.aN/\(0<=a.id/\a.id<=1000000)
instance (at_:List (Int×Int)) (a:aq):Decidable (o9 at_ a):=inferInstanceAs (Decidable (_/\_/\_/\_/\_/\_))
def YI{at_:List (Int×Int)}{a b:aq}(G:o9 at_ a)(M:o9 at_ b):GD (a,b,at_)=some (bf (nK at_) a b):=by
 obtain⟨N,O,j,U,k,Y⟩:=G;obtain⟨Z,aa,B,ab,F,ad⟩:=M;have ah:=kr j;have ai:=kr B;have ae:=qx k;have ag:=qx F;unfold GD;dsimp only;rw[wZ,if_pos j,af,wZ,if_pos B,af,qz,if_pos k,af,qz,if_pos F,af];dsimp only;rw[av (by omega),av (by omega),av (by omega),av (by omega),av (by omega),av (by omega),zh _ (by simp),af];rfl
def qJ(d:Int):Int:=if d<0 then -1 else if 0<d then 1 else 0
def vq(S:List Bool)(l:List Int):List Int:=l.zipWith (λd s=>if s then qJ d else d) S
def abE(d:Int):(qJ d=0↔d=0)/\(qJ d<0↔d<0):=by
 unfold qJ;split
 ·omega
 split<;>omega
def LO:∀(l:List Int)(S:List Bool),l.length=S.length->(cP (vq S l)=0↔cP l=0)/\(cP (vq S l)<0↔cP l<0)
 | [],[],_=>by simp[vq,cP]
 |d::l,s::S,h=>by
  have k:=LO l S (by simpa using h);have j:=abE d;have e:vq (s::S) (d::l)=(if s then qJ d else d)::vq S l:=rfl;rw[e];cases s with
  |false=>
   simp only[hR,h9,cP];split<;>simp_all
  |true=>
   simp only[hK,cP,j.1];split<;>simp_all
 | [],_::_,h=>by simp at h
 |_::_,[],h=>by simp at h
def iV{α:Type}(S:List Bool)(K:α->List Int)(a b:α):Int:=cP (vq S ((K a).zipWith (· - ·) (K b)))
def tq{α:Type}{S:List Bool}{K:α->List Int}(j:∀a,(K a).length=S.length)(a b:α):iV S K a b<0↔bf K a b<0:=(LO _ S (by simp[j])).2
def qK{α:Type}{S:List Bool}{K:α->List Int}(j:∀a,(K a).length=S.length):Go.Sort.SWO (Go.Proofs.ltOf (iV S K)):=by
 have e:Go.Proofs.ltOf (iV S K)=Go.Proofs.ltOf (bf K):=by
  funext a b;exact j2.2 (tq j a b)
 rw[e];exact CQ j
def KH(a b:Int):gd a b=qJ (a-b):=by
 unfold gd qJ
 repeat' split
 all_goals omega
def D2{a b:Rat}(N:bF a)(O:bF b):gd (a.n*b.d) (b.n*a.d)=qJ (bz a-bz b):=by
 obtain⟨⟨aa,ab,_⟩,_,ad⟩:=N;obtain⟨⟨ae,af,_⟩,_,ag⟩:=O;have B:a.d*Int.tdiv 1680 a.d=1680:=by have:=Int.mul_tdiv_add_tmod 1680 a.d;omega
 have F:b.d*Int.tdiv 1680 b.d=1680:=by have:=Int.mul_tdiv_add_tmod 1680 b.d;omega
 rw[<-KH];unfold bz;generalize Int.tdiv 1680 a.d=j at B⊢;generalize Int.tdiv 1680 b.d=k at F⊢;have Y:0<j:=by
  rcases Int.lt_trichotomy j 0 with h|h|h
  ·have:=Int.mul_neg_of_pos_of_neg (by omega:0<a.d) h;omega
  ·subst h;simp at B
  exact h
 have Z:0<k:=by
  rcases Int.lt_trichotomy k 0 with h|h|h
  ·have:=Int.mul_neg_of_pos_of_neg (by omega:0<b.d) h;omega
  ·subst h;simp at F
  exact h
 have pc:0<j*k:=Int.mul_pos Y Z;have G:a.n*b.d*(j*k)=(a.n*j)*1680:=by rw[<-F];simp only[Int.mul_assoc,Int.mul_comm,Int.mul_left_comm]
 have M:b.n*a.d*(j*k)=(b.n*k)*1680:=by rw[<-B];simp only[Int.mul_assoc,Int.mul_comm,Int.mul_left_comm]
 have l1:a.n*b.d<b.n*a.d↔a.n*j<b.n*k:=by
  rw[<-Int.mul_lt_mul_right pc,G,M];omega
 have U:b.n*a.d<a.n*b.d↔b.n*k<a.n*j:=by
  rw[<-Int.mul_lt_mul_right pc,G,M];omega
 unfold gd;simp only[l1,U]
def tK(t:ay):List Int:=[bz t.start,t.part,num t.aN,t.aN.step,bz t.length]
def tS:List Bool:=[true,false,false,false,true]
def dY(t:ay):Prop:=bF t.start/\(0<=t.part/\t.part<=1000000)/\bO t.aN/\bF t.length
def acD{a b:ay}(N:dY a)(O:dY b):Hc (a,b,())=some (iV tS tK a b):=by
 obtain⟨B,U,j,F⟩:=N;obtain⟨G,Y,k,M⟩:=O;have Z:=qx j;have aa:=qx k;have ab:=j.1;have ad:=k.1;have e:∀{p:aV},bO p->xT p=some (num p):=λ{p} h=>by
  unfold xT;rw[qz,if_pos h,af]
 unfold Hc;dsimp only;rw[CA B.1 G.1,af,CA F.1 M.1,af,av (by omega),e j,af,e k,af,av (by omega),av (by omega),zh _ (by simp),af,D2 B G,D2 F M];rfl
noncomputable def xR:(List ay×Unit)->Option (List ay):=sC (λ_=>dY) (λ_=>iV tS tK)
noncomputable def Cj:(List aq×List (Int×Int))->Option (List aq):=sC o9 (λat_=>bf (nK at_))
def vW(x y:Int):qA (x,y)=some (gd x y):=by
 unfold qA AR gd;dsimp only;rw[af,af,ag (by simp),ag (by simp)];simp only[rH,ea];split
 ·rfl
 split<;>rfl
def mj(w:Written):List Int:=[bz w.start,w.aS,num w.aN,w.id]
def qP:List Bool:=[true,false,false,true]
def mX(w:Written):Prop:=bF w.start/\(0<=w.aS/\w.aS<=1000000)/\bO w.aN
def adp{a b:Written}(G:mX a)(M:mX b):Gv (a,b)=some (iV qP mj a b):=by
 obtain⟨j,N,k⟩:=G;obtain⟨B,O,F⟩:=M;have U:=qx k;have Y:=qx F;unfold Gv;dsimp only;rw[CA j.1 B.1,af,qz,if_pos k,af,qz,if_pos F,af];dsimp only;rw[av (by omega),av (by omega),vW,af,zh _ (by simp),af,D2 j B,KH];rfl
open Classical in
noncomputable def uV:(List (Int×Written)×Unit)->Option (List Written):=λa=>
 if(∀p∈a.1,mX p.2)/\gY (iV qP mj) (a.1.map (·.2))/\a.1.length<=1000000000 then some (fU (iV qP mj) (a.1.map (·.2)))else none
def jo(xs:List Int):List Int:=xs.mergeSort λa b=>decide (a<=b)
noncomputable def xS(m:List (Int×Bool)):Option (List Int):=
 ae (m.all (λp=>ai p.1)&&leI (m.length:Int) 1000000000) (some (jo (m.map (·.1))))
end Go.Proofs.YthhlipkkjippfaaGreatDoor
namespace Go.Proofs.YthhlipkkjippfaaGreatDoor
open Go Go.ak Go.Sy
noncomputable def Ba:((List aT)×(List aq))->Option (List aq):=λ(v0,j)=>aa (xj v0) λk=>aa (pd (List.isEmpty j) (some ([]:List aq)) (ae (WP 96 (List.append ([]:List aq) j)) <|some (List.append ([]:List aq) j))) λB=>aa (Cj (B,k)) λF=>some F
noncomputable def A7:((List aT)×(List aq))->Option ((List aq)×Int):=λ(v0,j)=>aa (xi (v0,j)) λB=>ab (!B) (some (([]:List aq),1)) (aa (Ba (v0,j)) λk=>some (k,0))
noncomputable def pq:Score->Option Bool:=λ(v0)=>aa (aa (uU v0.version) λB=>ab (!B) (some true) (aa (xf v0.bars) λk=>ab (!k) (some true) (aa (B0 v0.parts) λj=>ab (!j) (some true) (aa (xi (v0.bars,v0.notes)) λG=>ab (!G) (some true) (aa (xQ (v0.parts,v0.notes)) λF=>some (!(aC F 0))))))) λB=>ab B (some false) (aa (A7 (v0.bars,v0.notes)) λk=>aa (ab (aC k.2 0) (aa (G1 (k.1,v0.notes)) λj=>some j) (some false)) λj=>some j)
noncomputable def BZ:(Score×Int)->Option ((List aq)×Int):=λ(v0,G)=>aa (pq v0) λN=>ab (!N) (some (([]:List aq),1)) (aa (B3 (v0.parts,(G,()))) λM=>ab (!M.2) (some (([]:List aq),22)) (aa (aa (an v0.parts M.1) λF=>aa (B5 (v0,F)) λk=>aA (λB:(Int×(List aq))=>ab (aj B.1 (k.1.notes.length:Int)) (aa (aa (an k.1.notes B.1) λj=>ab (!(aC j.part k.2.1)) (some B.2) (ae (ai (j.aN.aO+k.2.2.aO)) <|ae (WP 96 (List.append B.2 [(⟨j.id,k.2.2.id,j.aw,j.aS,j.br,j.start,j.length,(⟨j.aN.step,j.aN.alter,(j.aN.aO+k.2.2.aO)⟩:aV)⟩:aq)])) <|some (List.append B.2 [(⟨j.id,k.2.2.id,j.aw,j.aS,j.br,j.start,j.length,(⟨j.aN.step,j.aN.alter,(j.aN.aO+k.2.2.aO)⟩:aV)⟩:aq)]))) λj=>ae (ai (B.1+1)) <|some (.inl ((B.1+1),j))) (some (.inr B.2))) (0,([]:List aq))) λF=>some (F,0)))
noncomputable def xU:(Score×Int)->Option (View×Int):=λ(v0,O)=>aa (BZ (v0,O)) λF=>ab (!(aC F.2 0)) (some ((⟨0,([]:List aB)⟩:View),F.2)) (aa (uX (v0,O)) λG=>aa (aA (λk:(Int×((List aq)×(List aB)))=>ab (aj k.1 (v0.bars.length:Int)) (aa (an v0.bars k.1) λM=>aa (aA (λj:((List aq)×(List Written))=>aa (ab (aj 0 (j.1.length:Int)) (aa (an j.1 0) λB=>some (aC B.aw M.id)) (some false)) λB=>ab B (aa (an j.1 0) λU=>aa (x4 (G.1,(M,U))) λN=>ae (WP 80 (List.append j.2 [N])) <|ae ((leI 0 1)&&(leI 1 (j.1.length:Int))) <|some (.inl ((List.drop (Int.toNat 1) j.1),(List.append j.2 [N])))) (some (.inr (j.1,j.2)))) (k.2.1,([]:List Written))) λj=>aa (x2 (G.1,(M,j.2))) λB=>ae (WP 56 (List.append k.2.2 [B])) <|ae (ai (k.1+1)) <|some (.inl ((k.1+1),(j.1,(List.append k.2.2 [B]))))) (some (.inr k.2.2))) (0,(F.1,([]:List aB)))) λk=>some ((⟨G.1.part.id,k⟩:View),0))
noncomputable def xW:(Score×View)->Option Bool:=λ(v0,F)=>aa (aa (pq v0) λN=>ab (!N) (some true) (some (!(aC (F.aK.length:Int) (v0.bars.length:Int))))) λN=>ab N (some false) (aa (uX (v0,F.part)) λU=>ab (!U.2) (some false) (aR (aA (λj:(Int×(Int×(List (Int×Bool))))=>ab (aj j.2.1 (F.aK.length:Int)) (aa (an F.aK j.2.1) λk=>aa (an v0.bars j.2.1) λY=>aa (x2 (U.1,(Y,([]:List Written)))) λG=>aa (ab (!(aC k.aw G.aw)) (some true) (ab (!(aC k.key G.key)) (some true) (ab (!(vS k.length G.length)) (some true) (aa (Ci (k.notes,())) λO=>some (!O))))) λO=>ab O (some (.inr (.inr false))) (aR (aA (λB:(Int×(List (Int×Bool)))=>ab (aj B.1 (k.notes.length:Int)) (aa (an k.notes B.1) λM=>aa (xX (M,k.length)) λZ=>ab (!Z) (some (.inr (.inr (.inr (.inr false))))) (ae (ai (B.1+1)) <|some (.inl ((B.1+1),(aM B.2 M.id true))))) (some (.inr (.inl B.2)))) (0,j.2.2)) λB=>ae (ai (j.1+(k.notes.length:Int))) <|ae (ai (j.2.1+1)) <|some (.inl ((j.1+(k.notes.length:Int)),((j.2.1+1),B))))) (some (.inr (.inl (j.1,j.2.2))))) (0,(0,([]:List (Int×Bool))))) λj=>aa (ab (leI j.1 20000) (some (aC (j.2.length:Int) j.1)) (some false)) λk=>some k))
noncomputable def xV:(Score×View)->Option ((List aq)×Int):=λ(v0,G)=>aa (xW (v0,G)) λU=>ab (!U) (some (([]:List aq),1)) (aa (uX (v0,G.part)) λM=>aR (aA (λk:(Int×(List aq))=>ab (aj k.1 (G.aK.length:Int)) (aR (aa (an G.aK k.1) λF=>aA (λB:(Int×(List aq))=>ab (aj B.1 (F.notes.length:Int)) (aa (an F.notes B.1) λj=>aa (an v0.bars k.1) λO=>aa (A3 (M.1.part,(O.key,j.aN))) λN=>ab (!(aC N.2 0)) (some (.inr (.inr (.inr (.inr (([]:List aq),3)))))) (ae (WP 96 (List.append B.2 [(⟨j.id,M.1.part.id,F.aw,j.aS,j.br,j.start,j.length,N.1⟩:aq)])) <|ae (ai (B.1+1)) <|some (.inl ((B.1+1),(List.append B.2 [(⟨j.id,M.1.part.id,F.aw,j.aS,j.br,j.start,j.length,N.1⟩:aq)]))))) (some (.inr (.inl B.2)))) (0,k.2)) λF=>ae (ai (k.1+1)) <|some (.inl ((k.1+1),F))) (some (.inr (.inl k.2)))) (0,([]:List aq))) λk=>some (k,0))
noncomputable def nY:(c8×Room)->Option ((List ay)×Int):=λ(v0,N)=>aa (uS N.form) λZ=>aa (ph ((⟨0,([]:List aB)⟩:View),N.bp)) λak=>aa (ab (!(aC Z.2 0)) (some true) (ab (!(aC ak.2 0)) (some true) (aa (pq v0.score) λag=>ab (!ag) (some true) (ab (!(aC N.version v0.score.version)) (some true) (some (!(aC N.form.bars (v0.score.bars.length:Int)))))))) λag=>ab ag (some (([]:List ay),1)) (aR (aA (λG:(Int×(List ay))=>ab (aj G.1 (v0.score.parts.length:Int)) (aa (an v0.score.parts G.1) λad=>aa (xU (v0.score,ad.id)) λaf=>aa (ab (aC af.2 0) (aa (aa (ph (af.1,N.bp)) λM=>ab (!(aC M.2 0)) (some (G.2,M.2)) (aa (xV (v0.score,M.1)) λU=>ab (!(aC U.2 0)) (some (G.2,U.2)) (aa (aA (λB:(Int×(List (Int×(List aq))))=>ab (aj B.1 (U.1.length:Int)) (aa (an U.1 B.1) λj=>ae (WP 96 (List.append (ar B.2 j.aw ([]:List aq)) [j])) <|ae (ai (B.1+1)) <|some (.inl ((B.1+1),(aM B.2 j.aw (List.append (ar B.2 j.aw ([]:List aq)) [j]))))) (some (.inr B.2))) (0,([]:List (Int×(List aq))))) λB=>aR (aA (λj:(Int×((List ay)×(Int×Int)))=>ab (aj j.1 (Z.1.length:Int)) (aa (an Z.1 j.1) λah=>aa (an v0.score.bars ah.aw) λY=>aR (aA (λF:(Int×(List ay))=>ab (aj F.1 ((ar B Y.id ([]:List aq)).length:Int)) (aa (an (ar B Y.id ([]:List aq)) F.1) λk=>aa (kh ((⟨j.2.2.1,j.2.2.2⟩:Rat),k.start)) λO=>ab (!(aC O.2 0)) (some (.inr (.inr (.inr (.inr (F.2,O.2)))))) (ae (WP 64 (List.append F.2 [(⟨k.part,O.1,k.length,k.aN⟩:ay)])) <|ae (ai (F.1+1)) <|some (.inl ((F.1+1),(List.append F.2 [(⟨k.part,O.1,k.length,k.aN⟩:ay)]))))) (some (.inr (.inl F.2)))) (0,j.2.1)) λF=>aa (kh ((⟨j.2.2.1,j.2.2.2⟩:Rat),Y.length)) λk=>ae (ai (j.1+1)) <|some (.inl ((j.1+1),(F,(k.1.n,k.1.d))))) (some (.inr (.inl j.2.1)))) (0,(G.2,(0,1)))) λj=>some (j,0)))) λM=>some (M.2,M.1)) (some (af.2,G.2))) λM=>ab (!(aC M.1 0)) (some (.inr (.inr (([]:List ay),M.1)))) (ae (ai (G.1+1)) <|some (.inl ((G.1+1),M.2)))) (some (.inr (.inl G.2)))) (0,([]:List ay))) λG=>aa (xR (G,())) λad=>some (ad,0))
noncomputable def AU:View->Option ((List Int)×Int):=λ(v0)=>aa (sf v0) λG=>ab (!G) (some (([]:List Int),1)) (aa (aA (λj:(Int×(List (Int×Bool)))=>ab (aj j.1 (v0.aK.length:Int)) (aa (aa (an v0.aK j.1) λB=>aA (λk:(Int×(List (Int×Bool)))=>ab (aj k.1 (B.notes.length:Int)) (aa (an B.notes k.1) λF=>ae (ai (k.1+1)) <|some (.inl ((k.1+1),(aM k.2 F.aS true)))) (some (.inr k.2))) (0,j.2)) λB=>ae (ai (j.1+1)) <|some (.inl ((j.1+1),B))) (some (.inr j.2))) (0,([]:List (Int×Bool)))) λj=>aa (N4 (eG j 0)) λB=>aa (xS B) λk=>some (k,0))
noncomputable def AS:(View×Int)->Option ((List Int)×Int):=λ(v0,k)=>aa (AU v0) λB=>aa (ab (!(aC B.2 0)) (some true) (ab (aj k 1) (some true) (some (aj 40 k)))) λG=>ab G (some (([]:List Int),1)) (ab (aj k (B.1.length:Int)) (some (([]:List Int),6)) (ae (leI 0 k) <|ae (WP 8 (List.replicate (Int.toNat k) (0:Int))) <|aa (aA (λj:(Int×(List Int))=>ab (aj j.1 ((List.replicate (Int.toNat k) (0:Int)).length:Int)) (aa (ab (aj 0 (B.1.length:Int)) (ae (ai (j.1*(B.1.length:Int))) <|ae (!(aC k 0)) <|ae (ai (Int.tdiv (j.1*(B.1.length:Int)) k)) <|aa (an B.1 (Int.tdiv (j.1*(B.1.length:Int)) k)) λF=>ae ((leI 0 j.1)&&(aj j.1 (j.2.length:Int))) <|aa (an j.2 j.1) λM=>some (List.set j.2 (Int.toNat j.1) F)) (some j.2)) λF=>ae (ai (j.1+1)) <|some (.inl ((j.1+1),F))) (some (.inr j.2))) (0,(List.replicate (Int.toNat k) (0:Int)))) λj=>some (j,0)))
noncomputable def pr:c8->Option ((List View)×Int):=λ(v0)=>aa (pq v0.score) λO=>ab (!O) (some (([]:List View),1)) (aR (aA (λj:(Int×(List View))=>ab (aj j.1 (v0.score.parts.length:Int)) (aR (aa (an v0.score.parts j.1) λF=>aa (xU (v0.score,F.id)) λM=>aa (AS (M.1,F.dC)) λG=>ab (!(aC G.2 0)) (some (.inr (.inr (.inr (([]:List View),G.2))))) (aA (λk:(Int×(List View))=>ab (aj k.1 (G.1.length:Int)) (aa (an G.1 k.1) λN=>aa (w8 (M.1,N)) λB=>ab (!(aC B.2 0)) (some (.inr (.inr (.inr (.inr (([]:List View),B.2)))))) (ae (WP 32 (List.append k.2 [B.1])) <|ae (ai (k.1+1)) <|some (.inl ((k.1+1),(List.append k.2 [B.1]))))) (some (.inr (.inl k.2)))) (0,j.2))) λF=>ae (ai (j.1+1)) <|some (.inl ((j.1+1),F))) (some (.inr (.inl j.2)))) (0,([]:List View))) λj=>some (j,0))
noncomputable def Hb:(View×c8)->Option Bool:=λ(v0,j)=>aa (xW (j.score,v0)) λk=>some (!k)
noncomputable def Ha:((List View)×c8)->Option Int:=λ(v0,k)=>aR (aA (λj:Int=>ab (aj j (v0.length:Int)) (aa (an v0 j) λB=>aa (Hb (B,k)) λF=>ab F (some (.inr (.inr j))) (ae (ai (j+1)) <|some (.inl (j+1)))) (some (.inr (.inl ())))) 0) λj=>some (-1)
noncomputable def GZ:((List View)×c8)->Option Bool:=λ(v0,j)=>aa (Ha (v0,j)) λk=>some (leI 0 k)
noncomputable def w9:(List View)->Option (View×Int):=λ(v0)=>aa (ab (aj (v0.length:Int) 1) (some true) (ab (aj 100 (v0.length:Int)) (some true) (aa (Cc (v0,())) λU=>some U))) λU=>ab U (some ((⟨0,([]:List aB)⟩:View),1)) (aa (GY (v0,v0)) λZ=>ab Z (some ((⟨0,([]:List aB)⟩:View),6)) (aa (an v0 0) λad=>aR (aa (an v0 0) λN=>aA (λj:(Int×(Int×(List aB)))=>ab (aj j.2.1 (N.aK.length:Int)) (aa (an N.aK j.2.1) λk=>aR (aA (λF:(Int×(List (Int×Written)))=>ab (aj F.1 (v0.length:Int)) (aR (aa (an v0 F.1) λO=>aa (an O.aK j.2.1) λG=>aA (λB:(Int×(List (Int×Written)))=>ab (aj B.1 (G.notes.length:Int)) (aa (an G.notes B.1) λM=>aa (ab (dU B.2 M.id) (some (!(rh (ar B.2 M.id (⟨0,0,0,(⟨0,0⟩:Rat),(⟨0,0⟩:Rat),(⟨0,0,0⟩:aV)⟩:Written)) M))) (some false)) λY=>ab Y (some (.inr (.inr (.inr (.inr (.inr (.inr ((⟨0,([]:List aB)⟩:View),5)))))))) (ae (ai (B.1+1)) <|some (.inl ((B.1+1),(aM B.2 M.id M))))) (some (.inr (.inl B.2)))) (0,F.2)) λO=>ae (ai (F.1+1)) <|some (.inl ((F.1+1),O))) (some (.inr (.inl F.2)))) (0,([]:List (Int×Written)))) λF=>aa (N5 F) λO=>aa (uV (O,())) λG=>ae (ai (j.1+(G.length:Int))) <|ae (WP 56 (List.append j.2.2 [(⟨k.aw,k.key,k.length,G⟩:aB)])) <|ae (ai (j.2.1+1)) <|some (.inl ((j.1+(G.length:Int)),((j.2.1+1),(List.append j.2.2 [(⟨k.aw,k.key,k.length,G⟩:aB)]))))) (some (.inr (.inl (j.1,j.2.2))))) (0,(0,([]:List aB)))) λN=>ab (aj 20000 N.1) (some ((⟨0,([]:List aB)⟩:View),2)) (some ((⟨ad.part,N.2⟩:View),0))))
noncomputable def uW:(c8×(Room×(List View)))->Option ((List ay)×Int):=λ(v0,U,ad)=>ab (aj 2400 (ad.length:Int)) (some (([]:List ay),2)) (aa (uS U.form) λah=>aa (ph ((⟨0,([]:List aB)⟩:View),U.bp)) λao=>aa (ab (!(aC ah.2 0)) (some true) (ab (!(aC ao.2 0)) (some true) (aa (pq v0.score) λak=>ab (!ak) (some true) (ab (!(aC U.version v0.score.version)) (some true) (some (!(aC U.form.bars (v0.score.bars.length:Int)))))))) λak=>ab ak (some (([]:List ay),1)) (aa (GZ (ad,v0)) λau=>ab au (some (([]:List ay),1)) (aa (aA (λG:(Int×(List (Int×(List View))))=>ab (aj G.1 (ad.length:Int)) (aa (an ad G.1) λk=>ae (WP 32 (List.append (ar G.2 k.part ([]:List View)) [k])) <|ae (ai (G.1+1)) <|some (.inl ((G.1+1),(aM G.2 k.part (List.append (ar G.2 k.part ([]:List View)) [k]))))) (some (.inr G.2))) (0,([]:List (Int×(List View))))) λG=>aR (aA (λk:(Int×(List ay))=>ab (aj k.1 (v0.score.parts.length:Int)) (aR (aa (an v0.score.parts k.1) λO=>ab (aC ((ar G O.id ([]:List View)).length:Int) 0) (some (.inl k.2)) (aa (w9 (ar G O.id ([]:List View))) λaf=>aa (ab (aC af.2 0) (aa (aa (ph (af.1,U.bp)) λN=>ab (!(aC N.2 0)) (some (k.2,N.2)) (aa (xV (v0.score,N.1)) λZ=>ab (!(aC Z.2 0)) (some (k.2,Z.2)) (aa (aA (λF:(Int×(List (Int×(List aq))))=>ab (aj F.1 (Z.1.length:Int)) (aa (an Z.1 F.1) λj=>ae (WP 96 (List.append (ar F.2 j.aw ([]:List aq)) [j])) <|ae (ai (F.1+1)) <|some (.inl ((F.1+1),(aM F.2 j.aw (List.append (ar F.2 j.aw ([]:List aq)) [j]))))) (some (.inr F.2))) (0,([]:List (Int×(List aq))))) λF=>aR (aA (λj:(Int×((List ay)×(Int×Int)))=>ab (aj j.1 (ah.1.length:Int)) (aa (an ah.1 j.1) λal=>aa (an v0.score.bars al.aw) λag=>aR (aA (λM:(Int×(List ay))=>ab (aj M.1 ((ar F ag.id ([]:List aq)).length:Int)) (aa (an (ar F ag.id ([]:List aq)) M.1) λB=>aa (kh ((⟨j.2.2.1,j.2.2.2⟩:Rat),B.start)) λY=>ab (!(aC Y.2 0)) (some (.inr (.inr (.inr (.inr (M.2,Y.2)))))) (ae (WP 64 (List.append M.2 [(⟨B.part,Y.1,B.length,B.aN⟩:ay)])) <|ae (ai (M.1+1)) <|some (.inl ((M.1+1),(List.append M.2 [(⟨B.part,Y.1,B.length,B.aN⟩:ay)]))))) (some (.inr (.inl M.2)))) (0,j.2.1)) λM=>aa (kh ((⟨j.2.2.1,j.2.2.2⟩:Rat),ag.length)) λB=>ae (ai (j.1+1)) <|some (.inl ((j.1+1),(M,(B.1.n,B.1.d))))) (some (.inr (.inl j.2.1)))) (0,(k.2,(0,1)))) λj=>some (j,0)))) λN=>some (N.2,N.1)) (some (af.2,k.2))) λN=>ab (!(aC N.1 0)) (some (.inr (.inr (.inr (([]:List ay),N.1))))) (some (.inl N.2)))) λO=>ae (ai (k.1+1)) <|some (.inl ((k.1+1),O))) (some (.inr (.inl k.2)))) (0,([]:List ay))) λk=>aa (xR (k,())) λO=>some (O,0))))
noncomputable def xe:Unit->Option Bool:=λ()=>aa (GC ()) λv0=>aa (nY (v0.1,v0.2)) λZ=>aa (pr v0.1) λY=>aa (uW (v0.1,(v0.2,Y.1))) λad=>aa (nY (v0.1,(⟨v0.2.version,(⟨v0.2.form.bars,v0.2.form.bg,v0.2.form.bC,v0.2.form.jump,[(⟨0,1,1⟩:Cut)]⟩:Form),v0.2.bp⟩:Room))) λaf=>aa (nY (v0.1,(⟨2,v0.2.form,v0.2.bp⟩:Room))) λai=>aa (ab (aC Z.2 0) (ab (aC Y.2 0) (ab (aC ad.2 0) (ab (aC af.2 0) (ab (aC ai.2 1) (some (aC (Y.1.length:Int) 3)) (some false)) (some false)) (some false)) (some false)) (some false)) λaj=>aa (l7 (0,1)) λM=>aa (l7 (1,1)) λN=>aa (l7 (0,1)) λO=>aa (l7 (1,1)) λj=>aa (l7 (4,1)) λk=>aa (l7 (1,1)) λB=>aa (l7 (4,1)) λF=>aa (l7 (1,1)) λG=>aa (ab aj (aa (mL (Z.1,[(⟨1,M,N,(⟨0,0,4⟩:aV)⟩:ay),(⟨2,O,j,(⟨0,0,5⟩:aV)⟩:ay),(⟨1,k,B,(⟨0,0,4⟩:aV)⟩:ay),(⟨2,F,G,(⟨0,0,5⟩:aV)⟩:ay)])) λU=>ab U (aa (mL (ad.1,[(⟨1,M,N,(⟨0,0,4⟩:aV)⟩:ay),(⟨2,O,j,(⟨0,0,5⟩:aV)⟩:ay),(⟨1,k,B,(⟨0,0,4⟩:aV)⟩:ay),(⟨2,F,G,(⟨0,0,5⟩:aV)⟩:ay)])) λag=>ab ag (ae ((leI 0 2)&&(leI 2 ([(⟨1,M,N,(⟨0,0,4⟩:aV)⟩:ay),(⟨2,O,j,(⟨0,0,5⟩:aV)⟩:ay),(⟨1,k,B,(⟨0,0,4⟩:aV)⟩:ay),(⟨2,F,G,(⟨0,0,5⟩:aV)⟩:ay)].length:Int))) <|aa (mL (af.1,(List.take (Int.toNat 2) [(⟨1,M,N,(⟨0,0,4⟩:aV)⟩:ay),(⟨2,O,j,(⟨0,0,5⟩:aV)⟩:ay),(⟨1,k,B,(⟨0,0,4⟩:aV)⟩:ay),(⟨2,F,G,(⟨0,0,5⟩:aV)⟩:ay)]))) λah=>some ah) (some false)) (some false)) (some false)) λU=>some U
noncomputable def Bo:Part->Option Int:=λ(v0)=>ab (aC v0.of 0) (some v0.id) (some v0.of)
noncomputable def Bm:(Score×Part)->Option (List aq):=λ(v0,B)=>aa (aA (λk:(Int×(List aq))=>ab (aj k.1 (v0.notes.length:Int)) (aa (aa (an v0.notes k.1) λj=>aa (Bo B) λF=>ab (!(aC j.part F)) (some k.2) (ae (ai (j.aN.aO+B.aO)) <|ae (WP 96 (List.append k.2 [(⟨j.id,B.id,j.aw,j.aS,j.br,j.start,j.length,(⟨j.aN.step,j.aN.alter,(j.aN.aO+B.aO)⟩:aV)⟩:aq)])) <|some (List.append k.2 [(⟨j.id,B.id,j.aw,j.aS,j.br,j.start,j.length,(⟨j.aN.step,j.aN.alter,(j.aN.aO+B.aO)⟩:aV)⟩:aq)]))) λj=>ae (ai (k.1+1)) <|some (.inl ((k.1+1),j))) (some (.inr k.2))) (0,([]:List aq))) λk=>some k
noncomputable def BC:(Part×aT)->Option (Int×(Int×(Int×Int))):=λ(v0,j)=>aa (xC (v0,j.key)) λk=>some (j.id,(k.1,(j.length.n,j.length.d)))
noncomputable def Bz:(Part×(Int×aV))->Option (aV×Int):=λ(v0,j,k)=>aa (uM v0) λM=>aa (jF k) λN=>aa (ab (!M) (some true) (aa (uG j) λB=>ab (!B) (some true) (some (!N)))) λB=>ab B (some ((⟨0,0,0⟩:aV),1)) (aa (xB (v0,j)) λG=>aa (xm (k,G)) λF=>some (F.1,F.2))
noncomputable def xG:(Score×Part)->Option View:=λ(v0,G)=>aa (Bm (v0,G)) λF=>aa (aA (λk:(Int×(List aB))=>ab (aj k.1 (v0.bars.length:Int)) (aa (an v0.bars k.1) λag=>aa (BC (G,ag)) λB=>aa (aA (λj:(Int×(List Written))=>ab (aj j.1 (F.length:Int)) (aa (aa (an F j.1) λad=>aa (an v0.bars k.1) λah=>ab (!(aC ad.aw ah.id)) (some j.2) (aa (an v0.bars k.1) λak=>aa (an F j.1) λaf=>aa (Bz (G,(ak.key,af.aN))) λM=>aa (an F j.1) λN=>aa (an F j.1) λO=>aa (an F j.1) λU=>aa (an F j.1) λY=>aa (an F j.1) λZ=>ae (WP 80 (List.append j.2 [(⟨N.id,O.aS,U.br,Y.start,Z.length,M.1⟩:Written)])) <|some (List.append j.2 [(⟨N.id,O.aS,U.br,Y.start,Z.length,M.1⟩:Written)]))) λad=>ae (ai (j.1+1)) <|some (.inl ((j.1+1),ad))) (some (.inr j.2))) (0,([]:List Written))) λj=>ae (WP 56 (List.append k.2 [(⟨B.1,B.2.1,(⟨B.2.2.1,B.2.2.2⟩:Rat),j⟩:aB)])) <|ae (ai (k.1+1)) <|some (.inl ((k.1+1),(List.append k.2 [(⟨B.1,B.2.1,(⟨B.2.2.1,B.2.2.2⟩:Rat),j⟩:aB)])))) (some (.inr k.2))) (0,([]:List aB))) λk=>some (⟨G.id,k⟩:View)
noncomputable def BO:(c8×Room)->Option ((List ay)×Int):=λ(v0,B)=>aa (xM (v0,B)) λM=>ab (!M) (some (([]:List ay),1)) (aR (aA (λj:((List ay)×Int)=>ab (aj j.2 (v0.score.parts.length:Int)) (aa (an v0.score.parts j.2) λF=>aa (xG (v0.score,F)) λG=>aa (uQ (j.1,(v0,(B,G)))) λk=>ab (!(aC k.2 0)) (some (.inr (.inr (([]:List ay),k.2)))) (ae (ai (j.2+1)) <|some (.inl (k.1,(j.2+1))))) (some (.inr (.inl j.1)))) (([]:List ay),0)) λj=>some (j,0))
noncomputable def uP:c8->Option ((List View)×Int):=λ(v0)=>aa (uJ v0.score) λU=>ab (!U) (some (([]:List View),1)) (aR (aA (λj:(Int×(List View))=>ab (aj j.1 (v0.score.parts.length:Int)) (aR (aa (an v0.score.parts j.1) λF=>aa (xG (v0.score,F)) λM=>aa (an v0.score.parts j.1) λN=>aa (BG (M,N.dC)) λB=>ab (!(aC B.2 0)) (some (.inr (.inr (.inr (([]:List View),B.2))))) (aA (λk:(Int×(List View))=>ab (aj k.1 (B.1.length:Int)) (aa (an B.1 k.1) λO=>aa (xK (M,O)) λG=>ae (WP 32 (List.append k.2 [G.1])) <|ae (ai (k.1+1)) <|some (.inl ((k.1+1),(List.append k.2 [G.1])))) (some (.inr (.inl k.2)))) (0,j.2))) λF=>ae (ai (j.1+1)) <|some (.inl ((j.1+1),F))) (some (.inr (.inl j.2)))) (0,([]:List View))) λj=>some (j,0))
noncomputable def A5:(c8×(Room×(List View)))->Option Bool:=λ(v0,j,k)=>aa (xe ()) λU=>aa (aa (BN (v0,j)) λY=>ab (!Y) (some true) (aa (A6 k) λG=>ab (!G) (some (leI (k.length:Int) 2400)) (some false))) λY=>ab Y (some U) (aa (nY (v0,j)) λG=>aa (BO (v0,j)) λZ=>aa (ab U (aa (mL (G.1,Z.1)) λM=>ab M (some (aC G.2 Z.2)) (some false)) (some false)) λM=>aa (uW (v0,(j,k))) λad=>aa (BP (v0,(j,k))) λae=>aa (ab M (aa (mL (ad.1,ae.1)) λB=>ab B (some (aC ad.2 ae.2)) (some false)) (some false)) λB=>aa (pr v0) λN=>aa (uP v0) λO=>aa (ab B (aa (xN (N.1,O.1)) λF=>ab F (some (aC N.2 O.2)) (some false)) (some false)) λF=>some F)
attribute [local instance] bP bX
def fx(b:aT):Prop:=(1<=b.id/\b.id<=1000000)/\bF b.length/\(1<=bz b.length/\bz b.length<=40320)/\(-7<=b.key/\b.key<=7)
instance (b:aT):Decidable (fx b):=inferInstanceAs (Decidable (_/\_/\_/\_))
def iA(l:List aT):Prop:=(1<=l.length/\l.length<=4000)/\(∀b∈l,fx b)/\(l.map aT.id).Nodup
instance (l:List aT):Decidable (iA l):=inferInstanceAs (Decidable (_/\_/\_))
def Zm(a b c d:Bool):ab a (some true) (ab b (some true) (ab c (some true) (some d)))=some (a||b||c||d):=by cases a<;>cases b<;>cases c<;>rfl
def Zn(a b c d e:Bool):ab a (some true) (ab b (some true) (ab c (some true) (ab d (some true) (some e))))=some (a||b||c||d||e):=by cases a<;>cases b<;>cases c<;>cases d<;>rfl
def Zo(a b c d e f:Bool):ab a (some true) (ab b (some true) (ab c (some true) (ab d (some true) (ab e (some true) (some f)))))=some (a||b||c||d||e||f):=by cases a<;>cases b<;>cases c<;>cases d<;>cases e<;>rfl
def Z1(b:aT):(decide (b.id<1)||decide (1000000<b.id)||decide ((if bF b.length then bz b.length else -1)<1)||decide (40320<(if bF b.length then bz b.length else -1))||decide (b.key < -7)||decide (7<b.key)) = !decide (fx b):=by
 unfold fx;by_cases h:bF b.length
 ·simp only[h,hK,adP];rw[gl];simp only[iv,ea,gj,hA];omega
 simp[h]
def OC(l:List aT):xr l=some (decide (iA l)):=by
 unfold xr;by_cases Z:l.length<1
 ·have:¬iA l:=λh=>by have:=h.1.1;omega
  rw[ah (c3 (by omega)),af,ah rfl];simp[this]
 rw[ag (da (by omega)),af];by_cases aa:4000<l.length
 ·have:¬iA l:=λh=>by have:=h.1.2;omega
  rw[ah (c3 (by omega))];simp[this]
 rw[ag (da (by omega)),nJ l.length (mR (λb=>!decide (fx b)) (λx y=>decide (x.id=y.id)) l) false (λk U=>by
  have N:l[k]?=some l[k]:=c5 U;generalize l[k]=x at N;rw[ah (by simpa using U)];simp only[aF N,af,jK,Zo,Z1];unfold mR;rw[N];dsimp only;by_cases B:fx x
  ·rw[ag (by simp[B]),il (l:=l.take k) (λy=>decide (y.id=x.id)) (.inr (.inr false)) (λj y O=>by
    obtain⟨Y,O⟩:=CR O;rw[ah (by simpa using Y),aY (aF O)];by_cases M:y.id=x.id
    ·rw[ah (by simp[M])];simp[M]
    ·rw[ag (by simp[M]),av (by omega)];simp[M]) (by
    rw[fb,qd (by omega),ag (by simp)])]
   by_cases F:((l.take k).any λy=>decide (y.id=x.id))=true
   ·rw[if_pos F,if_pos (by rw[F];simp)];rfl
   rw[if_neg F,if_neg (by simp[B]at F⊢;exact F),ew,av (by omega)];rfl
  rw[ah (by simp[B]),if_pos (by simp[B])];rfl) (by rw[ag (by simp)])]
 have key:=HS (λb=>!decide (fx b)) (λx y=>decide (x.id=y.id)) l;rw[vj aT.id]at key;by_cases G:iA l
 ·rw[if_neg]
  ·simp[G,ew]
  rw[key];exact λh=>h ⟨λb B=>by simp[G.2.1 b B],G.2.2⟩
 rw[if_pos]
 ·simp[G,e9]
 rw[key];exact λh=>G ⟨by omega,λb B=>by simpa using h.1 b B,h.2⟩
def YA(q:Rat):xg q=some (decide (bF q)):=by
 unfold xg;rw[sv,af];by_cases j:jL q
 ·have B:(!(aC q.d 0))=true:=by have:=j.1;simp;omega
  rw[ah (by simp[j])];by_cases k:0<=q.n
  ·rw[ah (by simp[k]),bG B,af];unfold bF;simp[j,k]
  rw[ag (by simp[k]),af];unfold bF;simp[k]
 rw[ag (by simp[j]),af];unfold bF;simp[j]
def YE{a b:Rat}(j:jL a)(k:jL b):xh (a,b)=some (decide (a.n*b.d<b.n*a.d)):=by
 unfold xh;dsimp only;rw[CA j k,af];dsimp only;congr 1;rw[j2];unfold gd;split
 ·simp[*]
 split<;>simp[*]
def acI{q:Rat}(h:bF q):24*q.d<q.n*1↔40320<bz q:=by
 obtain⟨j,F,B⟩:=Im h;unfold bz;generalize Int.tdiv 1680 q.d=k at *;have e:40320=(24*q.d)*k:=by rw[Int.mul_assoc,j];rfl
 rw[e,Int.mul_one];constructor
 ·exact λh=>Int.mul_lt_mul_of_pos_right h B
 exact λh=>Int.lt_of_mul_lt_mul_right h (by omega)
def acH{q:Rat}(h:bF q):q.n=0↔bz q<1:=by
 obtain⟨j,B,F⟩:=Im h;unfold bz;generalize Int.tdiv 1680 q.d=k at *;have G:=h.2.1;constructor
 ·intro h;rw[h];omega
 intro M;refine fl λN=>?_;have:1*k<=q.n*k:=tb (by omega) (by omega);omega
def Yr(g:Bool)(b:aT):(decide (b.id<1)||decide (1000000<b.id)||g||decide (b.key < -7)||decide (7<b.key)) = !decide ((1<=b.id/\b.id<=1000000)/\g=false/\(-7<=b.key/\b.key<=7)):=by
 rw[gl];cases g
 ·simp only[iv,ea,gj,hA,adP];simp;omega
 simp
def Ys(b:aT):(aa (xg b.length) λM=>ab (!M) (some true) (ab (aC b.length.n 0) (some true) (aa (xh ((⟨24,1⟩:Rat),b.length)) λB=>some B)))=some (!decide (bF b.length/\(1<=bz b.length/\bz b.length<=40320))):=by
 rw[YA,af];by_cases h:bF b.length
 ·rw[ag (by simp[h])];have h0:=acH h;have k:=acI h;by_cases j:b.length.n=0
  ·have:=h0.1 j;rw[ah (by simp[j])];rw[da (λG=>by omega)];rfl
  rw[ag (by simp[j]),YE (by decide) h.1,af];have F:¬bz b.length<1:=λh=>j (h0.2 h);congr 1;simp only[h,adP];rw[<-decide_not,j2];rw[k];omega
 rw[ah (by simp[h])];simp[h]
def M9{l:List aT}(hl:l.length<=1048576):xf l=some (decide (iA l)):=by
 unfold xf;rw[cu (σ:=List (Int×Bool)) (st:=λz k=>(k,z)) (l:=l) (λz x=>if !decide (fx x)||ar z x.id false then .inr (.inr false)else .inl (aM z x.id true)) (λ_=>.inl ()) (λ_ _=>True) (λk x z M _=>by
  have O:=aZ M;dsimp only;rw[ah (by simpa using O),aY (aF M),Zn,Yr,af];by_cases B:(1<=x.id/\x.id<=1000000)/\ar z x.id false=false/\(-7<=x.key/\x.key<=7)
  ·rw[ag (by simp only[c3 B];rfl),Ys,af];by_cases F:bF x.length/\(1<=bz x.length/\bz x.length<=40320)
   ·have j:fx x:=⟨B.1,F.1,F.2,B.2.2⟩;rw[ag (by simp only[c3 F];rfl)];rw[av (by omega)];simp[j,B.2.1]
   have j:¬fx x:=λh=>F ⟨h.2.1,h.2.2.1⟩;rw[ah (by simp only[da F];rfl)];simp[j]
  rw[ah (by simp only[da B];rfl),if_pos];by_cases j:fx x
  ·cases N:ar z x.id false
   ·exact absurd ⟨j.1,N,j.2.2.2⟩ B
   simp
  simp[j]) (λ_ _ _ _ _ _ _=>trivial) (λz _=>by dsimp only;rw[ag (by simp)]) [] trivial,EN]
 by_cases G:(∀x∈l,(!decide (fx x))=false)/\(l.map aT.id).Nodup/\∀x∈l,ar ([]:List (Int×Bool)) x.id false=false
 ·have B:∀b∈l,fx b:=λb j=>by simpa using G.1 b j
  rw[if_pos G,ew,jR];refine dn some (j2.2 ⟨?_,?_⟩)
  ·rintro⟨a,b⟩;exact⟨⟨by omega,by omega⟩,B,G.2.1⟩
  rintro⟨⟨a,b⟩,_⟩;omega
 rw[if_neg G,e9];congr 1;symm;exact da λh=>G ⟨λb j=>by simp[h.2.1 b j],h.2.2,λb _=>rfl⟩
def dW(bars:List aT):List (Int×Int):=(bars.foldl (λ(p:List (Int×Int)×Nat) b=>(aM p.1 b.id (p.2:Int),p.2+1)) ([],0)).1
def Nx{bars:List aT}(hl:bars.length<=1048576):xj bars=some (dW bars):=by
 unfold xj;have:=cu (σ:=List (Int×Int)×Nat) (st:=λz k=>(k,z.1)) (step:=λj:(Int×(List (Int×Int)))=>ab (aj j.1 (bars.length:Int)) (aa (an bars j.1) λM=>ae (ai (j.1+1)) <|some (.inl ((j.1+1),(aM j.2 M.id j.1)))) (some (.inr j.2))) (l:=bars) (λz x=>.inl (aM z.1 x.id (z.2:Int),z.2+1)) (λz=>z.1) (λk z=>z.2=k) (λk x z B F=>by
  have G:=aZ B;dsimp only;rw[ah (by simpa using G),aY (aF B),av (by omega),F];rfl) (λk x z z' B F h=>by
  injection h with h;rw[<-h];simp[F]) (λz _=>by dsimp only;rw[ag (by simp)]) ([],0) rfl
 rw[this,eh (λ(z:List (Int×Int)×Nat)(x:aT)=>(aM z.1 x.id (z.2:Int),z.2+1)) _ _ (λ_ _ _=>rfl),af];rfl
def NA:∀(l:List aT)(z:List (Int×Int)×Nat)(id:Int),dU (l.foldl (λ(p:List (Int×Int)×Nat) b=>(aM p.1 b.id (p.2:Int),p.2+1)) z).1 id=(dU z.1 id||l.any λb=>decide (b.id=id))
 | [],z,id=>by simp
 |b::l,z,id=>by
  rw[List.foldl_cons,NA l,Aw];simp only[List.any_cons];rw[show decide (id=b.id)=decide (b.id=id)from j2.2 eq_comm];cases dU z.1 id<;>cases decide (b.id=id)<;>simp
def Nz:∀(l:List aT)(z:List (Int×Int)×Nat)(id:Int),(l.map aT.id).Nodup->ar (l.foldl (λ(p:List (Int×Int)×Nat) b=>(aM p.1 b.id (p.2:Int),p.2+1)) z).1 id 0=match l.findIdx? λb=>decide (b.id=id)with|some i=>((z.2+i:Nat):Int)|none=>ar z.1 id 0
 | [],z,id,_=>by simp
 |b::l,z,id,j=>by
  simp only[e7,h5,gg]at j;rw[List.foldl_cons,Nz l _ id j.2,pa];dsimp only;by_cases h:b.id=id
  ·have:(l.findIdx? λb=>decide (b.id=id))=none:=by
    rw[List.findIdx?_eq_none_iff];intro x k;simp only[hA];exact λe=>j.1 ⟨x,k,by rw[e,h]⟩
   rw[this];simp[h,mH]
  simp only[h,decide_false];cases B:l.findIdx? λb=>decide (b.id=id)with
  |none=>simp[mH,hU h]
  |some i=>
   simp only[Option.map_some,hR,h9];exact dn Int.ofNat (by omega:z.2+1+i=z.2+(i+1))
def YT(l:List aT)(id:Int):dU (dW l) id=l.any λb=>decide (b.id=id):=by
 unfold dW;rw[NA];rfl
def Ny{l:List aT}(k:(l.map aT.id).Nodup){id:Int}(h:(l.any λb=>decide (b.id=id))=true):ar (dW l) id 0=ix l λb=>decide (b.id=id):=by
 unfold dW;rw[Nz l _ id k];unfold ix;cases j:l.findIdx? λb=>decide (b.id=id)with
 |none=>
  have:(l.findIdx? λb=>decide (b.id=id)).isSome=l.any _:=List.findIdx?_isSome;rw[j,h]at this;cases this
 |some i=>simp
def rG{α:Type}(l:List α)(p:α->Bool):aR (some (match l.findIdx? p with|some i=>(.inr (i:Int):Unit⊕Int)|none=>.inl ())) (λ_=>some (-1))=some (ix l p):=by
 unfold ix;cases l.findIdx? p<;>rfl
def OE{bars:List aT}(hl:bars.length<=1048576)(id:Int):xu (bars,id)=some (ix bars λb=>decide (b.id=id)):=by
 unfold xu;dsimp only;rw[nL (l:=bars) (λb=>decide (b.id=id)) (λk x j=>by
  have B:=aZ j;rw[ah (by simpa using B),aY (aF j)];by_cases h:x.id=id
  ·rw[ah (by simp[h])];simp[h]
  rw[ag (by simp[h]),av (by omega)];simp[h]) (by rw[ag (by simp)])]
 exact rG bars _
def aa1{p q r s:Nat}(B:Nat.Coprime p q)(F:Nat.Coprime r s)(G:0<q)(M:0<s)(h:p*s=r*q):p=r/\q=s:=by
 have j:q∣s:=A1 (Nat.Coprime.symm B) ⟨r,by rw[h,o7]⟩;have k:s∣q:=A1 (Nat.Coprime.symm F) ⟨p,by rw[<-h,o7]⟩;have e:q=s:=Nat.dvd_antisymm j k;subst e;exact⟨Nat.eq_of_mul_eq_mul_right G h,rfl⟩
def aa0{N D t:Nat}(B:0<D)(h:N*1680=t*D):N/Nat.gcd N D=t/Nat.gcd t 1680/\D/Nat.gcd N D=1680/Nat.gcd t 1680:=by
 have j:0<Nat.gcd N D:=qn _ B;have k:0<Nat.gcd t 1680:=qn _ (by omega);have F:=ra (adQ N D);have G:=ra (r3 N D);have M:=ra (adQ t 1680);have O:=ra (r3 t 1680);refine aa1 (tv j) (tv k) (Nat.div_pos (y0 B (r3 N D)) j) (Nat.div_pos (y0 (by omega) (r3 t 1680)) k) ?_;refine Nat.eq_of_mul_eq_mul_right (adY j k) ?_
 calc N/Nat.gcd N D*(1680/Nat.gcd t 1680)*(Nat.gcd N D*Nat.gcd t 1680)=(N/Nat.gcd N D*Nat.gcd N D)*(1680/Nat.gcd t 1680*Nat.gcd t 1680):=by ac_rfl
  _=(t/Nat.gcd t 1680*Nat.gcd t 1680)*(D/Nat.gcd N D*Nat.gcd N D):=by rw[F,G,M,O];exact h
  _=t/Nat.gcd t 1680*(D/Nat.gcd N D)*(Nat.gcd N D*Nat.gcd t 1680):=by ac_rfl
def eN(t:Int):Rat:=⟨((t.toNat/Nat.gcd t.toNat 1680:Nat):Int),((1680/Nat.gcd t.toNat 1680:Nat):Int)⟩
def D9{q:Rat}(h:bF q):∃n d k:Nat,q.n=n/\q.d=d/\bz q=((n*k:Nat):Int)/\d*k=1680/\0<d/\0<k/\Nat.Coprime n d/\n<=1000000000:=by
 obtain⟨G,M,N⟩:=Im h;have O:=h.2.1;obtain⟨n,B⟩:∃n:Nat,q.n=n:=⟨q.n.toNat,by omega⟩;obtain⟨d,j⟩:∃n:Nat,q.d=n:=⟨q.d.toNat,by omega⟩;obtain⟨k,F⟩:∃n:Nat,Int.tdiv 1680 q.d=n:=⟨(Int.tdiv 1680 q.d).toNat,by omega⟩;refine⟨n,d,k,B,j,?_,?_,by omega,by omega,?_,?_⟩
 ·unfold bz;rw[B,F];exact(Int.natCast_mul n k).symm
 ·rw[F,j,<-Int.natCast_mul]at G;omega
 ·have:=h.1.2.2.2.2;rw[B,j]at this;simpa [Int.gcd]using this
 have:=h.1.2.2.2.1;omega
def zC{q:Rat}(h:bF q):q=eN (bz q):=by
 obtain⟨n,d,k,j,B,M,F,O,G,N,_⟩:=D9 h;have g:Nat.gcd (n*k) 1680=k:=by
  rw[<-F,o7 n k,o7 d k,Nat.gcd_mul_left,N.gcd_eq_one,Nat.mul_one]
 obtain⟨Y,U⟩:=q;unfold eN;rw[M,Int.toNat_natCast,g,Nat.mul_div_cancel _ G,<-F,Nat.mul_div_cancel _ G];dsimp only at j B;rw[j,B]
theorem yg{t:Int}(N:0<=t)(O:t<=1000000000):bF (eN t)/\bz (eN t)=t:=by
 obtain⟨n,rfl⟩:∃n:Nat,t=n:=⟨t.toNat,by omega⟩;have k:0<Nat.gcd n 1680:=qn _ (by omega);have F:=ra (adQ n 1680);have j:=ra (r3 n 1680);have M:0<1680/Nat.gcd n 1680:=Nat.div_pos (y0 (by omega) (r3 n 1680)) k;have U:1680/Nat.gcd n 1680<=1680:=p1 _ _;have Y:n/Nat.gcd n 1680<=n:=p1 _ _;have G:=tv k;have B:Int.tdiv 1680 ((1680/Nat.gcd n 1680:Nat):Int)=(Nat.gcd n 1680:Nat):=by
  have:Int.tdiv ((1680:Nat):Int) ((1680/Nat.gcd n 1680:Nat):Int)=((1680/(1680/Nat.gcd n 1680):Nat):Int):=rfl;refine this.trans ?_;congr 1;exact Nat.div_eq_of_eq_mul_right M (by rw[j])
 have tm:Int.tmod 1680 ((1680/Nat.gcd n 1680:Nat):Int)=0:=by
  have:=z1 1680 ((1680/Nat.gcd n 1680:Nat):Int);rw[B,<-Int.natCast_mul,j]at this;omega
 refine⟨⟨⟨?_,?_,?_,?_,?_⟩,?_,?_⟩,?_⟩
 ·show(1:Int)<=((1680/Nat.gcd n 1680:Nat):Int);omega
 ·show((1680/Nat.gcd n 1680:Nat):Int)<=1000000;omega
 ·exact Int.le_trans (by decide) (M0 (n/Nat.gcd n 1680))
 ·show((n/Nat.gcd n 1680:Nat):Int)<=1000000000;omega
 ·show Int.gcd ((n/Nat.gcd n 1680:Nat):Int) ((1680/Nat.gcd n 1680:Nat):Int)=1;exact G
 ·exact M0 (n/Nat.gcd n 1680)
 ·exact tm
 show((n/Nat.gcd n 1680:Nat):Int)*Int.tdiv 1680 ((1680/Nat.gcd n 1680:Nat):Int)=(n:Int);rw[B,<-Int.natCast_mul,F]
def size_eq{n:Int}(h: -1000000000000000<=n/\n<=1000000000000000):nW n=some (n.natAbs:Int):=by
 unfold nW fk;rw[av (by omega)];congr 1;omega
def aa2{N D:Nat}(G:1<=D)(M:D<=10000000)(O:N<=10000000000000):uR ⟨(N:Int),(D:Int)⟩=some ⟨((N/Nat.gcd N D:Nat):Int),((D/Nat.gcd N D:Nat):Int)⟩:=by
 rw[N7];unfold w7;rw[size_eq (by dsimp only;omega),af,size_eq (by dsimp only;omega),af,ag (by simp),x9 _ _ _ (ec _) (by omega) (by omega)];dsimp only;have B:((Int.gcd (((N:Int).natAbs:Nat):Int) (((D:Int).natAbs:Nat):Int):Nat):Int)=((Nat.gcd N D:Nat):Int):=by simp[Int.gcd]
 rw[B];have U:0<Nat.gcd N D:=qn _ (by omega);have j:N/Nat.gcd N D<=N:=p1 _ _;have k:D/Nat.gcd N D<=D:=p1 _ _;have F:Int.tdiv (N:Int) ((Nat.gcd N D:Nat):Int)=((N/Nat.gcd N D:Nat):Int):=rfl;have t2:Int.tdiv (D:Int) ((Nat.gcd N D:Nat):Int)=((D/Nat.gcd N D:Nat):Int):=rfl;unfold uA;dsimp only;rw[F,t2];generalize N/Nat.gcd N D=x at j⊢;generalize D/Nat.gcd N D=y at k⊢;rw[tT (by omega),tT (by unfold ig;omega),tT (by unfold ig;omega)]
def OQ{a b:Rat}(ad:bF a)(ae:bF b)(h:bz a+bz b<=1000000000):kh (a,b)=some (eN (bz a+bz b),0):=by
 have an:=sv a;have ao:=sv b;rw[c3 ad.1]at an;rw[c3 ae.1]at ao;obtain⟨n,d,k,ax,Y,ay,Z,az,aM,aN,aA⟩:=D9 ad;obtain⟨B,j,F,aC,aa,aD,ab,aE,aO,aP,aF⟩:=D9 ae;have ai:d<=1680:=y0 (by omega) ⟨k,Z.symm⟩;have aj:j<=1680:=y0 (by omega) ⟨F,ab.symm⟩;have aJ:n*j<=1000000000*1680:=vt aA aj;have aK:B*d<=1000000000*1680:=vt aF ai;have aL:d*j<=1680*1680:=vt ai aj;have ar:0<d*j:=adY az aE;have ak:a.n*b.d=((n*j:Nat):Int):=by rw[ax,aa];exact(Int.natCast_mul _ _).symm
 have al:b.n*a.d=((B*d:Nat):Int):=by rw[aC,Y];exact(Int.natCast_mul _ _).symm
 have aH:a.d*b.d=((d*j:Nat):Int):=by rw[Y,aa];exact(Int.natCast_mul _ _).symm
 have aI:a.n*b.d+b.n*a.d=((n*j+B*d:Nat):Int):=by rw[ak,al];exact(Int.natCast_add _ _).symm
 have ht:bz a+bz b=((n*k+B*F:Nat):Int):=by rw[ay,aD];exact(Int.natCast_add _ _).symm
 have aw:(n*j+B*d)*1680=(n*k+B*F)*(d*j):=by
  rw[p5,p5];congr 1
  ·calc n*j*1680=n*j*(d*k):=by rw[Z]
    _=n*k*(d*j):=by ac_rfl
  calc B*d*1680=B*d*(j*F):=by rw[ab]
   _=B*F*(d*j):=by ac_rfl
 have aq:=aa0 ar aw;have ah:=yg (t:=bz a+bz b) (by rw[ht];omega) h;have aG:BR ⟨((n*j+B*d:Nat):Int),((d*j:Nat):Int)⟩=some (eN (bz a+bz b),0):=by
  unfold BR;rw[aa2 (by omega) (by omega) (by omega),aq.1,aq.2,af];have aB:eN (bz a+bz b)=⟨(((n*k+B*F)/Nat.gcd (n*k+B*F) 1680:Nat):Int),((1680/Nat.gcd (n*k+B*F) 1680:Nat):Int)⟩:=by
   unfold eN;rw[ht,Int.toNat_natCast]
  rw[aB]at ah⊢;obtain⟨⟨⟨G,M,N,O,_⟩,U,_⟩,_⟩:=ah;dsimp only at G M N O U⊢;generalize (n*k+B*F)/Nat.gcd (n*k+B*F) 1680=x at G M N O U⊢;generalize 1680/Nat.gcd (n*k+B*F) 1680=y at G M N O U⊢;rw[size_eq (by omega),af,ag (by simp;omega),af,ag (by simp;omega)]
 unfold kh GN GM;dsimp only;rw[an,ao,af,af];refine(au (x:=(eN (bz a+bz b),0)) ?_).trans rfl;refine(au (x:=false) rfl).trans ?_;refine(ag rfl).trans ?_;rw[aI,ak,al,aH,av (by omega),av (by omega),av (by omega),av (by omega),af,aG,af]
def lx{α:Type}(b:Int->α->Bool)(nx:α->Int):Int->List α->Bool
 |_,[]=>true
 |z,x::l=>!b z x&&lx b nx (nx x) l
theorem Aq{α:Type}{step:Int×Int->Option ((Int×Int)⊕(Unit⊕Bool))}{l:List α}(b:Int->α->Bool)(nx:α->Int)(O:∀(k:Nat) x z,l[k]?=some x->step (z,k)=some (if b z x then .inr (.inr false)else .inl (nx x,((k+1:Nat):Int))))(M:∀z,step (z,l.length)=some (.inr (.inl ())))(F:Int) :
  aA step (F,0)=some (if lx b nx F l then .inl ()else .inr false):=by
 have key:∀(n k:Nat)(z:Int),k+n=l.length->aA step (z,(k:Int))=some (if lx b nx z (l.drop k)then .inl ()else .inr false):=by
  intro n;induction n with
  |zero=>
   intro k z N;have:k=l.length:=by omega
   subst this;rw[zc];exact fj (M z)
  |succ n Y=>
   intro k z N;have G:k<l.length:=by omega
   have U:l[k]?=some l[k]:=c5 G;rw[hS G];have B:=O k l[k] z U;generalize l[k]=x at B⊢;have e:lx b nx z (x::l.drop (k+1))=(!b z x&&lx b nx (nx x) (l.drop (k+1))):=rfl;rw[e];by_cases j:b z x=true
   ·rw[if_pos j]at B;rw[j];exact fj B
   rw[if_neg j]at B;have j:b z x=false:=by simpa using j
   rw[jC B,Y (k+1) _ (by omega),j];rfl
 exact key l.length 0 F (by omega)
def oB(bars z:Int)(r:Repeat):Bool:=decide (r.from_<z)||decide (r.aW<=r.from_)||decide (bars<r.aW)||decide (r.times<1)||decide (9<r.times)
def oe(bars:Int)(l:List Repeat):Bool:=decide (l.length<=100)&&lx (oB bars) Repeat.aW 0 l
def AM(a b c d e:Bool):ab a (some true) (ab b (some true) (ab c (some true) (ab d (some true) (some e))))=some (a||b||c||d||e):=by cases a<;>cases b<;>cases c<;>cases d<;>rfl
def NX(a b c d e f:Bool):ab a (some true) (ab b (some true) (ab c (some true) (ab d (some true) (ab e (some true) (some f)))))=some (a||b||c||d||e||f):=by cases a<;>cases b<;>cases c<;>cases d<;>cases e<;>rfl
def Fv(n:Nat):leI (n:Int) 100=decide (n<=100):=by
 unfold leI;rw[gl,ea,ea];omega
theorem Y8{o:Order}(hl:o.form.bg.length<=1048576):BV o=some (oe o.form.bars o.form.bg):=by
 unfold BV oe;rw[Aq (l:=o.form.bg) (oB o.form.bars) Repeat.aW (λk x z j=>by
  have B:=aZ j;dsimp only;rw[ah (by simpa using B),aY (aF j),AM,af];unfold oB;rw[av (by omega)];cases (decide (x.from_<z)||decide (x.aW<=x.from_)||decide (o.form.bars<x.aW)||decide (x.times<1)||decide (9<x.times))<;>rfl) (λz=>by dsimp only;rw[ag (by simp)]) 0]
 generalize lx (oB o.form.bars) Repeat.aW 0 o.form.bg=q;cases q
 ·rw[if_neg (by decide),e9,vx]
 rw[if_pos rfl,ew,p2,Fv]
def aam{l:List Repeat}(hl:l.length<=1048576)(bars:Int):Bw (l,bars)=some (oe bars l):=by
 unfold Bw oe;dsimp only;by_cases h:100<l.length
 ·rw[ah (by simp;omega),da (by omega)];rfl
 rw[ag (by simp;omega),c3 (by omega),k4,Aq (l:=l) (oB bars) Repeat.aW (λk x z j=>by
  have B:=aZ j;dsimp only;rw[aY (aF j),aY (aF j),aY (aF j),aY (aF j),aY (aF j),aY (aF j),aY (aF j)];rw[ah (by simpa using B),AM,af];unfold oB;rw[av (by omega)];cases (decide (x.from_<z)||decide (x.aW<=x.from_)||decide (bars<x.aW)||decide (x.times<1)||decide (9<x.times))<;>rfl) (λz=>by dsimp only;rw[ag (by simp)]) 0]
 cases lx (oB bars) Repeat.aW 0 l<;>rfl
def tZ(l:List Repeat)(a b:Int):Bool:=l.any λr=>decide (r.from_<=a)&&decide (b<=r.aW)
def Vu{l:List Repeat}(hl:l.length<=1048576)(e:Ending):Cb (l,e)=some (tZ l e.from_ e.aW):=by
 unfold Cb G6;dsimp only;rw[mq (l:=l) (λr=>decide (r.from_<=e.from_)&&decide (e.aW<=r.aW)) (λk x j=>by
  have B:=aZ j;unfold GP;dsimp only;rw[ah (by simpa using B),aY (aF j),fK,af,af];cases (decide (x.from_<=e.from_)&&decide (e.aW<=x.aW))
  ·rw[gE,av (by omega)];rfl
  rfl) (by rw[ag (by simp)])]
 rfl
def aai{l:List Repeat}(hl:l.length<=1048576)(a b:Int):Bu (l,a,b)=some (tZ l a b):=by
 unfold Bu;dsimp only;rw[il (l:=l) (λr=>decide (r.from_<=a)&&decide (b<=r.aW)) true (λk x j=>by
  have B:=aZ j;simp only[aF j,af];rw[ah (by simpa using B),fK,af];cases (decide (x.from_<=a)&&decide (b<=x.aW))
  ·rw[gE,av (by omega)];rfl
  rfl) (by rw[ag (by simp)])]
 unfold tZ;cases (l.any λr=>decide (r.from_<=a)&&decide (b<=r.aW))<;>rfl
def rf(l:List Repeat)(z:Int)(e:Ending):Bool:=decide (e.from_<z)||decide (e.aW<=e.from_) || !tZ l e.from_ e.aW||decide (e.pass<1)||decide (9<e.pass)
def p8(f:Form):Bool:=decide (f.bC.length<=100)&&lx (rf f.bg) Ending.aW 0 f.bC
theorem Y7{o:Order}(F:o.form.bg.length<=1048576)(hl:o.form.bC.length<=1048576):BU o=some (p8 o.form):=by
 unfold BU p8;rw[Aq (l:=o.form.bC) (rf o.form.bg) Ending.aW (λk x z j=>by
  have B:=aZ j;dsimp only;rw[ah (by simpa using B),aY (aF j),Vu F,af,AM,af];unfold rf;rw[av (by omega)];cases (decide (x.from_<z)||decide (x.aW<=x.from_) || !tZ o.form.bg x.from_ x.aW||decide (x.pass<1)||decide (9<x.pass))<;>rfl) (λz=>by dsimp only;rw[ag (by simp)]) 0]
 generalize lx (rf o.form.bg) Ending.aW 0 o.form.bC=q;cases q
 ·rw[if_neg (by decide),e9,vx]
 rw[if_pos rfl,ew,p2,Fv]
def aag{f:Form}(F:f.bg.length<=1048576)(hl:f.bC.length<=1048576):Bt f=some (p8 f):=by
 unfold Bt p8;by_cases h:100<f.bC.length
 ·rw[ah (by simp;omega),da (by omega)];rfl
 rw[ag (by simp;omega),c3 (by omega),k4,Aq (l:=f.bC) (rf f.bg) Ending.aW (λk x z j=>by
  have B:=aZ j;dsimp only;rw[ah (by simpa using B),aY (aF j),aai F,af,AM,af];unfold rf;rw[av (by omega)];cases (decide (x.from_<z)||decide (x.aW<=x.from_) || !tZ f.bg x.from_ x.aW||decide (x.pass<1)||decide (9<x.pass))<;>rfl) (λz=>by dsimp only;rw[ag (by simp)]) 0]
 cases lx (rf f.bg) Ending.aW 0 f.bC<;>rfl
def mi(l:List Repeat)(b:Int):Bool:=l.any λr=>decide (r.from_<b)&&decide (b<r.aW)
def Y5{o:Order}(hl:o.form.bg.length<=1048576)(b:Int):uT (o,b)=some (mi o.form.bg b):=by
 unfold uT GX G7;dsimp only;rw[mq (l:=o.form.bg) (λr=>decide (r.from_<b)&&decide (b<r.aW)) (λk x j=>by
  have B:=aZ j;unfold GR;dsimp only;rw[ah (by simpa using B),aY (aF j),fK,af,af];cases (decide (x.from_<b)&&decide (b<x.aW))
  ·rw[gE,av (by omega)];rfl
  rfl) (by rw[ag (by simp)])]
 rfl
def aao{l:List Repeat}(hl:l.length<=1048576)(b:Int):uL (l,b)=some (mi l b):=by
 unfold uL;dsimp only;rw[il (l:=l) (λr=>decide (r.from_<b)&&decide (b<r.aW)) true (λk x j=>by
  have B:=aZ j;simp only[aF j,af];rw[ah (by simpa using B),fK,af];cases (decide (x.from_<b)&&decide (b<x.aW))
  ·rw[gE,av (by omega)];rfl
  rfl) (by rw[ag (by simp)])]
 unfold mi;cases (l.any λr=>decide (r.from_<b)&&decide (b<r.aW))<;>rfl
def Kk(a b:Jump):DL a b=decide (a=b):=by
 obtain⟨j,k,B⟩:=a;obtain⟨F,G,M⟩:=b;rw[gl,ea,Jump.mk.injEq];show c9 [.int .i64 j,.int .i64 k,.int .i64 B] [.int .i64 F,.int .i64 G,.int .i64 M]=true↔_;simp[c9,gB]
def nG(f:Form):Bool:=decide (f.jump=⟨0,0,0⟩)||(!(decide (f.jump.at_<1)||decide (f.bars<f.jump.at_)||decide (f.jump.to<0)||decide (f.jump.at_<=f.jump.to)||decide (f.jump.de<=f.jump.to)||decide (f.bars<f.jump.de)) && !mi f.bg f.jump.at_ && !mi f.bg f.jump.to && !mi f.bg f.jump.de)
theorem Ze{o:Order}(hl:o.form.bg.length<=1048576):BX o=some (nG o.form):=by
 unfold BX nG;simp only[Kk,NX,af,Y5 hl];cases decide (o.form.jump=⟨0,0,0⟩)<;>cases (decide (o.form.jump.at_<1)||decide (o.form.bars<o.form.jump.at_)||decide (o.form.jump.to<0)||decide (o.form.jump.at_<=o.form.jump.to)||decide (o.form.jump.de<=o.form.jump.to)||decide (o.form.bars<o.form.jump.de))<;>cases mi o.form.bg o.form.jump.at_<;>cases mi o.form.bg o.form.jump.to<;>cases mi o.form.bg o.form.jump.de<;>rfl
def aaj{f:Form}(hl:f.bg.length<=1048576):Bv f=some (nG f):=by
 unfold Bv nG;simp only[Kk,NX,af,aao hl];cases decide (f.jump=⟨0,0,0⟩)<;>cases (decide (f.jump.at_<1)||decide (f.bars<f.jump.at_)||decide (f.jump.to<0)||decide (f.jump.at_<=f.jump.to)||decide (f.jump.de<=f.jump.to)||decide (f.bars<f.jump.de))<;>cases mi f.bg f.jump.at_<;>cases mi f.bg f.jump.to<;>cases mi f.bg f.jump.de<;>rfl
def iY(bars:Int)(c:Cut):Prop:=0<=c.from_/\c.from_<c.aW/\c.aW<=bars/\0<=c.pass/\c.pass<=20
instance (bars:Int) (c:Cut):Decidable (iY bars c):=inferInstanceAs (Decidable (_/\_/\_/\_/\_))
def I8(a b c d e:Bool):ab a (ab b (ab c (ab d (some e) (some false)) (some false)) (some false)) (some false)=some (a&&b&&c&&d&&e):=by cases a<;>cases b<;>cases c<;>cases d<;>rfl
def Zd(o:Order)(c:Cut):BW (o,c)=some (decide (iY o.form.bars c)):=by
 unfold BW iY;dsimp only;rw[I8,af];exact iL (by simp[mv])
def aaf(f:Form)(c:Cut):xy (f,c)=some (decide (iY f.bars c)):=by
 unfold xy iY;dsimp only;rw[I8,af];exact iL (by simp[mv])
def zG(a b:Cut):lP 10 a b=decide (a=b):=by
 obtain⟨j,k,B⟩:=a;obtain⟨F,G,M⟩:=b;rw[gl,ea,Cut.mk.injEq];show c9 [.int .i64 j,.int .i64 k,.int .i64 B] [.int .i64 F,.int .i64 G,.int .i64 M]=true↔_;simp[c9,gB]
def Us(a b:Cut):Kh a b=decide (a=b):=zG a b
def rY(m:List (Cut×Bool))(n:Cut)(v:Bool):List (Cut×Bool):=k9 10 m n v
def nR(m:List (Cut×Bool))(n:Cut)(v:Bool):Bool:=mI 10 m n v
theorem YG(n:Cut)(v:Bool):rY [] n v=[(n,v)]:=rfl
def YF(p:Cut×Bool)(m:List (Cut×Bool))(n:Cut)(v:Bool):rY (p::m) n v=if n=p.1 then(p.1,v)::m else p::rY m n v:=by
 show(if lP 10 n p.1=true then _ else _)=_;rw[zG];by_cases h:n=p.1
 ·rw[if_pos h];exact if_pos (c3 h)
 rw[if_neg h];exact if_neg (λe=>h (fv e))
def wO(p:Cut×Bool)(m:List (Cut×Bool))(k:Cut)(z:Bool):nR (p::m) k z=if k=p.1 then p.2 else nR m k z:=by
 show((List.find? (λq=>lP 10 k q.1) (p::m)).map (·.2)).getD z=_;rw[List.find?_cons];by_cases h:k=p.1
 ·rw[if_pos h];have:lP 10 k p.1=true:=(zG _ _).trans (c3 h);simp only[this];rfl
 rw[if_neg h];have:lP 10 k p.1=false:=(zG _ _).trans (da h);simp only[this];rfl
def E9{n:Int}(h: -9223372036854775808<=n/\n<=9223372036854775807):ai n=true:=c3 h
def E8{α:Type}{p q:Prop}[Decidable p][Decidable q]{x y:α}(h:p↔q):(if p then x else y)=if q then x else y:=by
 by_cases j:p
 ·rw[if_pos j,if_pos (h.1 j)]
 rw[if_neg j,if_neg (λk=>j (h.2 k))]
def Nn(n:Cut)(v:Bool)(k:Cut)(z:Bool):∀(m:List (Cut×Bool)),nR (rY m n v) k z=if k=n then v else nR m k z
 | []=>by rw[YG,wO]
 |p::m=>by
  have B:=Nn n v k z m;rw[YF];by_cases h:n=p.1
  ·rw[if_pos h,wO,wO,h];by_cases j:k=p.1
   ·simp[j]
   simp[j]
  rw[if_neg h,wO,wO,B];by_cases j:k=p.1
  ·rw[if_pos j,if_pos j,if_neg (λe=>h (e.symm.trans j))]
  rw[if_neg j,if_neg j]
def tD(f:Form):Bool:=decide (f.bd.length<=100)&&decide ((∀c∈f.bd,iY f.bars c)/\f.bd.Nodup)
def LZ{ok:Cut->Prop}[∀c,Decidable (ok c)]:∀(l:List Cut)(m:List (Cut×Bool)),cV (λ(m:List (Cut×Bool)) x=>if(!decide (ok x)||nR m x false)=true then(.inr (.inr false):_⊕(Unit⊕Bool))else .inl (rY m x true)) (λ_=>.inl ()) l m =
  if(∀c∈l,ok c/\nR m c false=false)/\l.Nodup then .inl ()else .inr false
 | [],m=>by simp[cV]
 |c::l,m=>by
  simp only[cV];by_cases j:ok c
  ·cases B:nR m c false with
   |true=>simp[j,B]
   |false=>
    simp only[j,B,K2,pb,T0,hR,h9];refine(LZ l _).trans ?_;refine E8 ?_;simp only[fa,h5,Nn];constructor
    ·rintro⟨k,F⟩;refine⟨λx hx=>?_,λM=>?_,F⟩
     ·rcases hx with rfl|hx
      ·exact⟨j,B⟩
      have:=k x hx;by_cases e:x=c
      ·rw[if_pos e]at this;exact absurd this.2 (by simp)
      rw[if_neg e]at this;exact this
     have:=k c M;rw[if_pos rfl]at this;exact absurd this.2 (by simp)
    rintro⟨k,F,G⟩;refine⟨λx hx=>?_,G⟩;have e:x≠c:=λe=>F (e▸hx);rw[if_neg e];exact k x (.inr hx)
  simp[j]
theorem Y6{o:Order}(hl:o.form.bd.length<=1048576):BT o=some (tD o.form):=by
 unfold BT tD;rw[cu (σ:=List (Cut×Bool)) (st:=λz k=>(k,z)) (l:=o.form.bd) (λm x=>if(!decide (iY o.form.bars x)||nR m x false)=true then .inr (.inr false)else .inl (rY m x true)) (λ_=>.inl ()) (λ_ _=>True) (λj x z M _=>by
  have O:=aZ M;dsimp only;rw[ah (by simpa using O),aY (aF M),Zd];show aa (aa (some (decide (iY o.form.bars x))) λB=>ab (!B) (some true) (some (nR z x false))) (λ(B:Bool)=>ab B (some (.inr (.inr false):(Int×List (Cut×Bool))⊕(Unit⊕Bool))) (ae (ai ((j:Int)+1)) <|some (.inl (((j:Int)+1),(rY z x true)))))=_;have N:∀(a m:Bool)(q:Unit⊕Bool)(w:List (Cut×Bool))(i:Int)(hi:ai i=true),aa (aa (some a) λB=>ab (!B) (some true) (some m)) (λ(B:Bool)=>ab B (some (.inr q:(Int×List (Cut×Bool))⊕(Unit⊕Bool))) (ae (ai i) <|some (.inl (i,w))))=some (if(!a||m)=true then .inr q else .inl (i,w)):=by
   intro a m q w i hi;cases a<;>cases m<;>first|rfl|exact bG hi
  refine(N _ _ _ _ ((j:Int)+1) (E9 (by omega))).trans ?_;cases (!decide (iY o.form.bars x)||nR z x false)<;>rfl) (λ_ _ _ _ _ _ _=>trivial) (λz _=>by dsimp only;rw[ag (by simp)]) [] trivial,LZ]
 by_cases h:(∀c∈o.form.bd,iY o.form.bars c)/\o.form.bd.Nodup
 ·rw[if_pos ⟨λc F=>⟨h.1 c F,rfl⟩,h.2⟩,ew,c3 h,p2,Fv]
 rw[if_neg (λG=>h ⟨λc F=>(G.1 c F).1,G.2⟩),e9,da h,vx]
def aah{l:List Cut}(hl:l.length<=1048576)(c:Cut):xz (l,c)=some (ix l λx=>decide (x=c)):=by
 unfold xz;dsimp only;rw[nL (l:=l) (λx=>decide (x=c)) (λk x j=>by
  have B:=aZ j;rw[ah (by simpa using B),aY (aF j),Us];cases decide (x=c)
  ·rw[gE,av (by omega)];rfl
  rfl) (by rw[ag (by simp)])]
 exact rG l _
def fits(b:aT)(n:aq):Prop:=bF n.start/\bF n.length/\0<bz n.length/\bz n.start+bz n.length<=bz b.length/\(1<=n.id/\n.id<=1000000)/\(1<=n.part/\n.part<=1000000)/\(0<=n.aS/\n.aS<=9)/\(0<=n.br/\n.br<=20)/\l6 n.aN
instance (b:aT) (n:aq):Decidable (fits b n):=inferInstanceAs (Decidable (_/\_/\_/\_/\_/\_/\_/\_/\_))
def ED(n:aq):Option aT->Prop
 |some b=>fits b n
 |none=>False
instance (n:aq):(o:Option aT)->Decidable (ED n o)
 |some b=>inferInstanceAs (Decidable (fits b n))
 |none=>inferInstanceAs (Decidable False)
def gp(bars:List aT)(n:aq):Prop:=ED n (bars.find? λb=>decide (b.id=n.aw))
instance (bars:List aT) (n:aq):Decidable (gp bars n):=inferInstanceAs (Decidable (ED n _))
def NC{bars:List aT}{n:aq}(h:(bars.find? λb=>decide (b.id=n.aw))=none):¬gp bars n:=by unfold gp;rw[h];exact λh=>h
def ND{bars:List aT}{n:aq}{b:aT}(h:(bars.find? λb=>decide (b.id=n.aw))=some b):gp bars n↔fits b n:=by unfold gp;rw[h];exact Iff.rfl
def iG(bars:List aT)(l:List aq):Prop:=iA bars/\l.length<=20000/\(∀n∈l,gp bars n)/\(l.map aq.id).Nodup
instance (bars:List aT) (l:List aq):Decidable (iG bars l):=inferInstanceAs (Decidable (_/\_/\_/\_))
def YO{b:aT}(B:bF b.length)(n:aq):A8 (b,n)=some (decide (fits b n)):=by
 unfold A8;dsimp only;rw[wZ,af,wZ,af,wZ,af,if_pos B];by_cases j:bF n.start
 ·rw[if_pos j];by_cases k:bF n.length
  ·rw[if_pos k];dsimp only;have F:=kr j;have t2:=kr k;rw[av (by omega)];simp only[YR,Gj,YS,af,fK];refine iL ?_;unfold fits;simp[j,k,mv]
  rw[if_neg k];dsimp only;unfold fits;rw[ah rfl,ag rfl,af];simp[k]
 rw[if_neg j];dsimp only;unfold fits;rw[ag rfl,af];simp[j]
def Z3{bars:List aT}(ab:iA bars)(n:aq):Bh (bars,n)=some (decide (gp bars n)):=by
 have hl:=ab.1.2;unfold Bh;dsimp only;rw[OE (by omega),af,ZV,af];simp only[Z5,af,rJ];rcases oP bars λb=>decide (b.id=n.aw)with ⟨G,M⟩| ⟨k,b,G,M,ad,ak⟩
 ·rw[M,ah (by simp),da (NC G)]
 have ae:=(ab.2.1 b (dd G)).2.1;rw[ad,j2.2 (ND M)];by_cases N:l6 n.aN/\(1<=n.id/\n.id<=1000000)/\(1<=n.part/\n.part<=1000000)/\(0<=n.aS/\n.aS<=9)/\(0<=n.br/\n.br<=20)
 ·obtain⟨O,U,Y,Z,aa⟩:=N;rw[ag (by simp[O,U,Y,Z,aa]),jK,jK,af,af];unfold fits;by_cases j:bF n.start
  ·by_cases F:bF n.length
   ·have ai:=kr j;have t2:=kr F;rw[if_pos j,if_pos F,av (by omega),aY (aF G),jK,if_pos ae,af];simp only[fK,af];refine iL ?_;simp[j,F,O,U,Y,Z,aa,ai]
   rw[if_neg F];simp only[j,F,hK];rw[ah (by simp;exact mU j),ag (by simp),af];simp
  rw[if_neg j,ag (by simp),af];simp[j]
 rw[ah (by
  rw[show aj (k:Int) 0=false from da (by omega),lB];refine fl λB=>N ?_;simp only[k5,kb,ta,ea]at B;exact⟨B.1,B.2.1,B.2.2.1,B.2.2.2.1,B.2.2.2.2⟩)]
 congr 1;symm;exact da λh=>N ⟨h.2.2.2.2.2.2.2.2,h.2.2.2.2.1,h.2.2.2.2.2.1,h.2.2.2.2.2.2.1,h.2.2.2.2.2.2.2.1⟩
def Nt{bars:List aT}(hl:bars.length<=1048576)(l:List aq):xi (bars,l)=some (decide (iG bars l)):=by
 unfold xi;dsimp only;rw[M9 hl,af];by_cases G:iA bars
 ·rw[ag (by simp[G]),af];by_cases F:20000<l.length
  ·have:¬iG bars l:=λh=>by have:=h.2.1;omega
   rw[ah (c3 (by omega))];simp[this]
  rw[ag (da (by omega)),Nx hl,af];rw[cu (σ:=List (Int×Bool)) (st:=λz k=>(k,z)) (l:=l) (λz x=>if !decide (gp bars x)||ar z x.id false then .inr (.inr false)else .inl (aM z x.id true)) (λ_=>.inl ()) (λ_ _=>True) (λk x z U _=>by
   have aa:=aZ U;dsimp only;rw[ah (by simpa using aa),aY (aF U),YT];have M:=Lz bars λb=>decide (b.id=x.aw);rcases oP bars λb=>decide (b.id=x.aw)with ⟨F,N⟩| ⟨j,b,F,N,Y,ab⟩
   ·rw[F]at M;rw[M,ah (by simp),af,ah rfl,da (NC F)];rfl
   rw[j2.2 (ND N)];rw[N]at M;have Z:=(G.2.1 b (dd F)).2.1;rw[M,ag (by simp),Ny G.2.2 (by rw[M];rfl),Y,aY (aF F),YO Z,af];rw[rJ,af,Bool.or_comm];by_cases B:(!decide (fits b x)||ar z x.id false)=true
   ·rw[ah B,if_pos B]
   rw[ag (by simpa using B),if_neg B];rw[av (by omega)];rfl) (λ_ _ _ _ _ _ _=>trivial) (λz _=>by dsimp only;rw[ag (by simp)]) [] trivial,EN]
  by_cases B:(∀x∈l,(!decide (gp bars x))=false)/\(l.map aq.id).Nodup/\∀x∈l,ar ([]:List (Int×Bool)) x.id false=false
  ·rw[if_pos B];have:iG bars l:=⟨G,by omega,λn O=>by simpa using B.1 n O,B.2.1⟩;simp[this,ew]
  rw[if_neg B];have:¬iG bars l:=λh=>B ⟨λn O=>by simp[h.2.2.1 n O],h.2.2.2,λn _=>rfl⟩;simp[this,e9]
 have:¬iG bars l:=λh=>G h.1;rw[ah (by simp[G]),af,ah rfl];simp[this]
def Z4(bars:List aT)(l:List aq):Bi (bars,l)=some (decide (iG bars l)):=by
 unfold Bi;dsimp only;rw[OC,af];by_cases G:iA bars
 ·rw[ag (by simp[G]),af];by_cases aa:20000<l.length
  ·have:¬iG bars l:=λh=>by have:=h.2.1;omega
   rw[ah (c3 (by omega))];simp[this]
  rw[ag (da (by omega)),nJ l.length (mR (λn=>!decide (gp bars n)) (λx y=>decide (x.id=y.id)) l) false (λk Y=>by
   have O:l[k]?=some l[k]:=c5 Y;generalize l[k]=x at O;rw[ah (by simpa using Y),aY (aF O),Z3 G,af];unfold mR;rw[O];dsimp only;by_cases B:gp bars x
   ·rw[ag (by simp[B]),il (l:=l.take k) (λy=>decide (y.id=x.id)) (.inr (.inr false)) (λj y U=>by
     obtain⟨Z,U⟩:=CR U;rw[ah (by simpa using Z),aY (aF U),aY (aF O)];by_cases N:y.id=x.id
     ·rw[ah (by simp[N])];simp[N]
     ·rw[ag (by simp[N]),av (by omega)];simp[N]) (by
     rw[fb,qd (by omega),ag (by simp)])]
    by_cases F:((l.take k).any λy=>decide (y.id=x.id))=true
    ·rw[if_pos F,if_pos (by rw[F];simp)];rfl
    rw[if_neg F,if_neg (by simp[B]at F⊢;exact F),ew,av (by omega)];rfl
   rw[ah (by simp[B]),if_pos (by simp[B])];rfl) (by rw[ag (by simp)])]
  have key:=HS (λn=>!decide (gp bars n)) (λx y=>decide (x.id=y.id)) l;rw[vj aq.id]at key;by_cases M:iG bars l
  ·rw[if_neg]
   ·simp[M,ew]
   rw[key];exact λh=>h ⟨λn B=>by simp[M.2.2.1 n B],M.2.2.2⟩
  rw[if_pos]
  ·simp[M,e9]
  rw[key];exact λh=>M ⟨G,by omega,λn B=>by simpa using h.1 n B,h.2⟩
 have:¬iG bars l:=λh=>G h.1;rw[ah (by simp[G]),af,ah rfl];simp[this]
def pe{bars:List aT}{n:aq}(h:gp bars n):∃(k:Nat)(b:aT),bars[k]?=some b/\b.id=n.aw/\fits b n/\ix bars (λb=>decide (b.id=n.aw))=(k:Int):=by
 unfold gp at h;rcases oP bars λb=>decide (b.id=n.aw)with ⟨j,B⟩| ⟨k,b,j,B,F,G⟩
 ·rw[j]at h;exact h.elim
 rw[B]at h;exact⟨k,b,j,by simpa using G,h,F⟩
def AG{bars:List aT}(F:iA bars){n:aq}(h:gp bars n):ar (dW bars) n.aw 0=ix bars (λb=>decide (b.id=n.aw))/\0<=ar (dW bars) n.aw 0/\ar (dW bars) n.aw 0<=4000:=by
 obtain⟨k,b,j,G,M,B⟩:=pe h;have e:ar (dW bars) n.aw 0=ix bars (λb=>decide (b.id=n.aw)):=Ny F.2.2 (by rw[hM];exact⟨b,dd j,by simp[G]⟩);have N:=aZ j;have:=F.1.2;exact⟨e,by rw[e,B];omega,by rw[e,B];omega⟩
def YZ{bars:List aT}(B:iA bars){n:aq}(h:gp bars n):o9 (dW bars) n:=by
 obtain⟨k,b,F,G,j,M⟩:=pe h;obtain⟨e,N,O⟩:=AG B h;unfold fits l6 at j;unfold o9;refine⟨by omega,by omega,j.1,by omega,j.2.2.2.2.2.2.2.2.1,by omega⟩
theorem OF{bars:List aT}(B:iA bars){n:aq}(h:gp bars n):xv (bars,n)=some (nK (dW bars) n):=by
 obtain⟨k,b,F,G,j,M⟩:=pe h;obtain⟨e,N,O⟩:=AG B h;have:=B.1.2;unfold xv;dsimp only;rw[OE (by omega),af,jK,if_pos j.1,af,lr j.2.2.2.2.2.2.2.2.1,af];unfold nK;rw[e]
def uy(z:Int):Unit⊕Bool:=if z=0 then .inl ()else .inr (decide (z<0))
theorem DK{x y:List Int}(hl:x.length=y.length)(ak:x.length<=1000):aA (λj:Int=>ab (aj j (x.length:Int)) (aa (an x j) λM=>aa (an y j) λN=>ab (!(aC M N)) (aa (an x j) λO=>aa (an y j) λU=>some (.inr (.inr (aj O U)))) (ae (ai (j+1)) <|some (.inl (j+1)))) (some (.inr (.inl ())))) 0=some (uy (cP (x.zipWith (· - ·) y))):=by
 have key:∀(n k:Nat),k+n=x.length->aA (λj:Int=>ab (aj j (x.length:Int)) (aa (an x j) λM=>aa (an y j) λN=>ab (!(aC M N)) (aa (an x j) λO=>aa (an y j) λU=>some (.inr (.inr (aj O U)))) (ae (ai (j+1)) <|some (.inl (j+1)))) (some (.inr (.inl ())))) (k:Int)=some (uy (cP ((x.drop k).zipWith (· - ·) (y.drop k)))):=by
  intro n;induction n with
  |zero=>
   intro k ad;rw[mb (by omega)];refine fj ?_;rw[ag (by simp;omega)];rfl
  |succ n af=>
   intro k ad;have B:k<x.length:=by omega
   have Y:k<y.length:=by omega
   have F:x[k]?=some x[k]:=c5 B;have G:y[k]?=some y[k]:=c5 Y;rw[hS B,hS Y];simp only[List.zipWith_cons_cons,cP];generalize x[k]=u at *;generalize y[k]=v at *;by_cases Z:u=v
   ·rw[jC (z':=((k+1:Nat):Int)) (by
     rw[ah (by simpa using B),aY (aF F),aY (aF G),ag (by simp[Z]),av (by omega)];rfl),if_pos (by omega)]
    exact af (k+1) (by omega)
   refine fj ?_;rw[ah (by simpa using B),aY (aF F),aY (aF G),ah (by simp[Z]),aY (aF F),aY (aF G),if_neg (by omega)];unfold uy;rw[if_neg (by omega)];congr 3;rw[j2];omega
 have:=key x.length 0 (by omega);simpa using this
def Z2{bars:List aT}(j:iA bars){a b:aq}(k:gp bars a)(B:gp bars b):Bg (bars,a,b)=some (decide (bf (nK (dW bars)) a b<0)):=by
 unfold Bg;dsimp only;rw[OF j k,OF j B,af,af,DK (x:=nK (dW bars) a) (y:=nK (dW bars) b) rfl (by rw[wS];omega)];unfold uy bf;by_cases h:cP ((nK (dW bars) a).zipWith (· - ·) (nK (dW bars) b))=0
 ·rw[if_pos h,h];rfl
 rw[if_neg h];rfl
theorem Gg{at_:List (Int×Int)}{l:List aq}(G:(l.map aq.id).Nodup):gY (bf (nK at_)) l:=by
 intro a B b F j k;have h:=zr (wS at_) j k;unfold nK at h;simp only[o1]at h;exact rF G B F h.2.2.2.2.2.1
noncomputable def pE(at_:List (Int×Int))(xs:List aq):List aq:=fU (bf (nK at_)) xs
def DV(at_:List (Int×Int)):Go.Sort.SWO (Go.Proofs.ltOf (bf (nK at_))):=CQ (wS at_)
def U9{at_:List (Int×Int)}{a b:aq}(h:bf (nK at_) a b<0):¬bf (nK at_) b a<0:=by
 have:=wv (nK at_ a) (nK at_ b) rfl;unfold bf at *;rw[this];omega
def Vb(at_:List (Int×Int))(a b c:aq)(j:bf (nK at_) a b<0)(k:bf (nK at_) b c<0):bf (nK at_) a c<0:=
 EI (nK at_ a) (nK at_ b) (nK at_ c) rfl rfl j k
def kP(at_:List (Int×Int))(z:List aq)(x:aq):List aq:=Xt (λy=>decide (bf (nK at_) x y<0)) z x
theorem PS{at_:List (Int×Int)}{l m:List aq}(k:m.Pairwise λa b=>¬bf (nK at_) b a<0)(j:m.Perm l)(B:(l.map aq.id).Nodup):m=pE at_ l:=
 yw k (oq (DV at_) l) (j.trans (oj _ l).symm) ((Gg B).perm j.symm)
def tR(at_:List (Int×Int))(l:List aq)(k:Nat):Bool:=match l[k]?,l[k+1]? with
 |some a,some b=>!decide (bf (nK at_) a b<0)
 |_,_=>false
theorem WZ{at_:List (Int×Int)}{l:List aq}(G:(l.map aq.id).Nodup):(List.range (l.length-1)).any (tR at_ l)=true↔¬pE at_ l=l:=by
 constructor
 ·intro h M;obtain⟨k,N,B⟩:=hM.1 h;have N:=ib.1 N;have F:l[k]?=some l[k]:=c5 (by omega);have j:l[k+1]?=some l[k+1]:=c5 (by omega);unfold tR at B;rw[F,j]at B;simp only[gj,hA]at B;have O:=oq (DV at_) l;rw[show fU (bf (nK at_)) l=l from M]at O;have U:=(lb.1 O) k (k+1) (by omega) (by omega) (by omega);have Y:=Gg (at_:=at_) G _ (ie (h:=(by omega:k<l.length))) _ (ie (h:=(by omega:k+1<l.length))) B U;have ab:l.Nodup:=List.Pairwise.of_map aq.id (λa b Z=>λe=>Z (by rw[e])) G;have:=(lb.1 ab) k (k+1) (by omega) (by omega) (by omega);exact this Y
 intro M;refine fl λad=>M ?_
 symm
 refine PS ?_ (List.Perm.refl _) G;have:l.Pairwise λa b=>bf (nK at_) a b<0:=DW (Vb at_) λk a b F j=>by
  refine fl λaa=>ad (hM.2 ⟨k,ib.2 ?_,?_⟩)
  ·have:=aZ j;omega
  unfold tR;rw[F,j];simp[aa]
 exact this.imp λh=>U9 h
def X2{ρ:Type}{step:Int->Option (Int⊕(Unit⊕ρ))}(n:Nat)(p:Nat->Bool)(r:ρ)(h:∀(k:Nat),k<n->step ((k:Int)+1)=some (if p k=true then .inr (.inr r)else .inl ((k:Int)+1+1)))(F:step ((n:Int)+1)=some (.inr (.inl ()))) :
  aA step 1=some (if(List.range n).any p=true then .inr r else .inl ()):=by
 have:=cu (σ:=Unit) (st:=λ_ k=>k+1) (step:=step) (l:=List.range n) (λ_ x=>if p x=true then .inr (.inr r)else .inl ()) (λ_=>.inl ()) (λ_ _=>True) (λk x z j _=>by
  have G:=aZ j;rw[ia (by simpa using G)]at j;injection j with j;subst j;rw[h k (by simpa using G)];split<;>rename_i B<;>simp[B]) (λ_ _ _ _ _ _ _=>trivial) (λz _=>by rw[r2];exact F) () trivial
 rw[show(0:Int)+1=1 from rfl]at this;rw[this];congr 1;clear this h F;generalize List.range n=l;induction l with
 |nil=>rfl
 |cons x l M=>
  simp only[cV,List.any_cons];by_cases B:p x=true
  ·simp[B]
  simp only[B,lB];simpa using M
def fT(i:Interval):Prop:=(-21<=i.steps/\i.steps<=21)/\(-36<=i.bL/\i.bL<=36)/\(-12<=7*i.bL-12*i.steps/\7*i.bL-12*i.steps<=12)
instance (i:Interval):Decidable (fT i):=inferInstanceAs (Decidable (_/\_/\_))
def dG(p:Part):Prop:=(1<=p.id/\p.id<=1000000)/\(0<=p.oi/\p.oi<=99)/\(0<=p.of/\p.of<=1000000)/\(-2<=p.aO/\p.aO<=2)/\(1<=p.dC/\p.dC<=40)/\fT p.shift/\bO p.low/\bO p.high/\p.of≠p.id/\(p.of=0->p.aO=0)/\num p.low<=num p.high
instance (p:Part):Decidable (dG p):=inferInstanceAs (Decidable (_/\_/\_/\_/\_/\_/\_/\_/\_/\_/\_))
def cQ(i:Interval):Prop:=(-70<=i.steps/\i.steps<=70)/\(-120<=i.bL/\i.bL<=120)
instance (i:Interval):Decidable (cQ i):=inferInstanceAs (Decidable (_/\_))
def ZY(n lo hi:Int):Bf (n,lo,hi)=some (decide (lo<=n/\n<=hi)):=jR n lo hi
def OB(i:Interval):xo i=some (if cQ i then(7*i.bL-12*i.steps,0)else(0,1)):=by
 unfold xo GI;simp only[ZY,af,fK];by_cases h:cQ i
 ·have j:=h;unfold cQ at j;rw[if_pos h,ag (by simp;omega),av (by omega),av (by omega),av (by omega)]
 have j:=h;unfold cQ at j;rw[if_neg h,ah (by simp;omega)]
def Fm(i:Interval):uD i=some (if cQ i then(7*i.bL-12*i.steps,0)else(0,1)):=by
 unfold uD GB pj sj fk;simp only[Bc,af,fK];by_cases h:cQ i
 ·have j:=h;unfold cQ at j;rw[if_pos h,ag (by simp;omega),av (by omega),av (by omega),af];rw[af,ag (by simp),av (by omega),av (by omega),av (by omega)]
 have j:=h;unfold cQ at j;rw[if_neg h,ah (by simp;omega),af];dsimp only;rw[af,ah (by simp)]
def acg(i:Interval):sr i=some (decide (fT i)):=by
 unfold sr;rw[Fm,af];by_cases h:cQ i
 ·rw[if_pos h];dsimp only;simp only[yy,af,fK];congr 1;unfold fT;rw[gl];simp[mv]
 rw[if_neg h];dsimp only;rw[ag (by simp),af];congr 1;symm;exact da λj=>h (by unfold fT at j;unfold cQ;omega)
def Z9(i:Interval):Bn i=some (decide (fT i)):=by
 unfold Bn;rw[OB,af];by_cases h:cQ i
 ·rw[if_pos h];dsimp only;simp only[Cy,af,fK];congr 1;unfold fT;rw[gl];simp[mv]
 rw[if_neg h];dsimp only;rw[ag (by simp),af];congr 1;symm;exact da λj=>h (by unfold fT at j;unfold cQ;omega)
def uY(p:Part):Prop:=(1<=p.id/\p.id<=1000000)/\(0<=p.oi/\p.oi<=99)/\(0<=p.of/\p.of<=1000000)/\(-2<=p.aO/\p.aO<=2)/\(1<=p.dC/\p.dC<=40)
instance (p:Part):Decidable (uY p):=inferInstanceAs (Decidable (_/\_/\_/\_/\_))
def qG(p:Part):Prop:=p.of≠p.id/\(p.of=0->p.aO=0)
instance (p:Part):Decidable (qG p):=inferInstanceAs (Decidable (_/\_))
def Ck(p:Part):Prop:=bO p.low/\bO p.high/\num p.low<=num p.high
instance (p:Part):Decidable (Ck p):=inferInstanceAs (Decidable (_/\_/\_))
def jG(p:Part):dG p↔uY p/\qG p/\fT p.shift/\Ck p:=by
 unfold dG uY qG Ck;constructor
 ·rintro⟨j,F,G,M,N,O,U,Y,Z,k,B⟩;exact⟨⟨j,F,G,M,N⟩,⟨Z,k⟩,O,U,Y,B⟩
 rintro⟨⟨j,F,G,M,N⟩,⟨Z,k⟩,O,U,Y,B⟩;exact⟨j,F,G,M,N,O,U,Y,Z,k,B⟩
def abM(p:Part):(aa (uU p.id) λj=>ab j (aa (jh (p.oi,(0,99))) λk=>ab k (aa (jh (p.of,(0,1000000))) λB=>ab B (aa (jh (p.aO,((-2),2))) λF=>ab F (aa (jh (p.dC,(1,40))) λG=>some G) (some false)) (some false)) (some false)) (some false))=some (decide (uY p)):=by
 simp only[PH,yy,af,fK];refine iL ?_;unfold uY;simp only[dk,ea]
def abN(p:Part)(b:Bool):(ab (!b) (some true) (ab (aC p.of p.id) (some true) (ab (aC p.of 0) (ab (!(aC p.aO 0)) (some true) (aa (sr p.shift) λF=>some (!F))) (aa (sr p.shift) λF=>some (!F)))))=some (!(b&&decide (qG p)&&decide (fT p.shift))):=by
 rw[acg];simp only[af];generalize decide (fT p.shift)=s;cases b
 ·rfl
 by_cases j:p.of=p.id
 ·have:¬qG p:=λh=>h.1 j;rw[da this,ag (c:= !true) rfl,ah (by simp[j])];rfl
 rw[ag (c:= !true) rfl,ag (da j)];by_cases k:p.of=0
 ·by_cases B:p.aO=0
  ·have:qG p:=⟨j,λ_=>B⟩;rw[c3 this,ah (c3 k),ag (by simp[B])];simp
  have:¬qG p:=λh=>B (h.2 k);rw[da this,ah (c3 k),ah (by simp[B])];simp
 have:qG p:=⟨j,λh=>absurd h k⟩;rw[c3 this,ag (da k)];simp
def abO(p:Part):(aa (iH p.low) λB=>ab B (aa (iH p.high) λF=>ab F (aa (nX p.low) λG=>aa (nX p.high) λM=>some (leI G M)) (some false)) (some false))=some (decide (Ck p)):=by
 simp only[mJ,af];by_cases j:bO p.low
 ·rw[ah (c3 j)];by_cases k:bO p.high
  ·rw[ah (c3 k),yu j,yu k,af,af];congr 1;rw[j2];exact⟨λh=>⟨j,k,h⟩,λh=>h.2.2⟩
  rw[ag (da k)];congr 1;symm;exact da λh=>k h.2.1
 rw[ag (da j)];congr 1;symm;exact da λh=>j h.1
def abP(p:Part):B4 p=some (decide (dG p)):=by
 unfold B4;rw[abM,af,abN,af,abO,af,Xk,j2.2 (jG p)];refine iL ?_;simp only[Bool.not_not,dk,ea,mv]
def Z6(p:Part):Bj p=some (decide (dG p)):=by
 unfold Bj;simp only[Cy,Z9,oc,af,rJ];by_cases N:uY p/\fT p.shift/\bO p.low/\bO p.high
 ·have Z:=N;obtain⟨⟨O,ab,U,k,ad⟩,Y,B,F⟩:=N;rw[ag (by simp only[O,ab,U,k,ad,c3 Y,c3 B,c3 F,and_self,K2];rfl)];rw[lr B,lr F];simp only[af];by_cases j:p.of=p.id
  ·rw[ag (by simp[j]),af];congr 1;symm;exact da λh=>((jG p).1 h).2.1.1 j
  rw[ah (by simp[j])];by_cases G:p.of=0
  ·rw[ag (by simp[G])];by_cases M:p.aO=0
   ·rw[ah (c3 M),af];congr 1;rw[j2];exact⟨λh=>(jG p).2 ⟨Z.1,⟨j,λ_=>M⟩,Y,B,F,h⟩,λh=>((jG p).1 h).2.2.2.2.2⟩
   rw[ag (da M),af];congr 1;symm;exact da λh=>M (((jG p).1 h).2.1.2 G)
  rw[ah (by simp[G]),af];congr 1;rw[j2];exact⟨λh=>(jG p).2 ⟨Z.1,⟨j,λh=>absurd h G⟩,Y,B,F,h⟩,λh=>((jG p).1 h).2.2.2.2.2⟩
 rw[ah (by
  refine fl λaa=>N ?_;simp only[k5,kb,ta]at aa;obtain⟨ae,ai,aj,ak,al,an,ao,aq⟩:=aa;exact⟨⟨fv ae,fv ai,fv aj,fv ak,fv al⟩,fv an,fv ao,fv aq⟩)]
 congr 1;symm;exact da λh=>N (by
  obtain⟨O,_,U,k⟩:=(jG p).1 h;exact⟨O,U,k.1,k.2.1⟩)
def oV(l:List Part)(p:Part):Bool:= !decide (p.of=0) && !(l.any λq=>decide (q.id=p.of)&&decide (q.of=0))
def ln(l:List Part):Prop:=(1<=l.length/\l.length<=60)/\(∀p∈l,dG p)/\(l.map Part.id).Nodup/\(l.any (oV l))=false
instance (l:List Part):Decidable (ln l):=inferInstanceAs (Decidable (_/\_/\_/\_))
def EO{α:Type}(id:α->Int):∀(l:List α)(z:List (Int×α)),(∀k∈eL z,k∉l.map id)->(l.map id).Nodup->l.foldl (λm x=>aM m (id x) x) z=z++jx id l
 | [],z,_,_=>by simp[jx]
 |x::l,z,h,B=>by
  simp only[e7,h5,fa,not_or]at h B;have F:id x∉eL z:=λF=>(h _ F).1 rfl;rw[List.foldl_cons,Ns x F,EO id l _ (λk j=>?_) B.2]
  ·simp[jx]
  simp only[eL,nh,hD,e7,adN,n2]at j;rcases j with j|rfl
  ·exact(h k j).2
  exact B.1
def L3{α:Type}(id:α->Int):∀(l:List α)(z:List (Int×α)),(l.foldl (λm x=>aM m (id x) x) z).length<=z.length+l.length/\((l.foldl (λm x=>aM m (id x) x) z).length=z.length+l.length->(l.map id).Nodup/\∀k∈eL z,k∉l.map id)
 | [],z=>by simp
 |x::l,z=>by
  obtain⟨U,M⟩:=L3 id l (aM z (id x) x);have G:=Az (id x) x z;rw[List.foldl_cons,List.length_cons];by_cases B:dU z (id x)=true
  ·rw[if_pos B]at G;exact⟨by omega,λh=>by omega⟩
  rw[if_neg B]at G;refine⟨by omega,λh=>?_⟩;obtain⟨N,F⟩:=M (by omega);have O:id x∉eL z:=λj=>B ((wP _ _).2 j);simp only[e7,h5,fa,not_or];refine⟨⟨F (id x) ((Ay _ _ _ _).2 (.inl rfl)),N⟩,λk j=>⟨λe=>O (e▸j),F k ((Ay _ _ _ _).2 (.inr j))⟩⟩
def Ks{α:Type}(id:α->Int)(l:List α)(n:Int):dU (jx id l) n=l.any λx=>decide (id x=n):=by
 rw[gl,wP,hM];unfold jx eL;simp only[k7,gg,Function.comp,ea]
def DN{α:Type}(id:α->Int)(z:α):∀(l:List α)(n:Int),ar (jx id l) n z=(l.find? λx=>decide (id x=n)).getD z
 | [],n=>rfl
 |x::l,n=>by
  have j:=DN id z l n;unfold jx at *;rw[e7,rU,List.find?_cons];by_cases h:id x=n
  ·subst h;simp
  rw[if_neg h,j,da h]
theorem qe{α:Type}{id:α->Int}{l:List α}(G:(l.map id).Nodup){x:α}(k:x∈l):(l.find? λy=>decide (id y=id x))=some x:=by
 cases j:l.find? λy=>decide (id y=id x)with
 |none=>
  have:=n3.1 j x k;simp at this
 |some y=>
  have B:=hf j;have F:=kA j;rw[rF G B k (by simpa using F)]
def X5{l:List Part}(G:(l.map Part.id).Nodup)(p:Part):B2 (p,jx Part.id l)=some (oV l p):=by
 unfold B2 oV;dsimp only;rw[Ks,DN];by_cases h0:p.of=0
 ·rw[ag (by simp[h0]),af];simp[h0]
 rw[ah (by simp[h0]),da h0];cases k:l.any λx=>decide (x.id=p.of)
 ·rw[ah (c:= !false) rfl,af];have:(l.any λq=>decide (q.id=p.of)&&decide (q.of=0))=false:=by
   rw[h8]at k⊢;intro x N;have:=k x N;simp at this;simp[this]
  rw[this];rfl
 rw[ag (c:= !true) rfl,af];obtain⟨q,B,j⟩:=hM.1 k;have j:q.id=p.of:=by simpa using j
 have F:=qe G B;rw[j]at F;rw[F];congr 1;have:(l.any λq=>decide (q.id=p.of)&&decide (q.of=0))=decide (q.of=0):=by
  rw[gl,hM];constructor
  ·rintro⟨r,M,h⟩;simp only[dk,ea]at h;rw[rF G B M (by rw[j,h.1])];simpa using h.2
  intro h;exact⟨q,B,by simp[j];simpa using h⟩
 rw[this];rfl
def Vs{l:List Part}(hl:l.length<=1000000)(F:(l.map Part.id).Nodup):Ca (l,jx Part.id l)=some (l.any (oV l)):=by
 unfold Ca;dsimp only;have:Cf (l,jx Part.id l)=some (ix l (oV l)):=by
  unfold Cf;dsimp only;rw[nL (l:=l) (oV l) (λk x j=>by
   have B:=aZ j;rw[ah (by simpa using B),aY (aF j),X5 F,af];cases oV l x
   ·rw[ag rfl,av (by omega)];simp
   rw[ah rfl];simp) (by rw[ag (by simp)])]
  exact rG l _
 rw[this,af];exact dn some (E7 _ _)
def tO{α σ ρ:Type}(ok:α->Bool)(g:σ->α->σ)(r:ρ):∀(l:List α)(z:σ),cV (λz x=>if ok x=true then .inl (g z x)else(.inr (.inr r):σ⊕(σ⊕ρ))) (λz=>.inl z) l z=if l.all ok=true then .inl (l.foldl g z)else .inr r
 | [],z=>rfl
 |x::l,z=>by
  have j:=tO ok g r l (g z x);simp only[cV];by_cases h:ok x=true
  ·rw[if_pos h];dsimp only;rw[j];simp[h]
  rw[if_neg h];simp[h]
def abn{l:List Part}:B0 l=some (decide (ln l)):=by
 unfold B0;rw[yy,af];by_cases G:1<=l.length/\l.length<=60
 ·rw[ag (by rw[c3 (by omega)];rfl)];rw[cu (σ:=List (Int×Part)) (st:=λz k=>(k,z)) (l:=l) (λz x=>if decide (dG x)=true then .inl (aM z x.id x)else .inr (.inr false)) (λz=>.inl z) (λ_ _=>True) (λk x z M _=>by
   have U:=aZ M;dsimp only;rw[ah (by simpa using U),aY (aF M),abP,af];by_cases h:dG x
   ·rw[ag (by simp[h]),av (by omega)];simp[h]
   rw[ah (by simp[h])];simp[h]) (λ_ _ _ _ _ _ _=>trivial) (λz _=>by dsimp only;rw[ag (by simp)]) [] trivial,tO]
  by_cases B:(l.all λx=>decide (dG x))=true
  ·rw[if_pos B,ew];have O:∀p∈l,dG p:=λp F=>by simpa using ek.1 B p F
   obtain⟨Y,N⟩:=L3 Part.id l [];by_cases j:(l.map Part.id).Nodup
   ·rw[EO Part.id l [] (by simp) j,List.nil_append,ah (by simp[jx]),Vs (by omega) j,af,af];congr 1;rw[gl,Qd];simp only[gj];exact⟨λh=>⟨G,O,j,h⟩,λh=>h.2.2.2⟩
   rw[ag (by
    refine da λh=>j (N ?_).1;simp;omega),af]
   congr 1;symm;exact da λh=>j h.2.2.1
  rw[if_neg B,e9];congr 1;symm;exact da λh=>B (ek.2 λp F=>by simpa using h.2.1 p F)
 rw[ah (by rw[da (by omega)];rfl)];congr 1;symm;exact da λh=>G h.1
theorem Cw{l:List Part}(hl:l.length<=1000000)(id:Int):qD (l,id)=some (ix l λp=>decide (p.id=id)):=by
 unfold qD;dsimp only;rw[nL (l:=l) (λb=>decide (b.id=id)) (λk x j=>by
  have B:=aZ j;rw[ah (by simpa using B),aY (aF j)];by_cases h:x.id=id
  ·rw[ah (by simp[h])];simp[h]
  rw[ag (by simp[h]),av (by omega)];simp[h]) (by rw[ag (by simp)])]
 exact rG l _
def MB{α:Type}(p:α->Bool):∀(l:List α)(k:Nat)(x:α),l[k]?=some x->p x=true->(ix l p=(k:Int)↔((l.take k).any p)=false)
 | [],k,x,h,_=>by simp at h
 |y::l,0,x,h,j=>by
  simp at h;subst h;simp[ix,pa,j]
 |y::l,k+1,x,h,j=>by
  have B:=MB p l k x (by simpa using h) j;rw[List.take_succ_cons,List.any_cons];unfold ix at B⊢;rw[pa];cases F:p y
  ·simp only[lB,hR,h9];rw[<-B];cases l.findIdx? p with
   |none=>simp only[Option.map_none];constructor<;>intro h<;>omega
   |some i=>simp only[Option.map_some];constructor<;>intro h<;>omega
  simp;omega
def um(l:List Part)(p:Part):Bool:= !decide (p.of=0)&&(match l.find? λq=>decide (q.id=p.of)with|some q=>!decide (q.of=0)|none=>true)
def M7{l:List Part}(F:(l.map Part.id).Nodup)(p:Part):um l p=oV l p:=by
 unfold um oV;congr 1;cases j:l.find? λq=>decide (q.id=p.of)with
 |none=>
  have:(l.any λq=>decide (q.id=p.of)&&decide (q.of=0))=false:=by
   rw[h8];intro x M;have:=n3.1 j x M;simp at this;simp[this]
  rw[this];rfl
 |some q=>
  have k:=hf j;have B:q.id=p.of:=by simpa using kA j
  have:(l.any λq=>decide (q.id=p.of)&&decide (q.of=0))=decide (q.of=0):=by
   rw[gl,hM];constructor
   ·rintro⟨r,G,h⟩;simp only[dk,ea]at h;rw[rF F k G (by rw[B,h.1])];simpa using h.2
   intro h;exact⟨q,k,by simp[B];simpa using h⟩
  rw[this]
def abo{α:Type}{q:α->Bool}{r:α->α->Bool}{l:List α}{k:Nat}{x:α}(h:l[k]?=some x):mR q r l k=(q x||(l.take k).any λy=>r y x):=by unfold mR;rw[h]
def Z7{l:List Part}:Bl l=some (decide (ln l)):=by
 unfold Bl;by_cases ai:l.length<1
 ·have:¬ln l:=λh=>by have:=h.1.1;omega
  rw[ah (c3 (by omega)),af,ah rfl];simp[this]
 rw[ag (da (by omega)),af];by_cases aj:60<l.length
 ·have:¬ln l:=λh=>by have:=h.1.2;omega
  rw[ah (c3 (by omega))];simp[this]
 rw[ag (da (by omega)),nJ l.length (mR (λp=>!decide (dG p)||um l p) (λx y=>decide (x.id=y.id)) l) false (λk ab=>by
  have N:l[k]?=some l[k]:=c5 ab;generalize l[k]=x at N;rw[ah (by simpa using ab),aY (aF N),Z6,af];simp only[aY (aF N),Cw (l:=l) (by omega),af];rw[abo N];rw[rJ,af];have aa:=MB (λp:Part=>decide (p.id=x.id)) l k x N (by simp);by_cases B:dG x
  ·by_cases M:((l.take k).any λp=>decide (p.id=x.id))=false
   ·rw[ag (by rw[aa.2 M];simp[B]),M];have Z:um l x=(!decide (x.of=0)&&(match l.find? λq=>decide (q.id=x.of)with|some q=>!decide (q.of=0)|none=>true)):=rfl;by_cases h0:x.of=0
    ·rw[ah (c3 h0),ew,av (by omega),Z];simp[h0,B]
    rw[ag (da h0)];rcases oP l λq=>decide (q.id=x.of)with ⟨G,F⟩| ⟨j,q,G,F,Y,ae⟩
    ·rw[F,ah (by simp),e9,Z,G];simp[h0]
    rw[Y,ag (da (by omega)),aY (aF G),Z,F];by_cases U:q.of=0
    ·rw[ag (by simp[U]),ew,av (by omega)];simp[U,B]
    rw[ah (by simp[U]),e9];simp[U,h0]
   have ad:¬(ix l λp:Part=>decide (p.id=x.id))=(k:Int):=λh=>M (aa.1 h);rw[ah (by simp[ad]),e9,if_pos];rw[Bool.not_eq_false]at M;rw[M];simp
  rw[ah (by simp[B]),e9,if_pos (by simp[B])]) (by rw[ag (by simp)])]
 have key:=HS (λp=>!decide (dG p)||um l p) (λx y=>decide (x.id=y.id)) l;rw[vj Part.id]at key;have e:((∀p∈l,(!decide (dG p)||um l p)=false)/\(l.map Part.id).Nodup)↔ln l:=by
  constructor
  ·rintro⟨G,F⟩;refine⟨by omega,λp B=>?_,F,?_⟩
   ·have:=G p B;simp at this;exact this.1
   rw[h8];intro p B;have:=G p B;rw[M7 F]at this;simp at this;simp[this.2]
  rintro⟨_,G,F,Y⟩;refine⟨λp B=>?_,F⟩;rw[M7 F];have:=h8.1 Y p B;simp[G p B];simpa using this
 rw[e]at key;by_cases O:ln l
 ·rw[if_neg (λh=>key.1 h O),ew];simp[O]
 rw[if_pos (key.2 O),e9];simp[O]
def fE(l:List Part)(n:aq):Option Part:=(l.filter λp=>decide (p.of=0)).find? λp=>decide (p.id=n.part)
def nz(l:List Part)(n:aq):Bool:=match fE l n with|some p=>!decide (num p.low<=num n.aN/\num n.aN<=num p.high)|none=>false
def pK(l:List Part)(ns:List aq):Int:=if(ns.any λn=>(fE l n).isNone)=true then 22 else if ns.any (nz l)=true then 20 else 0
def Zt{l:List Part}{n:aq}{p:Part}(h:fE l n=some p):p∈l/\p.of=0/\p.id=n.part:=by
 unfold fE at h;have j:=hf h;have k:=kA h;rw[hG]at j;exact⟨j.1,by simpa using j.2,by simpa using k⟩
def Zr{l:List Part}(M:(l.map Part.id).Nodup)(n:aq):fE l n=match l.find? λp=>decide (p.id=n.part)with|some p=>if p.of=0 then some p else none|none=>none:=by
 cases j:l.find? λp=>decide (p.id=n.part)with
 |none=>
  unfold fE;rw[n3];intro x k;exact n3.1 j x (hG.1 k).1
 |some p=>
  have F:=hf j;have G:p.id=n.part:=by simpa using kA j
  dsimp only;by_cases h0:p.of=0
  ·rw[if_pos h0];unfold fE;have:=qe (id:=Part.id) (l:=l.filter λp=>decide (p.of=0)) (M.sublist (kB.map _)) (x:=p) (hG.2 ⟨F,by simp[h0]⟩);rw[G]at this;exact this
  rw[if_neg h0];unfold fE;rw[n3];intro x k;obtain⟨O,B⟩:=hG.1 k;simp only[ea]at B⊢;intro N;have:=rF M O F (by rw[N,G]);rw[this]at B;exact h0 B
def acn(l:List Part)(n:aq):B6 (n,jx Part.id (l.filter λp=>decide (p.of=0)))=some (fE l n).isNone:=by
 unfold B6 fE;dsimp only;rw[Ks,Lz];cases List.find? _ _<;>rfl
def Ww{l:List Part}{n:aq}{p:Part}(h:fE l n=some p)(k:bO p.low)(B:bO p.high)(F:bO n.aN):B7 (n,jx Part.id (l.filter λp=>decide (p.of=0)))=some (nz l n):=by
 unfold B7 nz;dsimp only;rw[DN];have j:=h;unfold fE at j;rw[j,h];dsimp only[Option.getD];rw[yu F,yu k,yu B,af,af,af,yy,af]
def acA{l:List Part}(hl:l.length<=1000000)(aa:(l.map Part.id).Nodup)(O:∀p∈l,bO p.low/\bO p.high){ns:List aq}(ae:ns.length<=1000000)(ab:∀n∈ns,bO n.aN):xQ (l,ns)=some (pK l ns):=by
 unfold xQ;dsimp only;rw[cu (σ:=List (Int×Part)) (st:=λz k=>(k,z)) (l:=l) (λz x=>.inl (if decide (x.of=0)=true then aM z x.id x else z)) (λz=>z) (λ_ _=>True) (λk x z j _=>by
  have B:=aZ j;dsimp only;rw[ah (by simpa using B),aY (aF j)];by_cases h:x.of=0
  ·rw[ah (c3 h),af,av (by omega)];simp[h]
  ·rw[ag (da h),af,av (by omega)];simp[h]) (λ_ _ _ _ _ _ _=>trivial) (λz _=>by dsimp only;rw[ag (by simp)]) [] trivial,
  eh (λ(z:List (Int×Part))(x:Part)=>if decide (x.of=0)=true then aM z x.id x else z) _ _ (λ_ _ _=>rfl),af,<-List.foldl_filter (p:=λx:Part=>decide (x.of=0)) (f:=λ(z:List (Int×Part))(x:Part)=>aM z x.id x),
  EO Part.id _ [] (by simp) (aa.sublist (kB.map _)),List.nil_append]
 unfold pK;have Y:B8 (ns,jx Part.id (l.filter λp=>decide (p.of=0)))=some (ns.any λn=>(fE l n).isNone):=by
  unfold B8 G4;exact mq (l:=ns) (λn=>(fE l n).isNone) (λk x j=>by
   have B:=aZ j;rw[ah (by simpa using B),aY (aF j),acn,af];cases (fE l x).isNone
   ·rw[ag rfl,av (by omega)];simp
   rw[ah rfl];simp) (by rw[ag (by simp)])
 rw[Y,af];by_cases F:(ns.any λn=>(fE l n).isNone)=true
 ·rw[ah F,if_pos F]
 rw[ag (by simpa using F),if_neg F];have Z:B9 (ns,jx Part.id (l.filter λp=>decide (p.of=0)))=some (ns.any (nz l)):=by
  unfold B9 G5;exact mq (l:=ns) (nz l) (λk x j=>by
   have B:=aZ j;have N:=dd j;have ad:∃p,fE l x=some p:=by
    cases M:fE l x with
    |none=>exact absurd (hM.2 ⟨x,N,by simp[M]⟩) F
    |some p=>exact⟨p,rfl⟩
   obtain⟨p,M⟩:=ad;obtain⟨U,_,_⟩:=Zt M;rw[ah (by simpa using B),aY (aF j),Ww M (O p U).1 (O p U).2 (ab x N),af];cases nz l x
   ·rw[ag rfl,av (by omega)];simp
   rw[ah rfl];simp) (by rw[ag (by simp)])
 rw[Z,af];by_cases G:ns.any (nz l)=true
 ·rw[ah G,if_pos G]
 rw[ag (by simpa using G),if_neg G]
def OG{l:List Part}(hl:l.length<=1000000)(G:(l.map Part.id).Nodup)(n:aq):(fE l n=none/\uI (l,n)=some (-1))\/∃(k:Nat)(p:Part),l[k]?=some p/\fE l n=some p/\uI (l,n)=some (k:Int):=by
 unfold uI;dsimp only;rw[Cw hl,af,Zr G];rcases oP l λp=>decide (p.id=n.part)with ⟨j,B⟩| ⟨k,p,j,B,F,M⟩
 ·left;rw[j,B,ah (by simp)];exact⟨rfl,rfl⟩
 rw[B,F,ag (da (by omega)),aY (aF j)];dsimp only;by_cases h0:p.of=0
 ·right;rw[if_pos h0,ag (by simp[h0])];exact⟨k,p,j,rfl,rfl⟩
 left;rw[if_neg h0,ah (by simp[h0])];exact⟨rfl,rfl⟩
def aaa{l:List Part}(hl:l.length<=1000000)(aa:(l.map Part.id).Nodup)(ad:∀p∈l,bO p.low/\bO p.high){ns:List aq}(ai:ns.length<=1000000)(ae:∀n∈ns,bO n.aN):xw (l,ns)=some (pK l ns):=by
 unfold xw pK;dsimp only;rw[il (l:=ns) (λn=>(fE l n).isNone) 22 (λk x F=>by
  have Y:=aZ F;rw[ah (by simpa using Y),aY (aF F)];rcases OG hl aa x with ⟨B,G⟩| ⟨j,p,B,G,U⟩
  ·rw[G,af,ah (by simp),B];simp
  rw[U,af,ag (da (by omega)),G,av (by omega)];simp) (by rw[ag (by simp)])]
 by_cases M:(ns.any λn=>(fE l n).isNone)=true
 ·rw[if_pos M,if_pos M,e9]
 rw[if_neg M,if_neg M,ew];rw[il (l:=ns) (nz l) 20 (λk x F=>by
  have Y:=aZ F;have Z:=dd F;rw[ah (by simpa using Y),aY (aF F)];rcases OG hl aa x with ⟨B,G⟩| ⟨j,p,B,G,U⟩
  ·exact absurd (hM.2 ⟨x,Z,by simp[B]⟩) M
  have ab:=ad p (dd B);rw[U,af,aY (aF B),aY (aF F)];unfold GJ nz;dsimp only;rw[lr (ae x Z),lr ab.1,lr ab.2,af,af,af,Cy,af,af,G];dsimp only;by_cases N:num p.low<=num x.aN/\num x.aN<=num p.high
  ·rw[ag (by rw[c3 N];rfl),av (by omega),if_neg (by rw[c3 N];simp)];rfl
  rw[ah (by rw[da N];rfl),if_pos (by rw[da N];rfl)]) (by rw[ag (by simp)])]
 by_cases O:ns.any (nz l)=true
 ·rw[if_pos O,if_pos O,e9]
 rw[if_neg O,if_neg O,ew]
def y9(a b:Rat):vS a b=decide (a=b):=by
 obtain⟨j,k⟩:=a;obtain⟨b0,B⟩:=b;rw[gl,ea];show c9 [.int .i64 j,.int .i64 k] [.int .i64 b0,.int .i64 B]=true↔_;simp[c9,gB,Rat.mk.injEq,mv]
def Uu(a b:Interval):Kj a b=decide (a=b):=by
 obtain⟨j,k⟩:=a;obtain⟨b0,B⟩:=b;rw[gl,ea];show c9 [.int .i64 j,.int .i64 k] [.int .i64 b0,.int .i64 B]=true↔_;simp[c9,gB,Interval.mk.injEq,mv]
def Uv(a b:aq):Kl a b=decide (a=b):=by
 obtain⟨j,k,G,M,N,⟨O,U⟩,⟨Y,Z⟩,⟨aa,B,F⟩⟩:=a;obtain⟨b0,ab,af,ag,ah,⟨ai,aj⟩,⟨ak,al⟩,⟨an,ad,ae⟩⟩:=b;rw[gl,ea];show c9 [.int .i64 j,.int .i64 k,.int .i64 G,.int .i64 M,.int .i64 N,.int .i64 O,.int .i64 U,.int .i64 Y,.int .i64 Z,.int .i64 aa,.int .i64 B,.int .i64 F] [.int .i64 b0,.int .i64 ab,.int .i64 af,.int .i64 ag,.int .i64 ah,.int .i64 ai,.int .i64 aj,.int .i64 ak,.int .i64 al,.int .i64 an,.int .i64 ad,.int .i64 ae]=true↔_;simp[c9,gB,aq.mk.injEq,aV.mk.injEq,Rat.mk.injEq,mv]
def zb(a b:Written):rh a b=decide (a=b):=by
 obtain⟨j,k,B,⟨F,G⟩,⟨M,N⟩,⟨O,U,Y⟩⟩:=a;obtain⟨b0,Z,aa,⟨ab,ad⟩,⟨ae,af⟩,⟨ag,ah,ai⟩⟩:=b;rw[gl,ea];show c9 [.int .i64 j,.int .i64 k,.int .i64 B,.int .i64 F,.int .i64 G,.int .i64 M,.int .i64 N,.int .i64 O,.int .i64 U,.int .i64 Y] [.int .i64 b0,.int .i64 Z,.int .i64 aa,.int .i64 ab,.int .i64 ad,.int .i64 ae,.int .i64 af,.int .i64 ag,.int .i64 ah,.int .i64 ai]=true↔_;simp[c9,gB,aV.mk.injEq,Rat.mk.injEq,Written.mk.injEq,mv]
def abX{a b:List aq}(j:a.length<=1048576):G1 (a,b)=some (decide (a=b)):=Ps Uv j
def aau{a b:List Written}(j:a.length<=1048576):GK (a,b)=some (decide (a=b)):=Ps zb j
theorem Xm{β:Type}(a b:Option β):ab (!true) a b=b:=rfl
theorem Xl{β:Type}(a b:Option β):ab (!false) a b=a:=rfl
def cI(s:Score):Prop:=(1<=s.version/\s.version<=1000000)/\iA s.bars/\ln s.parts/\iG s.bars s.notes/\pK s.parts s.notes=0/\pE (dW s.bars) s.notes=s.notes
noncomputable instance (s:Score):Decidable (cI s):=inferInstanceAs (Decidable (_/\_/\_/\_/\_/\_))
def Og{l:List Part}(h:ln l):∀p∈l,bO p.low/\bO p.high:=λp j=>⟨(h.2.1 p j).2.2.2.2.2.2.1,(h.2.1 p j).2.2.2.2.2.2.2.1⟩
def NG{bars:List aT}{l:List aq}(h:∀n∈l,gp bars n):∀n∈l,bO n.aN:=λn B=>by
 obtain⟨k,b,F,G,j,M⟩:=pe (h n B);exact j.2.2.2.2.2.2.2.2.1
def acB{bars:List aT}{ps:List Part}{ns:List aq}(j:ln ps)(k:iG bars ns):xQ (ps,ns)=some (pK ps ns):=
 acA (by have:=j.1.2;omega) j.2.2.1 (Og j) (by have:=k.2.1;omega) (NG k.2.2.1)
def aab{bars:List aT}{ps:List Part}{ns:List aq}(j:ln ps)(k:iG bars ns):xw (ps,ns)=some (pK ps ns):=
 aaa (by have:=j.1.2;omega) j.2.2.1 (Og j) (by have:=k.2.1;omega) (NG k.2.2.1)
theorem ab5{at_:List (Int×Int)}{l:List aq}(j:∀n∈l,o9 at_ n)(k:gY (bf (nK at_)) l)(B:l.length<=1000000000):Cj (l,at_)=some (pE at_ l):=by
 unfold Cj sC;rw[if_pos ⟨j,k,by dsimp only;omega⟩];rfl
def YP{β:Type}{e:Bool}{a b:Option β}(h:e=true->a=b):pd e a b=b:=by
 cases e
 ·rfl
 unfold pd;rw[h rfl];exact if_pos rfl
def DY{α:Type}{l:List α}{k:Nat}(h:l.length*k<=140737488355328)(B:l.length<=9223372036854775807):pd (List.isEmpty l) (some ([]:List α)) (ae (decide ((List.append ([]:List α) l).length*k<=140737488355328/\(List.append ([]:List α) l).length<=9223372036854775807)) <|some (List.append ([]:List α) l))=some l:=by
 have j:(ae (decide ((List.append ([]:List α) l).length*k<=140737488355328/\(List.append ([]:List α) l).length<=9223372036854775807)) <|some (List.append ([]:List α) l))=some l:=bG (c3 ⟨h,B⟩);rw[YP (λF=>?_),j];rw[j,List.isEmpty_iff.1 F]
def Y3{bars:List aT}{l:List aq}(h:iG bars l):Ba (bars,l)=some (pE (dW bars) l):=by
 have:=h.1.1.2;have:=h.2.1;unfold Ba;dsimp only;rw[Nx (by omega),af];have k:=ab5 (at_:=dW bars) (l:=l) (λn j=>YZ h.1 (h.2.2.1 n j)) (Gg h.2.2.2) (by omega);rw[DY (by omega) (by omega),af,k,af]
def YJ{bars:List aT}{ns:List aq}(k:bars.length<=1048576)(j:iG bars ns):A7 (bars,ns)=some (pE (dW bars) ns,0):=by
 unfold A7;dsimp only;rw[Nt k,af,ag (by simp[j]),Y3 j,af]
def acb{at_:List (Int×Int)}(l:List aq):(pE at_ l).length=l.length:=(oj _ l).length_eq
def yq{s:Score}(M:s.bars.length<=1048576):pq s=some (decide (cI s)):=by
 unfold pq;rw[PH,af];by_cases B:1<=s.version/\s.version<=1000000
 ·rw[ag (by rw[c3 B];rfl)];rw[M9 M,af];by_cases F:iA s.bars
  ·rw[ag (by rw[c3 F];rfl),abn,af];by_cases k:ln s.parts
   ·rw[ag (by rw[c3 k];rfl),Nt M,af];by_cases j:iG s.bars s.notes
    ·rw[ag (by rw[c3 j];rfl),acB k j,af,af];by_cases G:pK s.parts s.notes=0
     ·rw[ag (by simp[G]),YJ M j,af];dsimp only;rw[ah (by simp),abX (by rw[acb];have:=j.2.1;omega),af,af];congr 1;rw[j2];exact⟨λh=>⟨B,F,k,j,G,h⟩,λh=>h.2.2.2.2.2⟩
     rw[ah (by simp[G])];congr 1;symm;exact da λh=>G h.2.2.2.2.1
    rw[ah (by rw[da j];rfl),af,ah rfl];congr 1;symm;exact da λh=>j h.2.2.2.1
   rw[ah (by rw[da k];rfl),af,ah rfl];congr 1;symm;exact da λh=>k h.2.2.1
  rw[ah (by rw[da F];rfl),af,ah rfl];congr 1;symm;exact da λh=>F h.2.1
 rw[ah (by rw[da B];rfl),af,ah rfl];congr 1;symm;exact da λh=>B h.1
def Hq(s:Score):uJ s=some (decide (cI s)):=by
 unfold uJ;rw[OC,Z7,af,af,Cy,af];by_cases G:1<=s.version/\s.version<=1000000
 ·rw[ag (by rw[c3 G];rfl)];by_cases B:iA s.bars
  ·rw[ag (by rw[c3 B];rfl)];by_cases F:ln s.parts
   ·rw[c3 F,af,Xm,Z4,af];by_cases j:iG s.bars s.notes
    ·rw[ag (by rw[c3 j];rfl),aab F j,af];by_cases M:pK s.parts s.notes=0
     ·rw[ag (by simp[M])];have hl:=j.2.1;rw[X2 (s.notes.length-1) (tR (dW s.bars) s.notes) false (λk ab=>by
       have O:s.notes[k]?=some s.notes[k]:=c5 (by omega);have U:s.notes[k+1]?=some s.notes[k+1]:=c5 (by omega);have Z:=j.2.2.1 _ (ie (h:=(by omega:k<s.notes.length)));have aa:=j.2.2.1 _ (ie (h:=(by omega:k+1<s.notes.length)));generalize s.notes[k]=x at *;generalize s.notes[k+1]=y at *;have Y:tR (dW s.bars) s.notes k = !decide (bf (nK (dW s.bars)) x y<0):=by unfold tR;rw[O,U]
       rw[ah (c3 (by omega)),av (by omega),show(k:Int)+1-1=(k:Int) by omega,aY (aF O),show(k:Int)+1=((k+1:Nat):Int)from rfl,aY (aF U),Z2 B Z aa,af,Y];by_cases h:bf (nK (dW s.bars)) x y<0
       ·rw[ag (by rw[c3 h];rfl),av (by omega),if_neg (by rw[c3 h];simp)]
       ·rw[ah (by rw[da h];rfl),if_pos (by rw[da h];rfl)]) (by
       rw[ag (da (by omega))])]
      have key:=WZ (at_:=dW s.bars) j.2.2.2;by_cases N:pE (dW s.bars) s.notes=s.notes
      ·rw[if_neg (λh=>key.1 h N),ew];rw[c3 (p:=cI s) ⟨G,B,F,j,M,N⟩]
      rw[if_pos (key.2 N),e9];rw[da (p:=cI s) λh=>N h.2.2.2.2.2]
     rw[ah (by simp[M])];congr 1;symm;exact da λh=>M h.2.2.2.2.1
    rw[ah (by rw[da j];rfl)];congr 1;symm;exact da λh=>j h.2.2.2.1
   rw[da F,af,Xl];congr 1;symm;exact da λh=>F h.2.2.1
  rw[ah (by rw[da B];rfl),af,ah rfl];congr 1;symm;exact da λh=>B h.2.1
 rw[ah (by rw[da G];rfl),af,ah rfl];congr 1;symm;exact da λh=>G h.1
def cW(k:Int):Prop:= -7<=k/\k<=7
instance (k:Int):Decidable (cW k):=inferInstanceAs (Decidable (_/\_))
def cE(i:Interval):Interval:=⟨-i.steps,-i.bL⟩
def dh(i:Interval):Int:=7*i.bL-12*i.steps
def dy(t:Int):Int:=if 7<t then(t+4)/12 else if t < -7 then -((4-t)/12)else 0
def wR(key:Int)(i:Interval):Int:=(key+dh i)-12*dy (key+dh i)
def o4(key:Int)(i:Interval):Interval:=⟨i.steps+dy (key+dh i),i.bL⟩
def wA(k:Int):sg k=some (decide (cW k)):=jR k (-7) 7
def Cv(k:Int):uG k=some (decide (cW k)):=jR k (-7) 7
def NQ{t:Int}(h:7<t):dy t=dy (t-12)+1:=by
 unfold dy;rw[if_pos h];split
 ·omega
 rw[if_neg (by omega)];omega
def NP{t:Int}(h:t < -7):dy t=dy (t+12)-1:=by
 unfold dy;rw[if_neg (by omega),if_pos h];split
 ·omega
 split<;>omega
def w3{t:Int}(h:cW t):dy t=0:=by
 unfold dy cW at *;rw[if_neg (by omega),if_neg (by omega)]
def Gk(t:Int):cW (t-12*dy t):=by
 unfold dy cW;split
 ·omega
 split<;>omega
def M5:∀(n:Nat)(s t:Int),-7<=t->t<=12*n+7->s.natAbs+n<=1000000->n<=100000->aA (λj:(Int×Int)=>aa (sg j.2) λM=>ab (!M) (ae (ai (1*12)) <|ae (ai (j.2-(1*12))) <|ae (ai (j.1+1)) <|some (.inl ((j.1+1),(j.2-(1*12))))) (some (.inr (j.1,j.2)))) (s,t)=some (s+dy t,t-12*dy t)
 |n,s,t,h1,k,B,F=>by
  by_cases h:cW t
  ·rw[w3 h];refine fj ?_;dsimp only;rw[wA,af,ag (by simp[h])];simp
  have G:7<t:=by unfold cW at h;omega
  match n,k,B,F with
  |0,k,_,_=>exact absurd k (by omega)
  |n+1,k,B,F=>
   rw[jC (z':=(s+1,t-12)) (by
    dsimp only;rw[wA,af,ah (by simp[h]),av (by omega),av (by omega),av (by omega)];rfl),M5 n (s+1) (t-12) (by omega) (by omega) (by omega) (by omega),NQ G]
   congr 2<;>omega
def M3:∀(n:Nat)(s t:Int),t<=7 -> -(12*(n:Int)+7)<=t->s.natAbs+n<=1000000->n<=100000->aA (λj:(Int×Int)=>aa (sg j.2) λM=>ab (!M) (ae (ai ((-1)*12)) <|ae (ai (j.2-((-1)*12))) <|ae (ai (j.1+(-1))) <|some (.inl ((j.1+(-1)),(j.2-((-1)*12))))) (some (.inr (j.1,j.2)))) (s,t)=some (s+dy t,t-12*dy t)
 |n,s,t,h1,k,B,F=>by
  by_cases h:cW t
  ·rw[w3 h];refine fj ?_;dsimp only;rw[wA,af,ag (by simp[h])];simp
  have G:t < -7:=by unfold cW at h;omega
  match n,k,B,F with
  |0,k,_,_=>exact absurd k (by omega)
  |n+1,k,B,F=>
   rw[jC (z':=(s+(-1),t-((-1)*12))) (by
    dsimp only;rw[wA,af,ah (by simp[h]),av (by omega),av (by omega),av (by omega)]),M3 n (s+(-1)) (t-((-1)*12)) (by omega) (by omega) (by omega) (by omega),NP G,show t-(-1)*12=t+12 by omega]
   congr 2<;>omega
def Fp{key:Int}{i:Interval}(j:cW key)(hi:cQ i):uE (key,i)=some (wR key i,o4 key i,0):=by
 have B:=j;have k:=hi;unfold cW at B;unfold cQ at k;unfold uE;dsimp only;rw[Fm,if_pos hi,af];dsimp only;rw[ag (by simp),wA,af,af,ag (by simp[j]),av (by omega)];have e:7*i.bL-12*i.steps+key=key+dh i:=by unfold dh;omega
 rw[e];have F: -2000<=key+dh i/\key+dh i<=2000:=by unfold dh;omega
 by_cases h:0<key+dh i
 ·rw[ah (by simp[h]),M5 1000 i.steps (key+dh i) (by omega) (by omega) (by omega) (by omega)];rfl
 rw[ag (by simp;omega),M3 1000 i.steps (key+dh i) (by omega) (by omega) (by omega) (by omega)];rfl
def M6:∀(n:Nat)(s t:Int),t<=12*n+7 -> -100000<=t->s.natAbs+n<=1000000->n<=100000->aA (λj:(Int×Int)=>ab (aj 7 j.1) (ae (ai (j.1-12)) <|ae (ai (j.2+1)) <|some (.inl ((j.1-12),(j.2+1)))) (some (.inr (j.1,j.2)))) (t,s)=some (if 7<t then(t-12*dy t,s+dy t)else(t,s))
 |n,s,t,h1,M,B,F=>by
  by_cases k:7<t
  ·match n,h1,B,F with
   |0,h1,_,_=>exact absurd h1 (by omega)
   |n+1,h1,B,F=>
    rw[jC (z':=(t-12,s+1)) (by
     dsimp only;rw[ah (by simp[k]),av (by omega),av (by omega)]),M6 n (s+1) (t-12) (by omega) (by omega) (by omega) (by omega),if_pos k,NQ k]
    by_cases G:7<t-12
    ·rw[if_pos G];congr 2<;>omega
    rw[if_neg G,w3 (by unfold cW;omega)];congr 2<;>omega
  rw[if_neg k];refine fj ?_;dsimp only;rw[ag (by simp;omega)]
def FL:∀(n:Nat)(s t:Int),-(12*(n:Int)+7)<=t->t<=7->s.natAbs+n<=1000000->n<=100000->aA (λj:(Int×Int)=>ab (aj j.1 (-7)) (ae (ai (j.1+12)) <|ae (ai (j.2-1)) <|some (.inl ((j.1+12),(j.2-1)))) (some (.inr (j.1,j.2)))) (t,s)=some (t-12*dy t,s+dy t)
 |n,s,t,h1,G,k,B=>by
  by_cases F:t < -7
  ·match n,h1,k,B with
   |0,h1,_,_=>exact absurd h1 (by omega)
   |n+1,h1,k,B=>
    rw[jC (z':=(t+12,s-1)) (by
     dsimp only;rw[ah (by simp[F]),av (by omega),av (by omega)]),FL n (s-1) (t+12) (by omega) (by omega) (by omega) (by omega),NP F]
    congr 2<;>omega
  rw[w3 (by unfold cW;omega)];refine fj ?_;dsimp only;rw[ag (by simp;omega)];simp
def ZX{key:Int}{i:Interval}(k:cW key)(hi:cQ i):Be (key,i)=some (wR key i,o4 key i,0):=by
 have F:=k;have B:=hi;unfold cW at F;unfold cQ at B;unfold Be;dsimp only;rw[OB,if_pos hi,af];dsimp only;rw[ag (by simp),Cv,af,af,ag (by simp[k]),av (by omega)];have e:key+(7*i.bL-12*i.steps)=key+dh i:=by unfold dh;omega
 rw[e];have G: -2000<=key+dh i/\key+dh i<=2000:=by unfold dh;omega
 rw[M6 1000 i.steps (key+dh i) (by omega) (by omega) (by omega) (by omega),af];have j:=Gk (key+dh i);by_cases h:7<key+dh i
 ·rw[if_pos h];dsimp only;have M:0<=dy (key+dh i)/\dy (key+dh i)<=1000:=by unfold dy;rw[if_pos h];omega
  have h0:=w3 j;unfold cW at j;rw[FL 1000 _ _ (by omega) (by omega) (by omega) (by omega),af,h0];unfold wR o4;simp
 rw[if_neg h];dsimp only;rw[FL 1000 _ _ (by omega) (by omega) (by omega) (by omega),af];rfl
theorem AQ{i:Interval}(h:cQ i):pj i=some (cE i,0):=by
 have j:=h;unfold cQ at j;unfold pj sj;simp only[Bc,af,fK];unfold fk;rw[ag (by simp;omega),av (by omega),av (by omega)];unfold cE;simp
def Oz(i:Interval):xn i=some (decide (cQ i)):=by
 unfold xn;simp only[Hp,af,fK];refine iL ?_;unfold cQ;simp
def Zz(i:Interval):sj i=some (decide (cQ i)):=by
 unfold sj;simp only[Bc,af,fK];refine iL ?_;unfold cQ;simp
def Oy{i:Interval}(h:cQ i):uF i=some (cE i,0):=by
 have j:=h;unfold cQ at j;unfold uF;rw[Oz,af,ag (by simp[h])];unfold fk;rw[av (by omega),av (by omega)];unfold cE;simp
def pC{i:Interval}(h:fT i):cQ i/\cQ (cE i):=by
 unfold fT at h;unfold cQ cE;dsimp only;omega
def Gb{key:Int}{i:Interval}(k:cW key)(h:fT i):cQ (o4 key (cE i))/\cQ (cE (o4 key (cE i)))/\cW (wR key (cE i)):=by
 refine⟨?_,?_,Gk _⟩
 all_goals
  have j: -100<=dy (key+dh (cE i))/\dy (key+dh (cE i))<=100 -> -45<=dy (key+dh (cE i))/\dy (key+dh (cE i))<=45:=by
   intro _;unfold fT at h;unfold cW at k;unfold dy dh cE;dsimp only;split
   ·omega
   split<;>omega
  have B: -100<=dy (key+dh (cE i))/\dy (key+dh (cE i))<=100:=by
   unfold fT at h;unfold cW at k;unfold dy dh cE;dsimp only;split
   ·omega
   split<;>omega
  have j:=j B;unfold cQ o4;unfold fT at h;dsimp only[cE]at *;omega
def PY(v:Int):(if Int.tmod v 7<0 then(Int.tdiv v 7-1,Int.tmod v 7+7)else(Int.tdiv v 7,Int.tmod v 7))=(v/7,v%7):=by
 rcases adO v 0 with h|h
 ·obtain⟨w,rfl⟩:∃w:Int,v = -w:=⟨-v,by omega⟩;rw[Int.neg_tmod,Int.neg_tdiv,l3 (by omega),om (by omega)];split<;>(congr 1<;>omega)
 rw[l3 h,om h,if_neg (by omega)]
theorem ZI{v:Int}(h: -5000<=v/\v<=5000):Bb (v,7)=some (v/7,v%7):=by
 have B: -1000<=v.tdiv 7/\v.tdiv 7<=1000 /\ -7<v.tmod 7/\v.tmod 7<7:=by
  rcases adO v 0 with h0|h0
  ·obtain⟨w,rfl⟩:∃w:Int,v = -w:=⟨-v,by omega⟩;rw[Int.neg_tmod,Int.neg_tdiv,l3 (by omega),om (by omega)];omega
  rw[l3 h0,om h0];omega
 have k:=PY v;unfold Bb;dsimp only;rw[bG (by decide),av (by omega),bG (by decide),<-k];by_cases j:v.tmod 7<0
 ·rw[ah (by simp[j]),av (by omega),av (by omega),if_pos j]
 rw[ag (by simp;omega),if_neg j]
def pl(p:aV):Int:=7*p.aO+p.step
def iQ(j n:Int):aV:=⟨j%7,n-(12*(j/7)+gH (j%7)),j/7⟩
def dO(p:aV)(i:Interval):aV×Int:=if bO p/\cQ i then(if bO (iQ (pl p+i.steps) (num p+i.bL))then(iQ (pl p+i.steps) (num p+i.bL),0)else(⟨0,0,0⟩,3))else(⟨0,0,0⟩,1)
theorem ZG{p:aV}(j:0<=p.step/\p.step<=6)(B: -1000<=p.alter/\p.alter<=1000)(F: -1000<=p.aO/\p.aO<=1000):qC p=some (num p):=by
 have G:=r6 p.step;have k:an [0,2,4,5,7,9,11] p.step=some (gH p.step):=by
  show an ur p.step=_;unfold an gH;rw[if_pos j.1];have:p.step.toNat<ur.length:=by show _<7;omega
  rw[c5 this];rfl
 unfold qC;rw[av (by omega),aY k,av (by omega),av (by omega)];rfl
theorem ZW{p:aV}(j:0<=p.step/\p.step<=6)(k: -1000<=p.alter/\p.alter<=1000)(B: -1000<=p.aO/\p.aO<=1000):fQ p=some (num p):=by
 have F:=r6 p.step;unfold fQ;rw[av (by omega),OA j,af,av (by omega),av (by omega)];rfl
def Jk{p:aV}(h:bO p):iQ (pl p) (num p)=p:=by
 obtain⟨⟨B,F⟩,_⟩:=h;unfold iQ pl;have j:(7*p.aO+p.step)%7=p.step:=by omega
 have k:(7*p.aO+p.step)/7=p.aO:=by omega
 rw[j,k];unfold num;cases p;congr 1;dsimp only;omega
def N2(p:aV)(i:Interval):xl (p,i)=some (dO p i):=by
 unfold xl dO;dsimp only;rw[mJ,af];by_cases j:bO p
 ·rw[ag (by simp[j]),Zz,af];by_cases hi:cQ i
  ·rw[af,ag (by simp[hi]),if_pos ⟨j,hi⟩,Uu];by_cases h0:i=⟨0,0⟩
   ·subst h0;rw[ah (by simp),show pl p+(⟨0,0⟩:Interval).steps=pl p by dsimp only;omega,show num p+(⟨0,0⟩:Interval).bL=num p by dsimp only;omega,Jk j,if_pos j]
   have O:=j;have G:=hi;unfold bO at O;unfold cQ at G;have N:=qx j;rw[ag (by simp[h0])];unfold GF;rw[av (by omega),av (by omega),af,av (by omega)];have U:=ZI (v:=7*p.aO+p.step+i.steps) (by omega);rw[U,af,Oj j,af,av (by omega)];dsimp only;have M:0<=(7*p.aO+p.step+i.steps)%7/\(7*p.aO+p.step+i.steps)%7<=6:=by omega
   have F: -1000<=(7*p.aO+p.step+i.steps)/7/\(7*p.aO+p.step+i.steps)/7<=1000:=by omega
   have Y:=r6 ((7*p.aO+p.step+i.steps)%7);rw[ZG (p:=⟨(7*p.aO+p.step+i.steps)%7,0,(7*p.aO+p.step+i.steps)/7⟩) M (by dsimp only;omega) F,af];unfold num at N;have e:num (⟨(7*p.aO+p.step+i.steps)%7,0,(7*p.aO+p.step+i.steps)/7⟩:aV)=12*((7*p.aO+p.step+i.steps)/7)+gH ((7*p.aO+p.step+i.steps)%7):=by unfold num;dsimp only;omega
   rw[e];have B:(⟨(7*p.aO+p.step+i.steps)%7,num p+i.bL-(12*((7*p.aO+p.step+i.steps)/7)+gH ((7*p.aO+p.step+i.steps)%7)),(7*p.aO+p.step+i.steps)/7⟩:aV)=iQ (pl p+i.steps) (num p+i.bL):=rfl;rw[av (by unfold num;omega),B,mJ,af];by_cases k:bO (iQ (pl p+i.steps) (num p+i.bL))
   ·rw[ag (by simp[k]),if_pos k]
   rw[ah (by simp[k]),if_neg k]
  rw[af,ah (by simp[hi]),if_neg (λh=>hi h.2)]
 rw[ah (by simp[j]),af,ah rfl,if_neg (λh=>j h.1)]
def Ox(p:aV)(i:Interval):xm (p,i)=some (dO p i):=by
 unfold xm dO;dsimp only;rw[oc,af,Oz,af];by_cases j:bO p
 ·rw[ag (by simp[j]),af];by_cases hi:cQ i
  ·rw[ag (by simp[hi]),if_pos ⟨j,hi⟩];have al:=j;have ad:=hi;unfold bO at al;unfold cQ at ad;have k:=qx j;unfold GG;have hv: -5000<=7*p.aO+p.step+i.steps/\7*p.aO+p.step+i.steps<=5000:=by omega
   rw[av (by omega),av (by omega),af,av (by omega)];have N:(aa (ab (aj (Int.tmod (7*p.aO+p.step+i.steps) 7) 0) (ae (ai ((Int.tmod (7*p.aO+p.step+i.steps) 7)+7)) <|ae (ai ((Int.tdiv (7*p.aO+p.step+i.steps) 7)-1)) <|some (((Int.tmod (7*p.aO+p.step+i.steps) 7)+7),((Int.tdiv (7*p.aO+p.step+i.steps) 7)-1))) (some ((Int.tmod (7*p.aO+p.step+i.steps) 7),(Int.tdiv (7*p.aO+p.step+i.steps) 7)))) λ(an:(Int×Int))=>some an)=some ((7*p.aO+p.step+i.steps)%7,(7*p.aO+p.step+i.steps)/7) /\ -1000<=(7*p.aO+p.step+i.steps).tdiv 7/\(7*p.aO+p.step+i.steps).tdiv 7<=1000:=by
    generalize 7*p.aO+p.step+i.steps=v at *;have O: -1000<=v.tdiv 7/\v.tdiv 7<=1000 /\ -7<v.tmod 7/\v.tmod 7<7:=by
     rcases adO v 0 with h0|h0
     ·obtain⟨w,rfl⟩:∃w:Int,v = -w:=⟨-v,by omega⟩;rw[Int.neg_tmod,Int.neg_tdiv,l3 (by omega),om (by omega)];omega
     rw[l3 h0,om h0];omega
    have F:=PY v;refine⟨?_,O.1,O.2.1⟩;by_cases k:v.tmod 7<0
    ·rw[if_pos k]at F;injection F with G M;rw[ah (by simp[k]),av (by omega),av (by omega),af,G,M]
    rw[if_neg k]at F;injection F with G M;rw[ag (by simp;omega),af,G,M]
   obtain⟨N,ao,aq⟩:=N;have U:∀{β:Type}(o:Option (Int×Int))(f:Int×Int->Option β)(z:Int×Int),(aa o λv=>some v)=some z->aa o f=f z:=by
    intro β o f z h;cases o with
    |none=>cases h
    |some y=>injection h with h;subst h;rfl
   rw[bG (by decide),bG (by decide),av (by omega),U _ _ _ N,lr j,af,av (by omega)];dsimp only;have ak:0<=(7*p.aO+p.step+i.steps)%7/\(7*p.aO+p.step+i.steps)%7<=6:=by omega
   have Z: -1000<=(7*p.aO+p.step+i.steps)/7/\(7*p.aO+p.step+i.steps)/7<=1000:=by omega
   have ar:=r6 ((7*p.aO+p.step+i.steps)%7);rw[ZW (p:=⟨(7*p.aO+p.step+i.steps)%7,0,(7*p.aO+p.step+i.steps)/7⟩) ak (by dsimp only;omega) Z,af];have e:num (⟨(7*p.aO+p.step+i.steps)%7,0,(7*p.aO+p.step+i.steps)/7⟩:aV)=12*((7*p.aO+p.step+i.steps)/7)+gH ((7*p.aO+p.step+i.steps)%7):=by unfold num;dsimp only;omega
   rw[e];have Y:(⟨(7*p.aO+p.step+i.steps)%7,num p+i.bL-(12*((7*p.aO+p.step+i.steps)/7)+gH ((7*p.aO+p.step+i.steps)%7)),(7*p.aO+p.step+i.steps)/7⟩:aV)=iQ (pl p+i.steps) (num p+i.bL):=rfl;rw[av (by omega),Y,oc,af];by_cases B:bO (iQ (pl p+i.steps) (num p+i.bL))
   ·rw[ag (by simp[B]),if_pos B]
   rw[ah (by simp[B]),if_neg B]
  rw[ah (by simp[hi]),if_neg (λh=>hi h.2)]
 rw[ah (by simp[j]),af,ah rfl,if_neg (λh=>j h.1)]
def MA{p:aV}(h:bO p):xc p=some (num p):=by
 unfold xc;rw[qz,if_pos h,af]
def Fi(n m:Int)(j:0<=m/\m<=1000):uB (n,m)=some (decide (-m<=n/\n<=m)):=by
 unfold uB fk;dsimp only;rw[av (by omega),show 0-m = -m by omega];exact jR n (-m) m
theorem Fj{p:Part}(h:dG p):uC p=some true:=by
 obtain⟨_,_,k,j⟩:=(jG p).1 h;have B:=(pC k).1;unfold uC;rw[Fm,if_pos B,af];dsimp only;simp only[Fi _ 21 (by omega),Fi _ 36 (by omega),Fi _ 12 (by omega),af,fK];have F:=k;unfold fT at F;rw[ah (by simp;omega),mJ,af,ah (by simp[j.1]),mJ,af,ah (by simp[j.2.1]),MA j.1,af,MA j.2.1,af,af];exact dn some (c3 j.2.2)
def aar(n lo hi:Int):xD (n,lo,hi)=some (decide (lo<=n/\n<=hi)):=jR n lo hi
theorem Hr{p:Part}(h:dG p):uM p=some true:=by
 obtain⟨_,_,k,j⟩:=(jG p).1 h;have B:=k;unfold fT at B;unfold uM;rw[oc,af,oc,af,av (by omega),av (by omega),av (by omega)];simp only[aar,af,rJ];rw[ag (by simp[j.1,j.2.1];omega),lr j.1,af,lr j.2.1,af];exact dn some (c3 j.2.2)
def gk(p:Part)(key:Int):Interval:=o4 key (cE p.shift)
def kT(p:Part)(key:Int):Int:=wR key (cE p.shift)
def mN{p:Part}(h:dG p):fT p.shift:=((jG p).1 h).2.2.1
def Xh{p:Part}(h:dG p){key:Int}(j:cW key):A2 (p,key)=some (kT p key,0):=by
 unfold A2;dsimp only;rw[Fj h,af,ag (c:= !true) rfl,AQ (pC (mN h)).1,af,Fp j (pC (mN h)).2,af];rfl
def Hs{p:Part}(h:dG p){key:Int}(j:cW key):xE (p,key)=some (kT p key,gk p key):=by
 unfold xE;dsimp only;rw[Oy (pC (mN h)).1,af,ZX j (pC (mN h)).2,af];rfl
def OJ{p:Part}(h:dG p){key:Int}(j:cW key):xC (p,key)=some (kT p key,0):=by
 unfold xC;dsimp only;rw[Hr h,af,ag (c:= !true) rfl,Cv,af,af,ag (by simp[j]),Hs h j,af]
def Xj{p:Part}(h:dG p){key:Int}(k:cW key)(x:aV):A4 (p,key,x)=some (dO x (gk p key)):=by
 unfold A4;dsimp only;rw[Fj h,af,ag (c:= !true) rfl,AQ (pC (mN h)).1,af,Fp k (pC (mN h)).2,af];dsimp only;rw[ag (by simp),af,ag (by simp),af];dsimp only;rw[ag (c:= !true) rfl,mJ,af,af];dsimp only;by_cases j:bO x
 ·rw[ag (by simp[j]),N2,af];rfl
 rw[ah (by simp[j])];unfold dO;rw[if_neg (λh=>j h.1)]
def Xi{p:Part}(h:dG p){key:Int}(k:cW key)(x:aV):A3 (p,key,x)=some (dO x (cE (gk p key))):=by
 unfold A3;dsimp only;rw[Fj h,af,ag (c:= !true) rfl,AQ (pC (mN h)).1,af,Fp k (pC (mN h)).2,af];dsimp only;rw[ag (by simp),af,ag (by simp),af];dsimp only;rw[ag (c:= !true) rfl,mJ,af,af];dsimp only;by_cases j:bO x
 ·rw[ag (by simp[j]),AQ (i:=⟨(o4 key (cE p.shift)).steps,(o4 key (cE p.shift)).bL⟩) (Gb k (mN h)).1,af];dsimp only;rw[ag (by simp),N2,af];rfl
 rw[ah (by simp[j])];unfold dO;rw[if_neg (λh=>j h.1)]
def aap{p:Part}(h:dG p){key:Int}(j:cW key)(x:aV):By (p,key,x)=some (dO x (cE (gk p key))):=by
 unfold By;dsimp only;rw[Hr h,af,oc,af,ag (c:= !true) rfl,Cv,af,ag (by simp[j]),af];by_cases k:bO x
 ·rw[ag (by simp[k])];unfold xB;dsimp only;rw[Hs h j,af,af,show uF (kT p key,gk p key).2=some (cE (gk p key),0)from Oy (Gb j (mN h)).1,af,Ox,af]
 rw[ah (by simp[k])];unfold dO;rw[if_neg (λh=>k h.1)]
def tk(q:Rat):Int:=if bF q then bz q else -1
def ht(p:aV):Int:=if bO p then num p else 0
def wK(w:Written):List Int:=[tk w.start,w.aS,ht w.aN,w.id]
theorem IF(w:Written):(wK w).length=4:=rfl
def QK(w:Written):xZ w=some (ht w.aN):=by
 unfold xZ ht;rw[qz,af];split<;>rfl
def adm(a b:Written):xY (a,b)=some (cP [gd (tk a.start) (tk b.start),gd a.aS b.aS,gd (ht a.aN) (ht b.aN),gd a.id b.id]):=by
 unfold xY;dsimp only;rw[IE,af,IE,af,vW,af,vW,af,QK,af,QK,af,vW,af,vW,af,zh _ (by simp),af];rfl
def WO(a b c d x y z u:Int):cP [gd a x,gd b y,gd c z,gd d u]<0↔cP [a-x,b-y,c-z,d-u]<0:=by
 have h:∀m n:Int,(gd m n=0↔m-n=0)/\(gd m n<0↔m-n<0):=by
  intro m n;unfold gd;split
  ·omega
  split<;>omega
 simp only[cP];have G:=h a x;have M:=h b y;have N:=h c z;have O:=h d u;by_cases j:a-x=0
 ·rw[if_pos (G.1.2 j),if_pos j];by_cases k:b-y=0
  ·rw[if_pos (M.1.2 k),if_pos k];by_cases B:c-z=0
   ·rw[if_pos (N.1.2 B),if_pos B];by_cases F:d-u=0
    ·rw[if_pos (O.1.2 F),if_pos F]
    rw[if_neg (λh=>F (O.1.1 h)),if_neg F];exact O.2
   rw[if_neg (λh=>B (N.1.1 h)),if_neg B];exact N.2
  rw[if_neg (λh=>k (M.1.1 h)),if_neg k];exact M.2
 rw[if_neg (λh=>j (G.1.1 h)),if_neg j];exact G.2
def adn(a b:Written):∃z,xY (a,b)=some z/\(z<0↔bf wK a b<0):=⟨_,adm a b,WO _ _ _ _ _ _ _ _⟩
def Xz{l:List Written}(hl:l.length<=1000000000):Ci (l,())=some (my (λa b=>!decide (bf wK b a<0)) l):=by
 unfold Ci;dsimp only;rw[av (by omega),X3 (λa b=>!decide (bf wK b a<0)) (λk a b G j=>by
  have N:=aZ j;obtain⟨z,B,F⟩:=adn b a;rw[ah (by simp<;>omega),show(k:Int)+1=((k+1:Nat):Int)from rfl,aY (aF j),av (by omega),show((k+1:Nat):Int)-1=(k:Int) by omega,aY (aF G),B,af];by_cases h:bf wK b a<0
  ·rw[ah (by simpa using F.2 h)];simp[h]
  rw[ag (by simpa using λM=>h (F.1 M)),av (by omega)];simp[h]) (λz B=>by rw[ag (by simp<;>omega)])]
 cases my (λa b=>!decide (bf wK b a<0)) l<;>rfl
def c7(len:Rat)(w:Written):Prop:=(1<=w.id/\w.id<=1000000)/\(0<=w.aS/\w.aS<=9)/\(0<=w.br/\w.br<=20)/\bO w.aN/\bF w.start/\bF w.length/\0<bz w.length/\bz w.start+bz w.length<=bz len
instance (len:Rat) (w:Written):Decidable (c7 len w):=inferInstanceAs (Decidable (_/\_/\_/\_/\_/\_/\_/\_))
def ado(n lo hi:Int):x5 (n,lo,hi)=some (decide (lo<=n/\n<=hi)):=jR n lo hi
def aaw(n lo hi:Int):xH (n,lo,hi)=some (decide (lo<=n/\n<=hi)):=jR n lo hi
def ac9{len:Rat}(hl:bF len)(w:Written):xX (w,len)=some (decide (c7 len w)):=by
 unfold xX;dsimp only;simp only[ado,af,fK,IE,mJ];by_cases j:bF w.start
 ·by_cases k:bF w.length
  ·have B:=kr j;have t2:=kr k;rw[if_pos j,if_pos k,if_pos hl,av (by omega)];simp only[fK];refine iL ?_;unfold c7;simp[j,k,mv,B]
  rw[if_pos j,if_neg k];rw[ag (c:=aj 0 (-1)) (by simp)];have:¬c7 len w:=λh=>k h.2.2.2.2.2.1;rw[da this];simp only[rH]
  repeat' split
  all_goals rfl
 rw[if_neg j];have:¬c7 len w:=λh=>j h.2.2.2.2.1;rw[da this,ag (c:=leI 0 (-1)) (by simp)];simp only[rH]
 repeat' split
 all_goals rfl
def Hu{len:Rat}(hl:bF len)(w:Written):uN (w,len)=some (decide (c7 len w)):=by
 unfold uN;dsimp only;simp only[aaw,af,fK,jK,oc];by_cases j:bF w.start
 ·by_cases k:bF w.length
  ·have B:=kr j;have t2:=kr k;rw[if_pos j,if_pos k,if_pos hl,av (by omega)];simp only[fK];refine iL ?_;unfold c7;simp[j,k,mv,B]
  rw[if_pos j,if_neg k];rw[ag (c:=aj 0 (-1)) (by simp)];have:¬c7 len w:=λh=>k h.2.2.2.2.2.1;rw[da this];simp only[rH]
  repeat' split
  all_goals rfl
 rw[if_neg j];have:¬c7 len w:=λh=>j h.2.2.2.2.1;rw[da this,ag (c:=leI 0 (-1)) (by simp)];simp only[rH]
 repeat' split
 all_goals rfl
def Ht{B F:Rat}{a b:Written}(j:c7 B a)(k:c7 F b):qE (a,b)=some (decide (bf wK a b<0)):=by
 unfold qE;dsimp only;rw[jK,af,lr j.2.2.2.1,af,jK,af,lr k.2.2.2.1,af];have e:∀{l:Rat}{w:Written},c7 l w->((if bF w.start then bz w.start else -1)::(w.aS::(num w.aN::(w.id::([]:List Int)))))=wK w:=by
  intro l w h;unfold wK tk ht;rw[if_pos h.2.2.2.1]
 rw[e j,e k,DK (x:=wK a) (y:=wK b) rfl (by rw[IF];omega)];unfold uy bf;by_cases h:cP ((wK a).zipWith (· - ·) (wK b))=0
 ·rw[if_pos h,h];rfl
 rw[if_neg h];rfl
def Hv{l:List Written}(hl:l.length<=1000000000)(id:Int):uO (l,id)=some (l.any λw=>decide (w.id=id)):=by
 unfold uO;dsimp only;rw[il (l:=l) (λw=>decide (w.id=id)) true (λk x j=>by
  have B:=aZ j;rw[ah (by simpa using B),aY (aF j)];by_cases h:x.id=id
  ·rw[ah (by simp[h])];simp[h]
  rw[ag (by simp[h]),av (by omega)];simp[h]) (by rw[ag (by simp)])]
 cases l.any λw=>decide (w.id=id)<;>rfl
def adA:Part:=⟨0,0,0,0,0,⟨0,0⟩,⟨0,0,0⟩,⟨0,0,0⟩⟩
def partOf(s:Score)(id:Int):Option Part:=s.parts.find? λp=>decide (p.id=id)
def IB{s:Score}(hl:s.parts.length<=1000000)(id:Int):uX (s,id)=some (match partOf s id with|some p=>(⟨p⟩,true)|none=>(⟨adA⟩,false)):=by
 unfold uX partOf;dsimp only;have e:Ch (s.parts,id)=some (ix s.parts λp=>decide (p.id=id)):=by
  unfold Ch;dsimp only;rw[nL (l:=s.parts) (λp=>decide (p.id=id)) (λk x F=>by
   have M:=aZ F;rw[ah (by simpa using M),aY (aF F)];unfold Hd;rw[af];by_cases h:x.id=id
   ·rw[ah (by simp[h])];simp[h]
   rw[ag (by simp[h]),av (by omega)];simp[h]) (by rw[ag (by simp)])]
  exact rG _ _
 rw[e,af];rcases oP s.parts λp=>decide (p.id=id)with ⟨j,B⟩| ⟨k,p,j,B,G,N⟩
 ·rw[j,B,ah (by simp)];rfl
 rw[B,G,ag (by simp),aY (aF j)]
def QI{p:Part}(k:dG p){b:aT}(j:cW b.key)(l:List Written):x2 (⟨p⟩,b,l)=some ⟨b.id,kT p b.key,b.length,l⟩:=by
 unfold x2;dsimp only;rw[Xh k j,af]
def kM(p:Part)(b:aT)(m:aB):Prop:=m.aw=b.id/\m.key=kT p b.key/\m.length=b.length
instance (p:Part) (b:aT) (m:aB):Decidable (kM p b m):=inferInstanceAs (Decidable (_/\_/\_))
def fN(p:Part)(x:aB×aT):Bool:=decide (kM p x.2 x.1)&&my (λa b=>!decide (bf wK b a<0)) x.1.notes&&x.1.notes.all λw=>decide (c7 x.1.length w)
def bD(v:View):List Written:=v.aK.flatMap aB.notes
def pv(z:List (Int×Bool))(l:List Written):List (Int×Bool):=l.foldl (λm w=>aM m w.id true) z
theorem Xs{m:aB}(hl:bF m.length)(M:m.notes.length<=1000000)(z:List (Int×Bool)):aA (ρ:=(List (Int×Bool))⊕((Int×(Int×(List (Int×Bool))))⊕((Int×(List (Int×Bool)))⊕Bool))) (λj:(Int×(List (Int×Bool)))=>ab (aj j.1 (m.notes.length:Int)) (aa (an m.notes j.1) λF=>aa (xX (F,m.length)) λN=>ab (!N) (some (.inr (.inr (.inr (.inr false))))) (ae (ai (j.1+1)) <|some (.inl ((j.1+1),(aM j.2 F.id true))))) (some (.inr (.inl j.2)))) (0,z) =
  some (if(m.notes.all λw=>decide (c7 m.length w))=true then .inl (pv z m.notes)else .inr (.inr (.inr false))):=by
 rw[cu (σ:=List (Int×Bool)) (st:=λz k=>(k,z)) (l:=m.notes) (λz x=>if decide (c7 m.length x)=true then .inl (aM z x.id true)else .inr (.inr (.inr (.inr false)))) (λz=>.inl z) (λ_ _=>True) (λk x z B _=>by
  have G:=aZ B;dsimp only;rw[ah (by simpa using G),aY (aF B),ac9 hl,af];by_cases h:c7 m.length x
  ·rw[ag (by simp[h]),av (by omega)];simp[h]
  rw[ah (by simp[h])];simp[h]) (λ_ _ _ _ _ _ _=>trivial) (λz _=>by dsimp only;rw[ag (by simp)]) z trivial,tO]
 rfl
def rE{α β:Type}{l:List α}{r:List β}{k:Nat}{x:α×β}(h:(l.zip r)[k]?=some x):l[k]?=some x.1/\r[k]?=some x.2:=sx.1 h
def L4{α β σ:Type}(g:σ->α->σ):∀(l:List α)(r:List β)(z:σ),l.length<=r.length->(l.zip r).foldl (λz x=>g z x.1) z=l.foldl g z
 | [],_,z,_=>rfl
 |x::l,[],z,h=>by simp at h
 |x::l,y::r,z,h=>by
  rw[List.zip_cons_cons,List.foldl_cons,List.foldl_cons];exact L4 g l r _ (by simpa using h)
def WQ(j:List aB):∀(n:Int)(z:List (Int×Bool)),j.foldl (λ(z:Int×List (Int×Bool)) m=>(z.1+(m.notes.length:Int),pv z.2 m.notes)) (n,z)=(n+((j.flatMap aB.notes).length:Int),pv z (j.flatMap aB.notes)):=by
 induction j with
 |nil=>intro n z;simp[pv]
 |cons m j k=>
  intro n z;rw[List.foldl_cons,k,hL,dT];unfold pv;rw[td];congr 1;simp only[Int.natCast_add];omega
def dj(s:Score)(v:View):Prop:=cI s/\v.aK.length=s.bars.length/\(∃p,partOf s v.part=some p/\((v.aK.zip s.bars).all (fN p))=true)/\(bD v).length<=20000/\((bD v).map Written.id).Nodup
def Fw:∀{l:List Nat}{n:Nat},n∈l->n<=l.sum
 | [],_,h=>by cases h
 |x::l,n,h=>by
  rw[List.sum_cons];rcases fa.1 h with rfl|h
  ·omega
  have:=Fw h;omega
def gG{v:View}{m:aB}(h:m∈v.aK):m.notes.length<=(bD v).length:=by
 unfold bD;rw[J3];exact Fw (gg.2 ⟨m,h,rfl⟩)
def pt{s:Score}(k:cI s){id:Int}{p:Part}(h:partOf s id=some p):dG p/\p∈s.parts/\p.id=id:=by
 unfold partOf at h;have j:=hf h;exact⟨k.2.2.1.2.1 p j,j,by simpa using kA h⟩
def iR{s:Score}(j:cI s){b:aT}(h:b∈s.bars):fx b:=j.2.1.2.1 b h
open Classical in
theorem QD{s:Score}{v:View}(aq:s.bars.length<=1048576)(hv:(bD v).length<=1000000):xW (s,v)=some (decide (dj s v)):=by
 unfold xW;dsimp only;rw[yq aq,af];by_cases B:cI s
 ·rw[ag (by simp[B]),af];by_cases aa:v.aK.length=s.bars.length
  ·have aC:=B.2.1.1.2;have aD:=B.2.2.1.1.2;rw[ag (by simp[aa]),IB (by omega),af];cases O:partOf s v.part with
   |none=>
    dsimp only;rw[ah (c:= !false) rfl,da];rintro⟨_,_,⟨p,h,_⟩,_⟩;rw[O]at h;cases h
   |some p=>
    have az:=(pt B O).1;dsimp only;rw[ag (c:= !true) rfl];have aw:(v.aK.zip s.bars).length=v.aK.length:=by rw[I1];omega
    rw[cu (σ:=Int×List (Int×Bool)) (st:=λz k=>(z.1,k,z.2)) (l:=v.aK.zip s.bars) (λz x=>if fN p x=true then .inl (z.1+(x.1.notes.length:Int),pv z.2 x.1.notes)else .inr (.inr false)) (λz=>.inl z) (λk z=>0<=z.1/\z.1<=1000000*(k:Int)) (λk x z ad ao=>by
     obtain⟨F,Z⟩:=rE ad;have au:=aZ F;have ax:=dd F;have an:=iR B (dd Z);have ay:=gG ax;dsimp only;rw[ah (by simpa using au),aY (aF F),aY (aF Z),QI az an.2.2.2,af,Xz (by omega),af,y9,Zm,af];by_cases ab:kM p x.2 x.1/\my (λa b=>!decide (bf wK b a<0)) x.1.notes=true
     ·obtain⟨⟨ae,ai,Y⟩,aj⟩:=ab;rw[ag (by simp[ae,ai,Y,aj]),Xs (by rw[Y];exact an.2.1) (by omega)];by_cases M:(x.1.notes.all λw=>decide (c7 x.1.length w))=true
      ·have G:fN p x=true:=by unfold fN;rw[M,aj,c3 (p:=kM p x.2 x.1) ⟨ae,ai,Y⟩];rfl
       rw[if_pos M,if_pos G,ew,av (by omega),av (by omega)];rfl
      have G:¬fN p x=true:=by unfold fN;rw[k5]at M;rw[M];simp
      rw[if_neg M,if_neg G,e9]
     ·have G:¬fN p x=true:=λh=>ab (by
       unfold fN at h;simp only[dk,ea]at h;exact h.1)
      rw[if_neg G,ah (by
       refine fl λj=>ab ?_;simp only[k5,kb,ta,ea]at j;exact⟨⟨j.1.1.1,j.1.1.2,j.1.2⟩,j.2⟩)]) (λk x z z' ad ao j=>by
     obtain⟨F,Z⟩:=rE ad;have ay:=gG (dd F);split at j
     ·injection j with j;subst j;dsimp only;omega
     cases j) (λz ao=>by dsimp only;rw[aw,ag (by simp)]) (0,[]) ⟨by simp,by simp⟩,tO]
    by_cases N:(v.aK.zip s.bars).all (fN p)=true
    ·rw[if_pos N,ew,L4 (λ(z:Int×List (Int×Bool))(m:aB)=>(z.1+(m.notes.length:Int),pv z.2 m.notes)) _ _ _ (by omega),WQ];dsimp only;obtain⟨aA,ak⟩:=L1 Written.id (λ_=>true) (v.aK.flatMap aB.notes) [];rw[show((0:Int)+((v.aK.flatMap aB.notes).length:Int))=((bD v).length:Int) by unfold bD;omega];by_cases al:(bD v).length<=20000
     ·rw[ah (c3 (by omega)),af];refine iL ?_;rw[ea];have ar:((pv [] (bD v)).length:Int)=((bD v).length:Int)↔((bD v).map Written.id).Nodup:=by
       unfold pv bD;rw[Int.natCast_inj];simp only[List.length_nil,hT]at ak;rw[ak];exact⟨λh=>h.1,λh=>⟨h,λ_ _=>rfl⟩⟩
      refine(ar).trans ⟨λh=>⟨B,aa,⟨p,O,N⟩,al,h⟩,λh=>h.2.2.2.2⟩
     rw[ag (da (by omega)),af,da (λh=>al h.2.2.2.1)]
    rw[if_neg N,e9,da];rintro⟨_,_,⟨q,U,h⟩,_⟩;rw[O]at U;injection U with U;subst U;exact N h
  rw[ah (by simp;omega),da (λh=>aa h.2.1)]
 rw[ah (by simp[B]),af,ah rfl,da (λh=>B h.1)]
def aat{p:Part}(k:dG p){b:aT}(j:cW b.key):BB (p,b)=some ⟨b.id,kT p b.key,b.length,[]⟩:=by
 unfold BB;dsimp only;rw[OJ k j,af]
def OL(a b:aB):xI (a,b)=some (decide (a.aw=b.aw/\a.key=b.key/\a.length=b.length)):=by
 unfold xI;dsimp only;simp only[af,fK,y9];exact iL (by simp)
def jf(len:Rat)(seen:List Written)(ws:List Written)(k:Nat)(w:Written):Bool:=decide (c7 len w) && !((seen++ws.take k).any λx=>decide (x.id=w.id))&&decide ((seen++ws.take k).length<20000)&&(match k with|0=>true|j+1=>match ws[j]? with|some a=>decide (bf wK a w<0)|none=>true)
def lg(len:Rat)(seen:List Written)(ws:List Written):Bool:=(List.range ws.length).all λk=>match ws[k]? with|some w=>jf len seen ws k w|none=>true
def Ik{α:Type}{l:List α}{k:Nat}{x:α}(h:l[k]?=some x):l.take (k+1)=l.take k++[x]:=by rw[List.take_add_one,h];rfl
def Xr{m:aB}(hl:bF m.length){seen:List Written}(aW:seen.length<=20000)(aE:m.notes.length<=1000000) :
  aA (ρ:=(List Written)⊕((Int×(List Written))⊕(Unit⊕Bool))) (λB:(Int×(List Written))=>ab (aj B.1 (m.notes.length:Int)) (aa (an m.notes B.1) λaw=>aa (uN (aw,m.length)) λaT=>aa (an m.notes B.1) λax=>aa (uO (B.2,ax.id)) λay=>aa (ab (!aT) (some true) (ab ay (some true) (some (leI 20000 (B.2.length:Int))))) λ(az:Bool)=>ab az (some (.inr (.inr (.inr (.inr false))))) (aR (ab (aj 0 B.1) (ae (ai (B.1-1)) <|aa (an m.notes (B.1-1)) λU=>aa (an m.notes B.1) λM=>aa (qE (U,M)) λaH=>ab (!aH) (some (.inr (.inr (.inr (.inr (.inr false)))))) (some (.inl ()))) (some (.inl ()))) λ(U:Unit)=>aa (an m.notes B.1) λM=>ae (WP 80 (List.append B.2 (M::([]:List Written)))) <|ae (ai (B.1+1)) <|some (.inl ((B.1+1),(List.append B.2 (M::([]:List Written))))))) (some (.inr (.inl B.2)))) (0,seen) =
  some (if lg m.length seen m.notes=true then .inl (seen++m.notes)else .inr (.inr (.inr false))):=by
 have key:∀(
        n k:Nat),k+n=m.notes.length->(∀j w,j<k->m.notes[j]?=some w->jf m.length seen m.notes j w=true)->aA (ρ:=(List Written)⊕((Int×(List Written))⊕(Unit⊕Bool))) (λB:(Int×(List Written))=>ab (aj B.1 (m.notes.length:Int)) (aa (an m.notes B.1) λaw=>aa (uN (aw,m.length)) λaT=>aa (an m.notes B.1) λax=>aa (uO (B.2,ax.id)) λay=>aa (ab (!aT) (some true) (ab ay (some true) (some (leI 20000 (B.2.length:Int))))) λ(az:Bool)=>ab az (some (.inr (.inr (.inr (.inr false))))) (aR (ab (aj 0 B.1) (ae (ai (B.1-1)) <|aa (an m.notes (B.1-1)) λU=>aa (an m.notes B.1) λM=>aa (qE (U,M)) λaH=>ab (!aH) (some (.inr (.inr (.inr (.inr (.inr false)))))) (some (.inl ()))) (some (.inl ()))) λ(U:Unit)=>aa (an m.notes B.1) λM=>ae (WP 80 (List.append B.2 (M::([]:List Written)))) <|ae (ai (B.1+1)) <|some (.inl ((B.1+1),(List.append B.2 (M::([]:List Written))))))) (some (.inr (.inl B.2)))) ((k:Int),seen++m.notes.take k) =
   some (if lg m.length seen m.notes=true then .inl (seen++m.notes)else .inr (.inr (.inr false))):=by
  intro n;induction n with
  |zero=>
   intro k aM Z;have:k=m.notes.length:=by omega
   subst this;have aN:lg m.length seen m.notes=true:=ek.2 λj O=>by
    have O:=ib.1 O;have e:m.notes[j]?=some m.notes[j]:=c5 O;rw[e];exact Z j _ O e
   rw[zv,if_pos aN];refine fj ?_;dsimp only;rw[ag (by simp)]
  |succ n aQ=>
   intro k aM Z;have aD:k<m.notes.length:=by omega
   have G:m.notes[k]?=some m.notes[k]:=c5 aD;generalize m.notes[k]=w at G;have aC:jf m.length seen m.notes k w=false->lg m.length seen m.notes=false:=λh=>by
    rw[<-k5];intro N;have:=ek.1 N k (ib.2 aD);rw[G]at this;dsimp only at this;rw[h]at this;cases this
   have aV:(seen++m.notes.take k).length<=1020000:=by rw[dT,fb];omega
   by_cases al:c7 m.length w/\((seen++m.notes.take k).any λx=>decide (x.id=w.id))=false/\(seen++m.notes.take k).length<20000
   ·obtain⟨Y,ak,aI⟩:=al;by_cases ao:∀a,(0<k)->m.notes[k-1]?=some a->bf wK a w<0
    ·have aO:jf m.length seen m.notes k w=true:=by
      unfold jf;rw[c3 Y,ak,c3 aI];cases k with
      |zero=>rfl
      |succ j=>
       dsimp only;cases F:m.notes[j]? with
       |none=>rfl
       |some a=>dsimp only;rw[c3 (ao a (by omega) (by simpa using F))];rfl
     rw[jC (z':=(((k+1:Nat):Int),seen++m.notes.take (k+1))) (by
      dsimp only;rw[ah (c3 (by omega)),aY (aF G),Hu hl,af,aY (aF G),Hv (by omega),af,ag (by simp[Y]),ag ak,af,ag (by rw[hA];omega)];have O:(ab (aj 0 (k:Int)) (ae (ai ((k:Int)-1)) <|aa (an m.notes ((k:Int)-1)) λU=>aa (an m.notes (k:Int)) λM=>aa (qE (U,M)) λaH=>ab (!aH) (some (.inr (.inr (.inr (.inr (.inr false))))):Option (Unit⊕((Int×(List Written))⊕((List Written)⊕((Int×(List Written))⊕(Unit⊕Bool)))))) (some (.inl ()))) (some (.inl ())))=some (.inl ()):=by
       cases k with
       |zero=>rw[ag (by simp)]
       |succ j=>
        have F:m.notes[j]?=some m.notes[j]:=c5 (by omega);generalize m.notes[j]=a at F;have ar:c7 m.length a:=by
         have:=Z j a (by omega) F;unfold jf at this;simp only[dk,ea]at this;exact this.1.1.1
        rw[ah (c3 (by omega)),av (by omega),show((j+1:Nat):Int)-1=(j:Int) by omega,aY (aF F),aY (aF G),Ht ar Y,af,ag (by simp[ao a (by omega) (by simpa using F)])]
      rw[O,ew,aY (aF G),bG (c3 (by
       show(seen++m.notes.take k++[w]).length*80<=_/\(seen++m.notes.take k++[w]).length<=_;rw[dT];simp only[List.length_cons,List.length_nil];omega)),av (by omega),Ik G]
      show some (Sum.inl (_,(seen++m.notes.take k)++[w]))=_;rw[h7];rfl)]
     refine aQ (k+1) (by omega) λj w' O ad=>?_;by_cases aL:j=k
     ·subst aL;rw[G]at ad;injection ad with ad;subst ad;exact aO
     exact Z j w' (by omega) ad
    have aK:∃a,0<k/\m.notes[k-1]?=some a/\¬bf wK a w<0:=by
     refine fl λN=>ao λa F aJ=>?_;refine fl λaE=>N ⟨a,F,aJ,aE⟩
    obtain⟨a,aU,F,aG⟩:=aK;obtain⟨j,rfl⟩:∃j,k=j+1:=⟨k-1,by omega⟩;have F:m.notes[j]?=some a:=by simpa using F
    have aq:jf m.length seen m.notes (j+1) w=false:=by
     unfold jf;dsimp only;rw[F];dsimp only;rw[da aG,vx]
    have ar:c7 m.length a:=by
     have:=Z j a (by omega) F;unfold jf at this;simp only[dk,ea]at this;exact this.1.1.1
    rw[aC aq];refine fj ?_;dsimp only;rw[ah (c3 (by omega)),aY (aF G),Hu hl,af,aY (aF G),Hv (by omega),af,ag (by simp[Y]),ag ak,af,ag (by rw[hA];omega)];rw[ah (c3 (by omega)),av (by omega),show((j+1:Nat):Int)-1=(j:Int) by omega,aY (aF F),aY (aF G),Ht ar Y,af,ah (by simp[aG]),e9];rfl
   have aq:jf m.length seen m.notes k w=false:=by
    rw[<-k5];intro N;unfold jf at N;simp only[dk,ea,gj]at N;exact al ⟨N.1.1.1,N.1.1.2,N.1.2⟩
   rw[aC aq];refine fj ?_;dsimp only;rw[ah (c3 (by omega)),aY (aF G),Hu hl,af,aY (aF G),Hv (by omega),af];have aP:(ab (!decide (c7 m.length w)) (some true) (ab ((seen++m.notes.take k).any λx=>decide (x.id=w.id)) (some true) (some (leI 20000 ((seen++m.notes.take k).length:Int)))))=some true:=by
    by_cases au:c7 m.length w
    ·rw[ag (by simp[au])];cases aS:(seen++m.notes.take k).any λx=>decide (x.id=w.id)
     ·rw[ag rfl];refine dn some (c3 ?_);have:¬(seen++m.notes.take k).length<20000:=λh=>al ⟨au,aS,h⟩;omega
     rw[ah rfl]
    rw[ah (by simp[au])]
   rw[aP,af,ah rfl];rfl
 have:=key m.notes.length 0 (by omega) (λj w O=>by omega);rw[List.take_zero,iu]at this;exact this
end Go.Proofs.YthhlipkkjippfaaGreatDoor
