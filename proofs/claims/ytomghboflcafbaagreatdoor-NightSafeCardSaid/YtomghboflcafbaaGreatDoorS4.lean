/- Laws of a step by step reckoning of programs, and of the functions of the program that the claims share, without conditions. -/
import Derived.Test.YtomghboflcafbaaGreatDoorS3
import Derived.Test.YtomghboflcafbaaGreatDoorProg
import Derived.KernelRfl
import Derived.ProofKit
import Derived.LaidMore
import Derived.OpenShut
import Derived.SizedLaws
import Derived.Carry
import Derived.Shelf.LaysM
import Derived.Shelf.Strconv.Itoa3
set_option linter.unusedVariables false
set_option linter.unusedSimpArgs false
set_option linter.unusedSectionVars false
section
namespace Go.Lens.Tb
open Go.Proofs Go.Proofs.Tryz
variable [Lz]
noncomputable section
theorem jx {P:Program} {t:TypeId} {i:TypeInfo} (h:P.types[t]? =some i):P.info? t=some i:=by
  have hl:t<P.types.size:=(zT.1 h).1
  unfold Tables.info?
  rw[if_pos hl];exact h
def AllT {α:Type} (Q:Nat->α->Prop):Tr α->Prop
  | .nil=>True
  | .node l k v r=>AllT Q l/\Q k v/\AllT Q r
theorem AllT.mem {α:Type} {Q:Nat->α->Prop}:∀ {t:Tr α},AllT Q t->∀ p∈t.toList,Q p.1 p.2
  | .nil,_,p,h=>by cases h
  | .node l k v r,H,p,h=>by
    obtain⟨h1,h2,h3⟩:=H
    simp only[Tr.toList,zI,zF] at h
    rcases h with h|rfl|h
    · exact AllT.mem h1 p h
    · exact h2
    · exact AllT.mem h3 p h
def QT (t:TypeId) (i:TI):Prop:=Tryz.prog.underlying t=some i.und/\Tryz.prog.info? t=some i.info/\(i.eqOk=true->(Tryz.prog.stoodInHeld t||Tryz.prog.eqGuardType Tryz.prog.depth t)=false)
def QF (f:FuncId) (F:FnI):Prop:=∃ fn,Tryz.prog.funcs[f]? =some fn/\fn.body=F.body/\fn.ntmps=F.n/\fn.results=F.res/\(∀ c,F.body=some c->js F.n c=true)/\∀ args w,(callFunc f args).run Tryz.prog w=.ok (.enter f args) w
def dstB (F:FnI):Bool:=match F.body with|some c=>js F.n c|none=>true
theorem dstB_ok {F:FnI} (h:dstB F=true):∀ c,F.body=some c->js F.n c=true:=by
  intro c hc;unfold dstB at h;rw[hc] at h;exact h
abbrev mF (n m:Nat) (f:Func):FnI:=⟨n,m,f.results,f.body⟩
abbrev mT (i u:TypeInfo) (e:Bool):TI:=⟨i,u.desc,e⟩
theorem mq {f:FuncId} {F:FnI} {fn:Func} (h:Tryz.prog.funcs[f]? =some fn) (c:∀ args w,(callFunc f args).run Tryz.prog w=.ok (.enter f args) w) (e:(fn.body,fn.ntmps,fn.results)=(F.body,F.n,F.res):=by exact rfl) (d:dstB F=true:=by kernel_rfl):QF f F:=by
  simp only[zu] at e
  exact⟨fn,h,e.1,e.2.1,e.2.2,dstB_ok d,c⟩
theorem mt {t:TypeId} {i u:TypeInfo} (h:Tryz.prog.underlying t=some u.desc) (k:Tryz.prog.types[t]? =some i):QT t (mT i u false):=⟨h,jx k,fun h=>by cases h⟩
noncomputable def fn15:=mF 264 0 f15
theorem qf15:QF 15 fn15:=mq func15 call15
noncomputable def fn19:=mF 274 113078616574635686384709674657569084917063060932236928787824135861434154975 f19
theorem qf19:QF 19 fn19:=mq func19 call19
noncomputable def fn22:=mF 24 15 f22
theorem qf22:QF 22 fn22:=mq func22 call22
noncomputable def fn23:=mF 35 4294983293 f23
theorem qf23:QF 23 fn23:=mq func23 call23
noncomputable def fn24:=mF 91 9671407101852590356561871 f24
theorem qf24:QF 24 fn24:=mq func24 call24
noncomputable def fn29:=mF 26 33571891 f29
theorem qf29:QF 29 fn29:=mq func29 call29
noncomputable def fn30:=mF 34 2099167 f30
theorem qf30:QF 30 fn30:=mq func30 call30
noncomputable def fn32:=mF 30 1049087 f32
theorem qf32:QF 32 fn32:=mq func32 call32
noncomputable def fn34:=mF 18 1005 f34
theorem qf34:QF 34 fn34:=mq func34 call34
noncomputable def fn36:=mF 12 285 f36
theorem qf36:QF 36 fn36:=mq func36 call36
noncomputable def fn37:=mF 41 275012376541 f37
theorem qf37:QF 37 fn37:=mq func37 call37
noncomputable def fn38:=mF 38 0 f38
theorem qf38:QF 38 fn38:=mq func38 call38
noncomputable def fn39:=mF 30 0 f39
theorem qf39:QF 39 fn39:=mq func39 call39
noncomputable def fn40:=mF 67 0 f40
theorem qf40:QF 40 fn40:=mq func40 call40
noncomputable def fn41:=mF 52 562949953437309 f41
theorem qf41:QF 41 fn41:=mq func41 call41
noncomputable def fn42:=mF 26 33571891 f42
theorem qf42:QF 42 fn42:=mq func42 call42
noncomputable def fn43:=mF 38 73016545223 f43
theorem qf43:QF 43 fn43:=mq func43 call43
noncomputable def fn45:=mF 26 33571891 f45
theorem qf45:QF 45 fn45:=mq func45 call45
noncomputable def fn48:=mF 34 2101199 f48
theorem qf48:QF 48 fn48:=mq func48 call48
noncomputable def fn50:=mF 26 33571891 f50
theorem qf50:QF 50 fn50:=mq func50 call50
noncomputable def fn51:=mF 18 1005 f51
theorem qf51:QF 51 fn51:=mq func51 call51
noncomputable def fn53:=mF 25 0 f53
theorem qf53:QF 53 fn53:=mq func53 call53
noncomputable def fn55:=mF 46 8800395995133 f55
theorem qf55:QF 55 fn55:=mq func55 call55
noncomputable def fn56:=mF 55 0 f56
theorem qf56:QF 56 fn56:=mq func56 call56
noncomputable def fn57:=mF 52 0 f57
theorem qf57:QF 57 fn57:=mq func57 call57
noncomputable def fn58:=mF 93 0 f58
theorem qf58:QF 58 fn58:=mq func58 call58
noncomputable def fn59:=mF 51 72883701348725 f59
theorem qf59:QF 59 fn59:=mq func59 call59
noncomputable def fn61:=mF 40 0 f61
theorem qf61:QF 61 fn61:=mq func61 call61
noncomputable def fn62:=mF 2 1 f62
theorem qf62:QF 62 fn62:=mq func62 call62
noncomputable def fn63:=mF 29 0 f63
theorem qf63:QF 63 fn63:=mq func63 call63
noncomputable def fn64:=mF 50 0 f64
theorem qf64:QF 64 fn64:=mq func64 call64
noncomputable def fn65:=mF 101 0 f65
theorem qf65:QF 65 fn65:=mq func65 call65
noncomputable def fn67:=mF 55 1099780345597 f67
theorem qf67:QF 67 fn67:=mq func67 call67
noncomputable def fn69:=mF 56 0 f69
theorem qf69:QF 69 fn69:=mq func69 call69
noncomputable def fn73:=mF 25 0 f73
theorem qf73:QF 73 fn73:=mq func73 call73
noncomputable def fn76:=mF 90 348171297861986743444762355 f76
theorem qf76:QF 76 fn76:=mq func76 call76
noncomputable def fn78:=mF 25 245933 f78
theorem qf78:QF 78 fn78:=mq func78 call78
noncomputable def fn80:=mF 22 0 f80
theorem qf80:QF 80 fn80:=mq func80 call80
noncomputable def fn81:=mF 78 303831909588178832831 f81
theorem qf81:QF 81 fn81:=mq func81 call81
noncomputable def fn84:=mF 36 0 f84
theorem qf84:QF 84 fn84:=mq func84 call84
noncomputable def fn86:=mF 30 4319423 f86
theorem qf86:QF 86 fn86:=mq func86 call86
noncomputable def fn87:=mF 13 287 f87
theorem qf87:QF 87 fn87:=mq func87 call87
noncomputable def fn88:=mF 18 0 f88
theorem qf88:QF 88 fn88:=mq func88 call88
noncomputable def fn89:=mF 3 1 f89
theorem qf89:QF 89 fn89:=mq func89 call89
noncomputable def fn90:=mF 4 1 f90
theorem qf90:QF 90 fn90:=mq func90 call90
noncomputable def fn91:=mF 5 1 f91
theorem qf91:QF 91 fn91:=mq func91 call91
noncomputable def fn92:=mF 28 16777789 f92
theorem qf92:QF 92 fn92:=mq func92 call92
noncomputable def fn93:=mF 15 0 f93
theorem qf93:QF 93 fn93:=mq func93 call93
noncomputable def fn94:=mF 56 0 f94
theorem qf94:QF 94 fn94:=mq func94 call94
noncomputable def fn95:=mF 20 0 f95
theorem qf95:QF 95 fn95:=mq func95 call95
noncomputable def fn96:=mF 37 0 f96
theorem qf96:QF 96 fn96:=mq func96 call96
noncomputable def fn97:=mF 9 19 f97
theorem qf97:QF 97 fn97:=mq func97 call97
noncomputable def fn98:=mF 6 5 f98
theorem qf98:QF 98 fn98:=mq func98 call98
noncomputable def fn99:=mF 16 71 f99
theorem qf99:QF 99 fn99:=mq func99 call99
noncomputable def fn100:=mF 15 4597 f100
theorem qf100:QF 100 fn100:=mq func100 call100
noncomputable def fn101:=mF 7 51 f101
theorem qf101:QF 101 fn101:=mq func101 call101
noncomputable def fn102:=mF 9 19 f102
theorem qf102:QF 102 fn102:=mq func102 call102
noncomputable def fn103:=mF 9 15 f103
theorem qf103:QF 103 fn103:=mq func103 call103
noncomputable def fn104:=mF 7 5 f104
theorem qf104:QF 104 fn104:=mq func104 call104
noncomputable def fn105:=mF 23 7 f105
theorem qf105:QF 105 fn105:=mq func105 call105
noncomputable def fn106:=mF 9 19 f106
theorem qf106:QF 106 fn106:=mq func106 call106
noncomputable def fn107:=mF 56 18015498289549279 f107
theorem qf107:QF 107 fn107:=mq func107 call107
noncomputable def fn108:=mF 34 20031 f108
theorem qf108:QF 108 fn108:=mq func108 call108
noncomputable def fn111:=mF 87 37783678797701899123839 f111
theorem qf111:QF 111 fn111:=mq func111 call111
noncomputable def fn112:=mF 8 21 f112
theorem qf112:QF 112 fn112:=mq func112 call112
noncomputable def fn113:=mF 19 51 f113
theorem qf113:QF 113 fn113:=mq func113 call113
noncomputable def fn115:=mF 24 1005 f115
theorem qf115:QF 115 fn115:=mq func115 call115
noncomputable def fn116:=mF 8 19 f116
theorem qf116:QF 116 fn116:=mq func116 call116
noncomputable def fn117:=mF 13 115 f117
theorem qf117:QF 117 fn117:=mq func117 call117
noncomputable def fn118:=mF 25 0 f118
theorem qf118:QF 118 fn118:=mq func118 call118
noncomputable def fn119:=mF 32 0 f119
theorem qf119:QF 119 fn119:=mq func119 call119
noncomputable def fn120:=mF 6 5 f120
theorem qf120:QF 120 fn120:=mq func120 call120
noncomputable def fn121:=mF 106 40237886980118479625305160647 f121
theorem qf121:QF 121 fn121:=mq func121 call121
noncomputable def fn122:=mF 128 0 f122
theorem qf122:QF 122 fn122:=mq func122 call122
noncomputable def fn123:=mF 50 31 f123
theorem qf123:QF 123 fn123:=mq func123 call123
noncomputable def fn124:=mF 78 18954048166894533382131 f124
theorem qf124:QF 124 fn124:=mq func124 call124
noncomputable def fn126:=mF 84 0 f126
theorem qf126:QF 126 fn126:=mq func126 call126
noncomputable def fn127:=mF 40 4311753709 f127
theorem qf127:QF 127 fn127:=mq func127 call127
noncomputable def fn128:=mF 21 18349 f128
theorem qf128:QF 128 fn128:=mq func128 call128
noncomputable def fn129:=mF 65 2199157606525 f129
theorem qf129:QF 129 fn129:=mq func129 call129
noncomputable def fn130:=mF 37 0 f130
theorem qf130:QF 130 fn130:=mq func130 call130
noncomputable def fn131:=mF 5 5 f131
theorem qf131:QF 131 fn131:=mq func131 call131
noncomputable def fn132:=mF 24 0 f132
theorem qf132:QF 132 fn132:=mq func132 call132
noncomputable def fn133:=mF 35 0 f133
theorem qf133:QF 133 fn133:=mq func133 call133
noncomputable def fn134:=mF 10 0 f134
theorem qf134:QF 134 fn134:=mq func134 call134
noncomputable def fn135:=mF 49 0 f135
theorem qf135:QF 135 fn135:=mq func135 call135
noncomputable def fn136:=mF 48 137506095159 f136
theorem qf136:QF 136 fn136:=mq func136 call136
noncomputable def fn137:=mF 66 68787117789 f137
theorem qf137:QF 137 fn137:=mq func137 call137
noncomputable def fn138:=mF 35 0 f138
theorem qf138:QF 138 fn138:=mq func138 call138
noncomputable def fn139:=mF 38 537924095 f139
theorem qf139:QF 139 fn139:=mq func139 call139
noncomputable def fn140:=mF 53 0 f140
theorem qf140:QF 140 fn140:=mq func140 call140
noncomputable def fn141:=mF 12 15 f141
theorem qf141:QF 141 fn141:=mq func141 call141
noncomputable def fn142:=mF 58 275146342899 f142
theorem qf142:QF 142 fn142:=mq func142 call142
noncomputable def fn144:=mF 21 0 f144
theorem qf144:QF 144 fn144:=mq func144 call144
noncomputable def fn146:=mF 30 0 f146
theorem qf146:QF 146 fn146:=mq func146 call146
noncomputable def fn147:=mF 79 0 f147
theorem qf147:QF 147 fn147:=mq func147 call147
noncomputable def fn148:=mF 19 0 f148
theorem qf148:QF 148 fn148:=mq func148 call148
noncomputable def fn151:=mF 12 5 f151
theorem qf151:QF 151 fn151:=mq func151 call151
noncomputable def fn152:=mF 14 3 f152
theorem qf152:QF 152 fn152:=mq func152 call152
noncomputable def fn153:=mF 65 576742235870072819 f153
theorem qf153:QF 153 fn153:=mq func153 call153
noncomputable def fn154:=mF 7 1 f154
theorem qf154:QF 154 fn154:=mq func154 call154
noncomputable def fn155:=mF 23 261 f155
theorem qf155:QF 155 fn155:=mq func155 call155
noncomputable def fn156:=mF 12 7 f156
theorem qf156:QF 156 fn156:=mq func156 call156
noncomputable def fn157:=mF 19 51 f157
theorem qf157:QF 157 fn157:=mq func157 call157
noncomputable def fn158:=mF 14 5 f158
theorem qf158:QF 158 fn158:=mq func158 call158
noncomputable def fn159:=mF 37 0 f159
theorem qf159:QF 159 fn159:=mq func159 call159
noncomputable def fn160:=mF 69 144115188144079099 f160
theorem qf160:QF 160 fn160:=mq func160 call160
noncomputable def fn161:=mF 18 1 f161
theorem qf161:QF 161 fn161:=mq func161 call161
noncomputable def fn162:=mF 19 66483 f162
theorem qf162:QF 162 fn162:=mq func162 call162
noncomputable def fn163:=mF 19 66483 f163
theorem qf163:QF 163 fn163:=mq func163 call163
noncomputable def fn164:=mF 37 536871389 f164
theorem qf164:QF 164 fn164:=mq func164 call164
noncomputable def fn165:=mF 19 66483 f165
theorem qf165:QF 165 fn165:=mq func165 call165
noncomputable def fn166:=mF 16 31 f166
theorem qf166:QF 166 fn166:=mq func166 call166
noncomputable def fn169:=mF 75 138351151749653378483 f169
theorem qf169:QF 169 fn169:=mq func169 call169
noncomputable def fn170:=mF 66 2267743825679 f170
theorem qf170:QF 170 fn170:=mq func170 call170
noncomputable def fn171:=mF 23 4339 f171
theorem qf171:QF 171 fn171:=mq func171 call171
noncomputable def fn172:=mF 41 0 f172
theorem qf172:QF 172 fn172:=mq func172 call172
noncomputable def fn173:=mF 9 19 f173
theorem qf173:QF 173 fn173:=mq func173 call173
noncomputable def fn174:=mF 41 5 f174
theorem qf174:QF 174 fn174:=mq func174 call174
noncomputable def fn175:=mF 20 0 f175
theorem qf175:QF 175 fn175:=mq func175 call175
noncomputable def fn178:=mF 36 0 f178
theorem qf178:QF 178 fn178:=mq func178 call178
noncomputable def fn179:=mF 9 19 f179
theorem qf179:QF 179 fn179:=mq func179 call179
noncomputable def fn180:=mF 15 4597 f180
theorem qf180:QF 180 fn180:=mq func180 call180
noncomputable def fn181:=mF 7 51 f181
theorem qf181:QF 181 fn181:=mq func181 call181
noncomputable def fn182:=mF 16 71 f182
theorem qf182:QF 182 fn182:=mq func182 call182
noncomputable def fn183:=mF 71 563087392506491 f183
theorem qf183:QF 183 fn183:=mq func183 call183
noncomputable def fn184:=mF 72 332082508740568391991 f184
theorem qf184:QF 184 fn184:=mq func184 call184
noncomputable def fn185:=mF 5 5 f185
theorem qf185:QF 185 fn185:=mq func185 call185
noncomputable def fn186:=mF 28 61 f186
theorem qf186:QF 186 fn186:=mq func186 call186
noncomputable def fn187:=mF 6 5 f187
theorem qf187:QF 187 fn187:=mq func187 call187
noncomputable def fn188:=mF 19 66483 f188
theorem qf188:QF 188 fn188:=mq func188 call188
noncomputable def fn189:=mF 8 15 f189
theorem qf189:QF 189 fn189:=mq func189 call189
noncomputable def fn190:=mF 38 1074724911 f190
theorem qf190:QF 190 fn190:=mq func190 call190
noncomputable def fn191:=mF 28 957 f191
theorem qf191:QF 191 fn191:=mq func191 call191
noncomputable def fn192:=mF 43 17181970547 f192
theorem qf192:QF 192 fn192:=mq func192 call192
noncomputable def fn193:=mF 45 1981 f193
theorem qf193:QF 193 fn193:=mq func193 call193
noncomputable def fn195:=mF 4 0 f195
theorem qf195:QF 195 fn195:=mq func195 call195
noncomputable def fn196:=mF 76 1073774843 f196
theorem qf196:QF 196 fn196:=mq func196 call196
noncomputable def fn197:=mF 20 0 f197
theorem qf197:QF 197 fn197:=mq func197 call197
noncomputable def fn198:=mF 76 0 f198
theorem qf198:QF 198 fn198:=mq func198 call198
noncomputable def fn199:=mF 3 0 f199
theorem qf199:QF 199 fn199:=mq func199 call199
noncomputable def fn200:=mF 93 0 f200
theorem qf200:QF 200 fn200:=mq func200 call200
noncomputable def fn203:=mF 33 0 f203
theorem qf203:QF 203 fn203:=mq func203 call203
noncomputable def fn204:=mF 5 5 f204
theorem qf204:QF 204 fn204:=mq func204 call204
noncomputable def fn205:=mF 64 2251799813686271 f205
theorem qf205:QF 205 fn205:=mq func205 call205
noncomputable def fn206:=mF 20 63 f206
theorem qf206:QF 206 fn206:=mq func206 call206
noncomputable def fn207:=mF 25 45 f207
theorem qf207:QF 207 fn207:=mq func207 call207
noncomputable def fn208:=mF 29 131455 f208
theorem qf208:QF 208 fn208:=mq func208 call208
noncomputable def fn209:=mF 53 549755814911 f209
theorem qf209:QF 209 fn209:=mq func209 call209
noncomputable def fn210:=mF 18 29 f210
theorem qf210:QF 210 fn210:=mq func210 call210
noncomputable def fn211:=mF 99 1208925838191977637862911 f211
theorem qf211:QF 211 fn211:=mq func211 call211
noncomputable def fn212:=mF 111 39614232391916637634083028893 f212
theorem qf212:QF 212 fn212:=mq func212 call212
noncomputable def fn213:=mF 30 2112885 f213
theorem qf213:QF 213 fn213:=mq func213 call213
noncomputable def fn214:=mF 29 8519797 f214
theorem qf214:QF 214 fn214:=mq func214 call214
noncomputable def fn215:=mF 17 245 f215
theorem qf215:QF 215 fn215:=mq func215 call215
noncomputable def fn216:=mF 41 17180919415 f216
theorem qf216:QF 216 fn216:=mq func216 call216
noncomputable def fn217:=mF 8 21 f217
theorem qf217:QF 217 fn217:=mq func217 call217
noncomputable def fn218:=mF 20 524353 f218
theorem qf218:QF 218 fn218:=mq func218 call218
noncomputable def fn219:=mF 8 0 f219
theorem qf219:QF 219 fn219:=mq func219 call219
noncomputable def fn220:=mF 8 0 f220
theorem qf220:QF 220 fn220:=mq func220 call220
noncomputable def fn221:=mF 8 0 f221
theorem qf221:QF 221 fn221:=mq func221 call221
noncomputable def fn222:=mF 11 7 f222
theorem qf222:QF 222 fn222:=mq func222 call222
noncomputable def fn223:=mF 4 7 f223
theorem qf223:QF 223 fn223:=mq func223 call223
noncomputable def fn224:=mF 11 7 f224
theorem qf224:QF 224 fn224:=mq func224 call224
noncomputable def fn225:=mF 6 7 f225
theorem qf225:QF 225 fn225:=mq func225 call225
noncomputable def fn226:=mF 11 7 f226
theorem qf226:QF 226 fn226:=mq func226 call226
noncomputable def fn227:=mF 6 7 f227
theorem qf227:QF 227 fn227:=mq func227 call227
noncomputable def fn228:=mF 14 71 f228
theorem qf228:QF 228 fn228:=mq func228 call228
noncomputable def fn229:=mF 6 7 f229
theorem qf229:QF 229 fn229:=mq func229 call229
noncomputable def fn230:=mF 5 7 f230
theorem qf230:QF 230 fn230:=mq func230 call230
noncomputable def fn231:=mF 6 7 f231
theorem qf231:QF 231 fn231:=mq func231 call231
noncomputable def fn232:=mF 7 7 f232
theorem qf232:QF 232 fn232:=mq func232 call232
noncomputable def fn233:=mF 12 279 f233
theorem qf233:QF 233 fn233:=mq func233 call233
noncomputable def fn234:=mF 5 7 f234
theorem qf234:QF 234 fn234:=mq func234 call234
noncomputable def fn235:=mF 5 7 f235
theorem qf235:QF 235 fn235:=mq func235 call235
noncomputable def fn236:=mF 6 7 f236
theorem qf236:QF 236 fn236:=mq func236 call236
noncomputable def fn237:=mF 7 7 f237
theorem qf237:QF 237 fn237:=mq func237 call237
noncomputable def fn238:=mF 5 7 f238
theorem qf238:QF 238 fn238:=mq func238 call238
noncomputable def fn239:=mF 5 7 f239
theorem qf239:QF 239 fn239:=mq func239 call239
noncomputable def fn240:=mF 11 7 f240
theorem qf240:QF 240 fn240:=mq func240 call240
noncomputable def fn241:=mF 17 5 f241
theorem qf241:QF 241 fn241:=mq func241 call241
noncomputable def fn242:=mF 25 2097283 f242
theorem qf242:QF 242 fn242:=mq func242 call242
noncomputable def fn244:=mF 34 16810611 f244
theorem qf244:QF 244 fn244:=mq func244 call244
noncomputable def fn245:=mF 8 19 f245
theorem qf245:QF 245 fn245:=mq func245 call245
noncomputable def fn246:=mF 143 702342826256273603086707106465568295829491 f246
theorem qf246:QF 246 fn246:=mq func246 call246
noncomputable def fn247:=mF 8 19 f247
theorem qf247:QF 247 fn247:=mq func247 call247
noncomputable def fn251:=mF 19 66483 f251
theorem qf251:QF 251 fn251:=mq func251 call251
noncomputable def fn252:=mF 18 131613 f252
theorem qf252:QF 252 fn252:=mq func252 call252
noncomputable def fn253:=mF 69 148909067430068343 f253
theorem qf253:QF 253 fn253:=mq func253 call253
noncomputable def fn254:=mF 13 279 f254
theorem qf254:QF 254 fn254:=mq func254 call254
noncomputable def fn255:=mF 5 5 f255
theorem qf255:QF 255 fn255:=mq func255 call255
noncomputable def fn256:=mF 18 4157 f256
theorem qf256:QF 256 fn256:=mq func256 call256
noncomputable def fn257:=mF 39 34368127263 f257
theorem qf257:QF 257 fn257:=mq func257 call257
noncomputable def fn258:=mF 25 8765 f258
theorem qf258:QF 258 fn258:=mq func258 call258
noncomputable def fn259:=mF 125 10404955393597153145976807980556275 f259
theorem qf259:QF 259 fn259:=mq func259 call259
noncomputable def fn260:=mF 17 8211 f260
theorem qf260:QF 260 fn260:=mq func260 call260
noncomputable def fn261:=mF 23 65555 f261
theorem qf261:QF 261 fn261:=mq func261 call261
noncomputable def fn262:=mF 21 66109 f262
theorem qf262:QF 262 fn262:=mq func262 call262
noncomputable def fn263:=mF 16 4243 f263
theorem qf263:QF 263 fn263:=mq func263 call263
noncomputable def fn264:=mF 22 32915 f264
theorem qf264:QF 264 fn264:=mq func264 call264
noncomputable def fn267:=mF 19 0 f267
theorem qf267:QF 267 fn267:=mq func267 call267
noncomputable def fn268:=mF 29 0 f268
theorem qf268:QF 268 fn268:=mq func268 call268
noncomputable def fn269:=mF 45 0 f269
theorem qf269:QF 269 fn269:=mq func269 call269
noncomputable def fn270:=mF 6 0 f270
theorem qf270:QF 270 fn270:=mq func270 call270
noncomputable def fn271:=mF 65 0 f271
theorem qf271:QF 271 fn271:=mq func271 call271
noncomputable def fn272:=mF 2 1 f272
theorem qf272:QF 272 fn272:=mq func272 call272
noncomputable def fn273:=mF 9 15 f273
theorem qf273:QF 273 fn273:=mq func273 call273
noncomputable def fn274:=mF 19 59 f274
theorem qf274:QF 274 fn274:=mq func274 call274
noncomputable def fn275:=mF 37 1049551 f275
theorem qf275:QF 275 fn275:=mq func275 call275
noncomputable def fn276:=mF 8 15 f276
theorem qf276:QF 276 fn276:=mq func276 call276
noncomputable def fn277:=mF 19 51 f277
theorem qf277:QF 277 fn277:=mq func277 call277
noncomputable def fn278:=mF 33 138537935 f278
theorem qf278:QF 278 fn278:=mq func278 call278
noncomputable def fn279:=mF 19 59 f279
theorem qf279:QF 279 fn279:=mq func279 call279
noncomputable def fn280:=mF 11 71 f280
theorem qf280:QF 280 fn280:=mq func280 call280
noncomputable def fn282:=mF 7 15 f282
theorem qf282:QF 282 fn282:=mq func282 call282
noncomputable def fn283:=mF 13 279 f283
theorem qf283:QF 283 fn283:=mq func283 call283
noncomputable def fn284:=mF 30 19 f284
theorem qf284:QF 284 fn284:=mq func284 call284
noncomputable def fn285:=mF 10 85 f285
theorem qf285:QF 285 fn285:=mq func285 call285
noncomputable def fn288:=mF 8 19 f288
theorem qf288:QF 288 fn288:=mq func288 call288
noncomputable def fn290:=mF 6 5 f290
theorem qf290:QF 290 fn290:=mq func290 call290
noncomputable def fn292:=mF 21 531911 f292
theorem qf292:QF 292 fn292:=mq func292 call292
noncomputable def fn297:=mF 77 73861163094217066365 f297
theorem qf297:QF 297 fn297:=mq func297 call297
noncomputable def fn299:=mF 25 8243 f299
theorem qf299:QF 299 fn299:=mq func299 call299
noncomputable def fn300:=mF 15 19 f300
theorem qf300:QF 300 fn300:=mq func300 call300
noncomputable def fn301:=mF 30 1011 f301
theorem qf301:QF 301 fn301:=mq func301 call301
noncomputable def fn302:=mF 8 19 f302
theorem qf302:QF 302 fn302:=mq func302 call302
noncomputable def fn303:=mF 8 5 f303
theorem qf303:QF 303 fn303:=mq func303 call303
noncomputable def fn304:=mF 10 19 f304
theorem qf304:QF 304 fn304:=mq func304 call304
noncomputable def fn307:=mF 36 504373101 f307
theorem qf307:QF 307 fn307:=mq func307 call307
noncomputable def fn332:=mF 21 16389 f332
theorem qf332:QF 332 fn332:=mq func332 call332
noncomputable def fn333:=mF 17 115 f333
theorem qf333:QF 333 fn333:=mq func333 call333
noncomputable def fn334:=mF 51 16371 f334
theorem qf334:QF 334 fn334:=mq func334 call334
noncomputable def fn335:=mF 18 19 f335
theorem qf335:QF 335 fn335:=mq func335 call335
noncomputable def fn338:=mF 27 65619 f338
theorem qf338:QF 338 fn338:=mq func338 call338
abbrev tI:=True.intro
noncomputable def ft:Tr FnI:=(.node (.node (.node (.node (.node (.node (.node (.node .nil 19 fn19 .nil) 22 fn22 .nil) 23 fn23 (.node (.node .nil 24 fn24 .nil) 29 fn29 .nil)) 30 fn30 (.node (.node (.node .nil 32 fn32 .nil) 34 fn34 .nil) 36 fn36 (.node (.node .nil 37 fn37 .nil) 41 fn41 .nil))) 42 fn42 (.node (.node (.node (.node .nil 43 fn43 .nil) 45 fn45 .nil) 48 fn48 (.node (.node .nil 50 fn50 .nil) 51 fn51 .nil)) 55 fn55 (.node (.node (.node .nil 59 fn59 .nil) 62 fn62 .nil) 67 fn67 (.node .nil 76 fn76 .nil)))) 78 fn78 (.node (.node (.node (.node (.node .nil 81 fn81 .nil) 86 fn86 .nil) 87 fn87 (.node (.node .nil 89 fn89 .nil) 90 fn90 .nil)) 91 fn91 (.node (.node (.node .nil 92 fn92 .nil) 97 fn97 .nil) 98 fn98 (.node (.node .nil 99 fn99 .nil) 100 fn100 .nil))) 101 fn101 (.node (.node (.node (.node .nil 102 fn102 .nil) 103 fn103 .nil) 104 fn104 (.node (.node .nil 105 fn105 .nil) 106 fn106 .nil)) 107 fn107 (.node (.node (.node .nil 108 fn108 .nil) 111 fn111 .nil) 112 fn112 (.node .nil 113 fn113 .nil))))) 115 fn115 (.node (.node (.node (.node (.node (.node .nil 116 fn116 .nil) 117 fn117 .nil) 120 fn120 (.node (.node .nil 121 fn121 .nil) 123 fn123 .nil)) 124 fn124 (.node (.node (.node .nil 127 fn127 .nil) 128 fn128 .nil) 129 fn129 (.node (.node .nil 131 fn131 .nil) 136 fn136 .nil))) 137 fn137 (.node (.node (.node (.node .nil 139 fn139 .nil) 141 fn141 .nil) 142 fn142 (.node (.node .nil 151 fn151 .nil) 152 fn152 .nil)) 153 fn153 (.node (.node (.node .nil 154 fn154 .nil) 155 fn155 .nil) 156 fn156 (.node .nil 157 fn157 .nil)))) 158 fn158 (.node (.node (.node (.node (.node .nil 160 fn160 .nil) 161 fn161 .nil) 162 fn162 (.node (.node .nil 163 fn163 .nil) 164 fn164 .nil)) 165 fn165 (.node (.node (.node .nil 166 fn166 .nil) 169 fn169 .nil) 170 fn170 (.node .nil 171 fn171 .nil))) 173 fn173 (.node (.node (.node (.node .nil 174 fn174 .nil) 179 fn179 .nil) 180 fn180 (.node (.node .nil 181 fn181 .nil) 182 fn182 .nil)) 183 fn183 (.node (.node (.node .nil 184 fn184 .nil) 185 fn185 .nil) 186 fn186 (.node .nil 187 fn187 .nil)))))) 188 fn188 (.node (.node (.node (.node (.node (.node (.node .nil 189 fn189 .nil) 190 fn190 .nil) 191 fn191 (.node (.node .nil 192 fn192 .nil) 193 fn193 .nil)) 196 fn196 (.node (.node (.node .nil 204 fn204 .nil) 205 fn205 .nil) 206 fn206 (.node (.node .nil 207 fn207 .nil) 208 fn208 .nil))) 209 fn209 (.node (.node (.node (.node .nil 210 fn210 .nil) 211 fn211 .nil) 212 fn212 (.node (.node .nil 213 fn213 .nil) 214 fn214 .nil)) 215 fn215 (.node (.node (.node .nil 216 fn216 .nil) 217 fn217 .nil) 218 fn218 (.node .nil 222 fn222 .nil)))) 223 fn223 (.node (.node (.node (.node (.node .nil 224 fn224 .nil) 225 fn225 .nil) 226 fn226 (.node (.node .nil 227 fn227 .nil) 228 fn228 .nil)) 229 fn229 (.node (.node (.node .nil 230 fn230 .nil) 231 fn231 .nil) 232 fn232 (.node .nil 233 fn233 .nil))) 234 fn234 (.node (.node (.node (.node .nil 235 fn235 .nil) 236 fn236 .nil) 237 fn237 (.node (.node .nil 238 fn238 .nil) 239 fn239 .nil)) 240 fn240 (.node (.node (.node .nil 241 fn241 .nil) 242 fn242 .nil) 244 fn244 (.node .nil 245 fn245 .nil))))) 246 fn246 (.node (.node (.node (.node (.node (.node .nil 247 fn247 .nil) 251 fn251 .nil) 252 fn252 (.node (.node .nil 253 fn253 .nil) 254 fn254 .nil)) 255 fn255 (.node (.node (.node .nil 256 fn256 .nil) 257 fn257 .nil) 258 fn258 (.node (.node .nil 259 fn259 .nil) 260 fn260 .nil))) 261 fn261 (.node (.node (.node (.node .nil 262 fn262 .nil) 263 fn263 .nil) 264 fn264 (.node (.node .nil 272 fn272 .nil) 273 fn273 .nil)) 274 fn274 (.node (.node (.node .nil 275 fn275 .nil) 276 fn276 .nil) 277 fn277 (.node .nil 278 fn278 .nil)))) 279 fn279 (.node (.node (.node (.node (.node .nil 280 fn280 .nil) 282 fn282 .nil) 283 fn283 (.node (.node .nil 284 fn284 .nil) 285 fn285 .nil)) 288 fn288 (.node (.node (.node .nil 290 fn290 .nil) 292 fn292 .nil) 297 fn297 (.node .nil 299 fn299 .nil))) 300 fn300 (.node (.node (.node (.node .nil 301 fn301 .nil) 302 fn302 .nil) 303 fn303 (.node (.node .nil 304 fn304 .nil) 307 fn307 .nil)) 332 fn332 (.node (.node (.node .nil 333 fn333 .nil) 334 fn334 .nil) 335 fn335 (.node .nil 338 fn338 .nil)))))))
theorem ft_all:AllT QF ft:=⟨⟨⟨⟨⟨⟨⟨⟨tI,qf19,tI⟩,qf22,tI⟩,qf23,⟨⟨tI,qf24,tI⟩,qf29,tI⟩⟩,qf30,⟨⟨⟨tI,qf32,tI⟩,qf34,tI⟩,qf36,⟨⟨tI,qf37,tI⟩,qf41,tI⟩⟩⟩,qf42,⟨⟨⟨⟨tI,qf43,tI⟩,qf45,tI⟩,qf48,⟨⟨tI,qf50,tI⟩,qf51,tI⟩⟩,qf55,⟨⟨⟨tI,qf59,tI⟩,qf62,tI⟩,qf67,⟨tI,qf76,tI⟩⟩⟩⟩,qf78,⟨⟨⟨⟨⟨tI,qf81,tI⟩,qf86,tI⟩,qf87,⟨⟨tI,qf89,tI⟩,qf90,tI⟩⟩,qf91,⟨⟨⟨tI,qf92,tI⟩,qf97,tI⟩,qf98,⟨⟨tI,qf99,tI⟩,qf100,tI⟩⟩⟩,qf101,⟨⟨⟨⟨tI,qf102,tI⟩,qf103,tI⟩,qf104,⟨⟨tI,qf105,tI⟩,qf106,tI⟩⟩,qf107,⟨⟨⟨tI,qf108,tI⟩,qf111,tI⟩,qf112,⟨tI,qf113,tI⟩⟩⟩⟩⟩,qf115,⟨⟨⟨⟨⟨⟨tI,qf116,tI⟩,qf117,tI⟩,qf120,⟨⟨tI,qf121,tI⟩,qf123,tI⟩⟩,qf124,⟨⟨⟨tI,qf127,tI⟩,qf128,tI⟩,qf129,⟨⟨tI,qf131,tI⟩,qf136,tI⟩⟩⟩,qf137,⟨⟨⟨⟨tI,qf139,tI⟩,qf141,tI⟩,qf142,⟨⟨tI,qf151,tI⟩,qf152,tI⟩⟩,qf153,⟨⟨⟨tI,qf154,tI⟩,qf155,tI⟩,qf156,⟨tI,qf157,tI⟩⟩⟩⟩,qf158,⟨⟨⟨⟨⟨tI,qf160,tI⟩,qf161,tI⟩,qf162,⟨⟨tI,qf163,tI⟩,qf164,tI⟩⟩,qf165,⟨⟨⟨tI,qf166,tI⟩,qf169,tI⟩,qf170,⟨tI,qf171,tI⟩⟩⟩,qf173,⟨⟨⟨⟨tI,qf174,tI⟩,qf179,tI⟩,qf180,⟨⟨tI,qf181,tI⟩,qf182,tI⟩⟩,qf183,⟨⟨⟨tI,qf184,tI⟩,qf185,tI⟩,qf186,⟨tI,qf187,tI⟩⟩⟩⟩⟩⟩,qf188,⟨⟨⟨⟨⟨⟨⟨tI,qf189,tI⟩,qf190,tI⟩,qf191,⟨⟨tI,qf192,tI⟩,qf193,tI⟩⟩,qf196,⟨⟨⟨tI,qf204,tI⟩,qf205,tI⟩,qf206,⟨⟨tI,qf207,tI⟩,qf208,tI⟩⟩⟩,qf209,⟨⟨⟨⟨tI,qf210,tI⟩,qf211,tI⟩,qf212,⟨⟨tI,qf213,tI⟩,qf214,tI⟩⟩,qf215,⟨⟨⟨tI,qf216,tI⟩,qf217,tI⟩,qf218,⟨tI,qf222,tI⟩⟩⟩⟩,qf223,⟨⟨⟨⟨⟨tI,qf224,tI⟩,qf225,tI⟩,qf226,⟨⟨tI,qf227,tI⟩,qf228,tI⟩⟩,qf229,⟨⟨⟨tI,qf230,tI⟩,qf231,tI⟩,qf232,⟨tI,qf233,tI⟩⟩⟩,qf234,⟨⟨⟨⟨tI,qf235,tI⟩,qf236,tI⟩,qf237,⟨⟨tI,qf238,tI⟩,qf239,tI⟩⟩,qf240,⟨⟨⟨tI,qf241,tI⟩,qf242,tI⟩,qf244,⟨tI,qf245,tI⟩⟩⟩⟩⟩,qf246,⟨⟨⟨⟨⟨⟨tI,qf247,tI⟩,qf251,tI⟩,qf252,⟨⟨tI,qf253,tI⟩,qf254,tI⟩⟩,qf255,⟨⟨⟨tI,qf256,tI⟩,qf257,tI⟩,qf258,⟨⟨tI,qf259,tI⟩,qf260,tI⟩⟩⟩,qf261,⟨⟨⟨⟨tI,qf262,tI⟩,qf263,tI⟩,qf264,⟨⟨tI,qf272,tI⟩,qf273,tI⟩⟩,qf274,⟨⟨⟨tI,qf275,tI⟩,qf276,tI⟩,qf277,⟨tI,qf278,tI⟩⟩⟩⟩,qf279,⟨⟨⟨⟨⟨tI,qf280,tI⟩,qf282,tI⟩,qf283,⟨⟨tI,qf284,tI⟩,qf285,tI⟩⟩,qf288,⟨⟨⟨tI,qf290,tI⟩,qf292,tI⟩,qf297,⟨tI,qf299,tI⟩⟩⟩,qf300,⟨⟨⟨⟨tI,qf301,tI⟩,qf302,tI⟩,qf303,⟨⟨tI,qf304,tI⟩,qf307,tI⟩⟩,qf332,⟨⟨⟨tI,qf333,tI⟩,qf334,tI⟩,qf335,⟨tI,qf338,tI⟩⟩⟩⟩⟩⟩⟩
theorem ft_ok:FtOk Tryz.prog ft:=fun p hp=>AllT.mem ft_all p hp
noncomputable def ty0:=mT t0 t0 false
theorem qt0:QT 0 ty0:=mt underlying0 type0
noncomputable def ty1:=mT t1 t1 false
theorem qt1:QT 1 ty1:=mt underlying1 type1
noncomputable def ty2:=mT t2 t2 false
theorem qt2:QT 2 ty2:=mt underlying2 type2
noncomputable def ty3:=mT t3 t3 true
theorem qt3:QT 3 ty3:=⟨underlying3,jx type3,fun _=>by kernel_rfl⟩
noncomputable def ty4:=mT t4 t4 true
theorem qt4:QT 4 ty4:=⟨underlying4,jx type4,fun _=>by kernel_rfl⟩
noncomputable def ty5:=mT t5 t5 true
theorem qt5:QT 5 ty5:=⟨underlying5,jx type5,fun _=>by kernel_rfl⟩
noncomputable def ty6:=mT t6 t5 false
theorem qt6:QT 6 ty6:=mt underlying6 type6
noncomputable def ty7:=mT t7 t7 false
theorem qt7:QT 7 ty7:=mt underlying7 type7
noncomputable def ty8:=mT t8 t7 false
theorem qt8:QT 8 ty8:=mt underlying8 type8
noncomputable def ty9:=mT t9 t9 true
theorem qt9:QT 9 ty9:=⟨underlying9,jx type9,fun _=>by kernel_rfl⟩
noncomputable def ty10:=mT t10 t9 false
theorem qt10:QT 10 ty10:=mt underlying10 type10
noncomputable def ty12:=mT t12 t12 false
theorem qt12:QT 12 ty12:=mt underlying12 type12
noncomputable def ty16:=mT t16 t16 false
theorem qt16:QT 16 ty16:=mt underlying16 type16
noncomputable def ty17:=mT t17 t17 false
theorem qt17:QT 17 ty17:=mt underlying17 type17
noncomputable def ty20:=mT t20 t20 false
theorem qt20:QT 20 ty20:=mt underlying20 type20
noncomputable def ty21:=mT t21 t21 true
theorem qt21:QT 21 ty21:=⟨underlying21,jx type21,fun _=>by kernel_rfl⟩
noncomputable def ty22:=mT t22 t22 true
theorem qt22:QT 22 ty22:=⟨underlying22,jx type22,fun _=>by kernel_rfl⟩
noncomputable def ty23:=mT t23 t23 false
theorem qt23:QT 23 ty23:=mt underlying23 type23
noncomputable def ty24:=mT t24 t23 false
theorem qt24:QT 24 ty24:=mt underlying24 type24
noncomputable def ty25:=mT t25 t25 true
theorem qt25:QT 25 ty25:=⟨underlying25,jx type25,fun _=>by kernel_rfl⟩
noncomputable def ty26:=mT t26 t23 false
theorem qt26:QT 26 ty26:=mt underlying26 type26
noncomputable def ty27:=mT t27 t27 false
theorem qt27:QT 27 ty27:=mt underlying27 type27
noncomputable def ty32:=mT t32 t32 false
theorem qt32:QT 32 ty32:=mt underlying32 type32
noncomputable def ty34:=mT t34 t3 true
theorem qt34:QT 34 ty34:=⟨underlying34,jx type34,fun _=>by kernel_rfl⟩
noncomputable def ty37:=mT t37 t37 false
theorem qt37:QT 37 ty37:=mt underlying37 type37
noncomputable def ty40:=mT t40 t40 false
theorem qt40:QT 40 ty40:=mt underlying40 type40
noncomputable def ty44:=mT t44 t44 false
theorem qt44:QT 44 ty44:=mt underlying44 type44
noncomputable def ty45:=mT t45 t45 false
theorem qt45:QT 45 ty45:=mt underlying45 type45
noncomputable def ty46:=mT t46 t45 false
theorem qt46:QT 46 ty46:=mt underlying46 type46
noncomputable def ty47:=mT t47 t47 false
theorem qt47:QT 47 ty47:=mt underlying47 type47
noncomputable def ty48:=mT t48 t48 false
theorem qt48:QT 48 ty48:=mt underlying48 type48
noncomputable def ty49:=mT t49 t45 true
theorem qt49:QT 49 ty49:=⟨underlying49,jx type49,fun _=>by kernel_rfl⟩
noncomputable def ty52:=mT t52 t52 false
theorem qt52:QT 52 ty52:=mt underlying52 type52
noncomputable def ty53:=mT t53 t52 false
theorem qt53:QT 53 ty53:=mt underlying53 type53
noncomputable def ty54:=mT t54 t54 false
theorem qt54:QT 54 ty54:=mt underlying54 type54
noncomputable def ty56:=mT t56 t52 false
theorem qt56:QT 56 ty56:=mt underlying56 type56
noncomputable def ty59:=mT t59 t59 true
theorem qt59:QT 59 ty59:=⟨underlying59,jx type59,fun _=>by kernel_rfl⟩
noncomputable def ty60:=mT t60 t60 false
theorem qt60:QT 60 ty60:=mt underlying60 type60
noncomputable def ty63:=mT t63 t63 false
theorem qt63:QT 63 ty63:=mt underlying63 type63
noncomputable def ty64:=mT t64 t64 false
theorem qt64:QT 64 ty64:=mt underlying64 type64
noncomputable def ty65:=mT t65 t65 false
theorem qt65:QT 65 ty65:=mt underlying65 type65
noncomputable def ty69:=mT t69 t69 false
theorem qt69:QT 69 ty69:=mt underlying69 type69
noncomputable def ty72:=mT t72 t72 false
theorem qt72:QT 72 ty72:=mt underlying72 type72
noncomputable def ty73:=mT t73 t73 true
theorem qt73:QT 73 ty73:=⟨underlying73,jx type73,fun _=>by kernel_rfl⟩
noncomputable def ty74:=mT t74 t74 false
theorem qt74:QT 74 ty74:=mt underlying74 type74
noncomputable def ty80:=mT t80 t80 false
theorem qt80:QT 80 ty80:=mt underlying80 type80
noncomputable def ty81:=mT t81 t80 true
theorem qt81:QT 81 ty81:=⟨underlying81,jx type81,fun _=>by kernel_rfl⟩
noncomputable def ty82:=mT t82 t82 false
theorem qt82:QT 82 ty82:=mt underlying82 type82
noncomputable def ty83:=mT t83 t83 false
theorem qt83:QT 83 ty83:=mt underlying83 type83
noncomputable def ty86:=mT t86 t86 true
theorem qt86:QT 86 ty86:=⟨underlying86,jx type86,fun _=>by kernel_rfl⟩
noncomputable def ty87:=mT t87 t87 false
theorem qt87:QT 87 ty87:=mt underlying87 type87
noncomputable def ty88:=mT t88 t88 false
theorem qt88:QT 88 ty88:=mt underlying88 type88
noncomputable def ty89:=mT t89 t80 true
theorem qt89:QT 89 ty89:=⟨underlying89,jx type89,fun _=>by kernel_rfl⟩
noncomputable def ty90:=mT t90 t90 false
theorem qt90:QT 90 ty90:=mt underlying90 type90
noncomputable def ty97:=mT t97 t97 false
theorem qt97:QT 97 ty97:=mt underlying97 type97
noncomputable def ty101:=mT t101 t101 false
theorem qt101:QT 101 ty101:=mt underlying101 type101
noncomputable def ty105:=mT t105 t105 false
theorem qt105:QT 105 ty105:=mt underlying105 type105
noncomputable def ty111:=mT t111 t111 false
theorem qt111:QT 111 ty111:=mt underlying111 type111
noncomputable def ty112:=mT t112 t112 false
theorem qt112:QT 112 ty112:=mt underlying112 type112
noncomputable def ty114:=mT t114 t114 false
theorem qt114:QT 114 ty114:=mt underlying114 type114
noncomputable def ty115:=mT t115 t114 true
theorem qt115:QT 115 ty115:=⟨underlying115,jx type115,fun _=>by kernel_rfl⟩
noncomputable def ty116:=mT t116 t114 false
theorem qt116:QT 116 ty116:=mt underlying116 type116
noncomputable def ty118:=mT t118 t118 false
theorem qt118:QT 118 ty118:=mt underlying118 type118
noncomputable def ty119:=mT t119 t118 false
theorem qt119:QT 119 ty119:=mt underlying119 type119
noncomputable def ty121:=mT t121 t121 false
theorem qt121:QT 121 ty121:=mt underlying121 type121
noncomputable def ty123:=mT t123 t123 false
theorem qt123:QT 123 ty123:=mt underlying123 type123
noncomputable def ty125:=mT t125 t125 false
theorem qt125:QT 125 ty125:=mt underlying125 type125
noncomputable def ty131:=mT t131 t131 true
theorem qt131:QT 131 ty131:=⟨underlying131,jx type131,fun _=>by kernel_rfl⟩
noncomputable def ty134:=mT t134 t134 false
theorem qt134:QT 134 ty134:=mt underlying134 type134
noncomputable def ty135:=mT t135 t135 false
theorem qt135:QT 135 ty135:=mt underlying135 type135
noncomputable def ty136:=mT t136 t135 false
theorem qt136:QT 136 ty136:=mt underlying136 type136
noncomputable def ty137:=mT t137 t137 false
theorem qt137:QT 137 ty137:=mt underlying137 type137
noncomputable def ty139:=mT t139 t139 false
theorem qt139:QT 139 ty139:=mt underlying139 type139
noncomputable def ty145:=mT t145 t145 false
theorem qt145:QT 145 ty145:=mt underlying145 type145
noncomputable def ty150:=mT t150 t150 false
theorem qt150:QT 150 ty150:=mt underlying150 type150
noncomputable def ty152:=mT t152 t152 false
theorem qt152:QT 152 ty152:=mt underlying152 type152
noncomputable def ty153:=mT t153 t153 false
theorem qt153:QT 153 ty153:=mt underlying153 type153
noncomputable def ty154:=mT t154 t153 false
theorem qt154:QT 154 ty154:=mt underlying154 type154
noncomputable def ty155:=mT t155 t155 false
theorem qt155:QT 155 ty155:=mt underlying155 type155
noncomputable def ty157:=mT t157 t157 false
theorem qt157:QT 157 ty157:=mt underlying157 type157
noncomputable def ty163:=mT t163 t163 false
theorem qt163:QT 163 ty163:=mt underlying163 type163
noncomputable def ty164:=mT t164 t163 false
theorem qt164:QT 164 ty164:=mt underlying164 type164
noncomputable def ty165:=mT t165 t165 false
theorem qt165:QT 165 ty165:=mt underlying165 type165
noncomputable def ty167:=mT t167 t167 false
theorem qt167:QT 167 ty167:=mt underlying167 type167
noncomputable def ty173:=mT t173 t173 false
theorem qt173:QT 173 ty173:=mt underlying173 type173
noncomputable def ty174:=mT t174 t173 false
theorem qt174:QT 174 ty174:=mt underlying174 type174
noncomputable def ty175:=mT t175 t173 true
theorem qt175:QT 175 ty175:=⟨underlying175,jx type175,fun _=>by kernel_rfl⟩
noncomputable def ty176:=mT t176 t163 true
theorem qt176:QT 176 ty176:=⟨underlying176,jx type176,fun _=>by kernel_rfl⟩
noncomputable def ty178:=mT t178 t178 false
theorem qt178:QT 178 ty178:=mt underlying178 type178
noncomputable def ty179:=mT t179 t179 false
theorem qt179:QT 179 ty179:=mt underlying179 type179
noncomputable def ty182:=mT t182 t182 false
theorem qt182:QT 182 ty182:=mt underlying182 type182
noncomputable def ty187:=mT t187 t187 false
theorem qt187:QT 187 ty187:=mt underlying187 type187
noncomputable def ty191:=mT t191 t191 false
theorem qt191:QT 191 ty191:=mt underlying191 type191
noncomputable def ty195:=mT t195 t195 false
theorem qt195:QT 195 ty195:=mt underlying195 type195
noncomputable def ty200:=mT t200 t200 false
theorem qt200:QT 200 ty200:=mt underlying200 type200
noncomputable def ty206:=mT t206 t206 false
theorem qt206:QT 206 ty206:=mt underlying206 type206
noncomputable def ty210:=mT t210 t210 false
theorem qt210:QT 210 ty210:=mt underlying210 type210
noncomputable def ty212:=mT t212 t212 false
theorem qt212:QT 212 ty212:=mt underlying212 type212
noncomputable def ty213:=mT t213 t213 false
theorem qt213:QT 213 ty213:=mt underlying213 type213
noncomputable def ty216:=mT t216 t216 false
theorem qt216:QT 216 ty216:=mt underlying216 type216
noncomputable def ty217:=mT t217 t216 false
theorem qt217:QT 217 ty217:=mt underlying217 type217
noncomputable def ty219:=mT t219 t219 false
theorem qt219:QT 219 ty219:=mt underlying219 type219
noncomputable def ty220:=mT t220 t219 false
theorem qt220:QT 220 ty220:=mt underlying220 type220
noncomputable def ty221:=mT t221 t221 false
theorem qt221:QT 221 ty221:=mt underlying221 type221
noncomputable def ty224:=mT t224 t224 false
theorem qt224:QT 224 ty224:=mt underlying224 type224
noncomputable def ty234:=mT t234 t234 false
theorem qt234:QT 234 ty234:=mt underlying234 type234
noncomputable def ty236:=mT t236 t236 false
theorem qt236:QT 236 ty236:=mt underlying236 type236
noncomputable def ty240:=mT t240 t240 false
theorem qt240:QT 240 ty240:=mt underlying240 type240
noncomputable def ty241:=mT t241 t240 false
theorem qt241:QT 241 ty241:=mt underlying241 type241
noncomputable def ty243:=mT t243 t243 true
theorem qt243:QT 243 ty243:=⟨underlying243,jx type243,fun _=>by kernel_rfl⟩
noncomputable def ty244:=mT t244 t244 false
theorem qt244:QT 244 ty244:=mt underlying244 type244
noncomputable def ty246:=mT t246 t246 false
theorem qt246:QT 246 ty246:=mt underlying246 type246
noncomputable def ty247:=mT t247 t246 false
theorem qt247:QT 247 ty247:=mt underlying247 type247
noncomputable def ty252:=mT t252 t252 false
theorem qt252:QT 252 ty252:=mt underlying252 type252
noncomputable def ty253:=mT t253 t253 false
theorem qt253:QT 253 ty253:=mt underlying253 type253
noncomputable def ty254:=mT t254 t253 false
theorem qt254:QT 254 ty254:=mt underlying254 type254
noncomputable def ty255:=mT t255 t255 false
theorem qt255:QT 255 ty255:=mt underlying255 type255
noncomputable def ty256:=mT t256 t256 false
theorem qt256:QT 256 ty256:=mt underlying256 type256
noncomputable def ty258:=mT t258 t258 false
theorem qt258:QT 258 ty258:=mt underlying258 type258
noncomputable def ty259:=mT t259 t259 false
theorem qt259:QT 259 ty259:=mt underlying259 type259
noncomputable def ty260:=mT t260 t259 false
theorem qt260:QT 260 ty260:=mt underlying260 type260
noncomputable def ty261:=mT t261 t261 false
theorem qt261:QT 261 ty261:=mt underlying261 type261
noncomputable def ty262:=mT t262 t262 false
theorem qt262:QT 262 ty262:=mt underlying262 type262
noncomputable def ty265:=mT t265 t265 false
theorem qt265:QT 265 ty265:=mt underlying265 type265
noncomputable def ty266:=mT t266 t266 false
theorem qt266:QT 266 ty266:=mt underlying266 type266
noncomputable def ty267:=mT t267 t266 false
theorem qt267:QT 267 ty267:=mt underlying267 type267
noncomputable def ty269:=mT t269 t269 true
theorem qt269:QT 269 ty269:=⟨underlying269,jx type269,fun _=>by kernel_rfl⟩
noncomputable def ty270:=mT t270 t270 false
theorem qt270:QT 270 ty270:=mt underlying270 type270
noncomputable def ty271:=mT t271 t270 false
theorem qt271:QT 271 ty271:=mt underlying271 type271
noncomputable def ty272:=mT t272 t272 false
theorem qt272:QT 272 ty272:=mt underlying272 type272
noncomputable def ty273:=mT t273 t272 false
theorem qt273:QT 273 ty273:=mt underlying273 type273
noncomputable def ty274:=mT t274 t274 false
theorem qt274:QT 274 ty274:=mt underlying274 type274
noncomputable def ty276:=mT t276 t276 false
theorem qt276:QT 276 ty276:=mt underlying276 type276
noncomputable def ty277:=mT t277 t276 false
theorem qt277:QT 277 ty277:=mt underlying277 type277
noncomputable def ty278:=mT t278 t278 false
theorem qt278:QT 278 ty278:=mt underlying278 type278
noncomputable def ty279:=mT t279 t278 false
theorem qt279:QT 279 ty279:=mt underlying279 type279
noncomputable def ty280:=mT t280 t280 false
theorem qt280:QT 280 ty280:=mt underlying280 type280
noncomputable def ty282:=mT t282 t282 false
theorem qt282:QT 282 ty282:=mt underlying282 type282
noncomputable def ty284:=mT t284 t284 false
theorem qt284:QT 284 ty284:=mt underlying284 type284
noncomputable def ty285:=mT t285 t285 false
theorem qt285:QT 285 ty285:=mt underlying285 type285
noncomputable def ty286:=mT t286 t286 false
theorem qt286:QT 286 ty286:=mt underlying286 type286
noncomputable def ty287:=mT t287 t286 false
theorem qt287:QT 287 ty287:=mt underlying287 type287
noncomputable def ty289:=mT t289 t289 false
theorem qt289:QT 289 ty289:=mt underlying289 type289
noncomputable def ty299:=mT t299 t299 false
theorem qt299:QT 299 ty299:=mt underlying299 type299
noncomputable def ty300:=mT t300 t300 false
theorem qt300:QT 300 ty300:=mt underlying300 type300
noncomputable def ty302:=mT t302 t302 false
theorem qt302:QT 302 ty302:=mt underlying302 type302
noncomputable def ty303:=mT t303 t303 false
theorem qt303:QT 303 ty303:=mt underlying303 type303
noncomputable def ty305:=mT t305 t305 false
theorem qt305:QT 305 ty305:=mt underlying305 type305
noncomputable def ty306:=mT t306 t305 false
theorem qt306:QT 306 ty306:=mt underlying306 type306
noncomputable def ty308:=mT t308 t308 false
theorem qt308:QT 308 ty308:=mt underlying308 type308
noncomputable def ty309:=mT t309 t308 true
theorem qt309:QT 309 ty309:=⟨underlying309,jx type309,fun _=>by kernel_rfl⟩
noncomputable def ty310:=mT t310 t310 false
theorem qt310:QT 310 ty310:=mt underlying310 type310
noncomputable def ty312:=mT t312 t312 false
theorem qt312:QT 312 ty312:=mt underlying312 type312
noncomputable def ty314:=mT t314 t314 false
theorem qt314:QT 314 ty314:=mt underlying314 type314
noncomputable def ty316:=mT t316 t9 false
theorem qt316:QT 316 ty316:=mt underlying316 type316
noncomputable def ty319:=mT t319 t319 false
theorem qt319:QT 319 ty319:=mt underlying319 type319
noncomputable def ty321:=mT t321 t321 false
theorem qt321:QT 321 ty321:=mt underlying321 type321
noncomputable def ty322:=mT t322 t321 false
theorem qt322:QT 322 ty322:=mt underlying322 type322
noncomputable def ty333:=mT t333 t333 false
theorem qt333:QT 333 ty333:=mt underlying333 type333
noncomputable def ty348:=mT t348 t348 false
theorem qt348:QT 348 ty348:=mt underlying348 type348
noncomputable def ty349:=mT t349 t348 false
theorem qt349:QT 349 ty349:=mt underlying349 type349
noncomputable def ty353:=mT t353 t353 false
theorem qt353:QT 353 ty353:=mt underlying353 type353
noncomputable def ty354:=mT t354 t353 false
theorem qt354:QT 354 ty354:=mt underlying354 type354
noncomputable def ty355:=mT t355 t355 false
theorem qt355:QT 355 ty355:=mt underlying355 type355
noncomputable def ty358:=mT t358 t358 false
theorem qt358:QT 358 ty358:=mt underlying358 type358
noncomputable def ty359:=mT t359 t359 false
theorem qt359:QT 359 ty359:=mt underlying359 type359
noncomputable def ty367:=mT t367 t367 false
theorem qt367:QT 367 ty367:=mt underlying367 type367
noncomputable def ty371:=mT t371 t371 false
theorem qt371:QT 371 ty371:=mt underlying371 type371
noncomputable def ty378:=mT t378 t378 false
theorem qt378:QT 378 ty378:=mt underlying378 type378
noncomputable def ty387:=mT t387 t387 false
theorem qt387:QT 387 ty387:=mt underlying387 type387
noncomputable def ty394:=mT t394 t394 true
theorem qt394:QT 394 ty394:=⟨underlying394,jx type394,fun _=>by kernel_rfl⟩
noncomputable def ty395:=mT t395 t395 false
theorem qt395:QT 395 ty395:=mt underlying395 type395
noncomputable def ty406:=mT t406 t406 true
theorem qt406:QT 406 ty406:=⟨underlying406,jx type406,fun _=>by kernel_rfl⟩
noncomputable def ty411:=mT t411 t3 false
theorem qt411:QT 411 ty411:=mt underlying411 type411
noncomputable def ty412:=mT t412 t412 false
theorem qt412:QT 412 ty412:=mt underlying412 type412
noncomputable def ty418:=mT t418 t418 false
theorem qt418:QT 418 ty418:=mt underlying418 type418
noncomputable def ty421:=mT t421 t421 false
theorem qt421:QT 421 ty421:=mt underlying421 type421
noncomputable def ty452:=mT t452 t452 false
theorem qt452:QT 452 ty452:=mt underlying452 type452
noncomputable def ty453:=mT t453 t453 false
theorem qt453:QT 453 ty453:=mt underlying453 type453
noncomputable def ty454:=mT t454 t453 false
theorem qt454:QT 454 ty454:=mt underlying454 type454
noncomputable def ty455:=mT t455 t5 false
theorem qt455:QT 455 ty455:=mt underlying455 type455
noncomputable def ty456:=mT t456 t5 false
theorem qt456:QT 456 ty456:=mt underlying456 type456
noncomputable def ty457:=mT t457 t457 false
theorem qt457:QT 457 ty457:=mt underlying457 type457
noncomputable def ty458:=mT t458 t21 false
theorem qt458:QT 458 ty458:=mt underlying458 type458
noncomputable def ty459:=mT t459 t21 false
theorem qt459:QT 459 ty459:=mt underlying459 type459
noncomputable def ty460:=mT t460 t460 false
theorem qt460:QT 460 ty460:=mt underlying460 type460
noncomputable def ty461:=mT t461 t460 false
theorem qt461:QT 461 ty461:=mt underlying461 type461
noncomputable def tt:Tr TI:=(.node (.node (.node .nil 0 ty0 (.node (.node .nil 1 ty1 .nil) 2 ty2 .nil)) 3 ty3 .nil) 4 ty4 (.node (.node (.node .nil 5 ty5 (.node (.node .nil 6 ty6 .nil) 7 ty7 (.node .nil 8 ty8 .nil))) 9 ty9 (.node (.node (.node (.node (.node (.node .nil 10 ty10 .nil) 12 ty12 (.node .nil 16 ty16 (.node .nil 17 ty17 .nil))) 20 ty20 .nil) 21 ty21 .nil) 22 ty22 (.node (.node (.node .nil 23 ty23 .nil) 24 ty24 .nil) 25 ty25 (.node (.node .nil 26 ty26 .nil) 27 ty27 (.node .nil 32 ty32 .nil)))) 34 ty34 (.node (.node (.node .nil 37 ty37 (.node (.node .nil 40 ty40 .nil) 44 ty44 (.node .nil 45 ty45 .nil))) 46 ty46 (.node (.node .nil 47 ty47 (.node .nil 48 ty48 .nil)) 49 ty49 (.node .nil 52 ty52 .nil))) 53 ty53 (.node (.node (.node .nil 54 ty54 .nil) 56 ty56 .nil) 59 ty59 .nil)))) 60 ty60 (.node (.node (.node (.node .nil 63 ty63 (.node (.node (.node .nil 64 ty64 .nil) 65 ty65 .nil) 69 ty69 (.node .nil 72 ty72 .nil))) 73 ty73 (.node .nil 74 ty74 (.node .nil 80 ty80 .nil))) 81 ty81 (.node (.node (.node (.node .nil 82 ty82 .nil) 83 ty83 .nil) 86 ty86 (.node (.node .nil 87 ty87 (.node .nil 88 ty88 .nil)) 89 ty89 .nil)) 90 ty90 (.node (.node (.node (.node .nil 97 ty97 .nil) 101 ty101 (.node .nil 105 ty105 (.node .nil 111 ty111 (.node .nil 112 ty112 (.node .nil 114 ty114 .nil))))) 115 ty115 (.node .nil 116 ty116 (.node .nil 118 ty118 .nil))) 119 ty119 .nil))) 121 ty121 (.node (.node (.node (.node (.node .nil 123 ty123 (.node .nil 125 ty125 .nil)) 131 ty131 (.node .nil 134 ty134 (.node .nil 135 ty135 .nil))) 136 ty136 (.node (.node .nil 137 ty137 (.node .nil 139 ty139 (.node .nil 145 ty145 .nil))) 150 ty150 (.node .nil 152 ty152 (.node .nil 153 ty153 .nil)))) 154 ty154 (.node (.node (.node (.node (.node .nil 155 ty155 (.node .nil 157 ty157 (.node .nil 163 ty163 .nil))) 164 ty164 (.node (.node .nil 165 ty165 .nil) 167 ty167 (.node .nil 173 ty173 .nil))) 174 ty174 (.node .nil 175 ty175 (.node .nil 176 ty176 .nil))) 178 ty178 (.node (.node (.node (.node .nil 179 ty179 .nil) 182 ty182 (.node (.node .nil 187 ty187 .nil) 191 ty191 .nil)) 195 ty195 (.node (.node .nil 200 ty200 .nil) 206 ty206 .nil)) 210 ty210 (.node .nil 212 ty212 (.node (.node .nil 213 ty213 (.node .nil 216 ty216 .nil)) 217 ty217 (.node .nil 219 ty219 .nil))))) 220 ty220 (.node (.node (.node (.node (.node .nil 221 ty221 .nil) 224 ty224 (.node .nil 234 ty234 (.node .nil 236 ty236 (.node .nil 240 ty240 .nil)))) 241 ty241 .nil) 243 ty243 (.node .nil 244 ty244 (.node .nil 246 ty246 .nil))) 247 ty247 (.node (.node (.node .nil 252 ty252 (.node .nil 253 ty253 .nil)) 254 ty254 (.node .nil 255 ty255 .nil)) 256 ty256 (.node (.node (.node .nil 258 ty258 (.node .nil 259 ty259 .nil)) 260 ty260 (.node .nil 261 ty261 .nil)) 262 ty262 (.node .nil 265 ty265 (.node .nil 266 ty266 .nil))))))) 267 ty267 (.node (.node (.node (.node .nil 269 ty269 (.node (.node .nil 270 ty270 .nil) 271 ty271 (.node .nil 272 ty272 .nil))) 273 ty273 (.node (.node (.node .nil 274 ty274 (.node .nil 276 ty276 .nil)) 277 ty277 (.node .nil 278 ty278 .nil)) 279 ty279 (.node (.node .nil 280 ty280 .nil) 282 ty282 (.node (.node .nil 284 ty284 .nil) 285 ty285 (.node .nil 286 ty286 .nil))))) 287 ty287 (.node (.node (.node .nil 289 ty289 .nil) 299 ty299 (.node (.node .nil 300 ty300 .nil) 302 ty302 (.node .nil 303 ty303 (.node (.node .nil 305 ty305 .nil) 306 ty306 (.node .nil 308 ty308 .nil))))) 309 ty309 (.node (.node (.node .nil 310 ty310 .nil) 312 ty312 (.node (.node (.node .nil 314 ty314 .nil) 316 ty316 .nil) 319 ty319 (.node (.node .nil 321 ty321 .nil) 322 ty322 (.node .nil 333 ty333 (.node .nil 348 ty348 .nil))))) 349 ty349 (.node (.node (.node .nil 353 ty353 .nil) 354 ty354 (.node .nil 355 ty355 .nil)) 358 ty358 (.node (.node .nil 359 ty359 .nil) 367 ty367 (.node .nil 371 ty371 .nil)))))) 378 ty378 (.node (.node (.node .nil 387 ty387 .nil) 394 ty394 (.node .nil 395 ty395 .nil)) 406 ty406 (.node (.node .nil 411 ty411 .nil) 412 ty412 (.node (.node .nil 418 ty418 .nil) 421 ty421 (.node (.node (.node .nil 452 ty452 .nil) 453 ty453 (.node .nil 454 ty454 (.node .nil 455 ty455 .nil))) 456 ty456 (.node (.node .nil 457 ty457 (.node .nil 458 ty458 .nil)) 459 ty459 (.node .nil 460 ty460 (.node .nil 461 ty461 .nil))))))))))))
theorem tt_all:AllT QT tt:=⟨⟨⟨tI,qt0,⟨⟨tI,qt1,tI⟩,qt2,tI⟩⟩,qt3,tI⟩,qt4,⟨⟨⟨tI,qt5,⟨⟨tI,qt6,tI⟩,qt7,⟨tI,qt8,tI⟩⟩⟩,qt9,⟨⟨⟨⟨⟨⟨tI,qt10,tI⟩,qt12,⟨tI,qt16,⟨tI,qt17,tI⟩⟩⟩,qt20,tI⟩,qt21,tI⟩,qt22,⟨⟨⟨tI,qt23,tI⟩,qt24,tI⟩,qt25,⟨⟨tI,qt26,tI⟩,qt27,⟨tI,qt32,tI⟩⟩⟩⟩,qt34,⟨⟨⟨tI,qt37,⟨⟨tI,qt40,tI⟩,qt44,⟨tI,qt45,tI⟩⟩⟩,qt46,⟨⟨tI,qt47,⟨tI,qt48,tI⟩⟩,qt49,⟨tI,qt52,tI⟩⟩⟩,qt53,⟨⟨⟨tI,qt54,tI⟩,qt56,tI⟩,qt59,tI⟩⟩⟩⟩,qt60,⟨⟨⟨⟨tI,qt63,⟨⟨⟨tI,qt64,tI⟩,qt65,tI⟩,qt69,⟨tI,qt72,tI⟩⟩⟩,qt73,⟨tI,qt74,⟨tI,qt80,tI⟩⟩⟩,qt81,⟨⟨⟨⟨tI,qt82,tI⟩,qt83,tI⟩,qt86,⟨⟨tI,qt87,⟨tI,qt88,tI⟩⟩,qt89,tI⟩⟩,qt90,⟨⟨⟨⟨tI,qt97,tI⟩,qt101,⟨tI,qt105,⟨tI,qt111,⟨tI,qt112,⟨tI,qt114,tI⟩⟩⟩⟩⟩,qt115,⟨tI,qt116,⟨tI,qt118,tI⟩⟩⟩,qt119,tI⟩⟩⟩,qt121,⟨⟨⟨⟨⟨tI,qt123,⟨tI,qt125,tI⟩⟩,qt131,⟨tI,qt134,⟨tI,qt135,tI⟩⟩⟩,qt136,⟨⟨tI,qt137,⟨tI,qt139,⟨tI,qt145,tI⟩⟩⟩,qt150,⟨tI,qt152,⟨tI,qt153,tI⟩⟩⟩⟩,qt154,⟨⟨⟨⟨⟨tI,qt155,⟨tI,qt157,⟨tI,qt163,tI⟩⟩⟩,qt164,⟨⟨tI,qt165,tI⟩,qt167,⟨tI,qt173,tI⟩⟩⟩,qt174,⟨tI,qt175,⟨tI,qt176,tI⟩⟩⟩,qt178,⟨⟨⟨⟨tI,qt179,tI⟩,qt182,⟨⟨tI,qt187,tI⟩,qt191,tI⟩⟩,qt195,⟨⟨tI,qt200,tI⟩,qt206,tI⟩⟩,qt210,⟨tI,qt212,⟨⟨tI,qt213,⟨tI,qt216,tI⟩⟩,qt217,⟨tI,qt219,tI⟩⟩⟩⟩⟩,qt220,⟨⟨⟨⟨⟨tI,qt221,tI⟩,qt224,⟨tI,qt234,⟨tI,qt236,⟨tI,qt240,tI⟩⟩⟩⟩,qt241,tI⟩,qt243,⟨tI,qt244,⟨tI,qt246,tI⟩⟩⟩,qt247,⟨⟨⟨tI,qt252,⟨tI,qt253,tI⟩⟩,qt254,⟨tI,qt255,tI⟩⟩,qt256,⟨⟨⟨tI,qt258,⟨tI,qt259,tI⟩⟩,qt260,⟨tI,qt261,tI⟩⟩,qt262,⟨tI,qt265,⟨tI,qt266,tI⟩⟩⟩⟩⟩⟩⟩,qt267,⟨⟨⟨⟨tI,qt269,⟨⟨tI,qt270,tI⟩,qt271,⟨tI,qt272,tI⟩⟩⟩,qt273,⟨⟨⟨tI,qt274,⟨tI,qt276,tI⟩⟩,qt277,⟨tI,qt278,tI⟩⟩,qt279,⟨⟨tI,qt280,tI⟩,qt282,⟨⟨tI,qt284,tI⟩,qt285,⟨tI,qt286,tI⟩⟩⟩⟩⟩,qt287,⟨⟨⟨tI,qt289,tI⟩,qt299,⟨⟨tI,qt300,tI⟩,qt302,⟨tI,qt303,⟨⟨tI,qt305,tI⟩,qt306,⟨tI,qt308,tI⟩⟩⟩⟩⟩,qt309,⟨⟨⟨tI,qt310,tI⟩,qt312,⟨⟨⟨tI,qt314,tI⟩,qt316,tI⟩,qt319,⟨⟨tI,qt321,tI⟩,qt322,⟨tI,qt333,⟨tI,qt348,tI⟩⟩⟩⟩⟩,qt349,⟨⟨⟨tI,qt353,tI⟩,qt354,⟨tI,qt355,tI⟩⟩,qt358,⟨⟨tI,qt359,tI⟩,qt367,⟨tI,qt371,tI⟩⟩⟩⟩⟩⟩,qt378,⟨⟨⟨tI,qt387,tI⟩,qt394,⟨tI,qt395,tI⟩⟩,qt406,⟨⟨tI,qt411,tI⟩,qt412,⟨⟨tI,qt418,tI⟩,qt421,⟨⟨⟨tI,qt452,tI⟩,qt453,⟨tI,qt454,⟨tI,qt455,tI⟩⟩⟩,qt456,⟨⟨tI,qt457,⟨tI,qt458,tI⟩⟩,qt459,⟨tI,qt460,⟨tI,qt461,tI⟩⟩⟩⟩⟩⟩⟩⟩⟩⟩⟩⟩
noncomputable def tab:Tab:=⟨fun t=>tt.get t⟩
theorem tab_ok:qU Tryz.prog tab:=⟨fun t i h=>AllT.mem tt_all (t,i) (Tr.get_mem h)⟩
theorem mixed:Tryz.prog.follows .mixedOrders=true:=by kernel_rfl
end
end Go.Lens.Tb
end
section
namespace Go.Lens.Tb
open Go.Proofs
abbrev pI (x:Int):PV:=.lit (.int .i64 x)
abbrev pB (x:Bool):PV:=.lit (.bool x)
abbrev pS (x:ByteArray):PV:=.lit (.string x)
abbrev pL {α:Type} (f:α->List PV) (l:List α):PV:=.slice (List.map f l)
abbrev vI (x:Int):DV:=.pv (.lit (.int .i64 x))
abbrev vB (x:Bool):DV:=.pv (.lit (.bool x))
abbrev vS (x:ByteArray):DV:=.pv (.lit (.string x))
abbrev vL {α:Type} (f:α->List PV) (l:List α):DV:=.pv (.slice (List.map f l))
theorem RO [Lz] {P:Program} {Y:Tab} [qU P Y] {nb:Nat} {ops:Array Oper} {s:St} {dst:Option Tmp} {op:Op} {ty:TypeId} {pos:String} {af:Array Edge} {dr:Bool} {os:List Oper} {acc:List Ef} {Q:St->Prop} {val:DV} {m:List (Nat×MO)} {rd:List Nat}
    (h:Body P Y nb s ⟨dst,op,ty,pos,af,none⟩ val m rd) (k:RG P Y nb ops dr os (stp s ⟨dst,val,m,rd⟩) (acc++[⟨dst,val,m,rd⟩]) Q):RG P Y nb ops dr (⟨dst,op,ty,pos,af,none⟩::os) s acc Q:=
  RG.cons (EfR.on Z h) k
theorem agT {tm:List (Nat×DV)}:∀ {l:List (Nat×DV)},l.map (fun p=>jC tm p.1)=l.map (fun p=>p.2)->AgT tm l
  | [],_=>trivial
  | p::l,h=>by
    simp only[zw,List.cons.injEq] at h
    exact⟨h.1,agT h.2⟩
theorem agM {ms:List (Nat×MO)}:∀ {l:List (Nat×MO)},l.map (fun p=>qx ms p.1)=l.map (fun p=>some p.2)->AgM ms l
  | [],_=>trivial
  | p::l,h=>by
    simp only[zw,List.cons.injEq] at h
    exact⟨h.1,agM h.2⟩
theorem sb [Lz] {nb:Nat} {s S:St} (h1:S.tm.map (fun p=>jC s.tm p.1)=S.tm.map (fun p=>p.2)) (h2:S.ms.map (fun p=>qx s.ms p.1)=S.ms.map (fun p=>some p.2))
    (h3:(jk S.ms&&S.tm.all (fun p=>p.2.refs.all (jJ S.ms))&&s.ms.all (fun p=>Nat.ble nb p.1||jJ S.ms p.1))=true):Sub nb s S:=⟨agT h1,agM h2,h3⟩
section
variable [Lz] [Fc] {P:Program} {n nb:Nat} {Q:Exit->St->Prop} {K:List Fr} {s:St} {x y:Code} {id:Nat}
theorem a1 (h:TK P n nb Q x K s):PK P n nb Q (.seq x::K) .normal s:=PK.seq h
theorem a2 (h:PK P n nb Q K .normal s):PK P n nb Q (.blk id::K) .normal s:=PK.blk h
theorem a3 (h:TK P n nb Q x (.seq y::K) s):TK P n nb Q (.seq x y) K s:=TK.seq h
theorem a4 (h:TK P n nb Q x (.blk id::K) s):TK P n nb Q (.block id x) K s:=TK.block h
theorem a5 (h:PK P n nb Q K .normal s):TK P n nb Q .skip K s:=TK.skip h
end
inductive Cf [Lz] where
 | t (x:Code) (K:List Fr)
 | p (K:List Fr)
def adv [Lz]:Nat->Cf->Cf
 | 0,c=>c
 | k+1,.p K=>match K with
  | .seq x::K=>adv k (.t x K)
  | .blk _::K=>adv k (.p K)
  | K=>.p K
 | k+1,.t x K=>match x with
  | .seq x y=>adv k (.t x (.seq y::K))
  | .block i x=>adv k (.t x (.blk i::K))
  | .skip=>adv k (.p K)
  | x=>.t x K
def CK [Lz] [Fc] (P:Program) (n nb:Nat) (Q:Exit->St->Prop) (s:St):Cf->Prop
 | .t x K=>TK P n nb Q x K s
 | .p K=>PK P n nb Q K .normal s
theorem adv_ok [Lz] [Fc] {P:Program} {n nb:Nat} {Q:Exit->St->Prop} {s:St}:∀ {k:Nat} {c:Cf},CK P n nb Q s (adv k c)->CK P n nb Q s c
 | 0,_,h=>h
 | k+1,.p K,h=>by
  unfold adv at h
  split at h
  ·rename_i x K
   show PK P n nb Q (.seq x::K) .normal s
   exact PK.seq (adv_ok (c:=.t x K) h)
  ·rename_i i K
   show PK P n nb Q (.blk i::K) .normal s
   exact PK.blk (adv_ok (c:=.p K) h)
  exact h
 | k+1,.t x K,h=>by
  unfold adv at h
  split at h
  ·rename_i x y
   show TK P n nb Q (.seq x y) K s
   exact TK.seq (adv_ok (c:=.t x (.seq y::K)) h)
  ·rename_i i x
   show TK P n nb Q (.block i x) K s
   exact TK.block (adv_ok (c:=.t x (.blk i::K)) h)
  ·show TK P n nb Q .skip K s
   exact TK.skip (adv_ok (c:=.p K) h)
  exact h
theorem Ap [Lz] [Fc] {P:Program} {n nb:Nat} {Q:Exit->St->Prop} {s:St} {y:Code} {K M:List Fr} (e:adv 40 (.p K)=.t y M) (h:TK P n nb Q y M s):PK P n nb Q K .normal s:=adv_ok (c:=.p K) (k:=40) (by rw[e];exact h)
section
variable [Lz] {P:Program} {Y:Tab} [qU P Y] {nb:Nat} {ops:Array Oper} {s:St} {dst:Option Tmp} {ty:TypeId} {pos:String} {af:Array Edge} {dr:Bool} {os:List Oper} {acc:List Ef} {Q:St->Prop}
theorem ag {x:Operand} {p:PV} (h:ev1 s x=.pv p) (k:RG P Y nb ops dr os (stp s ⟨dst,.pv p,[],[]⟩) (acc++[⟨dst,.pv p,[],[]⟩]) Q):RG P Y nb ops dr (⟨dst,.assign x,ty,pos,af,none⟩::os) s acc Q:=RO (B.assign h) k
end
theorem nB {a b:Nat} (h:Nat.ble a b=true):a<=b:=zY h
instance iTab [Lz]:qU Tryz.prog tab:=tab_ok
section
variable [Lz]
theorem cO {f:FuncId} {F:FnI} {c:Code} {ds:List DV} {val:DV} (q:QF f F) (hb:F.body=some c) (hl:ds.length<=F.n) (hr:DV.qT ds=[]) (h:TK Tryz.prog F.n 1 (Post tab F 1 val) c [] ⟨zipT 0 ds,[]⟩):q6 Tryz.prog f ds (qx []) val []:=by
  obtain⟨fn,f1,f2,f3,f4,_,f6⟩:=q
  exact callOk_of (Y:=tab) (F:=F) f1 (f2.trans hb) f3 f4 f6 hl hr h
section
variable {P:Program} {Y:Tab} [qU P Y] {nb:Nat} {ops:Array Oper} {s:St} {dr:Bool} {o:Oper} {os:List Oper} {acc:List Ef} {Q:St->Prop} {val:DV} {m:List (Nat×MO)} {rd:List Nat}
theorem RS {c:Bool} (hg:gcond ops s o.guard=some c) (h:c=true->Body P Y nb s o val [] rd) (hr:refsIn s o val=true) (k:RG P Y nb ops dr os (stp s ⟨o.dst,.gd c val,[],rd⟩) (acc++[⟨o.dst,.gd c val,[],rd⟩]) Q):RG P Y nb ops dr (o::os) s acc Q:=RG.cons (EfR.sym hg h hr) k
end
section
variable [Fc] {n nb:Nat} {Q:Exit->St->Prop} {K M:List Fr} {x y:Code} {id:Nat} {ops:Array Oper} {dr:Bool} {s:St} {P:Program} {Y:Tab} [qU P Y] {ops':Array Oper} {acc:List Ef}
theorem lf (h:Q .ret s):TK P n nb Q .ret K s:=TK.ret (PK.ret h)
theorem tn (S:St) (h1:S.tm.map (fun p=>jC s.tm p.1)=S.tm.map (fun p=>p.2)) (h2:S.ms.map (fun p=>qx s.ms p.1)=S.ms.map (fun p=>some p.2)) (h3:(jk S.ms&&S.tm.all (fun p=>p.2.refs.all (jJ S.ms))&&s.ms.all (fun p=>Nat.ble nb p.1||jJ S.ms p.1))=true) (k:TK P n nb Q x K S):TK P n nb Q x K s:=TK.norm S (sb h1 h2 h3) k
end
end
structure Tgt where
  name:ByteArray
  bright:Int
  place:Int
  length:Int
  from_:Int
  to:Int
  limit:Int
instance:Inhabited Tgt:=⟨⟨⟨#[]⟩,0,0,0,0,0,0⟩⟩
abbrev eI (n:Int):List PV:=[.lit (.int .i64 n)]
abbrev eT (t:Tgt):List PV:=[.lit (.string t.name),.lit (.int .i64 t.bright),.lit (.int .i64 t.place),.lit (.int .i64 t.length),.lit (.int .i64 t.from_),.lit (.int .i64 t.to),.lit (.int .i64 t.limit)]
def Zw (n low high:Int):Bool:=decide (n<low)||decide (high<n)
def qF (b:Bool) (e:Int):Int:=bif b then e else 0
def qG (n low high:Int):Int:=qF (Zw n low high) 3
def qP:List Int->Int
  | []=>0
  | e::l=>if e=0 then qP l else e
def apartF (a b:Int):Int:=Max.max (a-b) (b-a)
theorem jA (a b:Bool):(bif a then true else b)=(a||b):=by cases a<;>rfl
theorem jw (a b:Bool):(bif a then b else false)=(a&&b):=by cases a<;>rfl
theorem drop_at {α:Type} (l:List α) (k:Nat) (z:α) (h:k<l.length):l.drop k=l.getD k z::l.drop (k+1):=by
  rw[List.drop_eq_getElem_cons h,ze,zm h];rfl
theorem li {k:IntKind} {a b:Int} (h:a=b):(DV.pv (.lit (.int k a)))=.pv (.lit (.int k b)):=by rw[h]
theorem lb {a b:Bool} (h:a=b):(DV.pv (.lit (.bool a)))=.pv (.lit (.bool b)):=by rw[h]
theorem ls {a b:ByteArray} (h:a=b):(DV.pv (.lit (.string a)))=.pv (.lit (.string b)):=by rw[h]
theorem lsl {α:Type} {enc:α->List PV} {a b:List α} (h:a=b):(DV.pv (.slice (List.map enc a)))=.pv (.slice (List.map enc b)):=by rw[h]
theorem lag {a b:List PV} (h:a=b):(DV.pv (.agg a))=.pv (.agg b):=by rw[h]
theorem q5 {a b:PV} {l m:List PV} (h:a=b) (k:l=m):a::l=b::m:=by rw[h,k]
theorem pli {k:IntKind} {a b:Int} (h:a=b):(PV.lit (.int k a))=.lit (.int k b):=by rw[h]
theorem plb {a b:Bool} (h:a=b):(PV.lit (.bool a))=.lit (.bool b):=by rw[h]
theorem pls {a b:ByteArray} (h:a=b):(PV.lit (.string a))=.lit (.string b):=by rw[h]
theorem plsl {α:Type} {enc:α->List PV} {a b:List α} (h:a=b):(PV.slice (List.map enc a))=.slice (List.map enc b):=by rw[h]
theorem tup2 {a b c d:DV} (h:a=b) (k:c=d):DV.tup [a,c]=.tup [b,d]:=by rw[h,k]
theorem tup3 {a b c d e f:DV} (h:a=b) (k:c=d) (m:e=f):DV.tup [a,c,e]=.tup [b,d,f]:=by rw[h,k,m]
section
variable [Lz]
def nilV:DV->Bool
 | .nils=>true
 | .agg ds=>ds.any fun d=>match d with| .nils=>true|_=>false
 | _=>false
def nilM:MO->Bool
 | .box _ ds=>ds.any fun d=>match d with| .nils=>true|_=>false
 | _=>false
def cmpQ (op:BinOp) (a b:Int):Option Bool:=match op with
 | .lss=>some (decide (a<b))
 | .leq=>some (decide (a<=b))
 | .gtr=>some (decide (b<a))
 | .geq=>some (decide (b<=a))
 | .eql=>some (decide (a=b))
 | .neq=>some (decide (a≠b))
 | _=>none
noncomputable def effQ (nb:Nat) (s:St) (o:Oper):Option (DV×List (Nat×MO)×List Nat):=
 match o.guard with
 | some _=>none
 | none=>match o.op with
  | .move x=>match ev1 s x with
   | .pv p=>some (.pv p,[],[])
   | .nils=>none
   | _=>bodyX tab nb s o
  | .assign x=>match ev1 s x with
   | .pv p=>some (.pv p,[],[])
   | .nils=>none
   | _=>bodyX tab nb s o
  | .unOp .not _ x=>match ev1 s x with
   | .pv (.lit (.bool b))=>some (lit (.bool (!b)),[],[])
   | _=>none
  | .binOp op _ x y _=>match ev1 s x with
   | .pv (.lit (.int k a))=>match ev1 s y with
    | .pv (.lit (.int k' b))=>bif decide (k=k') then match cmpQ op a b with
      | some c=>some (lit (.bool c),[],[])
      | none=>none
     else none
    | _=>none
   | _=>none
  | .load t x=>match ev1 s x with
   | .pv (.box (p::cs))=>match aggT tab t with
    | some false=>match szT tab t with
     | some _=>some (.pv p,[],[])
     | none=>none
    | some true=>match szT tab t with
     | some n=>bif Nat.ble n (p::cs).length then some (.pv (.agg ((p::cs).take n)),[],[]) else none
     | none=>none
    | none=>none
   | .bref _ _=>bodyX tab nb s o
   | _=>none
  | .store _ a v=>match ev1 s a with
   | .bref _ _=>match ev1 s v with
    | .aref _ _=>none
    | _=>bodyX tab nb s o
   | _=>none
  | .fieldAddr _ _ _=>bodyX tab nb s o
  | .field _ _ _=>bodyX tab nb s o
  | .extract _ _=>bodyX tab nb s o
  | .nilCheck _=>bodyX tab nb s o
  | .makeFunc _ _ _=>bodyX tab nb s o
  | .alloc _=>match bodyX tab nb s o with
   | some (v,m,rd)=>bif m.any (fun p=>nilM p.2) then none else some (v,m,rd)
   | none=>none
  | .box _ _=>match bodyX tab nb s o with
   | some (v,m,rd)=>bif m.any (fun p=>nilM p.2) then none else some (v,m,rd)
   | none=>none
  | .build _ _=>match bodyX tab nb s o with
   | some (v,m,rd)=>bif nilV v then none else some (v,m,rd)
   | none=>none
  | _=>none
theorem effQ_ok {nb:Nat} {s:St} {o:Oper} {v:DV} {m:List (Nat×MO)} {rd:List Nat} (h:effQ nb s o=some (v,m,rd)):Body Tryz.prog tab nb s o v m rd/\o.guard=none:=by
 obtain⟨dst,op,ty,pos,af,gd⟩:=o
 cases gd with
 | some g=>cases h
 | none=>
 refine⟨?_,rfl⟩
 unfold effQ at h
 cases op with
 | move x=>
  simp only at h
  split at h
  ·rename_i p hp;cases h;exact B.move hp
  ·cases h
  exact B.run h
 | assign x=>
  simp only at h
  split at h
  ·rename_i p hp;cases h;exact B.assign hp
  ·cases h
  exact B.run h
 | unOp u t x=>
  cases u<;>simp only at h<;>try cases h
  split at h
  ·rename_i b hb;cases h;exact B.not hb
  cases h
 | binOp op t x y u=>
  simp only at h
  split at h
  ·rename_i k a ha
   split at h
   ·rename_i k' b hb
    cases hk:decide (k=k') with
    | false=>rw[hk] at h;cases h
    | true=>
     rw[hk] at h
     have:=of_decide_eq_true hk
     subst this
     simp only[cond_true] at h
     split at h
     ·rename_i c hc
      cases h
      unfold cmpQ at hc
      split at hc<;>cases hc
      ·exact B.lss ha hb
      ·exact B.leq ha hb
      ·exact B.gtr ha hb
      ·exact B.geq ha hb
      ·exact B.eql ha hb
      exact B.neq ha hb
     cases h
   cases h
  cases h
 | load t x=>
  simp only at h
  split at h
  ·rename_i p cs hp
   split at h
   ·rename_i ha
    split at h
    ·rename_i n hn;cases h;exact B.loadP hp ha hn
    cases h
   ·rename_i ha
    split at h
    ·rename_i n hn
     cases hb:Nat.ble n (p::cs).length with
     | false=>rw[hb] at h;cases h
     | true=>rw[hb] at h;cases h;exact B.loadA hp ha hn (nB hb) rfl
    cases h
   cases h
  ·exact B.run h
  cases h
 | store t a v=>
  simp only at h
  split at h
  ·split at h
   ·cases h
   exact B.run h
  cases h
 | fieldAddr t x f=>exact B.run h
 | field t x f=>exact B.run h
 | extract x f=>exact B.run h
 | nilCheck x=>exact B.run h
 | makeFunc f a c=>exact B.run h
 | alloc t=>
  simp only at h
  split at h
  ·rename_i v' m' rd' hb
   cases hn:m'.any (fun p=>nilM p.2) with
   | true=>rw[hn] at h;cases h
   | false=>rw[hn] at h;cases h;exact B.run hb
  cases h
 | box t x=>
  simp only at h
  split at h
  ·rename_i v' m' rd' hb
   cases hn:m'.any (fun p=>nilM p.2) with
   | true=>rw[hn] at h;cases h
   | false=>rw[hn] at h;cases h;exact B.run hb
  cases h
 | build t ps=>
  simp only at h
  split at h
  ·rename_i v' m' rd' hb
   cases hn:nilV v' with
   | true=>rw[hn] at h;cases h
   | false=>rw[hn] at h;cases h;exact B.run hb
  cases h
 | _=>cases h
section
variable {α:Type}
def fN (n:Nat) (k:Nat->α):α:=match n with
 | 0=>k 0
 | m+1=>k (m+1)
def fNs (l:List Nat) (k:List Nat->α):α:=match l with
 | []=>k []
 | n::l=>fN n fun n=>fNs l fun l=>k (n::l)
mutual
def fP (b:Bool) (p:PV) (k:PV->α):α:=match p with
 | .agg cs=>fPs b cs fun cs=>k (.agg cs)
 | .box cs=>fPs b cs fun cs=>k (.box cs)
 | .lit v=>k (.lit v)
 | .slice es=>k (.slice es)
 | .fn f a c=>fPs b a fun a=>fPs b c fun c=>k (.fn f a c)
 | .iface t v=>k (.iface t v)
 | .map ks vs=>k (.map ks vs)
 | .any=>k .any
def fPs (b:Bool) (l:List PV) (k:List PV->α):α:=match l with
 | []=>k []
 | p::l=>match b with
  | true=>fP true p fun p=>fPs true l fun l=>k (p::l)
  | false=>fPs false l fun l=>k (p::l)
end
mutual
def fV (b:Bool) (d:DV) (k:DV->α):α:=match d with
 | .pv p=>match b with
  | true=>fP true p fun p=>k (.pv p)
  | false=>k (.pv p)
 | .dead=>k .dead
 | .nils=>k .nils
 | .gd c d=>fV b d fun d=>k (.gd c d)
 | .bref h c=>fN h fun h=>fN c fun c=>k (.bref h c)
 | .aref h v=>fN h fun h=>k (.aref h v)
 | .atrunc h v n=>fN h fun h=>k (.atrunc h v n)
 | .eref h v i c=>fN h fun h=>k (.eref h v i c)
 | .mref h=>fN h fun h=>k (.mref h)
 | .agg ds=>fVs b ds fun ds=>k (.agg ds)
 | .tup ds=>fVs b ds fun ds=>k (.tup ds)
 | .clos f a c=>fVs b a fun a=>fVs b c fun c=>k (.clos f a c)
 | .yld h us ds=>fN h fun h=>fVs b ds fun ds=>k (.yld h us ds)
def fVs (b:Bool) (l:List DV) (k:List DV->α):α:=match l with
 | []=>k []
 | p::l=>fV b p fun p=>fVs b l fun l=>k (p::l)
end
def fM (b:Bool) (o:MO) (k:MO->α):α:=match o with
 | .box T ds=>fVs b ds fun ds=>k (.box T ds)
 | o=>k o
def fMs (b:Bool) (m ms:List (Nat×MO)) (k:List (Nat×MO)->α):α:=match m with
 | []=>k ms
 | (h,o)::m=>fN h fun h=>fM b o fun o=>fMs b m ms fun l=>k ((h,o)::l)
def dpO:Op->Bool
 | .build _ _=>true
 | _=>false
theorem fN_eq (n:Nat) (k:Nat->α):fN n k=k n:=by cases n<;>rfl
theorem fNs_eq:∀ (l:List Nat) (k:List Nat->α),fNs l k=k l
 | [],_=>rfl
 | n::l,k=>by rw[fNs,fN_eq,fNs_eq l]
mutual
theorem fP_eq (b:Bool):∀ (p:PV) (k:PV->α),fP b p k=k p
 | .agg cs,k=>by rw[fP,fPs_eq b cs]
 | .box cs,k=>by rw[fP,fPs_eq b cs]
 | .lit v,k=>by rw[fP]
 | .slice es,k=>by rw[fP]
 | .fn f a c,k=>by rw[fP,fPs_eq b a,fPs_eq b c]
 | .iface t v,k=>by rw[fP]
 | .map ks vs,k=>by rw[fP]
 | .any,k=>by rw[fP]
theorem fPs_eq (b:Bool):∀ (l:List PV) (k:List PV->α),fPs b l k=k l
 | [],k=>by rw[fPs]
 | p::l,k=>by
  cases b
  ·rw[fPs,fPs_eq false l]
  rw[fPs,fP_eq true p,fPs_eq true l]
end
mutual
theorem fV_eq (b:Bool):∀ (d:DV) (k:DV->α),fV b d k=k d
 | .pv p,k=>by
  cases b
  ·rw[fV]
  rw[fV,fP_eq]
 | .dead,k=>by rw[fV]
 | .nils,k=>by rw[fV]
 | .gd c d,k=>by rw[fV,fV_eq b d]
 | .bref h c,k=>by rw[fV,fN_eq,fN_eq]
 | .aref h v,k=>by rw[fV,fN_eq]
 | .atrunc h v n,k=>by rw[fV,fN_eq]
 | .eref h v i c,k=>by rw[fV,fN_eq]
 | .mref h,k=>by rw[fV,fN_eq]
 | .agg ds,k=>by rw[fV,fVs_eq b ds]
 | .tup ds,k=>by rw[fV,fVs_eq b ds]
 | .yld h us ds,k=>by rw[fV,fN_eq,fVs_eq b ds]
 | .clos f a c,k=>by rw[fV,fVs_eq b a,fVs_eq b c]
theorem fVs_eq (b:Bool):∀ (l:List DV) (k:List DV->α),fVs b l k=k l
 | [],k=>by rw[fVs]
 | p::l,k=>by rw[fVs,fV_eq b p,fVs_eq b l]
end
theorem fM_eq (b:Bool) (o:MO) (k:MO->α):fM b o k=k o:=by
 unfold fM
 split
 ·rw[fVs_eq]
 rfl
theorem fMs_eq (b:Bool):∀ (m ms:List (Nat×MO)) (k:List (Nat×MO)->α),fMs b m ms k=k (m++ms)
 | [],_,_=>rfl
 | (h,o)::m,ms,k=>by rw[fMs,fN_eq,fM_eq,fMs_eq b m];rfl
end
inductive Cg where
 | t (x:Code) (K:List Fr) (tm:List (Nat×DV)) (ms:List (Nat×MO))
 | p (K:List Fr) (tm:List (Nat×DV)) (ms:List (Nat×MO))
 | r (ops:Array Oper) (dr:Bool) (os:List Oper) (tm:List (Nat×DV)) (ms:List (Nat×MO)) (acc:List Ef) (K:List Fr)
def CG [Fc] (n nb:Nat) (Q:Exit->St->Prop):Cg->Prop
 | .t x K tm ms=>TK Tryz.prog n nb Q x K ⟨tm,ms⟩
 | .p K tm ms=>PK Tryz.prog n nb Q K .normal ⟨tm,ms⟩
 | .r ops dr os tm ms acc K=>RG Tryz.prog tab nb ops dr os ⟨tm,ms⟩ acc (PK Tryz.prog n nb Q K .normal)
def nt (dr:Bool) (acc:List Ef) (e:Ef):List Ef:=match dr with
 | true=>acc++[e]
 | false=>[]
theorem RG.acc {nb:Nat} {ops:Array Oper} {os:List Oper} {s:St} {acc acc':List Ef} {Q:St->Prop} (h:RG Tryz.prog tab nb ops false os s acc Q):RG Tryz.prog tab nb ops false os s acc' Q:=by
 obtain⟨es,h1,_,h3⟩:=h
 exact⟨es,h1,fun h=>(by cases h),h3⟩
theorem RG.nt {nb:Nat} {ops:Array Oper} {dr:Bool} {os:List Oper} {s:St} {acc:List Ef} {e:Ef} {Q:St->Prop} (h:RG Tryz.prog tab nb ops dr os s (nt dr acc e) Q):RG Tryz.prog tab nb ops dr os s (acc++[e]) Q:=by
 cases dr
 ·exact RG.acc h
 exact h
def nx (ops:Array Oper) (dr:Bool) (os:List Oper) (tm:List (Nat×DV)) (dst:Option Tmp) (v:DV) (m ms:List (Nat×MO)) (rd:List Nat) (acc:List Ef) (K:List Fr):Cg:=
 .r ops dr os (putT tm dst v) (m++ms) (nt dr acc ⟨dst,v,m,rd⟩) K
theorem nx_ok [Fc] {n nb:Nat} {Q:Exit->St->Prop} {ops:Array Oper} {dr:Bool} {os:List Oper} {tm:List (Nat×DV)} {dst:Option Tmp} {v:DV} {m ms:List (Nat×MO)} {rd:List Nat} {acc:List Ef} {K:List Fr} (h:CG n nb Q (nx ops dr os tm dst v m ms rd acc K)) :
  RG Tryz.prog tab nb ops dr os (stp ⟨tm,ms⟩ ⟨dst,v,m,rd⟩) (acc++[⟨dst,v,m,rd⟩]) (PK Tryz.prog n nb Q K .normal):=RG.nt h
noncomputable def go (n nb stop:Nat):Nat->Cg->Cg
 | 0,c=>c
 | k+1,.p K tm ms=>match K with
  | .seq x::K=>go n nb stop k (.t x K tm ms)
  | .blk _::K=>go n nb stop k (.p K tm ms)
  | K=>.p K tm ms
 | k+1,.t x K tm ms=>match x with
  | .seq x y=>go n nb stop k (.t x (.seq y::K) tm ms)
  | .block i x=>go n nb stop k (.t x (.blk i::K) tm ms)
  | .skip=>go n nb stop k (.p K tm ms)
  | .exit i=>match cutK i K with
   | some K'=>go n nb stop k (.p K' tm ms)
   | none=>.t (.exit i) K tm ms
  | .region id ops dr=>bif Nat.beq id stop then .t (.region id ops dr) K tm ms else bif js n (.region id ops dr) then go n nb stop k (.r ops dr ops.toList tm ms [] K) else .t (.region id ops dr) K tm ms
  | x=>.t x K tm ms
 | k+1,.r ops dr os tm ms acc K=>match os with
  | []=>match dr with
   | true=>.r ops true [] tm ms acc K
   | false=>go n nb stop k (.p K tm ms)
  | o::os=>match effQ nb ⟨tm,ms⟩ o with
   | some (v,m,rd)=>fV (dpO o.op) v fun v=>fMs (dpO o.op) m ms fun ms'=>match dr with
    | false=>go n nb stop k (.r ops false os (putT tm o.dst v) ms' [] K)
    | true=>fMs (dpO o.op) m [] fun m=>fNs rd fun rd=>go n nb stop k (.r ops true os (putT tm o.dst v) ms' (acc++[⟨o.dst,v,m,rd⟩]) K)
   | none=>.r ops dr (o::os) tm ms acc K
theorem go_ok [Fc] {n nb stop:Nat} {Q:Exit->St->Prop}:∀ {k:Nat} {c:Cg},CG n nb Q (go n nb stop k c)->CG n nb Q c
 | 0,_,h=>h
 | k+1,.p K tm ms,h=>by
  unfold go at h
  split at h
  ·rename_i x K
   show PK Tryz.prog n nb Q (.seq x::K) .normal ⟨tm,ms⟩
   exact PK.seq (go_ok (c:=.t x K tm ms) h)
  ·rename_i i K
   show PK Tryz.prog n nb Q (.blk i::K) .normal ⟨tm,ms⟩
   exact PK.blk (go_ok (c:=.p K tm ms) h)
  exact h
 | k+1,.t x K tm ms,h=>by
  unfold go at h
  split at h
  ·rename_i x y;exact TK.seq (go_ok (c:=.t x (.seq y::K) tm ms) h)
  ·rename_i i x;exact TK.block (go_ok (c:=.t x (.blk i::K) tm ms) h)
  ·exact TK.skip (go_ok (c:=.p K tm ms) h)
  ·rename_i i
   split at h
   ·rename_i K' hk;exact TK.exit (PK.exit hk (go_ok (c:=.p K' tm ms) h))
   exact h
  ·rename_i id ops dr
   cases h1:Nat.beq id stop with
   | true=>rw[h1] at h;exact h
   | false=>
    rw[h1] at h
    cases h2:js n (.region id ops dr) with
    | false=>rw[h2] at h;exact h
    | true=>
     rw[h2] at h
     haveI:=tab_ok
     exact TK.rg (Y:=tab) mixed h2 (go_ok (c:=.r ops dr ops.toList tm ms [] K) h)
  exact h
 | k+1,.r ops dr os tm ms acc K,h=>by
  unfold go at h
  split at h
  ·split at h
   ·exact h
   exact RG.nil (fun h=>by cases h) (go_ok (c:=.p K tm ms) h)
  rename_i o os
  split at h
  ·rename_i v m rd he
   obtain⟨h1,h2⟩:=effQ_ok he
   rw[fV_eq,fMs_eq] at h
   have k2:RG Tryz.prog tab nb ops dr os (stp ⟨tm,ms⟩ ⟨o.dst,v,m,rd⟩) (acc++[⟨o.dst,v,m,rd⟩]) (PK Tryz.prog n nb Q K .normal):=by
    cases dr with
    | false=>exact RG.acc (go_ok (c:=.r ops false os (putT tm o.dst v) (m++ms) [] K) h)
    | true=>
     simp only[fMs_eq,fNs_eq,zS] at h
     exact go_ok (c:=.r ops true os (putT tm o.dst v) (m++ms) (acc++[⟨o.dst,v,m,rd⟩]) K) h
   exact RG.cons (EfR.on (by rw[h2];rfl) h1) k2
  exact h
section
variable [Fc] {n nb:Nat} {Q:Exit->St->Prop} {K:List Fr} {x y:Code} {id:Nat} {ops:Array Oper} {dr:Bool} {tm:List (Nat×DV)} {ms:List (Nat×MO)} {os:List Oper} {acc:List Ef} {c:Cg} {val:DV} {m:List (Nat×MO)} {rd:List Nat}
 {dst:Option Tmp} {op:Op} {ty:TypeId} {pos:String} {af:Array Edge} {o:Oper}
abbrev gN:Nat:=400
theorem E (e:go n nb 9999 gN c=.r ops dr (⟨dst,op,ty,pos,af,none⟩::os) tm ms acc K) (h:Body Tryz.prog tab nb ⟨tm,ms⟩ ⟨dst,op,ty,pos,af,none⟩ val m rd) (k:CG n nb Q (nx ops dr os tm dst val m ms rd acc K)):CG n nb Q c:=
 go_ok (k:=gN) (by rw[e];exact RO h (nx_ok k))
theorem C {f:Operand} {args:Array Operand} {ats:Array TypeId} {fid:FuncId} {first caps ds:List DV} (e:go n nb 9999 gN c=.r ops dr (⟨dst,.call ⟨.value f,args,ats⟩,ty,pos,af,none⟩::os) tm ms acc K) (H:q6 Tryz.prog fid ds (qx []) val [])
  (hf:tgtX (ev1 ⟨tm,ms⟩ f)=some (fid,first,caps)) (hds:first++args.toList.map (ev1 ⟨tm,ms⟩)++caps=ds) (hr:DV.qT ds=[]) (k:CG n nb Q (nx ops dr os tm dst val [] ms [] acc K)):CG n nb Q c:=E e (B.call H hf hds hr) k
theorem Eg {b:Bool} (e:go n nb 9999 gN c=.r ops dr (o::os) tm ms acc K) (hg:gcond ops ⟨tm,ms⟩ o.guard=some b) (h:b=true->Body Tryz.prog tab nb ⟨tm,ms⟩ o val [] rd) (hr:refsIn ⟨tm,ms⟩ o val=true) (k:CG n nb Q (nx ops dr os tm o.dst (.gd b val) [] ms rd acc K)):CG n nb Q c:=
 go_ok (k:=gN) (by rw[e];exact RS hg h hr (nx_ok k))
theorem Dr (e:go n nb 9999 gN c=.r ops true [] tm ms acc K) (h:Zx ops 0 acc=true) (k:CG n nb Q (.p K tm ms)):CG n nb Q c:=
 go_ok (k:=gN) (by rw[e];exact RG.nil (fun _=>h) k)
theorem Cb {o:Operand} {b:Bool} (e:go n nb 9999 gN c=.t (.cond o x y) K tm ms) (hc:evS ⟨tm,ms⟩ o=lit (.bool b)) (hx:b=true->CG n nb Q (.t x K tm ms)) (hy:b=false->CG n nb Q (.t y K tm ms)):CG n nb Q c:=go_ok (k:=gN) (by rw[e];exact TK.cond hc hx hy)
theorem Cp {o:Operand} {p:Prop} [Decidable p] (e:go n nb 9999 gN c=.t (.cond o x y) K tm ms) (hc:evS ⟨tm,ms⟩ o=lit (.bool (decide p))) (hx:p->CG n nb Q (.t x K tm ms)) (hy:¬p->CG n nb Q (.t y K tm ms)):CG n nb Q c:=go_ok (k:=gN) (by rw[e];exact TK.condP hc hx hy)
theorem CT {o:Operand} (e:go n nb 9999 gN c=.t (.cond o x y) K tm ms) (hc:evS ⟨tm,ms⟩ o=lit (.bool true)) (hx:CG n nb Q (.t x K tm ms)):CG n nb Q c:=go_ok (k:=gN) (by rw[e];exact TK.condT hc hx)
theorem CF {o:Operand} (e:go n nb 9999 gN c=.t (.cond o x y) K tm ms) (hc:evS ⟨tm,ms⟩ o=lit (.bool false)) (hy:CG n nb Q (.t y K tm ms)):CG n nb Q c:=go_ok (k:=gN) (by rw[e];exact TK.condF hc hy)
theorem Rt (e:go n nb 9999 gN c=.t .ret K tm ms) (h:Q .ret ⟨tm,ms⟩):CG n nb Q c:=go_ok (k:=gN) (by rw[e];exact lf h)
theorem Rn (e:go n nb 9999 gN c=.p [] tm ms) (h:Q .normal ⟨tm,ms⟩):CG n nb Q c:=go_ok (k:=gN) (by rw[e];exact h)
theorem tk (stop:Nat) (e:go n nb stop gN c=.t x K tm ms) (h:TK Tryz.prog n nb Q x K ⟨tm,ms⟩):CG n nb Q c:=go_ok (k:=gN) (stop:=stop) (by rw[e];exact h)
theorem pk {C:St->Prop} (e:go n nb 9999 gN c=.p (.lp C::K) tm ms) (h:C ⟨tm,ms⟩):CG n nb Q c:=go_ok (k:=gN) (by rw[e];exact (PK.lp (P:=Tryz.prog) (n:=n) (nb:=nb) (Q:=Q) (K:=K) h))
theorem kc (h:CG n nb Q (.t x K tm ms)):TK Tryz.prog n nb Q x K ⟨tm,ms⟩:=h
theorem ek (e:go n nb 9999 gN c=.r ops dr os tm ms acc K) (h:CG n nb Q (.r ops dr os tm ms acc K)):CG n nb Q c:=go_ok (k:=gN) (by rw[e];exact h)
theorem pc (h:CG n nb Q (.p K tm ms)):PK Tryz.prog n nb Q K .normal ⟨tm,ms⟩:=h
theorem rc (h:CG n nb Q (.r ops dr os tm ms acc K)):RG Tryz.prog tab nb ops dr os ⟨tm,ms⟩ acc (PK Tryz.prog n nb Q K .normal):=h
theorem Nx {t:Operand} {a:ByteArray} {h p:Nat} (e:go n nb 9999 gN c=.r ops dr (⟨dst,.next t true,ty,pos,af,none⟩::os) tm ms acc K) (hx:ev1 ⟨tm,ms⟩ t=.bref h 0) (hm:qx ms h=some (.siter a p))
 (hT:p<a.size->CG n nb Q (nx ops dr os tm dst (.tup [lit (.bool true),lit (.int .i64 (p:Int)),lit (.int .i32 (Utf8.decode a p).1)]) [(h,.siter a (p+(Utf8.decode a p).2))] ms [h] acc K))
 (hF:¬p<a.size->CG n nb Q (nx ops dr os tm dst (.tup [lit (.bool false)]) [] ms [h] acc K)):CG n nb Q c:=
 haveI:=tab_ok
 go_ok (k:=gN) (by rw[e];exact RG.next (gd:=none) (s:=⟨tm,ms⟩) Z hx hm (fun h=>nx_ok (hT h)) (fun h=>nx_ok (hF h)))
theorem Fz (stop t:Nat) {h v sz:Nat} {T0:TypeId} {es:List (List PV)} (e:go n nb stop gN c=.t x K tm ms) (ht:jC tm t=.aref h v) (hm:qx ms h=some (.arr v sz T0 es)) (k:CG n nb Q (.t x K ((t,.pv (.slice es))::tm) ((h,.farr v es)::ms))):CG n nb Q c:=
 tk stop e (TK.frz (s:=⟨tm,ms⟩) ht hm k)
theorem Fb (stop t:Nat) {h:Nat} {T0:TypeId} {ds:List DV} {cs:List PV} (e:go n nb stop gN c=.t x K tm ms) (ht:jC tm t=.bref h 0) (hm:qx ms h=some (.box T0 ds)) (hp:pvOfL (qx ms) ds=some cs) (k:CG n nb Q (.t x K ((t,.pv (.box cs))::tm) ((h,.fbox cs)::ms))):CG n nb Q c:=
 tk stop e (TK.frzB (s:=⟨tm,ms⟩) ht hm hp k)
theorem Cj {x':Code} {M:List Fr} {o:Operand} {b:Bool} (S1:List (Nat×DV)) (S2:List (Nat×MO)) (e:go n nb 9999 gN c=.t (.cond o x x') K tm ms) (hc:evS ⟨tm,ms⟩ o=lit (.bool b)) (e2:adv 40 (.p K)=.t y M)
  (hx:b=true->CG n nb Q (.t x (.lp (fun s'=>Sub nb s' ⟨S1,S2⟩)::K) tm ms)) (hy:b=false->CG n nb Q (.t x' (.lp (fun s'=>Sub nb s' ⟨S1,S2⟩)::K) tm ms)) (k:CG n nb Q (.t y M S1 S2)):CG n nb Q c:=by
 refine tk 9999 e ?_
 have conv:∀ e s',PK Tryz.prog n nb Q (.lp (fun s'=>Sub nb s' ⟨S1,S2⟩)::K) e s'->PK Tryz.prog n nb Q K e s':=by
  intro e1 s' h
  cases e1 with
  | normal=>
   have h':Sub nb s' ⟨S1,S2⟩:=h
   exact Ap e2 (TK.norm _ h' k)
  | _=>exact h
 exact TK.cond hc (fun h=>T.mono (hx h) conv) (fun h=>T.mono (hy h) conv)
def Q1 {α:Type} (nb:Nat) (T:α->List (Nat×DV)) (M:α->List (Nat×MO)) (I:α->Prop) (m:α->Nat) (a1:α) (s:St):Prop:=∃ b1,I b1/\m b1<m a1/\Sub nb s ⟨T b1,M b1⟩
theorem l1 {α:Type} (T:α->List (Nat×DV)) (M:α->List (Nat×MO)) (I:α->Prop) (m:α->Nat) (a1:α) (e:go n nb 9999 gN c=.t (.loop x) K tm ms) (h0:I a1) (hs:Sub nb ⟨tm,ms⟩ ⟨T a1,M a1⟩)
 (hb:∀ a1,I a1->CG n nb Q (.t x (.lp (Q1 nb T M I m a1)::K) (T a1) (M a1))):CG n nb Q c:=tk 9999 e (TK.loop (α:=α) (fun x=>⟨T x,M x⟩) (fun x=>I x) (fun x=>m x) a1 h0 hs (fun x hI=>by
  rw[show LP nb (fun x:α=>⟨T x,M x⟩) (fun x=>I x) (fun x=>m x) x=Q1 nb T M I m x from funext fun s=>propext ⟨fun ⟨b1,h⟩=>⟨b1,h⟩,fun ⟨b1,h⟩=>⟨b1,h⟩⟩]
  exact hb x hI))
theorem L1 {α:Type} {T:α->List (Nat×DV)} {M:α->List (Nat×MO)} {I:α->Prop} {m:α->Nat} {a1:α} (b1:α) {s:St} (h1:I b1) (h2:m b1<m a1) (h3:Sub nb s ⟨T b1,M b1⟩):Q1 nb T M I m a1 s:=⟨b1,h1,h2,h3⟩
def Q2 {α β:Type} (nb:Nat) (T:α->β->List (Nat×DV)) (M:α->β->List (Nat×MO)) (I:α->β->Prop) (m:α->β->Nat) (a1:α) (a2:β) (s:St):Prop:=∃ b1 b2,I b1 b2/\m b1 b2<m a1 a2/\Sub nb s ⟨T b1 b2,M b1 b2⟩
theorem l2 {α β:Type} (T:α->β->List (Nat×DV)) (M:α->β->List (Nat×MO)) (I:α->β->Prop) (m:α->β->Nat) (a1:α) (a2:β) (e:go n nb 9999 gN c=.t (.loop x) K tm ms) (h0:I a1 a2) (hs:Sub nb ⟨tm,ms⟩ ⟨T a1 a2,M a1 a2⟩)
 (hb:∀ a1 a2,I a1 a2->CG n nb Q (.t x (.lp (Q2 nb T M I m a1 a2)::K) (T a1 a2) (M a1 a2))):CG n nb Q c:=tk 9999 e (TK.loop (α:=α×β) (fun x=>⟨T x.1 x.2,M x.1 x.2⟩) (fun x=>I x.1 x.2) (fun x=>m x.1 x.2) (a1,a2) h0 hs (fun x hI=>by
  rw[show LP nb (fun x:α×β=>⟨T x.1 x.2,M x.1 x.2⟩) (fun x=>I x.1 x.2) (fun x=>m x.1 x.2) x=Q2 nb T M I m x.1 x.2 from funext fun s=>propext ⟨fun ⟨⟨b1,b2⟩,h⟩=>⟨b1,b2,h⟩,fun ⟨b1,b2,h⟩=>⟨(b1,b2),h⟩⟩]
  exact hb x.1 x.2 hI))
theorem L2 {α β:Type} {T:α->β->List (Nat×DV)} {M:α->β->List (Nat×MO)} {I:α->β->Prop} {m:α->β->Nat} {a1:α} {a2:β} (b1:α) (b2:β) {s:St} (h1:I b1 b2) (h2:m b1 b2<m a1 a2) (h3:Sub nb s ⟨T b1 b2,M b1 b2⟩):Q2 nb T M I m a1 a2 s:=⟨b1,b2,h1,h2,h3⟩
def Q3 {α β γ:Type} (nb:Nat) (T:α->β->γ->List (Nat×DV)) (M:α->β->γ->List (Nat×MO)) (I:α->β->γ->Prop) (m:α->β->γ->Nat) (a1:α) (a2:β) (a3:γ) (s:St):Prop:=∃ b1 b2 b3,I b1 b2 b3/\m b1 b2 b3<m a1 a2 a3/\Sub nb s ⟨T b1 b2 b3,M b1 b2 b3⟩
theorem l3 {α β γ:Type} (T:α->β->γ->List (Nat×DV)) (M:α->β->γ->List (Nat×MO)) (I:α->β->γ->Prop) (m:α->β->γ->Nat) (a1:α) (a2:β) (a3:γ) (e:go n nb 9999 gN c=.t (.loop x) K tm ms) (h0:I a1 a2 a3) (hs:Sub nb ⟨tm,ms⟩ ⟨T a1 a2 a3,M a1 a2 a3⟩)
 (hb:∀ a1 a2 a3,I a1 a2 a3->CG n nb Q (.t x (.lp (Q3 nb T M I m a1 a2 a3)::K) (T a1 a2 a3) (M a1 a2 a3))):CG n nb Q c:=tk 9999 e (TK.loop (α:=α×β×γ) (fun x=>⟨T x.1 x.2.1 x.2.2,M x.1 x.2.1 x.2.2⟩) (fun x=>I x.1 x.2.1 x.2.2) (fun x=>m x.1 x.2.1 x.2.2) (a1,a2,a3) h0 hs (fun x hI=>by
  rw[show LP nb (fun x:α×β×γ=>⟨T x.1 x.2.1 x.2.2,M x.1 x.2.1 x.2.2⟩) (fun x=>I x.1 x.2.1 x.2.2) (fun x=>m x.1 x.2.1 x.2.2) x=Q3 nb T M I m x.1 x.2.1 x.2.2 from funext fun s=>propext ⟨fun ⟨⟨b1,b2,b3⟩,h⟩=>⟨b1,b2,b3,h⟩,fun ⟨b1,b2,b3,h⟩=>⟨(b1,b2,b3),h⟩⟩]
  exact hb x.1 x.2.1 x.2.2 hI))
theorem L3 {α β γ:Type} {T:α->β->γ->List (Nat×DV)} {M:α->β->γ->List (Nat×MO)} {I:α->β->γ->Prop} {m:α->β->γ->Nat} {a1:α} {a2:β} {a3:γ} (b1:α) (b2:β) (b3:γ) {s:St} (h1:I b1 b2 b3) (h2:m b1 b2 b3<m a1 a2 a3) (h3:Sub nb s ⟨T b1 b2 b3,M b1 b2 b3⟩):Q3 nb T M I m a1 a2 a3 s:=⟨b1,b2,b3,h1,h2,h3⟩
def Q4 {α β γ δ:Type} (nb:Nat) (T:α->β->γ->δ->List (Nat×DV)) (M:α->β->γ->δ->List (Nat×MO)) (I:α->β->γ->δ->Prop) (m:α->β->γ->δ->Nat) (a1:α) (a2:β) (a3:γ) (a4:δ) (s:St):Prop:=∃ b1 b2 b3 b4,I b1 b2 b3 b4/\m b1 b2 b3 b4<m a1 a2 a3 a4/\Sub nb s ⟨T b1 b2 b3 b4,M b1 b2 b3 b4⟩
theorem l4 {α β γ δ:Type} (T:α->β->γ->δ->List (Nat×DV)) (M:α->β->γ->δ->List (Nat×MO)) (I:α->β->γ->δ->Prop) (m:α->β->γ->δ->Nat) (a1:α) (a2:β) (a3:γ) (a4:δ) (e:go n nb 9999 gN c=.t (.loop x) K tm ms) (h0:I a1 a2 a3 a4) (hs:Sub nb ⟨tm,ms⟩ ⟨T a1 a2 a3 a4,M a1 a2 a3 a4⟩)
 (hb:∀ a1 a2 a3 a4,I a1 a2 a3 a4->CG n nb Q (.t x (.lp (Q4 nb T M I m a1 a2 a3 a4)::K) (T a1 a2 a3 a4) (M a1 a2 a3 a4))):CG n nb Q c:=tk 9999 e (TK.loop (α:=α×β×γ×δ) (fun x=>⟨T x.1 x.2.1 x.2.2.1 x.2.2.2,M x.1 x.2.1 x.2.2.1 x.2.2.2⟩) (fun x=>I x.1 x.2.1 x.2.2.1 x.2.2.2) (fun x=>m x.1 x.2.1 x.2.2.1 x.2.2.2) (a1,a2,a3,a4) h0 hs (fun x hI=>by
  rw[show LP nb (fun x:α×β×γ×δ=>⟨T x.1 x.2.1 x.2.2.1 x.2.2.2,M x.1 x.2.1 x.2.2.1 x.2.2.2⟩) (fun x=>I x.1 x.2.1 x.2.2.1 x.2.2.2) (fun x=>m x.1 x.2.1 x.2.2.1 x.2.2.2) x=Q4 nb T M I m x.1 x.2.1 x.2.2.1 x.2.2.2 from funext fun s=>propext ⟨fun ⟨⟨b1,b2,b3,b4⟩,h⟩=>⟨b1,b2,b3,b4,h⟩,fun ⟨b1,b2,b3,b4,h⟩=>⟨(b1,b2,b3,b4),h⟩⟩]
  exact hb x.1 x.2.1 x.2.2.1 x.2.2.2 hI))
theorem L4 {α β γ δ:Type} {T:α->β->γ->δ->List (Nat×DV)} {M:α->β->γ->δ->List (Nat×MO)} {I:α->β->γ->δ->Prop} {m:α->β->γ->δ->Nat} {a1:α} {a2:β} {a3:γ} {a4:δ} (b1:α) (b2:β) (b3:γ) (b4:δ) {s:St} (h1:I b1 b2 b3 b4) (h2:m b1 b2 b3 b4<m a1 a2 a3 a4) (h3:Sub nb s ⟨T b1 b2 b3 b4,M b1 b2 b3 b4⟩):Q4 nb T M I m a1 a2 a3 a4 s:=⟨b1,b2,b3,b4,h1,h2,h3⟩
def Q5 {α β γ δ ε:Type} (nb:Nat) (T:α->β->γ->δ->ε->List (Nat×DV)) (M:α->β->γ->δ->ε->List (Nat×MO)) (I:α->β->γ->δ->ε->Prop) (m:α->β->γ->δ->ε->Nat) (a1:α) (a2:β) (a3:γ) (a4:δ) (a5:ε) (s:St):Prop:=∃ b1 b2 b3 b4 b5,I b1 b2 b3 b4 b5/\m b1 b2 b3 b4 b5<m a1 a2 a3 a4 a5/\Sub nb s ⟨T b1 b2 b3 b4 b5,M b1 b2 b3 b4 b5⟩
theorem l5 {α β γ δ ε:Type} (T:α->β->γ->δ->ε->List (Nat×DV)) (M:α->β->γ->δ->ε->List (Nat×MO)) (I:α->β->γ->δ->ε->Prop) (m:α->β->γ->δ->ε->Nat) (a1:α) (a2:β) (a3:γ) (a4:δ) (a5:ε) (e:go n nb 9999 gN c=.t (.loop x) K tm ms) (h0:I a1 a2 a3 a4 a5) (hs:Sub nb ⟨tm,ms⟩ ⟨T a1 a2 a3 a4 a5,M a1 a2 a3 a4 a5⟩)
 (hb:∀ a1 a2 a3 a4 a5,I a1 a2 a3 a4 a5->CG n nb Q (.t x (.lp (Q5 nb T M I m a1 a2 a3 a4 a5)::K) (T a1 a2 a3 a4 a5) (M a1 a2 a3 a4 a5))):CG n nb Q c:=tk 9999 e (TK.loop (α:=α×β×γ×δ×ε) (fun x=>⟨T x.1 x.2.1 x.2.2.1 x.2.2.2.1 x.2.2.2.2,M x.1 x.2.1 x.2.2.1 x.2.2.2.1 x.2.2.2.2⟩) (fun x=>I x.1 x.2.1 x.2.2.1 x.2.2.2.1 x.2.2.2.2) (fun x=>m x.1 x.2.1 x.2.2.1 x.2.2.2.1 x.2.2.2.2) (a1,a2,a3,a4,a5) h0 hs (fun x hI=>by
  rw[show LP nb (fun x:α×β×γ×δ×ε=>⟨T x.1 x.2.1 x.2.2.1 x.2.2.2.1 x.2.2.2.2,M x.1 x.2.1 x.2.2.1 x.2.2.2.1 x.2.2.2.2⟩) (fun x=>I x.1 x.2.1 x.2.2.1 x.2.2.2.1 x.2.2.2.2) (fun x=>m x.1 x.2.1 x.2.2.1 x.2.2.2.1 x.2.2.2.2) x=Q5 nb T M I m x.1 x.2.1 x.2.2.1 x.2.2.2.1 x.2.2.2.2 from funext fun s=>propext ⟨fun ⟨⟨b1,b2,b3,b4,b5⟩,h⟩=>⟨b1,b2,b3,b4,b5,h⟩,fun ⟨b1,b2,b3,b4,b5,h⟩=>⟨(b1,b2,b3,b4,b5),h⟩⟩]
  exact hb x.1 x.2.1 x.2.2.1 x.2.2.2.1 x.2.2.2.2 hI))
theorem L5 {α β γ δ ε:Type} {T:α->β->γ->δ->ε->List (Nat×DV)} {M:α->β->γ->δ->ε->List (Nat×MO)} {I:α->β->γ->δ->ε->Prop} {m:α->β->γ->δ->ε->Nat} {a1:α} {a2:β} {a3:γ} {a4:δ} {a5:ε} (b1:α) (b2:β) (b3:γ) (b4:δ) (b5:ε) {s:St} (h1:I b1 b2 b3 b4 b5) (h2:m b1 b2 b3 b4 b5<m a1 a2 a3 a4 a5) (h3:Sub nb s ⟨T b1 b2 b3 b4 b5,M b1 b2 b3 b4 b5⟩):Q5 nb T M I m a1 a2 a3 a4 a5 s:=⟨b1,b2,b3,b4,b5,h1,h2,h3⟩
def Q7 {α β γ δ ε ζ η:Type} (nb:Nat) (T:α->β->γ->δ->ε->ζ->η->List (Nat×DV)) (M:α->β->γ->δ->ε->ζ->η->List (Nat×MO)) (I:α->β->γ->δ->ε->ζ->η->Prop) (m:α->β->γ->δ->ε->ζ->η->Nat) (a1:α) (a2:β) (a3:γ) (a4:δ) (a5:ε) (a6:ζ) (a7:η) (s:St):Prop:=∃ b1 b2 b3 b4 b5 b6 b7,I b1 b2 b3 b4 b5 b6 b7/\m b1 b2 b3 b4 b5 b6 b7<m a1 a2 a3 a4 a5 a6 a7/\Sub nb s ⟨T b1 b2 b3 b4 b5 b6 b7,M b1 b2 b3 b4 b5 b6 b7⟩
theorem l7 {α β γ δ ε ζ η:Type} (T:α->β->γ->δ->ε->ζ->η->List (Nat×DV)) (M:α->β->γ->δ->ε->ζ->η->List (Nat×MO)) (I:α->β->γ->δ->ε->ζ->η->Prop) (m:α->β->γ->δ->ε->ζ->η->Nat) (a1:α) (a2:β) (a3:γ) (a4:δ) (a5:ε) (a6:ζ) (a7:η) (e:go n nb 9999 gN c=.t (.loop x) K tm ms) (h0:I a1 a2 a3 a4 a5 a6 a7) (hs:Sub nb ⟨tm,ms⟩ ⟨T a1 a2 a3 a4 a5 a6 a7,M a1 a2 a3 a4 a5 a6 a7⟩)
 (hb:∀ a1 a2 a3 a4 a5 a6 a7,I a1 a2 a3 a4 a5 a6 a7->CG n nb Q (.t x (.lp (Q7 nb T M I m a1 a2 a3 a4 a5 a6 a7)::K) (T a1 a2 a3 a4 a5 a6 a7) (M a1 a2 a3 a4 a5 a6 a7))):CG n nb Q c:=tk 9999 e (TK.loop (α:=α×β×γ×δ×ε×ζ×η) (fun x=>⟨T x.1 x.2.1 x.2.2.1 x.2.2.2.1 x.2.2.2.2.1 x.2.2.2.2.2.1 x.2.2.2.2.2.2,M x.1 x.2.1 x.2.2.1 x.2.2.2.1 x.2.2.2.2.1 x.2.2.2.2.2.1 x.2.2.2.2.2.2⟩) (fun x=>I x.1 x.2.1 x.2.2.1 x.2.2.2.1 x.2.2.2.2.1 x.2.2.2.2.2.1 x.2.2.2.2.2.2) (fun x=>m x.1 x.2.1 x.2.2.1 x.2.2.2.1 x.2.2.2.2.1 x.2.2.2.2.2.1 x.2.2.2.2.2.2) (a1,a2,a3,a4,a5,a6,a7) h0 hs (fun x hI=>by
  rw[show LP nb (fun x:α×β×γ×δ×ε×ζ×η=>⟨T x.1 x.2.1 x.2.2.1 x.2.2.2.1 x.2.2.2.2.1 x.2.2.2.2.2.1 x.2.2.2.2.2.2,M x.1 x.2.1 x.2.2.1 x.2.2.2.1 x.2.2.2.2.1 x.2.2.2.2.2.1 x.2.2.2.2.2.2⟩) (fun x=>I x.1 x.2.1 x.2.2.1 x.2.2.2.1 x.2.2.2.2.1 x.2.2.2.2.2.1 x.2.2.2.2.2.2) (fun x=>m x.1 x.2.1 x.2.2.1 x.2.2.2.1 x.2.2.2.2.1 x.2.2.2.2.2.1 x.2.2.2.2.2.2) x=Q7 nb T M I m x.1 x.2.1 x.2.2.1 x.2.2.2.1 x.2.2.2.2.1 x.2.2.2.2.2.1 x.2.2.2.2.2.2 from funext fun s=>propext ⟨fun ⟨⟨b1,b2,b3,b4,b5,b6,b7⟩,h⟩=>⟨b1,b2,b3,b4,b5,b6,b7,h⟩,fun ⟨b1,b2,b3,b4,b5,b6,b7,h⟩=>⟨(b1,b2,b3,b4,b5,b6,b7),h⟩⟩]
  exact hb x.1 x.2.1 x.2.2.1 x.2.2.2.1 x.2.2.2.2.1 x.2.2.2.2.2.1 x.2.2.2.2.2.2 hI))
theorem L7 {α β γ δ ε ζ η:Type} {T:α->β->γ->δ->ε->ζ->η->List (Nat×DV)} {M:α->β->γ->δ->ε->ζ->η->List (Nat×MO)} {I:α->β->γ->δ->ε->ζ->η->Prop} {m:α->β->γ->δ->ε->ζ->η->Nat} {a1:α} {a2:β} {a3:γ} {a4:δ} {a5:ε} {a6:ζ} {a7:η} (b1:α) (b2:β) (b3:γ) (b4:δ) (b5:ε) (b6:ζ) (b7:η) {s:St} (h1:I b1 b2 b3 b4 b5 b6 b7) (h2:m b1 b2 b3 b4 b5 b6 b7<m a1 a2 a3 a4 a5 a6 a7) (h3:Sub nb s ⟨T b1 b2 b3 b4 b5 b6 b7,M b1 b2 b3 b4 b5 b6 b7⟩):Q7 nb T M I m a1 a2 a3 a4 a5 a6 a7 s:=⟨b1,b2,b3,b4,b5,b6,b7,h1,h2,h3⟩
end
theorem cG {f:FuncId} {F:FnI} {c:Code} {ds:List DV} {val:DV} (q:QF f F) (hb:F.body=some c) (hl:ds.length<=F.n) (hr:DV.qT ds=[]) (h:CG F.n 1 (Post tab F 1 val) (.t c [] (zipT 0 ds) [])):q6 Tryz.prog f ds (qx []) val []:=cO q hb hl hr h
theorem cL {f:FuncId} {F:FnI} {c:Code} (lo:Nat) (l:List (Nat×MO)) {ds:List DV} {val:DV} {out:List (Nat×MO)} (q:QF f F) (hb:F.body=some c) (hl:ds.length<=F.n) (hrf:(DV.qT ds).all (jJ l)=true) (hnb:l.all (fun p=>Nat.blt p.1 lo)=true)
 (h:TK Tryz.prog F.n lo (PostL tab F lo l val out) c [] ⟨zipT 0 ds,l⟩):q6 Tryz.prog f ds (qx l) val out:=by
 obtain⟨fn,f1,f2,f3,f4,_,f6⟩:=q
 exact callOk_ofL (Y:=tab) (F:=F) lo l f1 (f2.trans hb) f3 f4 f6 hl hrf hnb h
end
end Go.Lens.Tb
end
section
namespace Go.Lens
open Go.Proofs
def gh0:Gh:=⟨0,⟨fun _ _=>none,fun _=>none⟩,fun _=>default,fun _=>none⟩
theorem rd0 (w:World) (b o:Nat):(gh0.rd w).cell b o=w.cell? ⟨b,o,none⟩:=by simp[Gh.rd,gh0]
theorem inv0 [Lz] (w:World) (hl:∀ b o,Lz.L b=some o->w.heap[b]? =some o):Z4 gh0 (qx []) w:=by
  refine⟨fun h o e=>(by cases e),fun b h e=>(by cases e),fun b h e=>(by cases e),fun k o h e=>(by cases e),fun b o v hb=>?_,fun r es hb=>?_,zq _,fun b o e=>⟨rfl,hl b o e⟩⟩
  · exact absurd hb (Nat.not_lt_zero _)
  · exact absurd hb (Nat.not_lt_zero _)
section
variable {H:Type} {enc:TypeId×Value->H} {P:Program} {w:World} {base:Nat} {spare:Nat->Bool} {held:Bool} {fuel:Nat} {t e:TypeId}
theorem oneCell_lit {v:Value} (h:isLit v=true):v.oneCell'=true:=by
  unfold isLit at h
  split at h<;>first|rfl|cases h
theorem relElems_of {α:Type} {encE:α->List PV} {sz b:Nat} {R:Rd} (hlen:∀ x,(encE x).length=sz):∀ (n off:Nat),(∀ i,i<n->∃ x,qW R (encE x) b (off+i*sz))->∃ l:List α,l.length=n/\qQ R (l.map encE) b off sz
  | 0,off,_=>⟨[],rfl,by simp only[zZ,qQ]⟩
  | n+1,off,h=>by
    obtain⟨x,hx⟩:=h 0 (by omega)
    obtain⟨l,hl,hr⟩:=relElems_of hlen n (off+sz) fun i hi=>by
      obtain⟨y,hy⟩:=h (i+1) (by omega)
      exact⟨y,by rw[show off+sz+i*sz=off+(i+1)*sz from by rw[Nat.add_mul];omega];exact hy⟩
    refine⟨x::l,by simp[hl],?_⟩
    simp only[zw,qQ]
    exact⟨hlen x,by simpa using hx,hr⟩
theorem read_slice {α:Type} {encE:α->List PV} {vals:α->List Value} {sz:Nat} {cs:List Value} {x:DataW H×List MemPlace} (ht:P.underlying t=some (.slice e)) (hc:P.cellsOf e=sz) (hsz:0<sz)
    (hE:∀ n c y,DataW.trod enc P w base spare held n e c=some y->∃ a:α,c=vals a) (hv:∀ a,(vals a).length=sz) (hlen:∀ a,(encE a).length=sz)
    (hR:∀ a b off,(∀ i,i<sz->w.cell? ⟨b,off+i,none⟩=(vals a)[i]?)->qW (gh0.rd w) (encE a) b off)
    (h:DataW.trod enc P w base spare held fuel t cs=some x) :
    ∃ (l:List α) (v:Value),cs=[v]/\qN (gh0.rd w) (.slice (l.map encE)) v/\((l=[]/\x.1=.nil)\/∃ es rest,x.1=.slice es rest/\es.length=l.length):=by
  rcases DataW.trod_slice ht h with ⟨rfl,rfl⟩|⟨a,len,cap,elems,rest,n,_,rfl,rfl,hb,hl,hm,hlen',hel,_,_⟩
  · refine⟨[],_,rfl,?_,.inl ⟨rfl,rfl⟩⟩
    simp only[zZ,qN]
    exact⟨none,0,rfl,zz _,.inl trivial⟩
  · have each:∀ i,i<len->∃ a':α,∀ j,j<sz->w.cell? ((a.add (i*sz)).add j)=(vals a')[j]? :=by
      intro i hi
      have h1:=hel i hi
      have h2:∃ y,elems[i]? =some y:=⟨elems[i]'(by omega),zm (by omega)⟩
      obtain⟨y,hy⟩:=h2
      rw[hy,hc,ql] at h1
      obtain⟨c,hc1,hc2⟩:=h1
      obtain⟨a',rfl⟩:=hE _ _ _ hc2
      obtain⟨_,_,k3⟩:=World.cells?_some hc1
      exact⟨a',fun j hj=>k3 j hj⟩
    by_cases h0:len=0
    · subst h0
      refine⟨[],_,rfl,?_,.inr ⟨_,_,rfl,by simp[hlen']⟩⟩
      simp only[zZ,qN]
      exact⟨some a,cap,rfl,hl,.inl trivial⟩
    · have hspot:a.spot=none:=by
        obtain⟨a',ha⟩:=each 0 (by omega)
        have h1:=ha 0 hsz
        have h2:(vals a')[0]?≠none:=by
          rw[zm (by rw[hv];exact hsz)];simp
        simp only[Nat.zero_mul,Addr.add,qq] at h1
        rw[<-h1] at h2
        unfold World.cell? at h2
        split at h2
        · cases hs:a.spot with
          | none=>rfl
          | some k=>rw[hs] at h2;simp at h2
        · exact absurd Z h2
      obtain⟨b,off,spot⟩:=a
      simp only at hspot
      subst hspot
      have addr:∀ i j,((⟨b,off,none⟩:Addr).add (i*sz)).add j=⟨b,off+i*sz+j,none⟩:=by
        intro i j
        unfold Addr.add
        by_cases h1:i*sz=0<;>by_cases h2:j=0<;>simp[h1,h2]
      obtain⟨l,hl1,hl2⟩:=relElems_of (R:=gh0.rd w) (b:=b) hlen len off fun i hi=>by
        obtain⟨a',ha⟩:=each i hi
        exact⟨a',hR a' b _ fun j hj=>by rw[<-addr];exact ha j hj⟩
      refine⟨l,_,rfl,?_,.inr ⟨_,_,rfl,by simp[hlen',hl1]⟩⟩
      simp only[qN,zJ]
      exact⟨some ⟨b,off,none⟩,cap,by rw[hl1],by rw[hl1];exact hl,.inr ⟨b,off,sz,rfl,hl2⟩⟩
theorem relCells_lits {vs:List Value} (hl:∀ v∈vs,isLit v=true):∀ {b off:Nat},(∀ i,i<vs.length->w.cell? ⟨b,off+i,none⟩=vs[i]?)->qW (gh0.rd w) (vs.map .lit) b off:=by
  induction vs with
  | nil=>intro b off _;simp only[zZ,qW]
  | cons v vs ih=>
    intro b off h
    simp only[zw,qW]
    refine⟨⟨v,?_,oneCell_lit (hl v (by simp)),?_⟩,ih (fun u hu=>hl u (by simp[hu])) fun i hi=>?_⟩
    · rw[rd0];simpa using h 0 (by simp)
    · simp only[qN];exact⟨trivial,hl v (by simp)⟩
    · have:=h (i+1) (by simpa using hi)
      rw[show off+1+i=off+(i+1) from by omega];simpa using this
end
end Go.Lens
end
section
namespace Go.Proofs
open Go.Shelf
def Tryz.laysM171_ren:Go.Shelf.Ren:=⟨fun|171=>185|243=>255|246=>296|283=>323|284=>324|285=>325|286=>326|129=>322|317=>345|318=>346|319=>347|320=>348|337=>355|338=>356|n=>n,fun|3=>3|9=>9|2=>2|4=>4|171=>407|0=>0|53=>406|37=>150|5=>5|173=>409|212=>434|51=>394|20=>20|213=>435|46=>378|232=>448|233=>449|n=>n,fun|17=>3|18=>6|19=>7|n=>n⟩
theorem Tryz.laysM171:Go.Proofs.LaysM.n171 Tryz.prog Tryz.laysM171_ren:={
  mixed:=by kernel_rfl
  f129:=Tryz.func322.trans (congrArg some (by kernel_rfl))
  f171:=Tryz.func185.trans (congrArg some (by kernel_rfl))
  f243:=Tryz.func255.trans (congrArg some (by kernel_rfl))
  f246:=Tryz.func296.trans (congrArg some (by kernel_rfl))
  f283:=Tryz.func323.trans (congrArg some (by kernel_rfl))
  f284:=Tryz.func324.trans (congrArg some (by kernel_rfl))
  f285:=Tryz.func325.trans (congrArg some (by kernel_rfl))
  f286:=Tryz.func326.trans (congrArg some (by kernel_rfl))
  f317:=Tryz.func345.trans (congrArg some (by kernel_rfl))
  f318:=Tryz.func346.trans (congrArg some (by kernel_rfl))
  f319:=Tryz.func347.trans (congrArg some (by kernel_rfl))
  f320:=Tryz.func348.trans (congrArg some (by kernel_rfl))
  f337:=Tryz.func355.trans (congrArg some (by kernel_rfl))
  f338:=Tryz.func356.trans (congrArg some (by kernel_rfl))
  t0:=Tryz.underlying0
  a0:=Tryz.isAgg0
  z0:=Tryz.sizeOf0
  v0:=Tryz.zeroValue0
  t2:=Tryz.underlying2
  a2:=Tryz.isAgg2
  z2:=Tryz.sizeOf2
  v2:=Tryz.zeroValue2
  t3:=Tryz.underlying3
  a3:=Tryz.isAgg3
  z3:=Tryz.sizeOf3
  v3:=Tryz.zeroValue3
  t4:=Tryz.underlying4
  a4:=Tryz.isAgg4
  z4:=Tryz.sizeOf4
  v4:=Tryz.zeroValue4
  t5:=Tryz.underlying5
  a5:=Tryz.isAgg5
  z5:=Tryz.sizeOf5
  v5:=Tryz.zeroValue5
  t9:=Tryz.underlying9
  a9:=Tryz.isAgg9
  z9:=Tryz.sizeOf9
  v9:=Tryz.zeroValue9
  t20:=Tryz.underlying20
  a20:=Tryz.isAgg20
  z20:=Tryz.sizeOf20
  v20:=Tryz.zeroValue20
  t37:=Tryz.underlying150
  a37:=Tryz.isAgg150
  z37:=Tryz.sizeOf150
  v37:=Tryz.zeroValue150
  t46:=Tryz.underlying378
  a46:=Tryz.isAgg378
  z46:=Tryz.sizeOf378
  v46:=Tryz.zeroValue378
  t51:=Tryz.underlying394
  a51:=Tryz.isAgg394
  z51:=Tryz.sizeOf394
  v51:=Tryz.zeroValue394
  t53:=Tryz.underlying406
  a53:=Tryz.isAgg406
  z53:=Tryz.sizeOf406
  v53:=Tryz.zeroValue406
  t171:=Tryz.underlying407
  a171:=Tryz.isAgg407
  z171:=Tryz.sizeOf407
  v171:=Tryz.zeroValue407
  t173:=Tryz.underlying409
  a173:=Tryz.isAgg409
  z173:=Tryz.sizeOf409
  v173:=Tryz.zeroValue409
  t212:=Tryz.underlying434
  a212:=Tryz.isAgg434
  z212:=Tryz.sizeOf434
  v212:=Tryz.zeroValue434
  t213:=Tryz.underlying435
  a213:=Tryz.isAgg435
  z213:=Tryz.sizeOf435
  t232:=Tryz.underlying448
  a232:=Tryz.isAgg448
  z232:=Tryz.sizeOf448
  v232:=Tryz.zeroValue448
  t233:=Tryz.underlying449
  a233:=Tryz.isAgg449
  z233:=Tryz.sizeOf449
  v233:=Tryz.zeroValue449
  g17:=by kernel_rfl
  g18:=by kernel_rfl
  g19:=by kernel_rfl
  i0:=by kernel_rfl
  i2:=by kernel_rfl
  i3:=by kernel_rfl
  i4:=by kernel_rfl
  i5:=by kernel_rfl
  i9:=by kernel_rfl
  i20:=by kernel_rfl
  i37:=by kernel_rfl
  i46:=by kernel_rfl
  i51:=by kernel_rfl
  i53:=by kernel_rfl
  i171:=by kernel_rfl
  i173:=by kernel_rfl
  i212:=by kernel_rfl
  i232:=by kernel_rfl
  i233:=by kernel_rfl
  m17:=by kernel_rfl
  m18:=by kernel_rfl
  m19:=by kernel_rfl }
open Go.RowKit Go.Sort Go.Lib in
theorem Tryz.strconv_Itoa (n:Int) (h0: -9223372036854775808<=n) (h1:n<=9223372036854775807) (w:World) (htab:Lib.TabIs Tryz.prog w "internal/strconv.uint64pow10" .u64 Lib.pow10Tab) :
    Calls Tryz.prog 185 #[.int .i64 n] w fun e w'=>e=.returned (.string ⟨(Lib.itoa n).toArray⟩)/\∃ k os,w'=grow (w.drewN k) os:=Any.strconv_Itoa Tryz.laysM171 n h0 h1 w htab
end Go.Proofs
end
section
namespace Go.Lens.Tb
open Go.Proofs
variable [Lz]
def ext:Ext:=⟨281,308,287,310,185,150,5⟩
def qH:Prop:=∃ g T fr,Tryz.prog.globalNamed "internal/strconv.uint64pow10" =some g/\Lz.L g=some (.cells (Lib.pow10Tab.map fun z=>Value.int .u64 z).toArray T fr)
theorem ext_ok (h:qH):ExtOk Tryz.prog ext:=by
  refine⟨fun vs w=>?_,fun vs w=>?_,fun vs w=>?_,⟨#[3],fun vs w=>?_⟩,Tryz.underlying150,Tryz.call185,fun n h0 h1 w ht=>?_,h⟩
  · exact run_callFunc_extern Tryz.func281 (by kernel_rfl) (by kernel_rfl) (by kernel_rfl) (by kernel_rfl) vs w
  · exact run_callFunc_extern Tryz.func310 (by kernel_rfl) (by kernel_rfl) (by kernel_rfl) (by kernel_rfl) vs w
  · exact run_callFunc_extern Tryz.func287 (by kernel_rfl) (by kernel_rfl) (by kernel_rfl) (by kernel_rfl) vs w
  · exact run_callFunc_extern (e:=Extern.BytealgMakeNoZero.makeNoZero #[3] #[150]) Tryz.func308 (by kernel_rfl) (by kernel_rfl) (by kernel_rfl) (by kernel_rfl) vs w
  · refine (Tryz.strconv_Itoa n h0 h1 w ht).mono ?_
    rintro e w' ⟨he,k,os,rfl⟩
    exact⟨he,rfl,rfl,rfl,os,rfl⟩
noncomputable def borT:Tr Unit:=(.node (.node (.node (.node (.node (.node .nil 22 () .nil) 23 () .nil) 24 () (.node (.node .nil 29 () .nil) 30 () .nil)) 36 () (.node (.node (.node .nil 41 () .nil) 42 () .nil) 45 () (.node (.node .nil 48 () .nil) 50 () .nil))) 51 () (.node (.node (.node (.node .nil 59 () .nil) 78 () .nil) 81 () (.node (.node .nil 97 () .nil) 100 () .nil)) 102 () (.node (.node (.node .nil 103 () .nil) 106 () .nil) 107 () (.node .nil 108 () .nil)))) 112 () (.node (.node (.node (.node (.node .nil 113 () .nil) 115 () .nil) 137 () (.node (.node .nil 151 () .nil) 156 () .nil)) 162 () (.node (.node (.node .nil 163 () .nil) 165 () .nil) 169 () (.node (.node .nil 179 () .nil) 180 () .nil))) 188 () (.node (.node (.node (.node .nil 189 () .nil) 190 () .nil) 217 () (.node (.node .nil 251 () .nil) 257 () .nil)) 263 () (.node (.node (.node .nil 264 () .nil) 276 () .nil) 304 () (.node .nil 307 () .nil)))))
noncomputable def bor:FuncId->Bool:=fun f=>match borT.get f with|some _=>true|none=>false
noncomputable def orc (k:Nat):Orc:=xRun bor (orO (extO ext) (mergeO 121)) ft tab (drawnX tab) k
theorem orc_ok (h:qH) (hm:kB Tryz.prog (mergeO 121)) (k:Nat):kB Tryz.prog (orc k):=
  haveI:=tab_ok
  xRun_ok (orO_ok (extO_ok (ext_ok h)) hm) ft_ok (fun _ hO n nb=>drawnX_ok mixed hO n nb) k
end Go.Lens.Tb
end
section
namespace Go.Lens.Tb
set_option maxRecDepth 1000000
open Go.Proofs
abbrev qI (x:Int):PV:=.lit (.int .i64 x)
abbrev qB (x:Bool):PV:=.lit (.bool x)
abbrev qS (x:Array UInt8):PV:=.lit (.string ⟨x⟩)
noncomputable def c19:Code:=(fn19.body).getD .skip
def hdC:Code->Code
  | .seq x _=>x
  | c=>c
def tlC:Code->Code
  | .seq _ y=>y
  | c=>c
noncomputable def run (c:Code) (s:St):Option (Exit×St):=xCode (borO bor (orc 60)) tab fn19 1 (drawnX tab (borO bor (orc 60)) fn19.n 1) c s
def st0:St:=⟨[],[]⟩
def st1:St:=⟨[(0,(.pv (qB false)))],[]⟩
def st2:St:=⟨[(2,(.pv (qI 0))),(1,(.pv (qI 120)))]++st1.tm,[(7,(.arr 0 7 46 [[qS #[97],qI 7,qI 10,qI 40,qI 0,qI 180,qI 10],[qS #[98],qI 5,qI 40,qI 20,qI 0,qI 180,qI 30]])),(3,(.arr 0 1 3 [[qI 5],[qI 20],[qI 5]]))]⟩
def st3:St:=⟨[(4,(.pv (qI 0))),(3,(.aref 139 1))]++st2.tm,[(139,(.arr 1 1 3 [[qI 30],[qI 120]])),(50,(.arr 0 1 3 [[qI 1],[qI 0]])),(13,(.arr 0 7 46 [[qS #[97],qI 7,qI 10,qI 40,qI 0,qI 180,qI 10],[qS #[98],qI 5,qI 40,qI 20,qI 0,qI 180,qI 30]])),(9,(.arr 0 1 3 [[qI 5],[qI 20],[qI 5]]))]++st2.ms⟩
def st4:St:=⟨[(6,(.pv (qI 23)))]++st3.tm,[(57,(.arr 0 1 3 [[qI 0],[qI 1]])),(145,(.arr 0 7 46 [[qS #[97],qI 7,qI 10,qI 40,qI 0,qI 180,qI 10],[qS #[98],qI 5,qI 40,qI 20,qI 0,qI 180,qI 30]])),(141,(.arr 0 1 3 [[qI 5],[qI 20],[qI 5]]))]++st3.ms⟩
def st5:St:=⟨[(8,(.pv (qI 0))),(7,(.bref 8 0))]++st4.tm,[(8,(.box 53 [(.aref 623 1),(.pv (qI 12)),(.pv (qI 160))])),(8,(.box 53 [.nils,(.pv (qI 0)),(.pv (qI 0))])),(147,(.arr 0 1 3 [[qI 5],[qI 20],[qI 5]])),(151,(.arr 0 7 46 [[qS #[97],qI 7,qI 10,qI 40,qI 0,qI 180,qI 10],[qS #[98],qI 5,qI 40,qI 20,qI 0,qI 180,qI 30]])),(623,(.arr 1 1 3 [[qI 1],[qI 0]])),(151,(.arr 0 7 46 [[qS #[97],qI 7,qI 10,qI 40,qI 0,qI 180,qI 10],[qS #[98],qI 5,qI 40,qI 20,qI 0,qI 180,qI 30]])),(147,(.arr 0 1 3 [[qI 5],[qI 20],[qI 5]]))]++st4.ms⟩
def st6:St:=⟨[(102,(.pv (qB false)))]++st5.tm,[(90,(.arr 0 1 3 [[qI 1],[qI 0]])),(83,(.arr 0 1 3 [[qI 30],[qI 120]]))]++st5.ms⟩
def st7:St:=⟨[(11,(.aref 112 0)),(10,(.aref 109 0)),(9,(.aref 106 0))]++st6.tm,[(112,(.arr 0 2 174 [[qS #[98],qS #[50]],[qS #[99],qS #[52]]])),(109,(.arr 0 2 174 [[qS #[97],qS #[49]],[qS #[98],qS #[51]]])),(106,(.arr 0 2 174 [[qS #[97],qS #[49]],[qS #[98],qS #[50]]]))]++st6.ms⟩
def st8:St:=⟨[(13,(.pv (qI 0))),(12,(.pv (qS #[97,61,49,32,98,61,50])))]++st7.tm,st7.ms⟩
def st9:St:=⟨[(16,(.pv (qI 0))),(14,(.pv (.slice [[qS #[98],qS #[51]],[qS #[99],qS #[52]]])))]++st8.tm,[(106,(.arr 0 2 174 [[qS #[97],qS #[49]],[qS #[98],qS #[50]]])),(109,(.arr 0 2 174 [[qS #[97],qS #[49]],[qS #[98],qS #[51]]])),(112,(.arr 0 2 174 [[qS #[98],qS #[50]],[qS #[99],qS #[52]]]))]++st8.ms⟩
def st10:St:=⟨[(19,(.pv (qI 29))),(18,(.pv (.slice [[qS #[97]]])))]++st9.tm,[(106,(.arr 0 2 174 [[qS #[97],qS #[49]],[qS #[98],qS #[50]]])),(130,(.arr 0 2 174 [[qS #[97],qS #[53]]])),(132,(.arr 0 2 174 [[qS #[97],qS #[54]]])),(132,(.arr 0 2 174 [[qS #[97],qS #[54]]])),(130,(.arr 0 2 174 [[qS #[97],qS #[53]]]))]++st9.ms⟩
def st11:St:=⟨[(162,(.pv (qB false)))]++st10.tm,[(160,(.arr 0 1 9 [[qS #[97]]])),(154,(.arr 0 2 175 [[qS #[98],qS #[51]],[qS #[99],qS #[52]]])),(639,(.arr 1 2 175 [[qS #[98],qS #[51]],[qS #[99],qS #[52]]]))]++st10.ms⟩
def st12:St:=⟨[(22,(.pv (qI 0))),(20,(.aref 678 5))]++st11.tm,[(678,(.arr 5 3 116 [[qS #[97,99,116],qS #[115,116,97,114,116],qI 0],[qS #[97,99,116],qS #[99,108,111,115,101],qI 0],[qS #[114,101,112,101,97,116],qS #[],qI 2],[qS #[119,97,105,116],qS #[],qI 3],[qS #[97,99,116],qS #[115,97,116,117,114,97,116,101],qI 0],[qS #[101,110,100],qS #[],qI 0]]))]++st11.ms⟩
def st13:St:=⟨[(25,(.pv (qI 0))),(24,(.aref 765 3)),(23,(.bref 24 0))]++st12.tm,[(24,(.box 81 [(.pv (qS #[99,108,111,115,101,100])),(.pv (qI 2)),(.pv (qB false)),(.pv (qB false))])),(24,(.box 81 [(.pv (qS #[])),(.pv (qI 0)),(.pv (qB false)),(.pv (qB false))])),(765,(.arr 3 2 164 [[qI 0,qS #[115,116,97,114,116]],[qI 0,qS #[99,108,111,115,101]],[qI 3,qS #[115,97,116,117,114,97,116,101]],[qI 6,qS #[115,97,116,117,114,97,116,101]]]))]++st12.ms⟩
def st14:St:=⟨[(28,(.pv (qI 18))),(27,.nils)]++st13.tm,[(27,(.box 81 [(.pv (qS #[105,100,108,101])),(.pv (qI 0)),(.pv (qB false)),(.pv (qB false))])),(27,(.box 81 [(.pv (qS #[])),(.pv (qI 0)),(.pv (qB false)),(.pv (qB false))])),(179,(.arr 0 3 116 [[qS #[97,99,116],qS #[99,108,111,115,101],qI 0]]))]++st13.ms⟩
def st15:St:=⟨[(211,(.pv (qB false)))]++st14.tm,[(209,(.arr 0 2 176 [[qI 0,qS #[115,116,97,114,116]],[qI 0,qS #[99,108,111,115,101]],[qI 3,qS #[115,97,116,117,114,97,116,101]],[qI 6,qS #[115,97,116,117,114,97,116,101]]])),(781,(.arr 3 2 176 [[qI 0,qS #[115,116,97,114,116]],[qI 0,qS #[99,108,111,115,101]],[qI 3,qS #[115,97,116,117,114,97,116,101]],[qI 6,qS #[115,97,116,117,114,97,116,101]]]))]++st14.ms⟩
def st16:St:=⟨[(29,(.bref 786 0))]++st15.tm,[(784,(.box 267 [.nils,.nils,.nils])),(786,(.box 247 [(.bref 784 0)]))]++st15.ms⟩
def st17:St:=⟨[(214,(.pv (qB false)))]++st16.tm,st16.ms⟩
def st18:St:=⟨[(227,(.pv (qB false))),(226,(.pv (qI 9))),(246,(.pv (qB false))),(33,(.pv (qI 0))),(32,(.pv (qS #[99,108,111,115,101,100,32,48]))),(31,(.bref 32 0)),(225,(.pv (qI 9))),(224,(.aref 225 0))]++st17.tm,[(139,(.arr 1 1 3 [[qI 30],[qI 120]])),(623,(.arr 1 1 3 [[qI 1],[qI 0]])),(8,(.box 53 [(.aref 623 1),(.pv (qI 12)),(.pv (qI 160))])),(106,(.arr 0 2 174 [[qS #[97],qS #[49]],[qS #[98],qS #[50]]])),(109,(.arr 0 2 174 [[qS #[97],qS #[49]],[qS #[98],qS #[51]]])),(112,(.arr 0 2 174 [[qS #[98],qS #[50]],[qS #[99],qS #[52]]])),(678,(.arr 5 3 116 [[qS #[97,99,116],qS #[115,116,97,114,116],qI 0],[qS #[97,99,116],qS #[99,108,111,115,101],qI 0],[qS #[114,101,112,101,97,116],qS #[],qI 2],[qS #[119,97,105,116],qS #[],qI 3],[qS #[97,99,116],qS #[115,97,116,117,114,97,116,101],qI 0],[qS #[101,110,100],qS #[],qI 0]])),(24,(.box 81 [(.pv (qS #[99,108,111,115,101,100])),(.pv (qI 2)),(.pv (qB false)),(.pv (qB false))])),(765,(.arr 3 2 164 [[qI 0,qS #[115,116,97,114,116]],[qI 0,qS #[99,108,111,115,101]],[qI 3,qS #[115,97,116,117,114,97,116,101]],[qI 6,qS #[115,97,116,117,114,97,116,101]]])),(1005,(.arr 4 9 154 [[qI 1,qS #[105,100,108,101],qI 0,qB false,qB false,(.slice [[qS #[109],qI 7,qI 10,qI 40,qI 0,qI 180,qI 10]]),(.slice []),(.slice []),(.slice [])],[qI 2,qS #[111,112,101,110],qI 0,qB false,qB false,(.slice [[qS #[109],qI 7,qI 10,qI 40,qI 0,qI 180,qI 10]]),(.slice []),(.slice []),(.slice [[qI 2,qS #[115,116,97,114,116]]])],[qI 2,qS #[99,108,111,115,101,100],qI 0,qB false,qB false,(.slice [[qS #[109],qI 7,qI 10,qI 40,qI 0,qI 180,qI 10]]),(.slice []),(.slice []),(.slice [[qI 2,qS #[115,116,97,114,116]],[qI 2,qS #[99,108,111,115,101]]])]])),(998,(.arr 4 5 119 [[qI 1,qS #[116,97,114,103,101,116],(.slice [[qS #[109]]]),(.slice [[qI 1],[qI 7],[qI 10],[qI 40],[qI 0],[qI 180],[qI 10]]),qS #[]],[qI 2,qS #[97,99,116],(.slice [[qS #[115,116,97,114,116]]]),(.slice [[qI 2]]),qS #[]],[qI 3,qS #[97,99,116],(.slice [[qS #[99,108,111,115,101]]]),(.slice [[qI 2]]),qS #[]]])),(959,(.arr 4 5 119 [[qI 1,qS #[116,97,114,103,101,116],(.slice [[qS #[109]]]),(.slice [[qI 1],[qI 7],[qI 10],[qI 40],[qI 0],[qI 180],[qI 10]]),qS #[]],[qI 2,qS #[97,99,116],(.slice [[qS #[115,116,97,114,116]]]),(.slice [[qI 2]]),qS #[]],[qI 3,qS #[97,99,116],(.slice [[qS #[99,108,111,115,101]]]),(.slice [[qI 2]]),qS #[]],[qI 4,qS #[111,98,115,101,114,118,101],(.slice [[qS #[109]]]),(.slice [[qI 2]]),qS #[]],[qI 5,qS #[117,110,100,111],(.slice []),(.slice []),qS #[]]])),(784,(.box 267 [(.aref 959 4),(.aref 998 4),(.aref 1005 4)])),(786,(.box 247 [(.bref 784 0)])),(225,(.arr 0 3 178 [[qS #[116,97,114,103,101,116,32,109,32,49,32,55,32,49,48,32,52,48,32,48,32,49,56,48,32,49,48],qS #[100,111,110,101,32,49],qI 0],[qS #[111,98,115,101,114,118,101,32,109,32,49],qS #[],qI 19],[qS #[97,99,116,32,115,116,97,114,116,32,50],qS #[100,111,110,101,32,50],qI 0],[qS #[97,99,116,32,99,108,111,115,101,32,50],qS #[100,111,110,101,32,51],qI 0],[qS #[111,98,115,101,114,118,101,32,109,32,50],qS #[100,111,110,101,32,52],qI 0],[qS #[117,110,100,111],qS #[100,111,110,101,32,53],qI 0],[qS #[117,110,100,111],qS #[],qI 18],[qS #[116,97,114,103,101,116,115],qS #[109],qI 0],[qS #[115,116,97,116,101],qS #[99,108,111,115,101,100,32,48],qI 0]])),(32,(.box 178 [(.pv (qS #[115,116,97,116,101])),(.pv (qS #[99,108,111,115,101,100,32,48])),(.pv (qI 0))]))]⟩
def st19:St:=⟨[(34,(.pv (qS #[49,32,116,97,114,103,101,116,32,109,32,49,32,55,32,49,48,32,52,48,32,48,32,49,56,48,32,49,48,35,53,51,49,53,57,55,52,10,50,32,97,99,116,32,115,116,97,114,116,32,50,35,50,53,52,55,54,55,48,10,51,32,97,99,116,32,99,108,111,115,101,32,50,35,48,51,50,49,54,48,57,10,52,32,111,98,115,101,114,118,101,32,109,32,50,35,52,50,53,57,50,55,49,10,53,32,117,110,100,111,35,53,51,56,51,52,53,57,10])))]++st18.tm,st18.ms⟩
def st20:St:=⟨[(37,(.pv (qI 28))),(36,(.pv (qI 119))),(35,(.aref 1053 4))]++st19.tm,[(1053,(.arr 4 5 119 [[qI 1,qS #[116,97,114,103,101,116],(.slice [[qS #[109]]]),(.slice [[qI 1],[qI 7],[qI 10],[qI 40],[qI 0],[qI 180],[qI 10]]),qS #[]],[qI 2,qS #[97,99,116],(.slice [[qS #[115,116,97,114,116]]]),(.slice [[qI 2]]),qS #[]],[qI 3,qS #[97,99,116],(.slice [[qS #[99,108,111,115,101]]]),(.slice [[qI 2]]),qS #[]],[qI 4,qS #[111,98,115,101,114,118,101],(.slice [[qS #[109]]]),(.slice [[qI 2]]),qS #[]],[qI 5,qS #[117,110,100,111],(.slice []),(.slice []),qS #[]]]))]++st19.ms⟩
def st21:St:=⟨[(0,(.pv (qB true))),(37,(.pv (qI 28))),(36,(.pv (qI 119))),(35,(.aref 1053 4)),(34,(.pv (qS #[49,32,116,97,114,103,101,116,32,109,32,49,32,55,32,49,48,32,52,48,32,48,32,49,56,48,32,49,48,35,53,51,49,53,57,55,52,10,50,32,97,99,116,32,115,116,97,114,116,32,50,35,50,53,52,55,54,55,48,10,51,32,97,99,116,32,99,108,111,115,101,32,50,35,48,51,50,49,54,48,57,10,52,32,111,98,115,101,114,118,101,32,109,32,50,35,52,50,53,57,50,55,49,10,53,32,117,110,100,111,35,53,51,56,51,52,53,57,10]))),(227,(.pv (qB false))),(226,(.pv (qI 9))),(246,(.pv (qB false))),(33,(.pv (qI 0))),(32,(.pv (qS #[99,108,111,115,101,100,32,48]))),(31,(.bref 32 0)),(225,(.pv (qI 9))),(224,(.aref 225 0)),(214,(.pv (qB false))),(29,(.bref 786 0)),(211,(.pv (qB false))),(28,(.pv (qI 18))),(27,.nils),(25,(.pv (qI 0))),(24,(.aref 765 3)),(23,(.bref 24 0)),(22,(.pv (qI 0))),(20,(.aref 678 5)),(162,(.pv (qB false))),(19,(.pv (qI 29))),(18,(.pv (.slice [[qS #[97]]]))),(16,(.pv (qI 0))),(14,(.pv (.slice [[qS #[98],qS #[51]],[qS #[99],qS #[52]]]))),(13,(.pv (qI 0))),(12,(.pv (qS #[97,61,49,32,98,61,50]))),(11,(.aref 112 0)),(10,(.aref 109 0)),(9,(.aref 106 0)),(102,(.pv (qB false))),(8,(.pv (qI 0))),(7,(.bref 8 0)),(6,(.pv (qI 23))),(4,(.pv (qI 0))),(3,(.aref 139 1)),(2,(.pv (qI 0))),(1,(.pv (qI 120)))],st20.ms⟩
noncomputable def r0:Code:=c19
noncomputable def r1:Code:=tlC r0
noncomputable def r2:Code:=tlC r1
noncomputable def r3:Code:=tlC r2
noncomputable def r4:Code:=tlC r3
noncomputable def r5:Code:=tlC r4
noncomputable def r6:Code:=tlC r5
noncomputable def r7:Code:=tlC r6
noncomputable def r8:Code:=tlC r7
noncomputable def r9:Code:=tlC r8
noncomputable def r10:Code:=tlC r9
noncomputable def r11:Code:=tlC r10
noncomputable def r12:Code:=tlC r11
noncomputable def r13:Code:=tlC r12
noncomputable def r14:Code:=tlC r13
noncomputable def r15:Code:=tlC r14
noncomputable def r16:Code:=tlC r15
noncomputable def r17:Code:=tlC r16
noncomputable def r18:Code:=tlC r17
noncomputable def r19:Code:=tlC r18
noncomputable def r20:Code:=tlC r19
noncomputable def r21:Code:=tlC r20
end Go.Lens.Tb
end
