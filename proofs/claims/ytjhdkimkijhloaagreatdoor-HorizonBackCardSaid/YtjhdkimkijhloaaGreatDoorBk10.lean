import Derived.Test.YtjhdkimkijhloaaGreatDoorBk4
import Derived.Test.YtjhdkimkijhloaaGreatDoorProg
import Derived.Tactics
set_option linter.all false
namespace Go.Abs
set_option maxRecDepth 100000
theorem tmix : Go.Proofs.Tryz.prog.follows .mixedOrders = true := by kernel_rfl
theorem k3 : compileFn Go.Proofs.Tryz.prog 3 = some fn3 := by kernel_rfl
theorem k4 : compileFn Go.Proofs.Tryz.prog 4 = some fn4 := by kernel_rfl
theorem k13 : compileFn Go.Proofs.Tryz.prog 13 = some fn13 := by kernel_rfl
theorem k14 : compileFn Go.Proofs.Tryz.prog 14 = some fn14 := by kernel_rfl
theorem k15 : compileFn Go.Proofs.Tryz.prog 15 = some fn15 := by kernel_rfl
theorem k16 : compileFn Go.Proofs.Tryz.prog 16 = some fn16 := by kernel_rfl
theorem k17 : compileFn Go.Proofs.Tryz.prog 17 = some fn17 := by kernel_rfl
theorem k18 : compileFn Go.Proofs.Tryz.prog 18 = some fn18 := by kernel_rfl
theorem k19 : compileFn Go.Proofs.Tryz.prog 19 = some fn19 := by kernel_rfl
theorem k20 : compileFn Go.Proofs.Tryz.prog 20 = some fn20 := by kernel_rfl
theorem k21 : compileFn Go.Proofs.Tryz.prog 21 = some fn21 := by kernel_rfl
theorem k22 : compileFn Go.Proofs.Tryz.prog 22 = some fn22 := by kernel_rfl
theorem k23 : compileFn Go.Proofs.Tryz.prog 23 = some fn23 := by kernel_rfl
theorem k24 : compileFn Go.Proofs.Tryz.prog 24 = some fn24 := by kernel_rfl
theorem k25 : compileFn Go.Proofs.Tryz.prog 25 = some fn25 := by kernel_rfl
theorem k26 : compileFn Go.Proofs.Tryz.prog 26 = some fn26 := by kernel_rfl
theorem k27 : compileFn Go.Proofs.Tryz.prog 27 = some fn27 := by kernel_rfl
theorem k28 : compileFn Go.Proofs.Tryz.prog 28 = some fn28 := by kernel_rfl
theorem k29 : compileFn Go.Proofs.Tryz.prog 29 = some fn29 := by kernel_rfl
theorem k30 : compileFn Go.Proofs.Tryz.prog 30 = some fn30 := by kernel_rfl
theorem k31 : compileFn Go.Proofs.Tryz.prog 31 = some fn31 := by kernel_rfl
theorem k32 : compileFn Go.Proofs.Tryz.prog 32 = some fn32 := by kernel_rfl
theorem k33 : compileFn Go.Proofs.Tryz.prog 33 = some fn33 := by kernel_rfl
theorem k34 : compileFn Go.Proofs.Tryz.prog 34 = some fn34 := by kernel_rfl
theorem k35 : compileFn Go.Proofs.Tryz.prog 35 = some fn35 := by kernel_rfl
theorem k36 : compileFn Go.Proofs.Tryz.prog 36 = some fn36 := by kernel_rfl
theorem k37 : compileFn Go.Proofs.Tryz.prog 37 = some fn37 := by kernel_rfl
theorem k39 : compileFn Go.Proofs.Tryz.prog 39 = some fn39 := by kernel_rfl
theorem k40 : compileFn Go.Proofs.Tryz.prog 40 = some fn40 := by kernel_rfl
theorem k41 : compileFn Go.Proofs.Tryz.prog 41 = some fn41 := by kernel_rfl
theorem k42 : compileFn Go.Proofs.Tryz.prog 42 = some fn42 := by kernel_rfl
theorem k43 : compileFn Go.Proofs.Tryz.prog 43 = some fn43 := by kernel_rfl
theorem k45 : compileFn Go.Proofs.Tryz.prog 45 = some fn45 := by kernel_rfl
theorem k52 : compileFn Go.Proofs.Tryz.prog 52 = some fn52 := by kernel_rfl
theorem k54 : compileFn Go.Proofs.Tryz.prog 54 = some fn54 := by kernel_rfl
theorem k56 : compileFn Go.Proofs.Tryz.prog 56 = some fn56 := by kernel_rfl
theorem k57 : compileFn Go.Proofs.Tryz.prog 57 = some fn57 := by kernel_rfl
theorem k65 : compileFn Go.Proofs.Tryz.prog 65 = some fn65 := by kernel_rfl
theorem k66 : compileFn Go.Proofs.Tryz.prog 66 = some fn66 := by kernel_rfl
theorem k67 : compileFn Go.Proofs.Tryz.prog 67 = some fn67 := by kernel_rfl
theorem k68 : compileFn Go.Proofs.Tryz.prog 68 = some fn68 := by kernel_rfl
theorem k69 : compileFn Go.Proofs.Tryz.prog 69 = some fn69 := by kernel_rfl
theorem k72 : compileFn Go.Proofs.Tryz.prog 72 = some fn72 := by kernel_rfl
theorem k73 : compileFn Go.Proofs.Tryz.prog 73 = some fn73 := by kernel_rfl
theorem k79 : compileFn Go.Proofs.Tryz.prog 79 = some fn79 := by kernel_rfl
theorem k80 : compileFn Go.Proofs.Tryz.prog 80 = some fn80 := by kernel_rfl
theorem k84 : compileFn Go.Proofs.Tryz.prog 84 = some fn84 := by kernel_rfl
theorem k85 : compileFn Go.Proofs.Tryz.prog 85 = some fn85 := by kernel_rfl
theorem k86 : compileFn Go.Proofs.Tryz.prog 86 = some fn86 := by kernel_rfl
theorem k87 : compileFn Go.Proofs.Tryz.prog 87 = some fn87 := by kernel_rfl
theorem k88 : compileFn Go.Proofs.Tryz.prog 88 = some fn88 := by kernel_rfl
theorem k89 : compileFn Go.Proofs.Tryz.prog 89 = some fn89 := by kernel_rfl
theorem k90 : compileFn Go.Proofs.Tryz.prog 90 = some fn90 := by kernel_rfl
theorem k91 : compileFn Go.Proofs.Tryz.prog 91 = some fn91 := by kernel_rfl
theorem k92 : compileFn Go.Proofs.Tryz.prog 92 = some fn92 := by kernel_rfl
theorem k93 : compileFn Go.Proofs.Tryz.prog 93 = some fn93 := by kernel_rfl
theorem k94 : compileFn Go.Proofs.Tryz.prog 94 = some fn94 := by kernel_rfl
theorem k95 : compileFn Go.Proofs.Tryz.prog 95 = some fn95 := by kernel_rfl
theorem k96 : compileFn Go.Proofs.Tryz.prog 96 = some fn96 := by kernel_rfl
theorem k97 : compileFn Go.Proofs.Tryz.prog 97 = some fn97 := by kernel_rfl
theorem k98 : compileFn Go.Proofs.Tryz.prog 98 = some fn98 := by kernel_rfl
theorem k99 : compileFn Go.Proofs.Tryz.prog 99 = some fn99 := by kernel_rfl
theorem k100 : compileFn Go.Proofs.Tryz.prog 100 = some fn100 := by kernel_rfl
theorem k101 : compileFn Go.Proofs.Tryz.prog 101 = some fn101 := by kernel_rfl
theorem k102 : compileFn Go.Proofs.Tryz.prog 102 = some fn102 := by kernel_rfl
theorem k103 : compileFn Go.Proofs.Tryz.prog 103 = some fn103 := by kernel_rfl
theorem k104 : compileFn Go.Proofs.Tryz.prog 104 = some fn104 := by kernel_rfl
theorem k105 : compileFn Go.Proofs.Tryz.prog 105 = some fn105 := by kernel_rfl
theorem k106 : compileFn Go.Proofs.Tryz.prog 106 = some fn106 := by kernel_rfl
theorem k107 : compileFn Go.Proofs.Tryz.prog 107 = some fn107 := by kernel_rfl
theorem k108 : compileFn Go.Proofs.Tryz.prog 108 = some fn108 := by kernel_rfl
theorem k109 : compileFn Go.Proofs.Tryz.prog 109 = some fn109 := by kernel_rfl
theorem k110 : compileFn Go.Proofs.Tryz.prog 110 = some fn110 := by kernel_rfl
theorem k111 : compileFn Go.Proofs.Tryz.prog 111 = some fn111 := by kernel_rfl
theorem k112 : compileFn Go.Proofs.Tryz.prog 112 = some fn112 := by kernel_rfl
theorem k113 : compileFn Go.Proofs.Tryz.prog 113 = some fn113 := by kernel_rfl
theorem k114 : compileFn Go.Proofs.Tryz.prog 114 = some fn114 := by kernel_rfl
theorem k115 : compileFn Go.Proofs.Tryz.prog 115 = some fn115 := by kernel_rfl
theorem k116 : compileFn Go.Proofs.Tryz.prog 116 = some fn116 := by kernel_rfl
theorem k117 : compileFn Go.Proofs.Tryz.prog 117 = some fn117 := by kernel_rfl
theorem k118 : compileFn Go.Proofs.Tryz.prog 118 = some fn118 := by kernel_rfl
theorem k119 : compileFn Go.Proofs.Tryz.prog 119 = some fn119 := by kernel_rfl
theorem k120 : compileFn Go.Proofs.Tryz.prog 120 = some fn120 := by kernel_rfl
theorem k121 : compileFn Go.Proofs.Tryz.prog 121 = some fn121 := by kernel_rfl
theorem k122 : compileFn Go.Proofs.Tryz.prog 122 = some fn122 := by kernel_rfl
theorem k123 : compileFn Go.Proofs.Tryz.prog 123 = some fn123 := by kernel_rfl
theorem k124 : compileFn Go.Proofs.Tryz.prog 124 = some fn124 := by kernel_rfl
theorem k125 : compileFn Go.Proofs.Tryz.prog 125 = some fn125 := by kernel_rfl
theorem k127 : compileFn Go.Proofs.Tryz.prog 127 = some fn127 := by kernel_rfl
theorem k128 : compileFn Go.Proofs.Tryz.prog 128 = some fn128 := by kernel_rfl
theorem k129 : compileFn Go.Proofs.Tryz.prog 129 = some fn129 := by kernel_rfl
theorem k130 : compileFn Go.Proofs.Tryz.prog 130 = some fn130 := by kernel_rfl
theorem k131 : compileFn Go.Proofs.Tryz.prog 131 = some fn131 := by kernel_rfl
theorem k132 : compileFn Go.Proofs.Tryz.prog 132 = some fn132 := by kernel_rfl
theorem k133 : compileFn Go.Proofs.Tryz.prog 133 = some fn133 := by kernel_rfl
theorem k136 : compileFn Go.Proofs.Tryz.prog 136 = some fn136 := by kernel_rfl
theorem k137 : compileFn Go.Proofs.Tryz.prog 137 = some fn137 := by kernel_rfl
theorem k138 : compileFn Go.Proofs.Tryz.prog 138 = some fn138 := by kernel_rfl
theorem k139 : compileFn Go.Proofs.Tryz.prog 139 = some fn139 := by kernel_rfl
theorem k140 : compileFn Go.Proofs.Tryz.prog 140 = some fn140 := by kernel_rfl
theorem k141 : compileFn Go.Proofs.Tryz.prog 141 = some fn141 := by kernel_rfl
theorem k142 : compileFn Go.Proofs.Tryz.prog 142 = some fn142 := by kernel_rfl
theorem k143 : compileFn Go.Proofs.Tryz.prog 143 = some fn143 := by kernel_rfl
theorem k145 : compileFn Go.Proofs.Tryz.prog 145 = some fn145 := by kernel_rfl
theorem k146 : compileFn Go.Proofs.Tryz.prog 146 = some fn146 := by kernel_rfl
theorem k147 : compileFn Go.Proofs.Tryz.prog 147 = some fn147 := by kernel_rfl
theorem k149 : compileFn Go.Proofs.Tryz.prog 149 = some fn149 := by kernel_rfl
theorem k150 : compileFn Go.Proofs.Tryz.prog 150 = some fn150 := by kernel_rfl
theorem k151 : compileFn Go.Proofs.Tryz.prog 151 = some fn151 := by kernel_rfl
theorem k152 : compileFn Go.Proofs.Tryz.prog 152 = some fn152 := by kernel_rfl
theorem k153 : compileFn Go.Proofs.Tryz.prog 153 = some fn153 := by kernel_rfl
theorem k154 : compileFn Go.Proofs.Tryz.prog 154 = some fn154 := by kernel_rfl
theorem k155 : compileFn Go.Proofs.Tryz.prog 155 = some fn155 := by kernel_rfl
theorem k156 : compileFn Go.Proofs.Tryz.prog 156 = some fn156 := by kernel_rfl
theorem k157 : compileFn Go.Proofs.Tryz.prog 157 = some fn157 := by kernel_rfl
theorem k158 : compileFn Go.Proofs.Tryz.prog 158 = some fn158 := by kernel_rfl
theorem k159 : compileFn Go.Proofs.Tryz.prog 159 = some fn159 := by kernel_rfl
theorem k160 : compileFn Go.Proofs.Tryz.prog 160 = some fn160 := by kernel_rfl
theorem k161 : compileFn Go.Proofs.Tryz.prog 161 = some fn161 := by kernel_rfl
theorem k162 : compileFn Go.Proofs.Tryz.prog 162 = some fn162 := by kernel_rfl
theorem k163 : compileFn Go.Proofs.Tryz.prog 163 = some fn163 := by kernel_rfl
theorem k164 : compileFn Go.Proofs.Tryz.prog 164 = some fn164 := by kernel_rfl
theorem k165 : compileFn Go.Proofs.Tryz.prog 165 = some fn165 := by kernel_rfl
theorem k166 : compileFn Go.Proofs.Tryz.prog 166 = some fn166 := by kernel_rfl
theorem k167 : compileFn Go.Proofs.Tryz.prog 167 = some fn167 := by kernel_rfl
theorem k168 : compileFn Go.Proofs.Tryz.prog 168 = some fn168 := by kernel_rfl
theorem k169 : compileFn Go.Proofs.Tryz.prog 169 = some fn169 := by kernel_rfl
theorem k170 : compileFn Go.Proofs.Tryz.prog 170 = some fn170 := by kernel_rfl
theorem k171 : compileFn Go.Proofs.Tryz.prog 171 = some fn171 := by kernel_rfl
theorem k172 : compileFn Go.Proofs.Tryz.prog 172 = some fn172 := by kernel_rfl
theorem k173 : compileFn Go.Proofs.Tryz.prog 173 = some fn173 := by kernel_rfl
theorem k174 : compileFn Go.Proofs.Tryz.prog 174 = some fn174 := by kernel_rfl
theorem k175 : compileFn Go.Proofs.Tryz.prog 175 = some fn175 := by kernel_rfl
theorem k176 : compileFn Go.Proofs.Tryz.prog 176 = some fn176 := by kernel_rfl
theorem k177 : compileFn Go.Proofs.Tryz.prog 177 = some fn177 := by kernel_rfl
theorem k178 : compileFn Go.Proofs.Tryz.prog 178 = some fn178 := by kernel_rfl
theorem k179 : compileFn Go.Proofs.Tryz.prog 179 = some fn179 := by kernel_rfl
theorem k180 : compileFn Go.Proofs.Tryz.prog 180 = some fn180 := by kernel_rfl
theorem k181 : compileFn Go.Proofs.Tryz.prog 181 = some fn181 := by kernel_rfl
theorem k182 : compileFn Go.Proofs.Tryz.prog 182 = some fn182 := by kernel_rfl
theorem k183 : compileFn Go.Proofs.Tryz.prog 183 = some fn183 := by kernel_rfl
theorem k184 : compileFn Go.Proofs.Tryz.prog 184 = some fn184 := by kernel_rfl
theorem k188 : compileFn Go.Proofs.Tryz.prog 188 = some fn188 := by kernel_rfl
theorem k189 : compileFn Go.Proofs.Tryz.prog 189 = some fn189 := by kernel_rfl
theorem k190 : compileFn Go.Proofs.Tryz.prog 190 = some fn190 := by kernel_rfl
theorem k191 : compileFn Go.Proofs.Tryz.prog 191 = some fn191 := by kernel_rfl
theorem k192 : compileFn Go.Proofs.Tryz.prog 192 = some fn192 := by kernel_rfl
theorem k193 : compileFn Go.Proofs.Tryz.prog 193 = some fn193 := by kernel_rfl
theorem k194 : compileFn Go.Proofs.Tryz.prog 194 = some fn194 := by kernel_rfl
theorem k195 : compileFn Go.Proofs.Tryz.prog 195 = some fn195 := by kernel_rfl
theorem k196 : compileFn Go.Proofs.Tryz.prog 196 = some fn196 := by kernel_rfl
theorem k197 : compileFn Go.Proofs.Tryz.prog 197 = some fn197 := by kernel_rfl
theorem k198 : compileFn Go.Proofs.Tryz.prog 198 = some fn198 := by kernel_rfl
theorem k199 : compileFn Go.Proofs.Tryz.prog 199 = some fn199 := by kernel_rfl
theorem k200 : compileFn Go.Proofs.Tryz.prog 200 = some fn200 := by kernel_rfl
theorem k201 : compileFn Go.Proofs.Tryz.prog 201 = some fn201 := by kernel_rfl
theorem k202 : compileFn Go.Proofs.Tryz.prog 202 = some fn202 := by kernel_rfl
theorem k203 : compileFn Go.Proofs.Tryz.prog 203 = some fn203 := by kernel_rfl
theorem k204 : compileFn Go.Proofs.Tryz.prog 204 = some fn204 := by kernel_rfl
theorem k205 : compileFn Go.Proofs.Tryz.prog 205 = some fn205 := by kernel_rfl
theorem k206 : compileFn Go.Proofs.Tryz.prog 206 = some fn206 := by kernel_rfl
theorem k209 : compileFn Go.Proofs.Tryz.prog 209 = some fn209 := by kernel_rfl
theorem k210 : compileFn Go.Proofs.Tryz.prog 210 = some fn210 := by kernel_rfl
theorem k211 : compileFn Go.Proofs.Tryz.prog 211 = some fn211 := by kernel_rfl
theorem k212 : compileFn Go.Proofs.Tryz.prog 212 = some fn212 := by kernel_rfl
theorem k213 : compileFn Go.Proofs.Tryz.prog 213 = some fn213 := by kernel_rfl
theorem k214 : compileFn Go.Proofs.Tryz.prog 214 = some fn214 := by kernel_rfl
theorem k215 : compileFn Go.Proofs.Tryz.prog 215 = some fn215 := by kernel_rfl
theorem k216 : compileFn Go.Proofs.Tryz.prog 216 = some fn216 := by kernel_rfl
theorem k217 : compileFn Go.Proofs.Tryz.prog 217 = some fn217 := by kernel_rfl
theorem k223 : compileFn Go.Proofs.Tryz.prog 223 = some fn223 := by kernel_rfl
theorem k227 : compileFn Go.Proofs.Tryz.prog 227 = some fn227 := by kernel_rfl
theorem k230 : compileFn Go.Proofs.Tryz.prog 230 = some fn230 := by kernel_rfl
theorem k233 : compileFn Go.Proofs.Tryz.prog 233 = some fn233 := by kernel_rfl
theorem k234 : compileFn Go.Proofs.Tryz.prog 234 = some fn234 := by kernel_rfl
theorem k240 : compileFn Go.Proofs.Tryz.prog 240 = some fn240 := by kernel_rfl
theorem k241 : compileFn Go.Proofs.Tryz.prog 241 = some fn241 := by kernel_rfl
theorem k242 : compileFn Go.Proofs.Tryz.prog 242 = some fn242 := by kernel_rfl
theorem k247 : compileFn Go.Proofs.Tryz.prog 247 = some fn247 := by kernel_rfl
theorem k249 : compileFn Go.Proofs.Tryz.prog 249 = some fn249 := by kernel_rfl
theorem k250 : compileFn Go.Proofs.Tryz.prog 250 = some fn250 := by kernel_rfl
theorem tbl : Tbl Go.Proofs.Tryz.prog where
  mix := tmix
  c3 := k3
  c4 := k4
  c13 := k13
  c14 := k14
  c15 := k15
  c16 := k16
  c17 := k17
  c18 := k18
  c19 := k19
  c20 := k20
  c21 := k21
  c22 := k22
  c23 := k23
  c24 := k24
  c25 := k25
  c26 := k26
  c27 := k27
  c28 := k28
  c29 := k29
  c30 := k30
  c31 := k31
  c32 := k32
  c33 := k33
  c34 := k34
  c35 := k35
  c36 := k36
  c37 := k37
  c39 := k39
  c40 := k40
  c41 := k41
  c42 := k42
  c43 := k43
  c45 := k45
  c52 := k52
  c54 := k54
  c56 := k56
  c57 := k57
  c65 := k65
  c66 := k66
  c67 := k67
  c68 := k68
  c69 := k69
  c72 := k72
  c73 := k73
  c79 := k79
  c80 := k80
  c84 := k84
  c85 := k85
  c86 := k86
  c87 := k87
  c88 := k88
  c89 := k89
  c90 := k90
  c91 := k91
  c92 := k92
  c93 := k93
  c94 := k94
  c95 := k95
  c96 := k96
  c97 := k97
  c98 := k98
  c99 := k99
  c100 := k100
  c101 := k101
  c102 := k102
  c103 := k103
  c104 := k104
  c105 := k105
  c106 := k106
  c107 := k107
  c108 := k108
  c109 := k109
  c110 := k110
  c111 := k111
  c112 := k112
  c113 := k113
  c114 := k114
  c115 := k115
  c116 := k116
  c117 := k117
  c118 := k118
  c119 := k119
  c120 := k120
  c121 := k121
  c122 := k122
  c123 := k123
  c124 := k124
  c125 := k125
  c127 := k127
  c128 := k128
  c129 := k129
  c130 := k130
  c131 := k131
  c132 := k132
  c133 := k133
  c136 := k136
  c137 := k137
  c138 := k138
  c139 := k139
  c140 := k140
  c141 := k141
  c142 := k142
  c143 := k143
  c145 := k145
  c146 := k146
  c147 := k147
  c149 := k149
  c150 := k150
  c151 := k151
  c152 := k152
  c153 := k153
  c154 := k154
  c155 := k155
  c156 := k156
  c157 := k157
  c158 := k158
  c159 := k159
  c160 := k160
  c161 := k161
  c162 := k162
  c163 := k163
  c164 := k164
  c165 := k165
  c166 := k166
  c167 := k167
  c168 := k168
  c169 := k169
  c170 := k170
  c171 := k171
  c172 := k172
  c173 := k173
  c174 := k174
  c175 := k175
  c176 := k176
  c177 := k177
  c178 := k178
  c179 := k179
  c180 := k180
  c181 := k181
  c182 := k182
  c183 := k183
  c184 := k184
  c188 := k188
  c189 := k189
  c190 := k190
  c191 := k191
  c192 := k192
  c193 := k193
  c194 := k194
  c195 := k195
  c196 := k196
  c197 := k197
  c198 := k198
  c199 := k199
  c200 := k200
  c201 := k201
  c202 := k202
  c203 := k203
  c204 := k204
  c205 := k205
  c206 := k206
  c209 := k209
  c210 := k210
  c211 := k211
  c212 := k212
  c213 := k213
  c214 := k214
  c215 := k215
  c216 := k216
  c217 := k217
  c223 := k223
  c227 := k227
  c230 := k230
  c233 := k233
  c234 := k234
  c240 := k240
  c241 := k241
  c242 := k242
  c247 := k247
  c249 := k249
  c250 := k250
end Go.Abs
