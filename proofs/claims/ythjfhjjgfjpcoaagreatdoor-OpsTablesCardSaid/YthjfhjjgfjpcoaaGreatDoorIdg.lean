/- This text holds the code of the program for that interpreter, last part, and its tables; it proves nothing. -/
import Derived.Test.YthjfhjjgfjpcoaaGreatDoorIdf
set_option linter.unusedSimpArgs false
set_option linter.unusedVariables false
namespace Go.Idl
set_option maxRecDepth 100000
def fnsT:FT IFn:=(.node 104 i104 (.node 44 i44 (.node 24 i24 (.node 14 i14 (.node 9 i9 (.node 6 i6 (.node 5 i5 (.node 4 i4 .nil .nil) .nil) (.node 8 i8 .nil .nil)) (.node 12 i12 (.node 11 i11 (.node 10 i10 .nil .nil) .nil) (.node 13 i13 .nil .nil))) (.node 19 i19 (.node 17 i17 (.node 16 i16 (.node 15 i15 .nil .nil) .nil) (.node 18 i18 .nil .nil)) (.node 22 i22 (.node 21 i21 (.node 20 i20 .nil .nil) .nil) (.node 23 i23 .nil .nil)))) (.node 34 i34 (.node 29 i29 (.node 27 i27 (.node 26 i26 (.node 25 i25 .nil .nil) .nil) (.node 28 i28 .nil .nil)) (.node 32 i32 (.node 31 i31 (.node 30 i30 .nil .nil) .nil) (.node 33 i33 .nil .nil))) (.node 39 i39 (.node 37 i37 (.node 36 i36 (.node 35 i35 .nil .nil) .nil) (.node 38 i38 .nil .nil)) (.node 42 i42 (.node 41 i41 (.node 40 i40 .nil .nil) .nil) (.node 43 i43 .nil .nil))))) (.node 67 i67 (.node 54 i54 (.node 49 i49 (.node 47 i47 (.node 46 i46 (.node 45 i45 .nil .nil) .nil) (.node 48 i48 .nil .nil)) (.node 52 i52 (.node 51 i51 (.node 50 i50 .nil .nil) .nil) (.node 53 i53 .nil .nil))) (.node 60 i60 (.node 58 i58 (.node 57 i57 (.node 55 i55 .nil .nil) .nil) (.node 59 i59 .nil .nil)) (.node 65 i65 (.node 64 i64 (.node 63 i63 .nil .nil) .nil) (.node 66 i66 .nil .nil)))) (.node 94 i94 (.node 84 i84 (.node 82 i82 (.node 70 i70 (.node 69 i69 .nil .nil) .nil) (.node 83 i83 .nil .nil)) (.node 87 i87 (.node 86 i86 (.node 85 i85 .nil .nil) .nil) (.node 92 i92 .nil .nil))) (.node 99 i99 (.node 97 i97 (.node 96 i96 (.node 95 i95 .nil .nil) .nil) (.node 98 i98 .nil .nil)) (.node 102 i102 (.node 101 i101 (.node 100 i100 .nil .nil) .nil) (.node 103 i103 .nil .nil)))))) (.node 166 i166 (.node 124 i124 (.node 114 i114 (.node 109 i109 (.node 107 i107 (.node 106 i106 (.node 105 i105 .nil .nil) .nil) (.node 108 i108 .nil .nil)) (.node 112 i112 (.node 111 i111 (.node 110 i110 .nil .nil) .nil) (.node 113 i113 .nil .nil))) (.node 119 i119 (.node 117 i117 (.node 116 i116 (.node 115 i115 .nil .nil) .nil) (.node 118 i118 .nil .nil)) (.node 122 i122 (.node 121 i121 (.node 120 i120 .nil .nil) .nil) (.node 123 i123 .nil .nil)))) (.node 147 i147 (.node 129 i129 (.node 127 i127 (.node 126 i126 (.node 125 i125 .nil .nil) .nil) (.node 128 i128 .nil .nil)) (.node 145 i145 (.node 144 i144 (.node 130 i130 .nil .nil) .nil) (.node 146 i146 .nil .nil))) (.node 152 i152 (.node 150 i150 (.node 149 i149 (.node 148 i148 .nil .nil) .nil) (.node 151 i151 .nil .nil)) (.node 164 i164 (.node 162 i162 (.node 159 i159 .nil .nil) .nil) (.node 165 i165 .nil .nil))))) (.node 211 i211 (.node 176 i176 (.node 171 i171 (.node 169 i169 (.node 168 i168 (.node 167 i167 .nil .nil) .nil) (.node 170 i170 .nil .nil)) (.node 174 i174 (.node 173 i173 (.node 172 i172 .nil .nil) .nil) (.node 175 i175 .nil .nil))) (.node 189 i189 (.node 187 i187 (.node 186 i186 (.node 177 i177 .nil .nil) .nil) (.node 188 i188 .nil .nil)) (.node 209 i209 (.node 191 i191 (.node 190 i190 .nil .nil) .nil) (.node 210 i210 .nil .nil)))) (.node 233 i233 (.node 216 i216 (.node 214 i214 (.node 213 i213 (.node 212 i212 .nil .nil) .nil) (.node 215 i215 .nil .nil)) (.node 231 i231 (.node 218 i218 (.node 217 i217 .nil .nil) .nil) (.node 232 i232 .nil .nil))) (.node 238 i238 (.node 236 i236 (.node 235 i235 (.node 234 i234 .nil .nil) .nil) (.node 237 i237 .nil .nil)) (.node 260 i260 (.node 259 i259 .nil .nil) (.node 261 i261 .nil .nil)))))))
def rndT:FT IRnd:=(.node 2400 r150_0 (.node 208 r13_0 (.node 176 r11_0 .nil .nil) .nil) (.node 3024 r189_0 .nil .nil))
def tab:Tab where
 fns:=fnsT.find
 rnd:=fun f s=>rndT.find (f*16+s)
def rows:Nat→Option (List IV)
 |11=>some row11
 |5=>some row5
 |8=>some row8
 |2=>some row2
 |0=>some row0
 |1=>some row1
 |_=>none
def prims:Prims:=fun f=>match f with
 |131=>some pAtoi
 |163=>some pAdd64
 |_=>none
end Go.Idl
