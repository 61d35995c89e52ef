/- This text holds the code of the program for that interpreter, last part, and its tables; it proves nothing. -/
import Derived.Test.YthjfhjjgfjpcoaaGreatDoorIdf
set_option linter.unusedSimpArgs false
set_option linter.unusedVariables false
namespace Go.Idl
set_option maxRecDepth 100000
def fnsT:FT IFn:=(.node 114 i114 (.node 59 i59 (.node 35 i35 (.node 15 i15 (.node 8 i8 (.node 6 i6 (.node 5 i5 (.node 3 i3 .nil .nil) .nil) (.node 7 i7 .nil .nil)) (.node 10 i10 (.node 9 i9 .nil .nil) (.node 11 i11 .nil .nil))) (.node 31 i31 (.node 29 i29 (.node 28 i28 (.node 23 i23 .nil .nil) .nil) (.node 30 i30 .nil .nil)) (.node 33 i33 (.node 32 i32 .nil .nil) (.node 34 i34 .nil .nil)))) (.node 50 i50 (.node 45 i45 (.node 39 i39 (.node 37 i37 (.node 36 i36 .nil .nil) .nil) (.node 43 i43 .nil .nil)) (.node 47 i47 (.node 46 i46 .nil .nil) (.node 49 i49 .nil .nil))) (.node 54 i54 (.node 52 i52 (.node 51 i51 .nil .nil) (.node 53 i53 .nil .nil)) (.node 57 i57 (.node 55 i55 .nil .nil) (.node 58 i58 .nil .nil))))) (.node 97 i97 (.node 83 i83 (.node 67 i67 (.node 65 i65 (.node 64 i64 (.node 63 i63 .nil .nil) .nil) (.node 66 i66 .nil .nil)) (.node 70 i70 (.node 69 i69 .nil .nil) (.node 82 i82 .nil .nil))) (.node 92 i92 (.node 86 i86 (.node 85 i85 (.node 84 i84 .nil .nil) .nil) (.node 87 i87 .nil .nil)) (.node 95 i95 (.node 94 i94 .nil .nil) (.node 96 i96 .nil .nil)))) (.node 106 i106 (.node 102 i102 (.node 100 i100 (.node 99 i99 (.node 98 i98 .nil .nil) .nil) (.node 101 i101 .nil .nil)) (.node 104 i104 (.node 103 i103 .nil .nil) (.node 105 i105 .nil .nil))) (.node 110 i110 (.node 108 i108 (.node 107 i107 .nil .nil) (.node 109 i109 .nil .nil)) (.node 112 i112 (.node 111 i111 .nil .nil) (.node 113 i113 .nil .nil)))))) (.node 171 i171 (.node 145 i145 (.node 123 i123 (.node 119 i119 (.node 117 i117 (.node 116 i116 (.node 115 i115 .nil .nil) .nil) (.node 118 i118 .nil .nil)) (.node 121 i121 (.node 120 i120 .nil .nil) (.node 122 i122 .nil .nil))) (.node 128 i128 (.node 126 i126 (.node 125 i125 (.node 124 i124 .nil .nil) .nil) (.node 127 i127 .nil .nil)) (.node 130 i130 (.node 129 i129 .nil .nil) (.node 144 i144 .nil .nil)))) (.node 162 i162 (.node 150 i150 (.node 148 i148 (.node 147 i147 (.node 146 i146 .nil .nil) .nil) (.node 149 i149 .nil .nil)) (.node 152 i152 (.node 151 i151 .nil .nil) (.node 159 i159 .nil .nil))) (.node 167 i167 (.node 165 i165 (.node 164 i164 .nil .nil) (.node 166 i166 .nil .nil)) (.node 169 i169 (.node 168 i168 .nil .nil) (.node 170 i170 .nil .nil))))) (.node 213 i213 (.node 188 i188 (.node 176 i176 (.node 174 i174 (.node 173 i173 (.node 172 i172 .nil .nil) .nil) (.node 175 i175 .nil .nil)) (.node 186 i186 (.node 177 i177 .nil .nil) (.node 187 i187 .nil .nil))) (.node 209 i209 (.node 190 i190 (.node 189 i189 .nil .nil) (.node 191 i191 .nil .nil)) (.node 211 i211 (.node 210 i210 .nil .nil) (.node 212 i212 .nil .nil)))) (.node 234 i234 (.node 218 i218 (.node 216 i216 (.node 215 i215 (.node 214 i214 .nil .nil) .nil) (.node 217 i217 .nil .nil)) (.node 232 i232 (.node 231 i231 .nil .nil) (.node 233 i233 .nil .nil))) (.node 238 i238 (.node 236 i236 (.node 235 i235 .nil .nil) (.node 237 i237 .nil .nil)) (.node 260 i260 (.node 259 i259 .nil .nil) (.node 261 i261 .nil .nil)))))))
def rndT:FT IRnd:=(.node 2400 r150_0 (.node 176 r11_0 .nil .nil) (.node 3024 r189_0 .nil .nil))
def tab:Tab where
 fns:=fnsT.find
 rnd:=fun f s=>rndT.find (f*16+s)
def rows:Nat→Option (List IV)
 |11=>some row11
 |5=>some row5
 |8=>some row8
 |2=>some row2
 |0=>some row0
 |1=>some row1
 |_=>none
def prims:Prims:=fun f=>match f with
 |131=>some pAtoi
 |163=>some pAdd64
 |_=>none
end Go.Idl
