/- This text holds the code of the program for that interpreter, last part, and its tables; it proves nothing. -/
import Derived.Test.YtbpnjicaapldoaaGreatDoorIdf
set_option linter.unusedSimpArgs false
set_option linter.unusedVariables false
namespace Go.Idl
set_option maxRecDepth 100000
def fnsT:FT IFn:=(.node 90 i90 (.node 38 i38 (.node 19 i19 (.node 11 i11 (.node 7 i7 (.node 5 i5 (.node 4 i4 (.node 3 i3 .nil .nil) .nil) (.node 6 i6 .nil .nil)) (.node 9 i9 (.node 8 i8 .nil .nil) (.node 10 i10 .nil .nil))) (.node 15 i15 (.node 13 i13 (.node 12 i12 .nil .nil) (.node 14 i14 .nil .nil)) (.node 17 i17 (.node 16 i16 .nil .nil) (.node 18 i18 .nil .nil)))) (.node 29 i29 (.node 24 i24 (.node 21 i21 (.node 20 i20 .nil .nil) (.node 22 i22 .nil .nil)) (.node 26 i26 (.node 25 i25 .nil .nil) (.node 27 i27 .nil .nil))) (.node 33 i33 (.node 31 i31 (.node 30 i30 .nil .nil) (.node 32 i32 .nil .nil)) (.node 35 i35 (.node 34 i34 .nil .nil) (.node 37 i37 .nil .nil))))) (.node 74 i74 (.node 62 i62 (.node 54 i54 (.node 52 i52 (.node 51 i51 (.node 50 i50 .nil .nil) .nil) (.node 53 i53 .nil .nil)) (.node 60 i60 (.node 59 i59 .nil .nil) (.node 61 i61 .nil .nil))) (.node 70 i70 (.node 68 i68 (.node 63 i63 .nil .nil) (.node 69 i69 .nil .nil)) (.node 72 i72 (.node 71 i71 .nil .nil) (.node 73 i73 .nil .nil)))) (.node 82 i82 (.node 78 i78 (.node 76 i76 (.node 75 i75 .nil .nil) (.node 77 i77 .nil .nil)) (.node 80 i80 (.node 79 i79 .nil .nil) (.node 81 i81 .nil .nil))) (.node 86 i86 (.node 84 i84 (.node 83 i83 .nil .nil) (.node 85 i85 .nil .nil)) (.node 88 i88 (.node 87 i87 .nil .nil) (.node 89 i89 .nil .nil)))))) (.node 150 i150 (.node 118 i118 (.node 99 i99 (.node 95 i95 (.node 93 i93 (.node 92 i92 (.node 91 i91 .nil .nil) .nil) (.node 94 i94 .nil .nil)) (.node 97 i97 (.node 96 i96 .nil .nil) (.node 98 i98 .nil .nil))) (.node 103 i103 (.node 101 i101 (.node 100 i100 .nil .nil) (.node 102 i102 .nil .nil)) (.node 105 i105 (.node 104 i104 .nil .nil) (.node 106 i106 .nil .nil)))) (.node 142 i142 (.node 122 i122 (.node 120 i120 (.node 119 i119 .nil .nil) (.node 121 i121 .nil .nil)) (.node 131 i131 (.node 129 i129 .nil .nil) (.node 140 i140 .nil .nil))) (.node 146 i146 (.node 144 i144 (.node 143 i143 .nil .nil) (.node 145 i145 .nil .nil)) (.node 148 i148 (.node 147 i147 .nil .nil) (.node 149 i149 .nil .nil))))) (.node 194 i194 (.node 162 i162 (.node 154 i154 (.node 152 i152 (.node 151 i151 .nil .nil) (.node 153 i153 .nil .nil)) (.node 160 i160 (.node 155 i155 .nil .nil) (.node 161 i161 .nil .nil))) (.node 173 i173 (.node 164 i164 (.node 163 i163 .nil .nil) (.node 172 i172 .nil .nil)) (.node 175 i175 (.node 174 i174 .nil .nil) (.node 193 i193 .nil .nil)))) (.node 209 i209 (.node 198 i198 (.node 196 i196 (.node 195 i195 .nil .nil) (.node 197 i197 .nil .nil)) (.node 207 i207 (.node 206 i206 .nil .nil) (.node 208 i208 .nil .nil))) (.node 224 i224 (.node 222 i222 (.node 221 i221 .nil .nil) (.node 223 i223 .nil .nil)) (.node 251 i251 (.node 230 i230 .nil .nil) (.node 252 i252 .nil .nil)))))))
def rndT:FT IRnd:=(.node 1920 r120_0 (.node 176 r11_0 .nil .nil) (.node 2592 r162_0 .nil .nil))
def tab:Tab where
 fns:=fnsT.find
 rnd:=fun f s=>rndT.find (f*16+s)
def rows:Nat→Option (List IV)
 |12=>some row12
 |5=>some row5
 |7=>some row7
 |4=>some row4
 |0=>some row0
 |1=>some row1
 |_=>none
def prims:Prims:=fun f=>match f with
 |130=>some pAtoi
 |141=>some pAdd64
 |_=>none
end Go.Idl
