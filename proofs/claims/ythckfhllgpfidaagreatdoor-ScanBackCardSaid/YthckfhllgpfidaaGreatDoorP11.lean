/- The functions that the law ScanBack reaches: their numbers, and the check of each body, printed by a program of this work. -/
import Derived.Test.YthckfhllgpfidaaGreatDoorP08
import Derived.Test.YthckfhllgpfidaaGreatDoorProg
import Derived.Shelf.Strings.Builder1
import Derived.Shelf.Strings.Builder2
import Derived.Shelf.Strings.OnBuilder
import Derived.Shelf.Small.Utf8
import Derived.Shelf.Small.Strs
import Derived.Shelf.Strings.BuilderF
import Derived.Shelf.Strings.BuilderK
import Derived.Shelf.Strings.Builder2Cap
import Derived.Shelf.Strconv.Itoa0
import Derived.Shelf.Strconv.Itoa1
import Derived.Shelf.LaysM
import Derived.Shelf.Strconv.Itoa2
import Derived.Shelf.Strconv.Itoa3
import Derived.Shelf.Strings.Search1
import Derived.Shelf.Strings.Search2
import Derived.Shelf.Strings.Cut
import Derived.Shelf.Strings.Shaped
import Derived.Shelf.Strings.Prefix
import Derived.Shelf.Strings.Runes
import Derived.Shelf.Strings.IndexAny
import Derived.Shelf.Strings.AsciiSet
import Derived.Shelf.Strings.IndexAnyAll
import Derived.Shelf.Bits.Mul64
import Derived.Shelf.Strings.Repeat
import Derived.Shelf.Strings.BuilderCap
set_option linter.unusedSimpArgs false
set_option linter.unusedVariables false
set_option linter.unusedSectionVars false
namespace Go.Ev.ScanBack
open Go Go.Proofs Go.Ev
def phiT:NT:=(.node (.node (.node (.node (.node (.node (.node .nil 63 95 .nil) 64 43 (.node .nil 65 57 .nil)) 67 56 (.node (.node .nil 68 66 .nil) 69 118 (.node .nil 71 73 .nil)))
 74 40 (.node (.node (.node .nil 75 124 .nil) 76 125 (.node .nil 77 126 .nil)) 78 75 (.node (.node .nil 79 76 .nil) 80 77 (.node .nil 81 78 .nil)))) 82 94 (.node (.node (.node (.node
 .nil 83 44 .nil) 84 84 (.node .nil 85 58 .nil)) 86 131 (.node (.node .nil 87 132 .nil) 91 25 (.node .nil 92 24 .nil))) 93 74 (.node (.node (.node .nil 94 48 .nil) 95 137 (.node .nil
 96 138 .nil)) 97 139 (.node (.node .nil 98 140 .nil) 99 141 (.node .nil 100 142 .nil))))) 101 112 (.node (.node (.node (.node (.node .nil 102 113 .nil) 103 114 (.node .nil 104 115 .nil))
 105 42 (.node (.node .nil 106 147 .nil) 107 148 (.node .nil 109 46 .nil))) 110 110 (.node (.node (.node .nil 111 111 .nil) 112 156 (.node .nil 113 159 .nil)) 114 160 (.node (.node .nil
 115 161 .nil) 116 162 (.node .nil 117 168 .nil)))) 118 79 (.node (.node (.node (.node .nil 119 171 .nil) 120 178 (.node .nil 121 179 .nil)) 122 172 (.node (.node .nil 123 82 .nil) 127
 35 (.node .nil 128 38 .nil))) 129 20 (.node (.node (.node .nil 132 71 .nil) 133 72 (.node .nil 136 108 .nil)) 137 107 (.node (.node .nil 138 109 .nil) 139 129 .nil))))) 140 157 (.node
 (.node (.node (.node (.node (.node .nil 141 158 .nil) 142 173 (.node .nil 143 174 .nil)) 144 175 (.node (.node .nil 145 176 .nil) 146 177 (.node .nil 147 185 .nil))) 148 183 (.node
 (.node (.node .nil 149 182 .nil) 153 6 (.node .nil 157 10 .nil)) 158 11 (.node (.node .nil 160 13 .nil) 162 15 (.node .nil 164 17 .nil)))) 165 18 (.node (.node (.node (.node .nil 166
 19 .nil) 168 22 (.node .nil 169 23 .nil)) 170 27 (.node (.node .nil 171 28 .nil) 172 29 (.node .nil 173 30 .nil))) 174 31 (.node (.node (.node .nil 175 32 .nil) 178 37 (.node .nil 179
 39 .nil)) 180 41 (.node (.node .nil 182 51 .nil) 183 52 .nil)))) 184 53 (.node (.node (.node (.node (.node .nil 185 54 .nil) 186 55 (.node .nil 192 70 .nil)) 193 85 (.node (.node .nil
 194 86 .nil) 195 87 (.node .nil 196 88 .nil))) 197 89 (.node (.node (.node .nil 198 90 .nil) 199 91 (.node .nil 200 92 .nil)) 201 93 (.node (.node .nil 209 119 .nil) 210 120 (.node
 .nil 211 121 .nil)))) 212 122 (.node (.node (.node (.node .nil 213 123 .nil) 214 133 (.node .nil 215 134 .nil)) 216 135 (.node (.node .nil 217 136 .nil) 218 149 (.node .nil 219 150
 .nil))) 220 151 (.node (.node (.node .nil 221 152 .nil) 222 153 (.node .nil 223 154 .nil)) 224 155 (.node (.node .nil 225 169 .nil) 226 170 .nil))))))
def tauT:NT:=(.node (.node (.node (.node (.node (.node (.node (.node .nil 0 0 .nil) 1 1 (.node .nil 2 2 .nil)) 3 3 (.node (.node .nil 4 4 .nil) 5 5 (.node .nil 6 6 .nil))) 7 7 (.node
 (.node (.node .nil 8 8 .nil) 9 9 (.node .nil 10 10 .nil)) 11 11 (.node (.node .nil 12 12 .nil) 13 13 .nil))) 14 14 (.node (.node (.node (.node .nil 15 15 .nil) 16 16 (.node .nil 17
 17 .nil)) 18 18 (.node (.node .nil 19 19 .nil) 20 20 .nil)) 21 21 (.node (.node (.node .nil 25 23 .nil) 27 95 (.node .nil 28 56 .nil)) 30 28 (.node (.node .nil 31 41 .nil) 34 33 .nil))))
 35 22 (.node (.node (.node (.node (.node .nil 37 102 .nil) 42 62 (.node .nil 43 93 .nil)) 45 110 (.node (.node .nil 48 199 .nil) 79 90 (.node .nil 80 91 .nil))) 81 92 (.node (.node
 (.node .nil 82 49 .nil) 83 50 (.node .nil 84 51 .nil)) 85 94 (.node (.node .nil 86 52 .nil) 87 53 .nil))) 88 54 (.node (.node (.node (.node .nil 89 55 .nil) 102 117 (.node .nil 103
 118 .nil)) 104 119 (.node (.node .nil 105 120 .nil) 106 121 .nil)) 107 122 (.node (.node (.node .nil 108 89 .nil) 110 84 (.node .nil 112 203 .nil)) 114 115 (.node (.node .nil 115 116
 .nil) 116 129 .nil))))) 117 213 (.node (.node (.node (.node (.node (.node .nil 118 170 .nil) 120 141 (.node .nil 121 219 .nil)) 122 220 (.node (.node .nil 123 221 .nil) 124 222 (.node
 .nil 125 223 .nil))) 126 224 (.node (.node (.node .nil 127 225 .nil) 128 226 (.node .nil 129 227 .nil)) 130 228 (.node (.node .nil 131 229 .nil) 132 230 .nil))) 133 26 (.node (.node
 (.node (.node .nil 134 27 .nil) 135 85 (.node .nil 136 86 .nil)) 137 97 (.node (.node .nil 139 139 .nil) 140 103 .nil)) 141 106 (.node (.node (.node .nil 146 34 .nil) 147 82 (.node
 .nil 149 142 .nil)) 150 143 (.node (.node .nil 151 144 .nil) 152 72 .nil)))) 153 109 (.node (.node (.node (.node (.node .nil 154 111 .nil) 155 112 (.node .nil 156 113 .nil)) 157 114
 (.node (.node .nil 158 87 .nil) 159 123 (.node .nil 160 146 .nil))) 161 67 (.node (.node (.node .nil 162 148 .nil) 163 149 (.node .nil 164 150 .nil)) 165 151 (.node (.node .nil 166
 152 .nil) 167 125 .nil))) 168 126 (.node (.node (.node (.node .nil 169 127 .nil) 170 59 (.node .nil 171 44 .nil)) 172 164 (.node (.node .nil 173 165 .nil) 174 166 .nil)) 175 167 (.node
 (.node (.node .nil 176 168 .nil) 177 131 (.node .nil 178 140 .nil)) 179 174 (.node (.node .nil 180 186 .nil) 181 187 .nil)))))) 182 188 (.node (.node (.node (.node (.node (.node (.node
 .nil 183 189 .nil) 184 190 (.node .nil 185 192 .nil)) 186 193 (.node (.node .nil 187 194 .nil) 188 195 (.node .nil 189 196 .nil))) 190 197 (.node (.node (.node .nil 191 198 .nil) 192
 128 (.node .nil 193 204 .nil)) 194 205 (.node (.node .nil 195 207 .nil) 196 208 .nil))) 197 209 (.node (.node (.node (.node .nil 198 210 .nil) 199 211 (.node .nil 200 212 .nil)) 201
 214 (.node (.node .nil 202 215 .nil) 203 218 .nil)) 204 73 (.node (.node (.node .nil 205 74 .nil) 206 75 (.node .nil 208 43 .nil)) 209 45 (.node (.node .nil 213 58 .nil) 214 105 .nil))))
 215 108 (.node (.node (.node (.node (.node .nil 218 134 .nil) 219 135 (.node .nil 220 136 .nil)) 221 137 (.node (.node .nil 222 138 .nil) 228 145 (.node .nil 233 169 .nil))) 234 171
 (.node (.node (.node .nil 235 172 .nil) 236 173 (.node .nil 244 200 .nil)) 245 201 (.node (.node .nil 246 202 .nil) 251 216 .nil))) 252 217 (.node (.node (.node (.node .nil 253 24 .nil)
 254 25 (.node .nil 255 29 .nil)) 256 30 (.node (.node .nil 257 31 .nil) 258 32 .nil)) 259 35 (.node (.node (.node .nil 260 36 .nil) 261 37 (.node .nil 262 38 .nil)) 263 39 (.node (.node
 .nil 264 40 .nil) 265 42 .nil))))) 266 46 (.node (.node (.node (.node (.node (.node .nil 267 47 .nil) 268 48 (.node .nil 269 57 .nil)) 270 60 (.node (.node .nil 271 61 .nil) 272 63
 (.node .nil 273 64 .nil))) 274 65 (.node (.node (.node .nil 275 66 .nil) 276 68 (.node .nil 277 69 .nil)) 278 70 (.node (.node .nil 279 71 .nil) 280 76 .nil))) 281 77 (.node (.node
 (.node (.node .nil 282 78 .nil) 283 79 (.node .nil 284 80 .nil)) 285 81 (.node (.node .nil 286 83 .nil) 287 88 .nil)) 288 96 (.node (.node (.node .nil 289 98 .nil) 290 99 (.node .nil
 291 100 .nil)) 292 101 (.node (.node .nil 293 104 .nil) 294 107 .nil)))) 295 124 (.node (.node (.node (.node (.node .nil 296 130 .nil) 297 132 (.node .nil 298 133 .nil)) 299 153 (.node
 (.node .nil 300 154 .nil) 301 155 (.node .nil 302 156 .nil))) 303 157 (.node (.node (.node .nil 304 158 .nil) 305 159 (.node .nil 306 160 .nil)) 307 161 (.node (.node .nil 308 162 .nil)
 309 163 .nil))) 310 175 (.node (.node (.node (.node .nil 311 176 .nil) 312 177 (.node .nil 313 178 .nil)) 314 179 (.node (.node .nil 315 180 .nil) 316 181 .nil)) 317 182 (.node (.node
 (.node .nil 318 183 .nil) 319 184 (.node .nil 320 185 .nil)) 321 206 (.node (.node .nil 322 231 .nil) 323 232 .nil)))))))
def gamT:NT:=(.node (.node (.node .nil 0 0 .nil) 4 1 .nil) 5 2 (.node .nil 6 3 .nil))
noncomputable def cx:Cx:=⟨Tryz.prog,phiT.get,tauT.get,gamT.get⟩
theorem k_lex_Number:FnOK cx 63 B.lex_Number:=fnOK_of (by kernel_rfl) Tryz.func95 (by kernel_rfl)
theorem k_chaseref03_Number:FnOK cx 64 B.chaseref03_Number:=fnOK_of (by kernel_rfl) Tryz.func43 (by kernel_rfl)
theorem k_lex_Word:FnOK cx 65 B.lex_Word:=fnOK_of (by kernel_rfl) Tryz.func57 (by kernel_rfl)
theorem k_lex_Regular:FnOK cx 67 B.lex_Regular:=fnOK_of (by kernel_rfl) Tryz.func56 (by kernel_rfl)
theorem k_chaseref03_Regular:FnOK cx 68 B.chaseref03_Regular:=fnOK_of (by kernel_rfl) Tryz.func66 (by kernel_rfl)
theorem k_lex_Unquote:FnOK cx 69 B.lex_Unquote:=fnOK_of (by kernel_rfl) Tryz.func118 (by kernel_rfl)
theorem k_lex_Quote:FnOK cx 71 B.lex_Quote:=fnOK_of (by kernel_rfl) Tryz.func73 (by kernel_rfl)
theorem k_lex_Check:FnOK cx 74 B.lex_Check:=fnOK_of (by kernel_rfl) Tryz.func40 (by kernel_rfl)
theorem k_lex_numeral_whole:FnOK cx 75 B.lex_numeral_whole:=fnOK_of (by kernel_rfl) Tryz.func124 (by kernel_rfl)
theorem k_lex_numeral_radix:FnOK cx 76 B.lex_numeral_radix:=fnOK_of (by kernel_rfl) Tryz.func125 (by kernel_rfl)
theorem k_lex_numeral_decimal:FnOK cx 77 B.lex_numeral_decimal:=fnOK_of (by kernel_rfl) Tryz.func126 (by kernel_rfl)
theorem k_chaseref03_count:FnOK cx 78 B.chaseref03_count:=fnOK_of (by kernel_rfl) Tryz.func75 (by kernel_rfl)
theorem k_chaseref03_whole:FnOK cx 79 B.chaseref03_whole:=fnOK_of (by kernel_rfl) Tryz.func76 (by kernel_rfl)
theorem k_chaseref01_Read:FnOK cx 80 B.chaseref01_Read:=fnOK_of (by kernel_rfl) Tryz.func77 (by kernel_rfl)
theorem k_chaseref01_Parse:FnOK cx 81 B.chaseref01_Parse:=fnOK_of (by kernel_rfl) Tryz.func78 (by kernel_rfl)
theorem k_lex_regular:FnOK cx 82 B.lex_regular:=fnOK_of (by kernel_rfl) Tryz.func94 (by kernel_rfl)
theorem k_chaseref03_All:FnOK cx 83 B.chaseref03_All:=fnOK_of (by kernel_rfl) Tryz.func44 (by kernel_rfl)
theorem k_chaseref02_Blank:FnOK cx 85 B.chaseref02_Blank:=fnOK_of (by kernel_rfl) Tryz.func58 (by kernel_rfl)
theorem k_lex_quoted_next:FnOK cx 86 B.lex_quoted_next:=fnOK_of (by kernel_rfl) Tryz.func131 (by kernel_rfl)
theorem k_lex_quoted_run:FnOK cx 87 B.lex_quoted_run:=fnOK_of (by kernel_rfl) Tryz.func132 (by kernel_rfl)
theorem k_strings_Builder_WriteByte:FnOK cx 91 B.strings_Builder_WriteByte:=fnOK_of (by kernel_rfl) Tryz.func25 (by kernel_rfl)
theorem k_strings_Builder_String:FnOK cx 92 B.strings_Builder_String:=fnOK_of (by kernel_rfl) Tryz.func24 (by kernel_rfl)
theorem k_lex_right:FnOK cx 93 B.lex_right:=fnOK_of (by kernel_rfl) Tryz.func74 (by kernel_rfl)
theorem k_strings_HasPrefix:FnOK cx 94 B.strings_HasPrefix:=fnOK_of (by kernel_rfl) Tryz.func48 (by kernel_rfl)
theorem k_lex_count:FnOK cx 95 B.lex_count:=fnOK_of (by kernel_rfl) Tryz.func137 (by kernel_rfl)
theorem k_lex_numeral_answer:FnOK cx 96 B.lex_numeral_answer:=fnOK_of (by kernel_rfl) Tryz.func138 (by kernel_rfl)
theorem k_strings_Cut:FnOK cx 97 B.strings_Cut:=fnOK_of (by kernel_rfl) Tryz.func139 (by kernel_rfl)
theorem k_strings_ContainsAny:FnOK cx 98 B.strings_ContainsAny:=fnOK_of (by kernel_rfl) Tryz.func140 (by kernel_rfl)
theorem k_lex_pattern:FnOK cx 99 B.lex_pattern:=fnOK_of (by kernel_rfl) Tryz.func141 (by kernel_rfl)
theorem k_real_Parse:FnOK cx 100 B.real_Parse:=fnOK_of (by kernel_rfl) Tryz.func142 (by kernel_rfl)
theorem k_chaseref03_digit:FnOK cx 101 B.chaseref03_digit:=fnOK_of (by kernel_rfl) Tryz.func112 (by kernel_rfl)
theorem k_chaseref01_digit:FnOK cx 102 B.chaseref01_digit:=fnOK_of (by kernel_rfl) Tryz.func113 (by kernel_rfl)
theorem k_chaseref01_times:FnOK cx 103 B.chaseref01_times:=fnOK_of (by kernel_rfl) Tryz.func114 (by kernel_rfl)
theorem k_chaseref01_Floor:FnOK cx 104 B.chaseref01_Floor:=fnOK_of (by kernel_rfl) Tryz.func115 (by kernel_rfl)
theorem k_chaseref01_Is:FnOK cx 105 B.chaseref01_Is:=fnOK_of (by kernel_rfl) Tryz.func42 (by kernel_rfl)
theorem k_lex_quoted_escape:FnOK cx 106 B.lex_quoted_escape:=fnOK_of (by kernel_rfl) Tryz.func147 (by kernel_rfl)
theorem k_lex_quoted_line:FnOK cx 107 B.lex_quoted_line:=fnOK_of (by kernel_rfl) Tryz.func148 (by kernel_rfl)
theorem k_strings_Builder_copyCheck:FnOK cx 109 B.strings_Builder_copyCheck:=fnOK_of (by kernel_rfl) Tryz.func46 (by kernel_rfl)
theorem k_real_Is:FnOK cx 110 B.real_Is:=fnOK_of (by kernel_rfl) Tryz.func110 (by kernel_rfl)
theorem k_lex_named:FnOK cx 111 B.lex_named:=fnOK_of (by kernel_rfl) Tryz.func111 (by kernel_rfl)
theorem k_lex_digits:FnOK cx 112 B.lex_digits:=fnOK_of (by kernel_rfl) Tryz.func156 (by kernel_rfl)
theorem k_real_scanner_decimal:FnOK cx 113 B.real_scanner_decimal:=fnOK_of (by kernel_rfl) Tryz.func159 (by kernel_rfl)
theorem k_real_front:FnOK cx 114 B.real_front:=fnOK_of (by kernel_rfl) Tryz.func160 (by kernel_rfl)
theorem k_real_fraction:FnOK cx 115 B.real_fraction:=fnOK_of (by kernel_rfl) Tryz.func161 (by kernel_rfl)
theorem k_real_double:FnOK cx 116 B.real_double:=fnOK_of (by kernel_rfl) Tryz.func162 (by kernel_rfl)
theorem k_lex_letters:FnOK cx 117 B.lex_letters:=fnOK_of (by kernel_rfl) Tryz.func168 (by kernel_rfl)
theorem k_lex_digits_1:FnOK cx 119 B.lex_digits_1:=fnOK_of (by kernel_rfl) Tryz.func171 (by kernel_rfl)
theorem k_real_scanner_one:FnOK cx 120 B.real_scanner_one:=fnOK_of (by kernel_rfl) Tryz.func178 (by kernel_rfl)
theorem k_real_scanner_digits:FnOK cx 121 B.real_scanner_digits:=fnOK_of (by kernel_rfl) Tryz.func179 (by kernel_rfl)
theorem k_lex_value:FnOK cx 122 B.lex_value:=fnOK_of (by kernel_rfl) Tryz.func172 (by kernel_rfl)
theorem k_stringslite_HasPrefix:FnOK cx 123 B.stringslite_HasPrefix:=fnOK_of (by kernel_rfl) Tryz.func82 (by kernel_rfl)
theorem k_chaseref03_Draft_Token:FnOK cx 127 B.chaseref03_Draft_Token:=fnOK_of (by kernel_rfl) Tryz.func35 (by kernel_rfl)
theorem k_lex_Text:FnOK cx 128 B.lex_Text:=fnOK_of (by kernel_rfl) Tryz.func38 (by kernel_rfl)
theorem k_chaseref03_Right:FnOK cx 129 B.chaseref03_Right:=fnOK_of (by kernel_rfl) Tryz.func20 (by kernel_rfl)
theorem k_real_Print:FnOK cx 133 B.real_Print:=fnOK_of (by kernel_rfl) Tryz.func72 (by kernel_rfl)
theorem k_real_Print_1:FnOK cx 136 B.real_Print_1:=fnOK_of (by kernel_rfl) Tryz.func108 (by kernel_rfl)
theorem k_real_result_string:FnOK cx 137 B.real_result_string:=fnOK_of (by kernel_rfl) Tryz.func107 (by kernel_rfl)
theorem k_real_whole:FnOK cx 138 B.real_whole:=fnOK_of (by kernel_rfl) Tryz.func109 (by kernel_rfl)
theorem k_real_whole_1:FnOK cx 139 B.real_whole_1:=fnOK_of (by kernel_rfl) Tryz.func129 (by kernel_rfl)
theorem k_stringslite_Cut:FnOK cx 140 B.stringslite_Cut:=fnOK_of (by kernel_rfl) Tryz.func157 (by kernel_rfl)
theorem k_strings_IndexAny:FnOK cx 141 B.strings_IndexAny:=fnOK_of (by kernel_rfl) Tryz.func158 (by kernel_rfl)
theorem k_strings_IndexRune:FnOK cx 143 B.strings_IndexRune:=fnOK_of (by kernel_rfl) Tryz.func174 (by kernel_rfl)
theorem k_strings_shouldUseASCIISet:FnOK cx 144 B.strings_shouldUseASCIISet:=fnOK_of (by kernel_rfl) Tryz.func175 (by kernel_rfl)
theorem k_strings_makeASCIISet:FnOK cx 145 B.strings_makeASCIISet:=fnOK_of (by kernel_rfl) Tryz.func176 (by kernel_rfl)
theorem k_strings_asciiSet_contains:FnOK cx 146 B.strings_asciiSet_contains:=fnOK_of (by kernel_rfl) Tryz.func177 (by kernel_rfl)
theorem k_unicode_utf8_ValidRune:FnOK cx 147 B.unicode_utf8_ValidRune:=fnOK_of (by kernel_rfl) Tryz.func185 (by kernel_rfl)
theorem k_bytealg_Cutover:FnOK cx 148 B.bytealg_Cutover:=fnOK_of (by kernel_rfl) Tryz.func183 (by kernel_rfl)
theorem k_chaselaw04_ScanBack:FnOK cx 153 B.chaselaw04_ScanBack:=fnOK_of (by kernel_rfl) Tryz.func6 (by kernel_rfl)
theorem k_chaselaw04_works:FnOK cx 157 B.chaselaw04_works:=fnOK_of (by kernel_rfl) Tryz.func10 (by kernel_rfl)
theorem k_scan_Next:FnOK cx 158 B.scan_Next:=fnOK_of (by kernel_rfl) Tryz.func11 (by kernel_rfl)
theorem k_chaseref04_Tokens:FnOK cx 160 B.chaseref04_Tokens:=fnOK_of (by kernel_rfl) Tryz.func13 (by kernel_rfl)
theorem k_scan_All:FnOK cx 162 B.scan_All:=fnOK_of (by kernel_rfl) Tryz.func15 (by kernel_rfl)
theorem k_chaseref04_Same:FnOK cx 164 B.chaseref04_Same:=fnOK_of (by kernel_rfl) Tryz.func17 (by kernel_rfl)
theorem k_scan_Print:FnOK cx 165 B.scan_Print:=fnOK_of (by kernel_rfl) Tryz.func18 (by kernel_rfl)
theorem k_scan_Pack:FnOK cx 166 B.scan_Pack:=fnOK_of (by kernel_rfl) Tryz.func19 (by kernel_rfl)
theorem k_chaselaw04_reads:FnOK cx 168 B.chaselaw04_reads:=fnOK_of (by kernel_rfl) Tryz.func22 (by kernel_rfl)
theorem k_strings_Builder_WriteString:FnOK cx 169 B.strings_Builder_WriteString:=fnOK_of (by kernel_rfl) Tryz.func23 (by kernel_rfl)
theorem k_chaselaw04_fails:FnOK cx 170 B.chaselaw04_fails:=fnOK_of (by kernel_rfl) Tryz.func27 (by kernel_rfl)
theorem k_chaselaw04_text:FnOK cx 171 B.chaselaw04_text:=fnOK_of (by kernel_rfl) Tryz.func28 (by kernel_rfl)
theorem k_chaselaw04_name:FnOK cx 172 B.chaselaw04_name:=fnOK_of (by kernel_rfl) Tryz.func29 (by kernel_rfl)
theorem k_chaselaw04_number:FnOK cx 173 B.chaselaw04_number:=fnOK_of (by kernel_rfl) Tryz.func30 (by kernel_rfl)
theorem k_scan_reader_skip:FnOK cx 174 B.scan_reader_skip:=fnOK_of (by kernel_rfl) Tryz.func31 (by kernel_rfl)
theorem k_scan_reader_token:FnOK cx 175 B.scan_reader_token:=fnOK_of (by kernel_rfl) Tryz.func32 (by kernel_rfl)
theorem k_scan_tokens:FnOK cx 178 B.scan_tokens:=fnOK_of (by kernel_rfl) Tryz.func37 (by kernel_rfl)
theorem k_scan_form:FnOK cx 180 B.scan_form:=fnOK_of (by kernel_rfl) Tryz.func41 (by kernel_rfl)
theorem k_scan_run_string:FnOK cx 182 B.scan_run_string:=fnOK_of (by kernel_rfl) Tryz.func51 (by kernel_rfl)
theorem k_scan_blank:FnOK cx 183 B.scan_blank:=fnOK_of (by kernel_rfl) Tryz.func52 (by kernel_rfl)
theorem k_scan_reader_skip_1:FnOK cx 184 B.scan_reader_skip_1:=fnOK_of (by kernel_rfl) Tryz.func53 (by kernel_rfl)
theorem k_scan_readers:FnOK cx 185 B.scan_readers:=fnOK_of (by kernel_rfl) Tryz.func54 (by kernel_rfl)
theorem k_scan_reader_binary:FnOK cx 186 B.scan_reader_binary:=fnOK_of (by kernel_rfl) Tryz.func55 (by kernel_rfl)
theorem k_scan_tokens_1:FnOK cx 192 B.scan_tokens_1:=fnOK_of (by kernel_rfl) Tryz.func70 (by kernel_rfl)
theorem k_scan_reader_quoted:FnOK cx 193 B.scan_reader_quoted:=fnOK_of (by kernel_rfl) Tryz.func85 (by kernel_rfl)
theorem k_scan_reader_stray:FnOK cx 194 B.scan_reader_stray:=fnOK_of (by kernel_rfl) Tryz.func86 (by kernel_rfl)
theorem k_scan_reader_brace:FnOK cx 195 B.scan_reader_brace:=fnOK_of (by kernel_rfl) Tryz.func87 (by kernel_rfl)
theorem k_scan_reader_bracket:FnOK cx 196 B.scan_reader_bracket:=fnOK_of (by kernel_rfl) Tryz.func88 (by kernel_rfl)
theorem k_scan_reader_less:FnOK cx 197 B.scan_reader_less:=fnOK_of (by kernel_rfl) Tryz.func89 (by kernel_rfl)
theorem k_scan_reader_greater:FnOK cx 198 B.scan_reader_greater:=fnOK_of (by kernel_rfl) Tryz.func90 (by kernel_rfl)
theorem k_scan_reader_slash:FnOK cx 199 B.scan_reader_slash:=fnOK_of (by kernel_rfl) Tryz.func91 (by kernel_rfl)
theorem k_scan_reader_fixed:FnOK cx 200 B.scan_reader_fixed:=fnOK_of (by kernel_rfl) Tryz.func92 (by kernel_rfl)
theorem k_scan_reader_counted:FnOK cx 201 B.scan_reader_counted:=fnOK_of (by kernel_rfl) Tryz.func93 (by kernel_rfl)
theorem k_scan_text:FnOK cx 209 B.scan_text:=fnOK_of (by kernel_rfl) Tryz.func119 (by kernel_rfl)
theorem k_scan_reader_follows:FnOK cx 210 B.scan_reader_follows:=fnOK_of (by kernel_rfl) Tryz.func120 (by kernel_rfl)
theorem k_ascii_Unhex:FnOK cx 211 B.ascii_Unhex:=fnOK_of (by kernel_rfl) Tryz.func121 (by kernel_rfl)
theorem k_ascii_Unbase85:FnOK cx 212 B.ascii_Unbase85:=fnOK_of (by kernel_rfl) Tryz.func122 (by kernel_rfl)
theorem k_scan_number:FnOK cx 213 B.scan_number:=fnOK_of (by kernel_rfl) Tryz.func123 (by kernel_rfl)
theorem k_ascii_read_ascii_half:FnOK cx 214 B.ascii_read_ascii_half:=fnOK_of (by kernel_rfl) Tryz.func133 (by kernel_rfl)
theorem k_ascii_half_take:FnOK cx 215 B.ascii_half_take:=fnOK_of (by kernel_rfl) Tryz.func134 (by kernel_rfl)
theorem k_ascii_read_ascii_tens:FnOK cx 216 B.ascii_read_ascii_tens:=fnOK_of (by kernel_rfl) Tryz.func135 (by kernel_rfl)
theorem k_ascii_tens_take:FnOK cx 217 B.ascii_tens_take:=fnOK_of (by kernel_rfl) Tryz.func136 (by kernel_rfl)
theorem k_ascii_read_ascii_half_1:FnOK cx 218 B.ascii_read_ascii_half_1:=fnOK_of (by kernel_rfl) Tryz.func149 (by kernel_rfl)
theorem k_ascii_solid:FnOK cx 219 B.ascii_solid:=fnOK_of (by kernel_rfl) Tryz.func150 (by kernel_rfl)
theorem k_ascii_bounded:FnOK cx 220 B.ascii_bounded:=fnOK_of (by kernel_rfl) Tryz.func151 (by kernel_rfl)
theorem k_ascii_nibble:FnOK cx 221 B.ascii_nibble:=fnOK_of (by kernel_rfl) Tryz.func152 (by kernel_rfl)
theorem k_ascii_read_ascii_tens_1:FnOK cx 222 B.ascii_read_ascii_tens_1:=fnOK_of (by kernel_rfl) Tryz.func153 (by kernel_rfl)
theorem k_ascii_tens_close:FnOK cx 223 B.ascii_tens_close:=fnOK_of (by kernel_rfl) Tryz.func154 (by kernel_rfl)
theorem k_ascii_fold:FnOK cx 224 B.ascii_fold:=fnOK_of (by kernel_rfl) Tryz.func155 (by kernel_rfl)
theorem k_ascii_solid_1:FnOK cx 225 B.ascii_solid_1:=fnOK_of (by kernel_rfl) Tryz.func169 (by kernel_rfl)
theorem k_ascii_blank:FnOK cx 226 B.ascii_blank:=fnOK_of (by kernel_rfl) Tryz.func170 (by kernel_rfl)
def fnT:FT:=(.node (.node (.node (.node (.node (.node (.node .nil 63 B.lex_Number .nil) 64 B.chaseref03_Number (.node .nil 65 B.lex_Word .nil)) 67 B.lex_Regular (.node (.node .nil
 68 B.chaseref03_Regular .nil) 69 B.lex_Unquote (.node .nil 71 B.lex_Quote .nil))) 74 B.lex_Check (.node (.node (.node .nil 75 B.lex_numeral_whole .nil) 76 B.lex_numeral_radix (.node
 .nil 77 B.lex_numeral_decimal .nil)) 78 B.chaseref03_count (.node (.node .nil 79 B.chaseref03_whole .nil) 80 B.chaseref01_Read .nil))) 81 B.chaseref01_Parse (.node (.node (.node (.node
 .nil 82 B.lex_regular .nil) 83 B.chaseref03_All (.node .nil 85 B.chaseref02_Blank .nil)) 86 B.lex_quoted_next (.node (.node .nil 87 B.lex_quoted_run .nil) 91 B.strings_Builder_WriteByte
 (.node .nil 92 B.strings_Builder_String .nil))) 93 B.lex_right (.node (.node (.node .nil 94 B.strings_HasPrefix .nil) 95 B.lex_count (.node .nil 96 B.lex_numeral_answer .nil)) 97 B.strings_Cut
 (.node (.node .nil 98 B.strings_ContainsAny .nil) 99 B.lex_pattern .nil)))) 100 B.real_Parse (.node (.node (.node (.node (.node .nil 101 B.chaseref03_digit .nil) 102 B.chaseref01_digit
 (.node .nil 103 B.chaseref01_times .nil)) 104 B.chaseref01_Floor (.node (.node .nil 105 B.chaseref01_Is .nil) 106 B.lex_quoted_escape (.node .nil 107 B.lex_quoted_line .nil))) 109 B.strings_Builder_copyCheck
 (.node (.node (.node .nil 110 B.real_Is .nil) 111 B.lex_named (.node .nil 112 B.lex_digits .nil)) 113 B.real_scanner_decimal (.node (.node .nil 114 B.real_front .nil) 115 B.real_fraction
 .nil))) 116 B.real_double (.node (.node (.node (.node .nil 117 B.lex_letters .nil) 119 B.lex_digits_1 (.node .nil 120 B.real_scanner_one .nil)) 121 B.real_scanner_digits (.node (.node
 .nil 122 B.lex_value .nil) 123 B.stringslite_HasPrefix (.node .nil 127 B.chaseref03_Draft_Token .nil))) 128 B.lex_Text (.node (.node (.node .nil 129 B.chaseref03_Right .nil) 133 B.real_Print
 (.node .nil 136 B.real_Print_1 .nil)) 137 B.real_result_string (.node (.node .nil 138 B.real_whole .nil) 139 B.real_whole_1 .nil))))) 140 B.stringslite_Cut (.node (.node (.node (.node
 (.node (.node .nil 141 B.strings_IndexAny .nil) 143 B.strings_IndexRune (.node .nil 144 B.strings_shouldUseASCIISet .nil)) 145 B.strings_makeASCIISet (.node (.node .nil 146 B.strings_asciiSet_contains
 .nil) 147 B.unicode_utf8_ValidRune (.node .nil 148 B.bytealg_Cutover .nil))) 153 B.chaselaw04_ScanBack (.node (.node (.node .nil 157 B.chaselaw04_works .nil) 158 B.scan_Next (.node
 .nil 160 B.chaseref04_Tokens .nil)) 162 B.scan_All (.node (.node .nil 164 B.chaseref04_Same .nil) 165 B.scan_Print .nil))) 166 B.scan_Pack (.node (.node (.node (.node .nil 168 B.chaselaw04_reads
 .nil) 169 B.strings_Builder_WriteString (.node .nil 170 B.chaselaw04_fails .nil)) 171 B.chaselaw04_text (.node (.node .nil 172 B.chaselaw04_name .nil) 173 B.chaselaw04_number (.node
 .nil 174 B.scan_reader_skip .nil))) 175 B.scan_reader_token (.node (.node (.node .nil 178 B.scan_tokens .nil) 180 B.scan_form (.node .nil 182 B.scan_run_string .nil)) 183 B.scan_blank
 (.node (.node .nil 184 B.scan_reader_skip_1 .nil) 185 B.scan_readers .nil)))) 186 B.scan_reader_binary (.node (.node (.node (.node (.node .nil 192 B.scan_tokens_1 .nil) 193 B.scan_reader_quoted
 (.node .nil 194 B.scan_reader_stray .nil)) 195 B.scan_reader_brace (.node (.node .nil 196 B.scan_reader_bracket .nil) 197 B.scan_reader_less (.node .nil 198 B.scan_reader_greater .nil)))
 199 B.scan_reader_slash (.node (.node (.node .nil 200 B.scan_reader_fixed .nil) 201 B.scan_reader_counted (.node .nil 209 B.scan_text .nil)) 210 B.scan_reader_follows (.node (.node
 .nil 211 B.ascii_Unhex .nil) 212 B.ascii_Unbase85 .nil))) 213 B.scan_number (.node (.node (.node (.node .nil 214 B.ascii_read_ascii_half .nil) 215 B.ascii_half_take (.node .nil 216
 B.ascii_read_ascii_tens .nil)) 217 B.ascii_tens_take (.node (.node .nil 218 B.ascii_read_ascii_half_1 .nil) 219 B.ascii_solid .nil)) 220 B.ascii_bounded (.node (.node (.node .nil 221
 B.ascii_nibble .nil) 222 B.ascii_read_ascii_tens_1 (.node .nil 223 B.ascii_tens_close .nil)) 224 B.ascii_fold (.node (.node .nil 225 B.ascii_solid_1 .nil) 226 B.ascii_blank .nil))))))
theorem fnT_all:fnT.All (FnOK cx):=⟨⟨⟨⟨⟨⟨⟨trivial,k_lex_Number,trivial⟩,k_chaseref03_Number,⟨trivial,k_lex_Word,trivial⟩⟩,k_lex_Regular,⟨⟨trivial,k_chaseref03_Regular,
 trivial⟩,k_lex_Unquote,⟨trivial,k_lex_Quote,trivial⟩⟩⟩,k_lex_Check,⟨⟨⟨trivial,k_lex_numeral_whole,trivial⟩,k_lex_numeral_radix,⟨trivial,k_lex_numeral_decimal,trivial⟩⟩,
 k_chaseref03_count,⟨⟨trivial,k_chaseref03_whole,trivial⟩,k_chaseref01_Read,trivial⟩⟩⟩,k_chaseref01_Parse,⟨⟨⟨⟨trivial,k_lex_regular,trivial⟩,k_chaseref03_All,⟨trivial,k_chaseref02_Blank,
 trivial⟩⟩,k_lex_quoted_next,⟨⟨trivial,k_lex_quoted_run,trivial⟩,k_strings_Builder_WriteByte,⟨trivial,k_strings_Builder_String,trivial⟩⟩⟩,k_lex_right,⟨⟨⟨trivial,k_strings_HasPrefix,
 trivial⟩,k_lex_count,⟨trivial,k_lex_numeral_answer,trivial⟩⟩,k_strings_Cut,⟨⟨trivial,k_strings_ContainsAny,trivial⟩,k_lex_pattern,trivial⟩⟩⟩⟩,k_real_Parse,⟨⟨⟨⟨⟨trivial,
 k_chaseref03_digit,trivial⟩,k_chaseref01_digit,⟨trivial,k_chaseref01_times,trivial⟩⟩,k_chaseref01_Floor,⟨⟨trivial,k_chaseref01_Is,trivial⟩,k_lex_quoted_escape,⟨trivial,k_lex_quoted_line,
 trivial⟩⟩⟩,k_strings_Builder_copyCheck,⟨⟨⟨trivial,k_real_Is,trivial⟩,k_lex_named,⟨trivial,k_lex_digits,trivial⟩⟩,k_real_scanner_decimal,⟨⟨trivial,k_real_front,trivial⟩,
 k_real_fraction,trivial⟩⟩⟩,k_real_double,⟨⟨⟨⟨trivial,k_lex_letters,trivial⟩,k_lex_digits_1,⟨trivial,k_real_scanner_one,trivial⟩⟩,k_real_scanner_digits,⟨⟨trivial,k_lex_value,
 trivial⟩,k_stringslite_HasPrefix,⟨trivial,k_chaseref03_Draft_Token,trivial⟩⟩⟩,k_lex_Text,⟨⟨⟨trivial,k_chaseref03_Right,trivial⟩,k_real_Print,⟨trivial,k_real_Print_1,trivial⟩⟩,
 k_real_result_string,⟨⟨trivial,k_real_whole,trivial⟩,k_real_whole_1,trivial⟩⟩⟩⟩⟩,k_stringslite_Cut,⟨⟨⟨⟨⟨⟨trivial,k_strings_IndexAny,trivial⟩,k_strings_IndexRune,⟨trivial,
 k_strings_shouldUseASCIISet,trivial⟩⟩,k_strings_makeASCIISet,⟨⟨trivial,k_strings_asciiSet_contains,trivial⟩,k_unicode_utf8_ValidRune,⟨trivial,k_bytealg_Cutover,trivial⟩⟩⟩,
 k_chaselaw04_ScanBack,⟨⟨⟨trivial,k_chaselaw04_works,trivial⟩,k_scan_Next,⟨trivial,k_chaseref04_Tokens,trivial⟩⟩,k_scan_All,⟨⟨trivial,k_chaseref04_Same,trivial⟩,k_scan_Print,
 trivial⟩⟩⟩,k_scan_Pack,⟨⟨⟨⟨trivial,k_chaselaw04_reads,trivial⟩,k_strings_Builder_WriteString,⟨trivial,k_chaselaw04_fails,trivial⟩⟩,k_chaselaw04_text,⟨⟨trivial,k_chaselaw04_name,
 trivial⟩,k_chaselaw04_number,⟨trivial,k_scan_reader_skip,trivial⟩⟩⟩,k_scan_reader_token,⟨⟨⟨trivial,k_scan_tokens,trivial⟩,k_scan_form,⟨trivial,k_scan_run_string,trivial⟩⟩,
 k_scan_blank,⟨⟨trivial,k_scan_reader_skip_1,trivial⟩,k_scan_readers,trivial⟩⟩⟩⟩,k_scan_reader_binary,⟨⟨⟨⟨⟨trivial,k_scan_tokens_1,trivial⟩,k_scan_reader_quoted,⟨trivial,
 k_scan_reader_stray,trivial⟩⟩,k_scan_reader_brace,⟨⟨trivial,k_scan_reader_bracket,trivial⟩,k_scan_reader_less,⟨trivial,k_scan_reader_greater,trivial⟩⟩⟩,k_scan_reader_slash,
 ⟨⟨⟨trivial,k_scan_reader_fixed,trivial⟩,k_scan_reader_counted,⟨trivial,k_scan_text,trivial⟩⟩,k_scan_reader_follows,⟨⟨trivial,k_ascii_Unhex,trivial⟩,k_ascii_Unbase85,trivial⟩⟩⟩,
 k_scan_number,⟨⟨⟨⟨trivial,k_ascii_read_ascii_half,trivial⟩,k_ascii_half_take,⟨trivial,k_ascii_read_ascii_tens,trivial⟩⟩,k_ascii_tens_take,⟨⟨trivial,k_ascii_read_ascii_half_1,
 trivial⟩,k_ascii_solid,trivial⟩⟩,k_ascii_bounded,⟨⟨⟨trivial,k_ascii_nibble,trivial⟩,k_ascii_read_ascii_tens_1,⟨trivial,k_ascii_tens_close,trivial⟩⟩,k_ascii_fold,⟨⟨trivial,
 k_ascii_solid_1,trivial⟩,k_ascii_blank,trivial⟩⟩⟩⟩⟩⟩
def enT:Nat→Option Entry:=fun k=>if k=179 then some B.E_strings_Join else if k=132 then some B.E_strconv_Itoa else if k=118 then some B.E_abi_NoEscape else if k=84 then some B.E_strings_IndexByte else if k=142 then some B.E_stringslite_Index else none
def tab:Tab:=⟨fnT.get,enT⟩
theorem has_strings_Join:B.H_strings_Join tab:=⟨rfl⟩
theorem has_strconv_Itoa:B.H_strconv_Itoa tab:=⟨rfl⟩
theorem has_abi_NoEscape:B.H_abi_NoEscape tab:=⟨rfl⟩
theorem has_strings_IndexByte:B.H_strings_IndexByte tab:=⟨rfl⟩
theorem has_stringslite_Index:B.H_stringslite_Index tab:=⟨rfl⟩
theorem has_strings_Builder_String:B.H_strings_Builder_String tab:=⟨rfl,rfl⟩
theorem has_chaselaw04_number:B.H_chaselaw04_number tab:=⟨rfl,rfl⟩
theorem has_chaselaw04_name:B.H_chaselaw04_name tab:=⟨rfl,rfl⟩
theorem has_chaselaw04_text:B.H_chaselaw04_text tab:=⟨rfl,rfl⟩
theorem has_chaseref04_Same:B.H_chaseref04_Same tab:=⟨rfl,rfl⟩
theorem has_strings_Builder_copyCheck:B.H_strings_Builder_copyCheck tab:=⟨rfl,rfl,has_abi_NoEscape⟩
theorem has_strings_Builder_WriteByte:B.H_strings_Builder_WriteByte tab:=⟨rfl,rfl,has_strings_Builder_copyCheck⟩
theorem has_scan_run_string:B.H_scan_run_string tab:=⟨rfl,rfl⟩
theorem has_scan_blank:B.H_scan_blank tab:=⟨rfl,rfl,has_strings_IndexByte⟩
theorem has_scan_reader_skip_1:B.H_scan_reader_skip_1 tab:=⟨rfl,rfl⟩
theorem has_lex_Regular:B.H_lex_Regular tab:=⟨rfl,rfl,has_strings_IndexByte⟩
theorem has_chaseref02_Blank:B.H_chaseref02_Blank tab:=⟨rfl,rfl⟩
theorem has_chaseref01_Is:B.H_chaseref01_Is tab:=⟨rfl,rfl⟩
theorem has_real_Is:B.H_real_Is tab:=⟨rfl,rfl⟩
theorem has_scan_reader_stray:B.H_scan_reader_stray tab:=⟨rfl,rfl⟩
theorem has_scan_reader_brace:B.H_scan_reader_brace tab:=⟨rfl,rfl⟩
theorem has_lex_regular:B.H_lex_regular tab:=⟨rfl,rfl,has_lex_Regular⟩
theorem has_chaseref03_whole:B.H_chaseref03_whole tab:=⟨rfl,rfl⟩
theorem has_scan_reader_follows:B.H_scan_reader_follows tab:=⟨rfl,rfl⟩
theorem has_scan_number:B.H_scan_number tab:=⟨rfl,rfl⟩
theorem has_chaseref03_digit:B.H_chaseref03_digit tab:=⟨rfl,rfl⟩
theorem has_chaseref01_digit:B.H_chaseref01_digit tab:=⟨rfl,rfl⟩
theorem has_chaseref01_times:B.H_chaseref01_times tab:=⟨rfl,rfl⟩
theorem has_chaseref01_Floor:B.H_chaseref01_Floor tab:=⟨rfl,rfl⟩
theorem has_real_whole_1:B.H_real_whole_1 tab:=⟨rfl,rfl⟩
theorem has_lex_quoted_next:B.H_lex_quoted_next tab:=⟨rfl,rfl⟩
theorem has_lex_numeral_answer:B.H_lex_numeral_answer tab:=⟨rfl,rfl⟩
theorem has_lex_quoted_line:B.H_lex_quoted_line tab:=⟨rfl,rfl⟩
theorem has_ascii_read_ascii_half_1:B.H_ascii_read_ascii_half_1 tab:=⟨rfl,rfl⟩
theorem has_ascii_bounded:B.H_ascii_bounded tab:=⟨rfl,rfl⟩
theorem has_ascii_nibble:B.H_ascii_nibble tab:=⟨rfl,rfl,has_strings_IndexByte⟩
theorem has_ascii_read_ascii_tens_1:B.H_ascii_read_ascii_tens_1 tab:=⟨rfl,rfl⟩
theorem has_ascii_fold:B.H_ascii_fold tab:=⟨rfl,rfl⟩
theorem has_stringslite_HasPrefix:B.H_stringslite_HasPrefix tab:=⟨rfl,rfl⟩
theorem has_stringslite_Cut:B.H_stringslite_Cut tab:=⟨rfl,rfl,has_stringslite_Index⟩
theorem has_real_front:B.H_real_front tab:=⟨rfl,rfl⟩
theorem has_real_fraction:B.H_real_fraction tab:=⟨rfl,rfl⟩
theorem has_real_double:B.H_real_double tab:=⟨rfl,rfl⟩
theorem has_lex_letters:B.H_lex_letters tab:=⟨rfl,rfl⟩
theorem has_strings_shouldUseASCIISet:B.H_strings_shouldUseASCIISet tab:=⟨rfl,rfl⟩
theorem has_strings_makeASCIISet:B.H_strings_makeASCIISet tab:=⟨rfl,rfl⟩
theorem has_strings_asciiSet_contains:B.H_strings_asciiSet_contains tab:=⟨rfl,rfl⟩
theorem has_real_scanner_one:B.H_real_scanner_one tab:=⟨rfl,rfl⟩
theorem has_real_scanner_digits:B.H_real_scanner_digits tab:=⟨rfl,rfl,has_real_scanner_one⟩
theorem has_ascii_blank:B.H_ascii_blank tab:=⟨rfl,rfl⟩
theorem has_lex_value:B.H_lex_value tab:=⟨rfl,rfl⟩
theorem has_unicode_utf8_ValidRune:B.H_unicode_utf8_ValidRune tab:=⟨rfl,rfl⟩
theorem has_bytealg_Cutover:B.H_bytealg_Cutover tab:=⟨rfl,rfl⟩
theorem has_strings_Builder_WriteString:B.H_strings_Builder_WriteString tab:=⟨rfl,rfl,has_strings_Builder_copyCheck⟩
theorem has_scan_form:B.H_scan_form tab:=⟨rfl,rfl,has_strings_Builder_WriteByte,has_strings_Builder_WriteString,has_strings_Builder_String⟩
theorem has_scan_reader_skip:B.H_scan_reader_skip tab:=⟨rfl,rfl,has_scan_run_string,has_scan_blank,has_scan_reader_skip_1⟩
theorem has_chaseref03_Regular:B.H_chaseref03_Regular tab:=⟨rfl,rfl,has_chaseref02_Blank⟩
theorem has_lex_Quote:B.H_lex_Quote tab:=⟨rfl,rfl,has_strings_Builder_WriteByte,has_strings_Builder_String⟩
theorem has_chaseref03_All:B.H_chaseref03_All tab:=⟨rfl,rfl,has_chaseref03_Regular⟩
theorem has_real_result_string:B.H_real_result_string tab:=⟨rfl,rfl,has_real_Is⟩
theorem has_scan_reader_fixed:B.H_scan_reader_fixed tab:=⟨rfl,rfl,has_scan_reader_stray,has_scan_number⟩
theorem has_chaseref03_count:B.H_chaseref03_count tab:=⟨rfl,rfl,has_chaseref03_digit⟩
theorem has_chaseref01_Read:B.H_chaseref01_Read tab:=⟨rfl,rfl,has_chaseref01_digit⟩
theorem has_chaseref01_Parse:B.H_chaseref01_Parse tab:=⟨rfl,rfl,has_chaseref01_Read,has_chaseref01_times,has_chaseref01_Floor,has_chaseref01_Is⟩
theorem has_real_whole:B.H_real_whole tab:=⟨rfl,rfl,has_real_whole_1⟩
theorem has_ascii_half_take:B.H_ascii_half_take tab:=⟨rfl,rfl,has_ascii_nibble⟩
theorem has_strings_HasPrefix:B.H_strings_HasPrefix tab:=⟨rfl,rfl,has_stringslite_HasPrefix⟩
theorem has_strings_Cut:B.H_strings_Cut tab:=⟨rfl,rfl,has_stringslite_Cut⟩
theorem has_lex_quoted_escape:B.H_lex_quoted_escape tab:=⟨rfl,rfl,has_lex_quoted_next,has_lex_letters,has_lex_quoted_line⟩
theorem has_ascii_tens_close:B.H_ascii_tens_close tab:=⟨rfl,rfl,has_ascii_fold⟩
theorem has_real_scanner_decimal:B.H_real_scanner_decimal tab:=⟨rfl,rfl,has_real_scanner_one,has_real_scanner_digits⟩
theorem has_ascii_solid_1:B.H_ascii_solid_1 tab:=⟨rfl,rfl,has_ascii_blank⟩
theorem has_lex_digits_1:B.H_lex_digits_1 tab:=⟨rfl,rfl,has_lex_value⟩
theorem has_strings_IndexRune:B.H_strings_IndexRune tab:=⟨rfl,rfl,has_strings_IndexByte,has_unicode_utf8_ValidRune,has_bytealg_Cutover⟩
theorem has_chaseref03_Number:B.H_chaseref03_Number tab:=⟨rfl,rfl,has_chaseref03_count,has_chaseref03_whole,has_chaseref01_Read,has_chaseref01_Parse⟩
theorem has_real_Print_1:B.H_real_Print_1 tab:=⟨rfl,rfl,has_strings_Builder_WriteByte,has_real_whole,has_strings_Builder_String⟩
theorem has_lex_quoted_run:B.H_lex_quoted_run tab:=⟨rfl,rfl,has_lex_quoted_next,has_lex_quoted_escape,has_lex_quoted_line⟩
theorem has_ascii_tens_take:B.H_ascii_tens_take tab:=⟨rfl,rfl,has_ascii_tens_close,has_ascii_fold⟩
theorem has_real_Parse:B.H_real_Parse tab:=⟨rfl,rfl,has_real_scanner_decimal,has_real_front,has_real_fraction,has_real_double,has_real_Is⟩
theorem has_ascii_solid:B.H_ascii_solid tab:=⟨rfl,rfl,has_ascii_solid_1⟩
theorem has_lex_digits:B.H_lex_digits tab:=⟨rfl,rfl,has_lex_digits_1⟩
theorem has_strings_IndexAny:B.H_strings_IndexAny tab:=⟨rfl,rfl,has_strings_IndexRune,has_strings_shouldUseASCIISet,has_strings_makeASCIISet,has_strings_asciiSet_contains⟩
theorem has_chaseref03_Right:B.H_chaseref03_Right tab:=⟨rfl,rfl,has_chaseref01_Is,has_chaseref03_Number,has_chaseref03_All⟩
theorem has_real_Print:B.H_real_Print tab:=⟨rfl,rfl,has_real_Print_1,has_real_result_string⟩
theorem has_lex_Unquote:B.H_lex_Unquote tab:=⟨rfl,rfl,has_lex_quoted_next,has_lex_quoted_run⟩
theorem has_ascii_read_ascii_half:B.H_ascii_read_ascii_half tab:=⟨rfl,rfl,has_ascii_read_ascii_half_1,has_ascii_solid,has_ascii_bounded⟩
theorem has_ascii_read_ascii_tens:B.H_ascii_read_ascii_tens tab:=⟨rfl,rfl,has_ascii_read_ascii_tens_1,has_ascii_solid,has_ascii_bounded⟩
theorem has_lex_count:B.H_lex_count tab:=⟨rfl,rfl,has_lex_digits⟩
theorem has_strings_ContainsAny:B.H_strings_ContainsAny tab:=⟨rfl,rfl,has_strings_IndexAny⟩
theorem has_lex_pattern:B.H_lex_pattern tab:=⟨rfl,rfl,has_real_Parse⟩
theorem has_chaseref03_Draft_Token:B.H_chaseref03_Draft_Token tab:=⟨rfl,rfl,has_chaseref03_Regular,has_chaseref03_Right⟩
theorem has_ascii_Unhex:B.H_ascii_Unhex tab:=⟨rfl,rfl,has_ascii_read_ascii_half,has_ascii_half_take⟩
theorem has_ascii_Unbase85:B.H_ascii_Unbase85 tab:=⟨rfl,rfl,has_ascii_read_ascii_tens,has_ascii_tens_take⟩
theorem has_lex_numeral_whole:B.H_lex_numeral_whole tab:=⟨rfl,rfl,has_strings_HasPrefix,has_lex_count,has_lex_numeral_answer⟩
theorem has_lex_numeral_radix:B.H_lex_numeral_radix tab:=⟨rfl,rfl,has_strings_Cut,has_lex_count,has_lex_numeral_answer⟩
theorem has_lex_numeral_decimal:B.H_lex_numeral_decimal tab:=⟨rfl,rfl,has_strings_ContainsAny,has_lex_pattern,has_real_Parse⟩
theorem has_chaseref04_Tokens:B.H_chaseref04_Tokens tab:=⟨rfl,rfl,has_chaseref03_Draft_Token⟩
theorem has_lex_Number:B.H_lex_Number tab:=⟨rfl,rfl,has_lex_numeral_whole,has_lex_numeral_radix,has_lex_numeral_decimal⟩
theorem has_lex_Word:B.H_lex_Word tab:=⟨rfl,rfl,has_lex_regular,has_lex_Number⟩
theorem has_lex_named:B.H_lex_named tab:=⟨rfl,rfl,has_lex_regular,has_lex_Number⟩
theorem has_lex_right:B.H_lex_right tab:=⟨rfl,rfl,has_real_Is,has_lex_named⟩
theorem has_lex_Check:B.H_lex_Check tab:=⟨rfl,rfl,has_lex_right⟩
theorem has_scan_text:B.H_scan_text tab:=⟨rfl,rfl,has_lex_Check⟩
theorem has_lex_Text:B.H_lex_Text tab:=⟨rfl,rfl,has_lex_Check,has_strconv_Itoa,has_real_Print,has_lex_Quote⟩
theorem has_scan_reader_quoted:B.H_scan_reader_quoted tab:=⟨rfl,rfl,has_lex_Unquote,has_scan_text⟩
theorem has_scan_reader_bracket:B.H_scan_reader_bracket tab:=⟨rfl,rfl,has_scan_text⟩
theorem has_scan_reader_less:B.H_scan_reader_less tab:=⟨rfl,rfl,has_scan_reader_follows,has_scan_text,has_ascii_Unhex,has_ascii_Unbase85⟩
theorem has_scan_reader_greater:B.H_scan_reader_greater tab:=⟨rfl,rfl,has_scan_reader_follows,has_scan_text⟩
theorem has_scan_reader_slash:B.H_scan_reader_slash tab:=⟨rfl,rfl,has_scan_reader_follows,has_scan_run_string,has_lex_Regular,has_scan_text⟩
theorem has_scan_reader_counted:B.H_scan_reader_counted tab:=⟨rfl,rfl,has_scan_reader_stray,has_scan_text⟩
theorem has_scan_Print:B.H_scan_Print tab:=⟨rfl,rfl,has_lex_Text,has_strings_Join⟩
theorem has_scan_Pack:B.H_scan_Pack tab:=⟨rfl,rfl,has_lex_Check,has_scan_form,has_lex_Text⟩
theorem has_scan_readers:B.H_scan_readers tab:=⟨rfl,rfl,has_scan_reader_quoted,has_scan_reader_stray,has_scan_reader_brace,has_scan_reader_bracket,has_scan_reader_less,has_scan_reader_greater,has_scan_reader_slash⟩
theorem has_scan_reader_binary:B.H_scan_reader_binary tab:=⟨rfl,rfl,has_scan_reader_fixed,has_scan_reader_counted,has_scan_reader_stray⟩
theorem has_scan_reader_token:B.H_scan_reader_token tab:=⟨rfl,rfl,has_scan_readers,has_scan_reader_binary,has_scan_run_string,has_lex_Regular,has_lex_Word⟩
theorem has_scan_Next:B.H_scan_Next tab:=⟨rfl,rfl,has_scan_reader_skip,has_scan_reader_token⟩
theorem has_scan_tokens_1:B.H_scan_tokens_1 tab:=⟨rfl,rfl,has_scan_Next⟩
theorem has_scan_tokens:B.H_scan_tokens tab:=⟨rfl,rfl,has_scan_tokens_1⟩
theorem has_scan_All:B.H_scan_All tab:=⟨rfl,rfl,has_scan_tokens⟩
theorem has_chaselaw04_reads:B.H_chaselaw04_reads tab:=⟨rfl,rfl,has_scan_All,has_chaseref04_Same⟩
theorem has_chaselaw04_fails:B.H_chaselaw04_fails tab:=⟨rfl,rfl,has_scan_All⟩
theorem has_chaselaw04_works:B.H_chaselaw04_works tab:=⟨rfl,rfl,has_chaselaw04_number,has_chaselaw04_reads,has_chaselaw04_name,has_chaselaw04_text,has_scan_Next,has_scan_Print,has_scan_Pack,has_chaselaw04_fails⟩
theorem has_chaselaw04_ScanBack:B.H_chaselaw04_ScanBack tab:=⟨rfl,rfl,has_chaselaw04_works,has_chaseref04_Tokens,has_scan_Print,has_chaselaw04_reads,has_scan_Pack,has_strings_Builder_WriteString,has_strings_Builder_String⟩
theorem tabOK_all (ok179:EntryOK chkD cx 179 B.E_strings_Join) (ok132:EntryOK chkD cx 132 B.E_strconv_Itoa) (ok118:EntryOK chkD cx 118 B.E_abi_NoEscape) (ok84:EntryOK chkD cx 84 B.E_strings_IndexByte) (ok142:EntryOK chkD cx 142 B.E_stringslite_Index):TabOK chkD cx tab:=tabOK_of fnT_all (fun f F h=>by
 simp only[enT]at h
 by_cases e179:f=179
 ·subst e179;simp only[if_true,Option.some.injEq]at h;subst h;exact ok179
 rw[if_neg e179]at h
 by_cases e132:f=132
 ·subst e132;simp only[if_true,Option.some.injEq]at h;subst h;exact ok132
 rw[if_neg e132]at h
 by_cases e118:f=118
 ·subst e118;simp only[if_true,Option.some.injEq]at h;subst h;exact ok118
 rw[if_neg e118]at h
 by_cases e84:f=84
 ·subst e84;simp only[if_true,Option.some.injEq]at h;subst h;exact ok84
 rw[if_neg e84]at h
 by_cases e142:f=142
 ·subst e142;simp only[if_true,Option.some.injEq]at h;subst h;exact ok142
 rw[if_neg e142]at h
 cases h)
end Go.Ev.ScanBack

/- DERIVED: THE SHELF's CONTRACTS AT THIS DUMP, IN PLAIN WORDS (tools/lay-plain.mjs out of 'EvScanShelf.lean', which tools/lay-shelf.mjs wrote): THE SAME DECLARATIONS UNDER THE SAME NAMES: 'import', 'namespace', 'open', 'def', 'theorem' AND NOTHING ELSE: no command of the shelf's: FOR A HAND-IN. Each laying: the table of numbers ('.._ren') and one theorem, a field a fact of the dump's own or the kernel's comparison; each contract: ONE APPLICATION. -/
namespace Go.Proofs
open Go.Shelf
def Tryz.lays156_ren:Go.Shelf.Ren:=⟨fun | 156=>39 | 165=>49 | 166=>23 | 169=>24 | 240=>46 | 241=>83 | 276=>79 | 277=>116 | n=>n,fun | 31=>58 | 9=>9 | 3=>3 | 4=>4 | 0=>0 | 20=>20 | 72=>51 | 76=>54 | 70=>49 | 37=>22 | 75=>53 | 127=>89 | 164=>115 | 5=>5 | 80=>56 | n=>n,fun | n=>n⟩
theorem Tryz.lays156:Go.Proofs.Lays.n156 Tryz.prog Tryz.lays156_ren:={
 mixed:=by kernel_rfl
 f156:=Tryz.func39.trans (congrArg some (by kernel_rfl))
 f165:=Tryz.func49.trans (congrArg some (by kernel_rfl))
 f166:=Tryz.func23.trans (congrArg some (by kernel_rfl))
 f169:=Tryz.func24.trans (congrArg some (by kernel_rfl))
 f240:=Tryz.func46.trans (congrArg some (by kernel_rfl))
 f241:=Tryz.func83.trans (congrArg some (by kernel_rfl))
 f276:=Tryz.func79.trans (congrArg some (by kernel_rfl))
 f277:=Tryz.func116.trans (congrArg some (by kernel_rfl))
 t0:=Tryz.underlying0
 a0:=Tryz.isAgg0
 z0:=Tryz.sizeOf0
 v0:=Tryz.zeroValue0
 t3:=Tryz.underlying3
 a3:=Tryz.isAgg3
 z3:=Tryz.sizeOf3
 v3:=Tryz.zeroValue3
 t4:=Tryz.underlying4
 a4:=Tryz.isAgg4
 z4:=Tryz.sizeOf4
 v4:=Tryz.zeroValue4
 t9:=Tryz.underlying9
 a9:=Tryz.isAgg9
 z9:=Tryz.sizeOf9
 v9:=Tryz.zeroValue9
 t20:=Tryz.underlying20
 a20:=Tryz.isAgg20
 z20:=Tryz.sizeOf20
 v20:=Tryz.zeroValue20
 t31:=Tryz.underlying58
 a31:=Tryz.isAgg58
 z31:=Tryz.sizeOf58
 v31:=Tryz.zeroValue58
 t37:=Tryz.underlying22
 a37:=Tryz.isAgg22
 z37:=Tryz.sizeOf22
 v37:=Tryz.zeroValue22
 t70:=Tryz.underlying49
 a70:=Tryz.isAgg49
 z70:=Tryz.sizeOf49
 v70:=Tryz.zeroValue49
 t72:=Tryz.underlying51
 a72:=Tryz.isAgg51
 z72:=Tryz.sizeOf51
 v72:=Tryz.zeroValue51
 t75:=Tryz.underlying53
 a75:=Tryz.isAgg53
 z75:=Tryz.sizeOf53
 v75:=Tryz.zeroValue53
 t76:=Tryz.underlying54
 a76:=Tryz.isAgg54
 z76:=Tryz.sizeOf54
 v76:=Tryz.zeroValue54
 t127:=Tryz.underlying89
 a127:=Tryz.isAgg89
 z127:=Tryz.sizeOf89
 v127:=Tryz.zeroValue89
 t164:=Tryz.underlying115
 a164:=Tryz.isAgg115
 z164:=Tryz.sizeOf115
 v164:=Tryz.zeroValue115}
theorem Tryz.Builder_Extra_156:Builder.Extra Tryz.prog Tryz.lays156_ren:={
 sizeBuilder:=by kernel_rfl
 liesBuilder:=by kernel_rfl
 t5:=Tryz.underlying5
 a5:=Tryz.isAgg5
 z5:=Tryz.sizeOf5
 v5:=Tryz.zeroValue5
 infoByte:=by kernel_rfl
 cellsByte:=by kernel_rfl
 sizeByte:=by kernel_rfl
 neB5:=by decide}
open Go.RowKit in
theorem Tryz.strings_Join_none (a:Option Addr) (c:Nat) (sep:ByteArray) (w:World):
  Calls Tryz.prog 39 #[.slice a 0 c,.string sep] w fun e w'=>e= .returned (.string ⟨#[]⟩)∧w'=w:=Any.strings_Join_none Tryz.lays156 Tryz.Builder_Extra_156 a c sep w
open Go.RowKit in
theorem Tryz.strings_Join (bk o c:Nat) (xs:List ByteArray) (sep:ByteArray) (w:World) (hcells:∀(j:Nat) x,xs[j]? =some x→w.cell? ⟨bk,o+j,none⟩=some (.string x)) (hbk:bk<w.heap.size) (hN:xs.length≤140737488355328) (hcap:xs.length≤c) (hlen:(Lib.join (xs.map (·.data.toList)) sep.data.toList).length≤140737488355328):
  Calls Tryz.prog 39 #[.slice (some ⟨bk,o,none⟩) xs.length c,.string sep] w fun e w'=>e= .returned (.string ⟨(Lib.join (xs.map (·.data.toList)) sep.data.toList).toArray⟩)∧Below w.heap.size w w':=Any.strings_Join Tryz.lays156 Tryz.Builder_Extra_156 bk o c xs sep w hcells hbk hN hcap hlen
def Tryz.lays137_ren:Go.Shelf.Ren:=⟨fun | 137=>84 | 217=>117 | 266=>130 | n=>n,fun | 9=>9 | 5=>5 | 3=>3 | n=>n,fun | n=>n⟩
theorem Tryz.lays137:Go.Proofs.Lays.n137 Tryz.prog Tryz.lays137_ren:={
 mixed:=by kernel_rfl
 f137:=Tryz.func84.trans (congrArg some (by kernel_rfl))
 f217:=Tryz.func117.trans (congrArg some (by kernel_rfl))
 f266:=Tryz.func130.trans (congrArg some (by kernel_rfl))
 t3:=Tryz.underlying3
 a3:=Tryz.isAgg3
 z3:=Tryz.sizeOf3
 v3:=Tryz.zeroValue3
 t5:=Tryz.underlying5
 a5:=Tryz.isAgg5
 z5:=Tryz.sizeOf5
 v5:=Tryz.zeroValue5
 t9:=Tryz.underlying9
 a9:=Tryz.isAgg9
 z9:=Tryz.sizeOf9
 v9:=Tryz.zeroValue9}
open Go.RowKit in
theorem Tryz.strings_IndexByte (s:ByteArray) (c:Int) (w:World):
  Calls Tryz.prog 84 #[.string s,.int .u8 c] w fun e w'=>e= .returned (.int .i64 (Lib.indexByte s.data.toList c.toNat.toUInt8))∧w'=w:=Any.strings_IndexByte Tryz.lays137 s c w
def Tryz.laysM171_ren:Go.Shelf.Ren:=⟨fun | 171=>71 | 243=>106 | 246=>128 | 283=>143 | 284=>144 | 285=>145 | 286=>146 | 129=>164 | 317=>163 | 318=>165 | 319=>166 | 320=>167 | 337=>180 | 338=>181 | n=>n,fun | 3=>3 | 9=>9 | 2=>2 | 4=>4 | 171=>169 | 0=>0 | 53=>120 | 37=>22 | 5=>5 | 173=>172 | 212=>201 | 51=>117 | 20=>20 | 213=>202 | 46=>90 | 232=>216 | 233=>217 | n=>n,fun | 17=>1 | 18=>2 | 19=>3 | n=>n⟩
theorem Tryz.laysM171:Go.Proofs.LaysM.n171 Tryz.prog Tryz.laysM171_ren:={
 mixed:=by kernel_rfl
 f129:=Tryz.func164.trans (congrArg some (by kernel_rfl))
 f171:=Tryz.func71.trans (congrArg some (by kernel_rfl))
 f243:=Tryz.func106.trans (congrArg some (by kernel_rfl))
 f246:=Tryz.func128.trans (congrArg some (by kernel_rfl))
 f283:=Tryz.func143.trans (congrArg some (by kernel_rfl))
 f284:=Tryz.func144.trans (congrArg some (by kernel_rfl))
 f285:=Tryz.func145.trans (congrArg some (by kernel_rfl))
 f286:=Tryz.func146.trans (congrArg some (by kernel_rfl))
 f317:=Tryz.func163.trans (congrArg some (by kernel_rfl))
 f318:=Tryz.func165.trans (congrArg some (by kernel_rfl))
 f319:=Tryz.func166.trans (congrArg some (by kernel_rfl))
 f320:=Tryz.func167.trans (congrArg some (by kernel_rfl))
 f337:=Tryz.func180.trans (congrArg some (by kernel_rfl))
 f338:=Tryz.func181.trans (congrArg some (by kernel_rfl))
 t0:=Tryz.underlying0
 a0:=Tryz.isAgg0
 z0:=Tryz.sizeOf0
 v0:=Tryz.zeroValue0
 t2:=Tryz.underlying2
 a2:=Tryz.isAgg2
 z2:=Tryz.sizeOf2
 v2:=Tryz.zeroValue2
 t3:=Tryz.underlying3
 a3:=Tryz.isAgg3
 z3:=Tryz.sizeOf3
 v3:=Tryz.zeroValue3
 t4:=Tryz.underlying4
 a4:=Tryz.isAgg4
 z4:=Tryz.sizeOf4
 v4:=Tryz.zeroValue4
 t5:=Tryz.underlying5
 a5:=Tryz.isAgg5
 z5:=Tryz.sizeOf5
 v5:=Tryz.zeroValue5
 t9:=Tryz.underlying9
 a9:=Tryz.isAgg9
 z9:=Tryz.sizeOf9
 v9:=Tryz.zeroValue9
 t20:=Tryz.underlying20
 a20:=Tryz.isAgg20
 z20:=Tryz.sizeOf20
 v20:=Tryz.zeroValue20
 t37:=Tryz.underlying22
 a37:=Tryz.isAgg22
 z37:=Tryz.sizeOf22
 v37:=Tryz.zeroValue22
 t46:=Tryz.underlying90
 a46:=Tryz.isAgg90
 z46:=Tryz.sizeOf90
 v46:=Tryz.zeroValue90
 t51:=Tryz.underlying117
 a51:=Tryz.isAgg117
 z51:=Tryz.sizeOf117
 v51:=Tryz.zeroValue117
 t53:=Tryz.underlying120
 a53:=Tryz.isAgg120
 z53:=Tryz.sizeOf120
 v53:=Tryz.zeroValue120
 t171:=Tryz.underlying169
 a171:=Tryz.isAgg169
 z171:=Tryz.sizeOf169
 v171:=Tryz.zeroValue169
 t173:=Tryz.underlying172
 a173:=Tryz.isAgg172
 z173:=Tryz.sizeOf172
 v173:=Tryz.zeroValue172
 t212:=Tryz.underlying201
 a212:=Tryz.isAgg201
 z212:=Tryz.sizeOf201
 v212:=Tryz.zeroValue201
 t213:=Tryz.underlying202
 a213:=Tryz.isAgg202
 z213:=Tryz.sizeOf202
 t232:=Tryz.underlying216
 a232:=Tryz.isAgg216
 z232:=Tryz.sizeOf216
 v232:=Tryz.zeroValue216
 t233:=Tryz.underlying217
 a233:=Tryz.isAgg217
 z233:=Tryz.sizeOf217
 v233:=Tryz.zeroValue217
 g17:=by kernel_rfl
 g18:=by kernel_rfl
 g19:=by kernel_rfl
 i0:=by kernel_rfl
 i2:=by kernel_rfl
 i3:=by kernel_rfl
 i4:=by kernel_rfl
 i5:=by kernel_rfl
 i9:=by kernel_rfl
 i20:=by kernel_rfl
 i37:=by kernel_rfl
 i46:=by kernel_rfl
 i51:=by kernel_rfl
 i53:=by kernel_rfl
 i171:=by kernel_rfl
 i173:=by kernel_rfl
 i212:=by kernel_rfl
 i232:=by kernel_rfl
 i233:=by kernel_rfl
 m17:=by kernel_rfl
 m18:=by kernel_rfl
 m19:=by kernel_rfl}
open Go.RowKit Go.Sort Go.Lib in
theorem Tryz.strconv_Itoa (n:Int) (h0: -9223372036854775808≤n) (h1:n≤9223372036854775807) (w:World) (htab:Lib.TabIs Tryz.prog w "internal/strconv.uint64pow10" .u64 Lib.pow10Tab):
  Calls Tryz.prog 71 #[.int .i64 n] w fun e w'=>e= .returned (.string ⟨(Lib.itoa n).toArray⟩)∧∃k os,w'=grow (w.drewN k) os:=Any.strconv_Itoa Tryz.laysM171 n h0 h1 w htab
def Tryz.lays219_ren:Go.Shelf.Ren:=⟨fun | 219=>173 | 217=>117 | 225=>182 | 224=>183 | 267=>184 | 266=>130 | 314=>186 | n=>n,fun | 9=>9 | 3=>3 | 4=>4 | 5=>5 | 46=>90 | 146=>118 | 51=>117 | n=>n,fun | 1=>0 | n=>n⟩
theorem Tryz.lays219:Go.Proofs.Lays.n219 Tryz.prog Tryz.lays219_ren:={
 mixed:=by kernel_rfl
 f217:=Tryz.func117.trans (congrArg some (by kernel_rfl))
 f219:=Tryz.func173.trans (congrArg some (by kernel_rfl))
 f224:=Tryz.func183.trans (congrArg some (by kernel_rfl))
 f225:=Tryz.func182.trans (congrArg some (by kernel_rfl))
 f266:=Tryz.func130.trans (congrArg some (by kernel_rfl))
 f267:=Tryz.func184.trans (congrArg some (by kernel_rfl))
 f314:=Tryz.func186.trans (congrArg some (by kernel_rfl))
 t3:=Tryz.underlying3
 a3:=Tryz.isAgg3
 z3:=Tryz.sizeOf3
 v3:=Tryz.zeroValue3
 t4:=Tryz.underlying4
 a4:=Tryz.isAgg4
 z4:=Tryz.sizeOf4
 v4:=Tryz.zeroValue4
 t5:=Tryz.underlying5
 a5:=Tryz.isAgg5
 z5:=Tryz.sizeOf5
 v5:=Tryz.zeroValue5
 t9:=Tryz.underlying9
 a9:=Tryz.isAgg9
 z9:=Tryz.sizeOf9
 v9:=Tryz.zeroValue9
 t46:=Tryz.underlying90
 a46:=Tryz.isAgg90
 z46:=Tryz.sizeOf90
 v46:=Tryz.zeroValue90
 t51:=Tryz.underlying117
 a51:=Tryz.isAgg117
 z51:=Tryz.sizeOf117
 v51:=Tryz.zeroValue117
 t146:=Tryz.underlying118
 a146:=Tryz.isAgg118
 z146:=Tryz.sizeOf118
 v146:=Tryz.zeroValue118
 g1:=by kernel_rfl}
open Go.RowKit Go.Lib in
theorem Tryz.stringslite_Index_one (s:ByteArray) (c:UInt8) (w:World):
  Calls Tryz.prog 173 #[.string s,.string ⟨#[c]⟩] w fun e w'=>e= .returned (.int .i64 (Lib.indexByte s.data.toList c))∧w'=w:=Any.stringslite_Index_one Tryz.lays219 s c w
end Go.Proofs
