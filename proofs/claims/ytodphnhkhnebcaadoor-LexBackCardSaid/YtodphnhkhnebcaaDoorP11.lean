/- The functions that the law LexBack reaches: their numbers, and the check of each body, printed by a program of this work. -/
import Derived.Test.YtodphnhkhnebcaaDoorP09
import Derived.Test.YtodphnhkhnebcaaDoorProg
import Derived.Shelf.Strings.Builder1
import Derived.Shelf.Strings.Builder2
import Derived.Shelf.Strings.OnBuilder
import Derived.Shelf.Small.Utf8
import Derived.Shelf.Small.Strs
import Derived.Shelf.Strings.BuilderF
import Derived.Shelf.Strings.BuilderK
import Derived.Shelf.Strings.Builder2Cap
import Derived.Shelf.Strconv.Itoa0
import Derived.Shelf.Strconv.Itoa1
import Derived.Shelf.LaysM
import Derived.Shelf.Strconv.Itoa2
import Derived.Shelf.Strconv.Itoa3
import Derived.Shelf.Strings.Search1
import Derived.Shelf.Strings.Search2
import Derived.Shelf.Strings.Cut
import Derived.Shelf.Strings.Shaped
import Derived.Shelf.Strings.Prefix
import Derived.Shelf.Unicode.Latin
import Derived.Shelf.Unicode.Decode
import Derived.Shelf.Strings.Runes
import Derived.Shelf.Strings.IndexAny
import Derived.Shelf.Strings.AsciiSet
import Derived.Shelf.Strings.IndexAnyAll
import Derived.Shelf.Unicode.DecodeSlow
import Derived.Shelf.Unicode.DecodeAny
import Derived.Shelf.Unicode.CaseLookup
import Derived.Shelf.Unicode.CaseConvert
import Derived.Shelf.Unicode.CaseTo
import Derived.Shelf.Unicode.CaseLaid
namespace Go.Ev.LexBack
open Go Go.Proofs Go.Ev
def phiT : NT := (.node (.node (.node (.node (.node (.node (.node .nil 62 6 .nil) 63 16 .nil) 64 22 (.node .nil 65 12 .nil)) 67 51 (.node (.node (.node .nil 68 18 .nil) 69 13 .nil) 
  71 17 (.node .nil 73 15 .nil))) 74 10 (.node (.node (.node (.node .nil 75 37 .nil) 76 38 .nil) 77 39 (.node .nil 78 45 .nil)) 79 46 (.node (.node .nil 80 47 .nil) 81 48 (.node .nil 
  82 28 .nil)))) 83 23 (.node (.node (.node (.node (.node .nil 84 74 .nil) 85 40 .nil) 86 29 (.node .nil 87 30 .nil)) 91 33 (.node (.node (.node .nil 92 34 .nil) 93 24 .nil) 94 61 (.node 
  .nil 95 62 .nil))) 96 63 (.node (.node (.node (.node .nil 97 64 .nil) 98 65 .nil) 99 66 (.node .nil 100 67 .nil)) 101 70 (.node (.node .nil 102 71 .nil) 103 72 (.node .nil 104 73 .nil))))) 
  105 21 (.node (.node (.node (.node (.node (.node .nil 106 52 .nil) 107 53 .nil) 109 54 (.node .nil 110 49 .nil)) 111 50 (.node (.node (.node .nil 112 82 .nil) 113 85 .nil) 114 86 (.node 
  .nil 115 87 .nil))) 116 88 (.node (.node (.node (.node .nil 117 75 .nil) 118 76 .nil) 119 97 (.node .nil 120 104 .nil)) 121 105 (.node (.node .nil 122 98 .nil) 123 81 (.node .nil 125 
  4 .nil)))) 127 7 (.node (.node (.node (.node (.node .nil 128 8 .nil) 129 9 .nil) 132 19 (.node .nil 133 20 .nil)) 136 43 (.node (.node (.node .nil 137 42 .nil) 138 44 .nil) 139 69 (.node 
  .nil 140 83 .nil))) 141 84 (.node (.node (.node (.node .nil 142 99 .nil) 143 100 .nil) 144 101 (.node .nil 145 102 .nil)) 146 103 (.node (.node .nil 147 115 .nil) 148 113 (.node .nil 
  149 112 .nil))))))
def tauT : NT := (.node (.node (.node (.node (.node (.node (.node (.node .nil 0 0 .nil) 1 1 .nil) 2 2 (.node (.node .nil 3 3 .nil) 4 4 .nil)) 5 5 (.node (.node (.node .nil 6 6 .nil) 
  7 7 .nil) 8 8 (.node (.node .nil 9 9 .nil) 10 10 .nil))) 11 11 (.node (.node (.node (.node .nil 12 12 .nil) 13 13 .nil) 14 14 (.node (.node .nil 15 15 .nil) 16 16 .nil)) 17 17 (.node 
  (.node (.node .nil 18 18 .nil) 19 19 .nil) 20 20 (.node .nil 21 21 .nil)))) 25 26 (.node (.node (.node (.node (.node .nil 27 95 .nil) 28 70 .nil) 30 29 (.node (.node .nil 31 30 .nil) 
  35 47 .nil)) 37 38 (.node (.node (.node .nil 43 97 .nil) 45 83 .nil) 48 150 (.node .nil 79 42 .nil))) 82 61 (.node (.node (.node (.node .nil 83 62 .nil) 84 63 .nil) 85 64 (.node (.node 
  .nil 86 65 .nil) 87 66 .nil)) 88 67 (.node (.node (.node .nil 89 68 .nil) 102 41 .nil) 103 162 (.node .nil 105 132 .nil))))) 108 90 (.node (.node (.node (.node (.node (.node .nil 110 
  52 .nil) 112 154 .nil) 114 110 (.node (.node .nil 115 111 .nil) 116 112 .nil)) 117 161 (.node (.node (.node .nil 118 133 .nil) 120 106 .nil) 121 166 (.node .nil 122 167 .nil))) 123 
  168 (.node (.node (.node (.node .nil 124 169 .nil) 125 170 .nil) 126 171 (.node (.node .nil 127 172 .nil) 128 173 .nil)) 129 174 (.node (.node (.node .nil 130 175 .nil) 131 176 .nil) 
  132 177 (.node .nil 133 22 .nil)))) 134 23 (.node (.node (.node (.node (.node .nil 135 36 .nil) 136 37 .nil) 137 48 (.node (.node .nil 139 88 .nil) 140 39 .nil)) 141 43 (.node (.node 
  (.node .nil 144 44 .nil) 147 33 .nil) 148 46 (.node .nil 149 73 .nil))) 150 74 (.node (.node (.node (.node .nil 151 75 .nil) 152 81 .nil) 153 82 (.node (.node .nil 154 84 .nil) 155 
  85 .nil)) 156 86 (.node (.node (.node .nil 157 87 .nil) 158 53 .nil) 159 107 (.node .nil 160 54 .nil)))))) 161 55 (.node (.node (.node (.node (.node (.node (.node .nil 162 56 .nil) 
  163 57 .nil) 164 58 (.node (.node .nil 165 59 .nil) 166 60 .nil)) 170 69 (.node (.node (.node .nil 171 32 .nil) 172 98 .nil) 173 99 (.node (.node .nil 174 100 .nil) 175 101 .nil))) 
  176 102 (.node (.node (.node (.node .nil 177 104 .nil) 178 105 .nil) 179 89 (.node (.node .nil 180 117 .nil) 181 118 .nil)) 182 119 (.node (.node (.node .nil 183 120 .nil) 184 121 .nil) 
  185 123 (.node .nil 186 124 .nil)))) 187 125 (.node (.node (.node (.node (.node .nil 188 126 .nil) 189 127 .nil) 190 128 (.node (.node .nil 191 129 .nil) 192 130 .nil)) 193 108 (.node 
  (.node (.node .nil 194 109 .nil) 195 144 .nil) 196 145 (.node .nil 197 146 .nil))) 198 147 (.node (.node (.node (.node .nil 199 148 .nil) 200 149 .nil) 201 159 (.node (.node .nil 202 
  160 .nil) 203 163 .nil)) 204 24 (.node (.node (.node .nil 205 25 .nil) 206 27 .nil) 207 28 (.node .nil 208 31 .nil))))) 209 34 (.node (.node (.node (.node (.node (.node .nil 210 35 
  .nil) 211 40 .nil) 212 45 (.node (.node .nil 213 49 .nil) 214 50 .nil)) 215 51 (.node (.node (.node .nil 216 71 .nil) 217 72 .nil) 218 76 (.node .nil 219 77 .nil))) 220 78 (.node (.node 
  (.node (.node .nil 221 79 .nil) 222 80 .nil) 223 91 (.node (.node .nil 224 92 .nil) 225 93 .nil)) 226 94 (.node (.node (.node .nil 227 96 .nil) 228 103 .nil) 229 113 (.node .nil 230 
  114 .nil)))) 231 115 (.node (.node (.node (.node (.node .nil 232 116 .nil) 233 131 .nil) 234 134 (.node (.node .nil 235 135 .nil) 236 136 .nil)) 237 137 (.node (.node (.node .nil 238 
  138 .nil) 239 139 .nil) 240 140 (.node .nil 241 141 .nil))) 242 142 (.node (.node (.node (.node .nil 243 143 .nil) 244 151 .nil) 245 152 (.node (.node .nil 246 153 .nil) 247 155 .nil)) 
  248 156 (.node (.node (.node .nil 249 157 .nil) 250 158 .nil) 251 164 (.node .nil 252 165 .nil)))))))
def gamT : NT := (.node (.node (.node .nil 0 1 .nil) 1 0 (.node .nil 2 2 .nil)) 3 3 (.node (.node .nil 4 4 .nil) 5 5 (.node .nil 6 6 .nil)))
noncomputable def cx : Cx := ⟨Tryd.prog, phiT.get, tauT.get, gamT.get⟩
theorem k_chaselaw03_works : FnOK cx 62 B.chaselaw03_works := fnOK_of (by kernel_rfl) Tryd.func6 (by kernel_rfl)
theorem k_lex_Number : FnOK cx 63 B.lex_Number := fnOK_of (by kernel_rfl) Tryd.func16 (by kernel_rfl)
theorem k_chaseref03_Number : FnOK cx 64 B.chaseref03_Number := fnOK_of (by kernel_rfl) Tryd.func22 (by kernel_rfl)
theorem k_lex_Word : FnOK cx 65 B.lex_Word := fnOK_of (by kernel_rfl) Tryd.func12 (by kernel_rfl)
theorem k_lex_Regular : FnOK cx 67 B.lex_Regular := fnOK_of (by kernel_rfl) Tryd.func51 (by kernel_rfl)
theorem k_chaseref03_Regular : FnOK cx 68 B.chaseref03_Regular := fnOK_of (by kernel_rfl) Tryd.func18 (by kernel_rfl)
theorem k_lex_Unquote : FnOK cx 69 B.lex_Unquote := fnOK_of (by kernel_rfl) Tryd.func13 (by kernel_rfl)
theorem k_lex_Quote : FnOK cx 71 B.lex_Quote := fnOK_of (by kernel_rfl) Tryd.func17 (by kernel_rfl)
theorem k_chaselaw03_number : FnOK cx 73 B.chaselaw03_number := fnOK_of (by kernel_rfl) Tryd.func15 (by kernel_rfl)
theorem k_lex_Check : FnOK cx 74 B.lex_Check := fnOK_of (by kernel_rfl) Tryd.func10 (by kernel_rfl)
theorem k_lex_numeral_whole : FnOK cx 75 B.lex_numeral_whole := fnOK_of (by kernel_rfl) Tryd.func37 (by kernel_rfl)
theorem k_lex_numeral_radix : FnOK cx 76 B.lex_numeral_radix := fnOK_of (by kernel_rfl) Tryd.func38 (by kernel_rfl)
theorem k_lex_numeral_decimal : FnOK cx 77 B.lex_numeral_decimal := fnOK_of (by kernel_rfl) Tryd.func39 (by kernel_rfl)
theorem k_chaseref03_count : FnOK cx 78 B.chaseref03_count := fnOK_of (by kernel_rfl) Tryd.func45 (by kernel_rfl)
theorem k_chaseref03_whole : FnOK cx 79 B.chaseref03_whole := fnOK_of (by kernel_rfl) Tryd.func46 (by kernel_rfl)
theorem k_chaseref01_Read : FnOK cx 80 B.chaseref01_Read := fnOK_of (by kernel_rfl) Tryd.func47 (by kernel_rfl)
theorem k_chaseref01_Parse : FnOK cx 81 B.chaseref01_Parse := fnOK_of (by kernel_rfl) Tryd.func48 (by kernel_rfl)
theorem k_lex_regular : FnOK cx 82 B.lex_regular := fnOK_of (by kernel_rfl) Tryd.func28 (by kernel_rfl)
theorem k_chaseref03_All : FnOK cx 83 B.chaseref03_All := fnOK_of (by kernel_rfl) Tryd.func23 (by kernel_rfl)
theorem k_chaseref02_Blank : FnOK cx 85 B.chaseref02_Blank := fnOK_of (by kernel_rfl) Tryd.func40 (by kernel_rfl)
theorem k_lex_quoted_next : FnOK cx 86 B.lex_quoted_next := fnOK_of (by kernel_rfl) Tryd.func29 (by kernel_rfl)
theorem k_lex_quoted_run : FnOK cx 87 B.lex_quoted_run := fnOK_of (by kernel_rfl) Tryd.func30 (by kernel_rfl)
theorem k_strings_Builder_WriteByte : FnOK cx 91 B.strings_Builder_WriteByte := fnOK_of (by kernel_rfl) Tryd.func33 (by kernel_rfl)
theorem k_strings_Builder_String : FnOK cx 92 B.strings_Builder_String := fnOK_of (by kernel_rfl) Tryd.func34 (by kernel_rfl)
theorem k_lex_right : FnOK cx 93 B.lex_right := fnOK_of (by kernel_rfl) Tryd.func24 (by kernel_rfl)
theorem k_strings_HasPrefix : FnOK cx 94 B.strings_HasPrefix := fnOK_of (by kernel_rfl) Tryd.func61 (by kernel_rfl)
theorem k_lex_count : FnOK cx 95 B.lex_count := fnOK_of (by kernel_rfl) Tryd.func62 (by kernel_rfl)
theorem k_lex_numeral_answer : FnOK cx 96 B.lex_numeral_answer := fnOK_of (by kernel_rfl) Tryd.func63 (by kernel_rfl)
theorem k_strings_Cut : FnOK cx 97 B.strings_Cut := fnOK_of (by kernel_rfl) Tryd.func64 (by kernel_rfl)
theorem k_strings_ContainsAny : FnOK cx 98 B.strings_ContainsAny := fnOK_of (by kernel_rfl) Tryd.func65 (by kernel_rfl)
theorem k_lex_pattern : FnOK cx 99 B.lex_pattern := fnOK_of (by kernel_rfl) Tryd.func66 (by kernel_rfl)
theorem k_real_Parse : FnOK cx 100 B.real_Parse := fnOK_of (by kernel_rfl) Tryd.func67 (by kernel_rfl)
theorem k_chaseref03_digit : FnOK cx 101 B.chaseref03_digit := fnOK_of (by kernel_rfl) Tryd.func70 (by kernel_rfl)
theorem k_chaseref01_digit : FnOK cx 102 B.chaseref01_digit := fnOK_of (by kernel_rfl) Tryd.func71 (by kernel_rfl)
theorem k_chaseref01_times : FnOK cx 103 B.chaseref01_times := fnOK_of (by kernel_rfl) Tryd.func72 (by kernel_rfl)
theorem k_chaseref01_Floor : FnOK cx 104 B.chaseref01_Floor := fnOK_of (by kernel_rfl) Tryd.func73 (by kernel_rfl)
theorem k_chaseref01_Is : FnOK cx 105 B.chaseref01_Is := fnOK_of (by kernel_rfl) Tryd.func21 (by kernel_rfl)
theorem k_lex_quoted_escape : FnOK cx 106 B.lex_quoted_escape := fnOK_of (by kernel_rfl) Tryd.func52 (by kernel_rfl)
theorem k_lex_quoted_line : FnOK cx 107 B.lex_quoted_line := fnOK_of (by kernel_rfl) Tryd.func53 (by kernel_rfl)
theorem k_strings_Builder_copyCheck : FnOK cx 109 B.strings_Builder_copyCheck := fnOK_of (by kernel_rfl) Tryd.func54 (by kernel_rfl)
theorem k_real_Is : FnOK cx 110 B.real_Is := fnOK_of (by kernel_rfl) Tryd.func49 (by kernel_rfl)
theorem k_lex_named : FnOK cx 111 B.lex_named := fnOK_of (by kernel_rfl) Tryd.func50 (by kernel_rfl)
theorem k_lex_digits : FnOK cx 112 B.lex_digits := fnOK_of (by kernel_rfl) Tryd.func82 (by kernel_rfl)
theorem k_real_scanner_decimal : FnOK cx 113 B.real_scanner_decimal := fnOK_of (by kernel_rfl) Tryd.func85 (by kernel_rfl)
theorem k_real_front : FnOK cx 114 B.real_front := fnOK_of (by kernel_rfl) Tryd.func86 (by kernel_rfl)
theorem k_real_fraction : FnOK cx 115 B.real_fraction := fnOK_of (by kernel_rfl) Tryd.func87 (by kernel_rfl)
theorem k_real_double : FnOK cx 116 B.real_double := fnOK_of (by kernel_rfl) Tryd.func88 (by kernel_rfl)
theorem k_lex_letters : FnOK cx 117 B.lex_letters := fnOK_of (by kernel_rfl) Tryd.func75 (by kernel_rfl)
theorem k_lex_digits_1 : FnOK cx 119 B.lex_digits_1 := fnOK_of (by kernel_rfl) Tryd.func97 (by kernel_rfl)
theorem k_real_scanner_one : FnOK cx 120 B.real_scanner_one := fnOK_of (by kernel_rfl) Tryd.func104 (by kernel_rfl)
theorem k_real_scanner_digits : FnOK cx 121 B.real_scanner_digits := fnOK_of (by kernel_rfl) Tryd.func105 (by kernel_rfl)
theorem k_lex_value : FnOK cx 122 B.lex_value := fnOK_of (by kernel_rfl) Tryd.func98 (by kernel_rfl)
theorem k_stringslite_HasPrefix : FnOK cx 123 B.stringslite_HasPrefix := fnOK_of (by kernel_rfl) Tryd.func81 (by kernel_rfl)
theorem k_chaselaw03_LexBack : FnOK cx 125 B.chaselaw03_LexBack := fnOK_of (by kernel_rfl) Tryd.func4 (by kernel_rfl)
theorem k_chaseref03_Draft_Token : FnOK cx 127 B.chaseref03_Draft_Token := fnOK_of (by kernel_rfl) Tryd.func7 (by kernel_rfl)
theorem k_lex_Text : FnOK cx 128 B.lex_Text := fnOK_of (by kernel_rfl) Tryd.func8 (by kernel_rfl)
theorem k_chaseref03_Right : FnOK cx 129 B.chaseref03_Right := fnOK_of (by kernel_rfl) Tryd.func9 (by kernel_rfl)
theorem k_real_Print : FnOK cx 133 B.real_Print := fnOK_of (by kernel_rfl) Tryd.func20 (by kernel_rfl)
theorem k_real_Print_1 : FnOK cx 136 B.real_Print_1 := fnOK_of (by kernel_rfl) Tryd.func43 (by kernel_rfl)
theorem k_real_result_string : FnOK cx 137 B.real_result_string := fnOK_of (by kernel_rfl) Tryd.func42 (by kernel_rfl)
theorem k_real_whole : FnOK cx 138 B.real_whole := fnOK_of (by kernel_rfl) Tryd.func44 (by kernel_rfl)
theorem k_real_whole_1 : FnOK cx 139 B.real_whole_1 := fnOK_of (by kernel_rfl) Tryd.func69 (by kernel_rfl)
theorem k_stringslite_Cut : FnOK cx 140 B.stringslite_Cut := fnOK_of (by kernel_rfl) Tryd.func83 (by kernel_rfl)
theorem k_strings_IndexAny : FnOK cx 141 B.strings_IndexAny := fnOK_of (by kernel_rfl) Tryd.func84 (by kernel_rfl)
theorem k_strings_IndexRune : FnOK cx 143 B.strings_IndexRune := fnOK_of (by kernel_rfl) Tryd.func100 (by kernel_rfl)
theorem k_strings_shouldUseASCIISet : FnOK cx 144 B.strings_shouldUseASCIISet := fnOK_of (by kernel_rfl) Tryd.func101 (by kernel_rfl)
theorem k_strings_makeASCIISet : FnOK cx 145 B.strings_makeASCIISet := fnOK_of (by kernel_rfl) Tryd.func102 (by kernel_rfl)
theorem k_strings_asciiSet_contains : FnOK cx 146 B.strings_asciiSet_contains := fnOK_of (by kernel_rfl) Tryd.func103 (by kernel_rfl)
theorem k_unicode_utf8_ValidRune : FnOK cx 147 B.unicode_utf8_ValidRune := fnOK_of (by kernel_rfl) Tryd.func115 (by kernel_rfl)
theorem k_bytealg_Cutover : FnOK cx 148 B.bytealg_Cutover := fnOK_of (by kernel_rfl) Tryd.func113 (by kernel_rfl)
def fnT : FT := (.node (.node (.node (.node (.node (.node (.node .nil 62 B.chaselaw03_works .nil) 63 B.lex_Number .nil) 64 B.chaseref03_Number (.node .nil 65 B.lex_Word .nil)) 67 B.lex_Regular 
  (.node (.node .nil 68 B.chaseref03_Regular .nil) 69 B.lex_Unquote (.node .nil 71 B.lex_Quote .nil))) 73 B.chaselaw03_number (.node (.node (.node (.node .nil 74 B.lex_Check .nil) 75 
  B.lex_numeral_whole .nil) 76 B.lex_numeral_radix (.node .nil 77 B.lex_numeral_decimal .nil)) 78 B.chaseref03_count (.node (.node .nil 79 B.chaseref03_whole .nil) 80 B.chaseref01_Read 
  (.node .nil 81 B.chaseref01_Parse .nil)))) 82 B.lex_regular (.node (.node (.node (.node (.node .nil 83 B.chaseref03_All .nil) 85 B.chaseref02_Blank .nil) 86 B.lex_quoted_next (.node 
  .nil 87 B.lex_quoted_run .nil)) 91 B.strings_Builder_WriteByte (.node (.node .nil 92 B.strings_Builder_String .nil) 93 B.lex_right (.node .nil 94 B.strings_HasPrefix .nil))) 95 B.lex_count 
  (.node (.node (.node (.node .nil 96 B.lex_numeral_answer .nil) 97 B.strings_Cut .nil) 98 B.strings_ContainsAny (.node .nil 99 B.lex_pattern .nil)) 100 B.real_Parse (.node (.node .nil 
  101 B.chaseref03_digit .nil) 102 B.chaseref01_digit (.node .nil 103 B.chaseref01_times .nil))))) 104 B.chaseref01_Floor (.node (.node (.node (.node (.node (.node .nil 105 B.chaseref01_Is 
  .nil) 106 B.lex_quoted_escape .nil) 107 B.lex_quoted_line (.node .nil 109 B.strings_Builder_copyCheck .nil)) 110 B.real_Is (.node (.node .nil 111 B.lex_named .nil) 112 B.lex_digits 
  (.node .nil 113 B.real_scanner_decimal .nil))) 114 B.real_front (.node (.node (.node (.node .nil 115 B.real_fraction .nil) 116 B.real_double .nil) 117 B.lex_letters (.node .nil 119 
  B.lex_digits_1 .nil)) 120 B.real_scanner_one (.node (.node .nil 121 B.real_scanner_digits .nil) 122 B.lex_value (.node .nil 123 B.stringslite_HasPrefix .nil)))) 125 B.chaselaw03_LexBack 
  (.node (.node (.node (.node (.node .nil 127 B.chaseref03_Draft_Token .nil) 128 B.lex_Text .nil) 129 B.chaseref03_Right (.node .nil 133 B.real_Print .nil)) 136 B.real_Print_1 (.node 
  (.node .nil 137 B.real_result_string .nil) 138 B.real_whole (.node .nil 139 B.real_whole_1 .nil))) 140 B.stringslite_Cut (.node (.node (.node .nil 141 B.strings_IndexAny .nil) 143 B.strings_IndexRune 
  (.node .nil 144 B.strings_shouldUseASCIISet .nil)) 145 B.strings_makeASCIISet (.node (.node .nil 146 B.strings_asciiSet_contains .nil) 147 B.unicode_utf8_ValidRune (.node .nil 148 B.bytealg_Cutover 
  .nil))))))
theorem fnT_all : fnT.All (FnOK cx) := ⟨⟨⟨⟨⟨⟨⟨trivial, k_chaselaw03_works, trivial⟩, k_lex_Number, trivial⟩, k_chaseref03_Number, ⟨trivial, k_lex_Word, trivial⟩⟩, k_lex_Regular, ⟨⟨trivial, 
  k_chaseref03_Regular, trivial⟩, k_lex_Unquote, ⟨trivial, k_lex_Quote, trivial⟩⟩⟩, k_chaselaw03_number, ⟨⟨⟨⟨trivial, k_lex_Check, trivial⟩, k_lex_numeral_whole, trivial⟩, k_lex_numeral_radix, 
  ⟨trivial, k_lex_numeral_decimal, trivial⟩⟩, k_chaseref03_count, ⟨⟨trivial, k_chaseref03_whole, trivial⟩, k_chaseref01_Read, ⟨trivial, k_chaseref01_Parse, trivial⟩⟩⟩⟩, k_lex_regular, 
  ⟨⟨⟨⟨⟨trivial, k_chaseref03_All, trivial⟩, k_chaseref02_Blank, trivial⟩, k_lex_quoted_next, ⟨trivial, k_lex_quoted_run, trivial⟩⟩, k_strings_Builder_WriteByte, ⟨⟨trivial, k_strings_Builder_String, 
  trivial⟩, k_lex_right, ⟨trivial, k_strings_HasPrefix, trivial⟩⟩⟩, k_lex_count, ⟨⟨⟨⟨trivial, k_lex_numeral_answer, trivial⟩, k_strings_Cut, trivial⟩, k_strings_ContainsAny, ⟨trivial, 
  k_lex_pattern, trivial⟩⟩, k_real_Parse, ⟨⟨trivial, k_chaseref03_digit, trivial⟩, k_chaseref01_digit, ⟨trivial, k_chaseref01_times, trivial⟩⟩⟩⟩⟩, k_chaseref01_Floor, ⟨⟨⟨⟨⟨⟨trivial, k_chaseref01_Is, 
  trivial⟩, k_lex_quoted_escape, trivial⟩, k_lex_quoted_line, ⟨trivial, k_strings_Builder_copyCheck, trivial⟩⟩, k_real_Is, ⟨⟨trivial, k_lex_named, trivial⟩, k_lex_digits, ⟨trivial, k_real_scanner_decimal, 
  trivial⟩⟩⟩, k_real_front, ⟨⟨⟨⟨trivial, k_real_fraction, trivial⟩, k_real_double, trivial⟩, k_lex_letters, ⟨trivial, k_lex_digits_1, trivial⟩⟩, k_real_scanner_one, ⟨⟨trivial, k_real_scanner_digits, 
  trivial⟩, k_lex_value, ⟨trivial, k_stringslite_HasPrefix, trivial⟩⟩⟩⟩, k_chaselaw03_LexBack, ⟨⟨⟨⟨⟨trivial, k_chaseref03_Draft_Token, trivial⟩, k_lex_Text, trivial⟩, k_chaseref03_Right, 
  ⟨trivial, k_real_Print, trivial⟩⟩, k_real_Print_1, ⟨⟨trivial, k_real_result_string, trivial⟩, k_real_whole, ⟨trivial, k_real_whole_1, trivial⟩⟩⟩, k_stringslite_Cut, ⟨⟨⟨trivial, k_strings_IndexAny, 
  trivial⟩, k_strings_IndexRune, ⟨trivial, k_strings_shouldUseASCIISet, trivial⟩⟩, k_strings_makeASCIISet, ⟨⟨trivial, k_strings_asciiSet_contains, trivial⟩, k_unicode_utf8_ValidRune, 
  ⟨trivial, k_bytealg_Cutover, trivial⟩⟩⟩⟩⟩⟩
def enT : Nat → Option Entry := fun k => if k = 132 then some B.E_strconv_Itoa else if k = 84 then some B.E_strings_IndexByte else if k = 118 then some B.E_abi_NoEscape else if k = 142 then some B.E_stringslite_Index else none
def tab : Tab := ⟨fnT.get, enT⟩
theorem has_strconv_Itoa : B.H_strconv_Itoa tab := ⟨rfl⟩
theorem has_strings_IndexByte : B.H_strings_IndexByte tab := ⟨rfl⟩
theorem has_abi_NoEscape : B.H_abi_NoEscape tab := ⟨rfl⟩
theorem has_stringslite_Index : B.H_stringslite_Index tab := ⟨rfl⟩
theorem has_lex_quoted_next : B.H_lex_quoted_next tab := ⟨rfl, rfl⟩
theorem has_strings_Builder_String : B.H_strings_Builder_String tab := ⟨rfl, rfl⟩
theorem has_chaseref02_Blank : B.H_chaseref02_Blank tab := ⟨rfl, rfl⟩
theorem has_chaseref01_Is : B.H_chaseref01_Is tab := ⟨rfl, rfl⟩
theorem has_lex_Regular : B.H_lex_Regular tab := ⟨rfl, rfl, has_strings_IndexByte⟩
theorem has_lex_quoted_line : B.H_lex_quoted_line tab := ⟨rfl, rfl⟩
theorem has_lex_numeral_answer : B.H_lex_numeral_answer tab := ⟨rfl, rfl⟩
theorem has_strings_Builder_copyCheck : B.H_strings_Builder_copyCheck tab := ⟨rfl, rfl, has_abi_NoEscape⟩
theorem has_real_Is : B.H_real_Is tab := ⟨rfl, rfl⟩
theorem has_chaseref03_whole : B.H_chaseref03_whole tab := ⟨rfl, rfl⟩
theorem has_lex_letters : B.H_lex_letters tab := ⟨rfl, rfl⟩
theorem has_stringslite_HasPrefix : B.H_stringslite_HasPrefix tab := ⟨rfl, rfl⟩
theorem has_stringslite_Cut : B.H_stringslite_Cut tab := ⟨rfl, rfl, has_stringslite_Index⟩
theorem has_real_front : B.H_real_front tab := ⟨rfl, rfl⟩
theorem has_real_fraction : B.H_real_fraction tab := ⟨rfl, rfl⟩
theorem has_real_double : B.H_real_double tab := ⟨rfl, rfl⟩
theorem has_chaseref03_digit : B.H_chaseref03_digit tab := ⟨rfl, rfl⟩
theorem has_chaseref01_digit : B.H_chaseref01_digit tab := ⟨rfl, rfl⟩
theorem has_chaseref01_times : B.H_chaseref01_times tab := ⟨rfl, rfl⟩
theorem has_chaseref01_Floor : B.H_chaseref01_Floor tab := ⟨rfl, rfl⟩
theorem has_real_whole_1 : B.H_real_whole_1 tab := ⟨rfl, rfl⟩
theorem has_strings_shouldUseASCIISet : B.H_strings_shouldUseASCIISet tab := ⟨rfl, rfl⟩
theorem has_strings_makeASCIISet : B.H_strings_makeASCIISet tab := ⟨rfl, rfl⟩
theorem has_strings_asciiSet_contains : B.H_strings_asciiSet_contains tab := ⟨rfl, rfl⟩
theorem has_real_scanner_one : B.H_real_scanner_one tab := ⟨rfl, rfl⟩
theorem has_real_scanner_digits : B.H_real_scanner_digits tab := ⟨rfl, rfl, has_real_scanner_one⟩
theorem has_lex_value : B.H_lex_value tab := ⟨rfl, rfl⟩
theorem has_unicode_utf8_ValidRune : B.H_unicode_utf8_ValidRune tab := ⟨rfl, rfl⟩
theorem has_bytealg_Cutover : B.H_bytealg_Cutover tab := ⟨rfl, rfl⟩
theorem has_chaseref03_Regular : B.H_chaseref03_Regular tab := ⟨rfl, rfl, has_chaseref02_Blank⟩
theorem has_lex_regular : B.H_lex_regular tab := ⟨rfl, rfl, has_lex_Regular⟩
theorem has_strings_Builder_WriteByte : B.H_strings_Builder_WriteByte tab := ⟨rfl, rfl, has_strings_Builder_copyCheck⟩
theorem has_chaseref03_All : B.H_chaseref03_All tab := ⟨rfl, rfl, has_chaseref03_Regular⟩
theorem has_real_result_string : B.H_real_result_string tab := ⟨rfl, rfl, has_real_Is⟩
theorem has_lex_quoted_escape : B.H_lex_quoted_escape tab := ⟨rfl, rfl, has_lex_quoted_next, has_lex_letters, has_lex_quoted_line⟩
theorem has_strings_HasPrefix : B.H_strings_HasPrefix tab := ⟨rfl, rfl, has_stringslite_HasPrefix⟩
theorem has_strings_Cut : B.H_strings_Cut tab := ⟨rfl, rfl, has_stringslite_Cut⟩
theorem has_chaseref03_count : B.H_chaseref03_count tab := ⟨rfl, rfl, has_chaseref03_digit⟩
theorem has_chaseref01_Read : B.H_chaseref01_Read tab := ⟨rfl, rfl, has_chaseref01_digit⟩
theorem has_chaseref01_Parse : B.H_chaseref01_Parse tab := ⟨rfl, rfl, has_chaseref01_Read, has_chaseref01_times, has_chaseref01_Floor, has_chaseref01_Is⟩
theorem has_real_whole : B.H_real_whole tab := ⟨rfl, rfl, has_real_whole_1⟩
theorem has_real_scanner_decimal : B.H_real_scanner_decimal tab := ⟨rfl, rfl, has_real_scanner_one, has_real_scanner_digits⟩
theorem has_lex_digits_1 : B.H_lex_digits_1 tab := ⟨rfl, rfl, has_lex_value⟩
theorem has_strings_IndexRune : B.H_strings_IndexRune tab := ⟨rfl, rfl, has_strings_IndexByte, has_unicode_utf8_ValidRune, has_bytealg_Cutover⟩
theorem has_lex_Quote : B.H_lex_Quote tab := ⟨rfl, rfl, has_strings_Builder_WriteByte, has_strings_Builder_String⟩
theorem has_lex_quoted_run : B.H_lex_quoted_run tab := ⟨rfl, rfl, has_lex_quoted_next, has_lex_quoted_escape, has_lex_quoted_line⟩
theorem has_chaseref03_Number : B.H_chaseref03_Number tab := ⟨rfl, rfl, has_chaseref03_count, has_chaseref03_whole, has_chaseref01_Read, has_chaseref01_Parse⟩
theorem has_real_Print_1 : B.H_real_Print_1 tab := ⟨rfl, rfl, has_strings_Builder_WriteByte, has_real_whole, has_strings_Builder_String⟩
theorem has_real_Parse : B.H_real_Parse tab := ⟨rfl, rfl, has_real_scanner_decimal, has_real_front, has_real_fraction, has_real_double, has_real_Is⟩
theorem has_lex_digits : B.H_lex_digits tab := ⟨rfl, rfl, has_lex_digits_1⟩
theorem has_strings_IndexAny : B.H_strings_IndexAny tab := ⟨rfl, rfl, has_strings_IndexRune, has_strings_shouldUseASCIISet, has_strings_makeASCIISet, has_strings_asciiSet_contains⟩
theorem has_lex_Unquote : B.H_lex_Unquote tab := ⟨rfl, rfl, has_lex_quoted_next, has_lex_quoted_run⟩
theorem has_chaseref03_Right : B.H_chaseref03_Right tab := ⟨rfl, rfl, has_chaseref01_Is, has_chaseref03_Number, has_chaseref03_All⟩
theorem has_real_Print : B.H_real_Print tab := ⟨rfl, rfl, has_real_Print_1, has_real_result_string⟩
theorem has_lex_count : B.H_lex_count tab := ⟨rfl, rfl, has_lex_digits⟩
theorem has_strings_ContainsAny : B.H_strings_ContainsAny tab := ⟨rfl, rfl, has_strings_IndexAny⟩
theorem has_lex_pattern : B.H_lex_pattern tab := ⟨rfl, rfl, has_real_Parse⟩
theorem has_chaseref03_Draft_Token : B.H_chaseref03_Draft_Token tab := ⟨rfl, rfl, has_chaseref03_Regular, has_chaseref03_Right⟩
theorem has_lex_numeral_whole : B.H_lex_numeral_whole tab := ⟨rfl, rfl, has_strings_HasPrefix, has_lex_count, has_lex_numeral_answer⟩
theorem has_lex_numeral_radix : B.H_lex_numeral_radix tab := ⟨rfl, rfl, has_strings_Cut, has_lex_count, has_lex_numeral_answer⟩
theorem has_lex_numeral_decimal : B.H_lex_numeral_decimal tab := ⟨rfl, rfl, has_strings_ContainsAny, has_lex_pattern, has_real_Parse⟩
theorem has_lex_Number : B.H_lex_Number tab := ⟨rfl, rfl, has_lex_numeral_whole, has_lex_numeral_radix, has_lex_numeral_decimal⟩
theorem has_lex_named : B.H_lex_named tab := ⟨rfl, rfl, has_lex_regular, has_lex_Number⟩
theorem has_lex_Word : B.H_lex_Word tab := ⟨rfl, rfl, has_lex_regular, has_lex_Number⟩
theorem has_chaselaw03_number : B.H_chaselaw03_number tab := ⟨rfl, rfl, has_lex_Number⟩
theorem has_lex_right : B.H_lex_right tab := ⟨rfl, rfl, has_real_Is, has_lex_named⟩
theorem has_lex_Check : B.H_lex_Check tab := ⟨rfl, rfl, has_lex_right⟩
theorem has_chaselaw03_works : B.H_chaselaw03_works tab := ⟨rfl, rfl, has_chaselaw03_number, has_lex_Number, has_lex_Word, has_lex_Unquote, has_lex_Quote, has_lex_Check⟩
theorem has_lex_Text : B.H_lex_Text tab := ⟨rfl, rfl, has_lex_Check, has_strconv_Itoa, has_real_Print, has_lex_Quote⟩
theorem has_chaselaw03_LexBack : B.H_chaselaw03_LexBack tab := ⟨rfl, rfl, has_chaselaw03_works, has_chaseref03_Draft_Token, has_lex_Text, has_lex_Word, has_lex_Unquote⟩
theorem tabOK_all (ok132 : EntryOK chkD cx 132 B.E_strconv_Itoa) (ok84 : EntryOK chkD cx 84 B.E_strings_IndexByte) (ok118 : EntryOK chkD cx 118 B.E_abi_NoEscape) (ok142 : EntryOK chkD cx 142 B.E_stringslite_Index) : TabOK chkD cx tab := tabOK_of fnT_all (fun f F h => by
  simp only [enT] at h
  by_cases e132 : f = 132
  · subst e132; simp only [if_true, Option.some.injEq] at h; subst h; exact ok132
  rw [if_neg e132] at h
  by_cases e84 : f = 84
  · subst e84; simp only [if_true, Option.some.injEq] at h; subst h; exact ok84
  rw [if_neg e84] at h
  by_cases e118 : f = 118
  · subst e118; simp only [if_true, Option.some.injEq] at h; subst h; exact ok118
  rw [if_neg e118] at h
  by_cases e142 : f = 142
  · subst e142; simp only [if_true, Option.some.injEq] at h; subst h; exact ok142
  rw [if_neg e142] at h
  cases h)
end Go.Ev.LexBack

/- DERIVED: THE SHELF's CONTRACTS AT THIS DUMP, IN PLAIN WORDS (tools/lay-plain.mjs out of 'TrydShelf.lean', which tools/lay-shelf.mjs wrote): THE SAME DECLARATIONS UNDER THE SAME NAMES: 'import', 'namespace', 'open', 'def', 'theorem' AND NOTHING ELSE: no command of the shelf's: FOR A HAND-IN. Each laying: the table of numbers ('.._ren') and one theorem, a field a fact of the dump's own or the kernel's comparison; each contract: ONE APPLICATION. -/
namespace Go.Proofs
open Go.Shelf
def Tryd.lays159_ren : Go.Shelf.Ren := ⟨fun | 159 => 14 | 165 => 31 | 166 => 32 | 167 => 33 | 169 => 34 | 230 => 35 | 204 => 36 | 240 => 54 | 241 => 55 | 197 => 56 | 118 => 57 | 168 => 58 | 270 => 59 | 262 => 60 | 276 => 76 | 277 => 77 | 260 => 78 | 242 => 79 | 313 => 80 | 278 => 94 | 274 => 95 | 275 => 96 | n => n, fun | 9 => 9 | 4 => 4 | 3 => 3 | 5 => 5 | 72 => 63 | 0 => 0 | 76 => 67 | 75 => 66 | 107 => 72 | 70 => 61 | 20 => 20 | 37 => 47 | 127 => 90 | 21 => 21 | 105 => 91 | 164 => 110 | 162 => 116 | 203 => 114 | 119 => 137 | 46 => 42 | 139 => 140 | 138 => 139 | 51 => 41 | 160 => 141 | 208 => 158 | 206 => 156 | 80 => 70 | n => n, fun | 13 => 0 | 3 => 2 | 4 => 3 | n => n⟩
theorem Tryd.lays159 : Go.Proofs.Lays.n159 Tryd.prog Tryd.lays159_ren := {
  mixed := by kernel_rfl
  f118 := Tryd.func57.trans (congrArg some (by kernel_rfl))
  f159 := Tryd.func14.trans (congrArg some (by kernel_rfl))
  f165 := Tryd.func31.trans (congrArg some (by kernel_rfl))
  f166 := Tryd.func32.trans (congrArg some (by kernel_rfl))
  f167 := Tryd.func33.trans (congrArg some (by kernel_rfl))
  f168 := Tryd.func58.trans (congrArg some (by kernel_rfl))
  f169 := Tryd.func34.trans (congrArg some (by kernel_rfl))
  f197 := Tryd.func56.trans (congrArg some (by kernel_rfl))
  f204 := Tryd.func36.trans (congrArg some (by kernel_rfl))
  f230 := Tryd.func35.trans (congrArg some (by kernel_rfl))
  f240 := Tryd.func54.trans (congrArg some (by kernel_rfl))
  f241 := Tryd.func55.trans (congrArg some (by kernel_rfl))
  f242 := Tryd.func79.trans (congrArg some (by kernel_rfl))
  f260 := Tryd.func78.trans (congrArg some (by kernel_rfl))
  f262 := Tryd.func60.trans (congrArg some (by kernel_rfl))
  f270 := Tryd.func59.trans (congrArg some (by kernel_rfl))
  f274 := Tryd.func95.trans (congrArg some (by kernel_rfl))
  f275 := Tryd.func96.trans (congrArg some (by kernel_rfl))
  f276 := Tryd.func76.trans (congrArg some (by kernel_rfl))
  f277 := Tryd.func77.trans (congrArg some (by kernel_rfl))
  f278 := Tryd.func94.trans (congrArg some (by kernel_rfl))
  f313 := Tryd.func80.trans (congrArg some (by kernel_rfl))
  t0 := Tryd.underlying0
  a0 := Tryd.isAgg0
  z0 := Tryd.sizeOf0
  v0 := Tryd.zeroValue0
  t3 := Tryd.underlying3
  a3 := Tryd.isAgg3
  z3 := Tryd.sizeOf3
  v3 := Tryd.zeroValue3
  t4 := Tryd.underlying4
  a4 := Tryd.isAgg4
  z4 := Tryd.sizeOf4
  v4 := Tryd.zeroValue4
  t5 := Tryd.underlying5
  a5 := Tryd.isAgg5
  z5 := Tryd.sizeOf5
  v5 := Tryd.zeroValue5
  t9 := Tryd.underlying9
  a9 := Tryd.isAgg9
  z9 := Tryd.sizeOf9
  v9 := Tryd.zeroValue9
  t20 := Tryd.underlying20
  a20 := Tryd.isAgg20
  z20 := Tryd.sizeOf20
  v20 := Tryd.zeroValue20
  t21 := Tryd.underlying21
  a21 := Tryd.isAgg21
  z21 := Tryd.sizeOf21
  v21 := Tryd.zeroValue21
  t37 := Tryd.underlying47
  a37 := Tryd.isAgg47
  z37 := Tryd.sizeOf47
  v37 := Tryd.zeroValue47
  t46 := Tryd.underlying42
  a46 := Tryd.isAgg42
  z46 := Tryd.sizeOf42
  v46 := Tryd.zeroValue42
  t51 := Tryd.underlying41
  a51 := Tryd.isAgg41
  z51 := Tryd.sizeOf41
  v51 := Tryd.zeroValue41
  t70 := Tryd.underlying61
  a70 := Tryd.isAgg61
  z70 := Tryd.sizeOf61
  v70 := Tryd.zeroValue61
  t72 := Tryd.underlying63
  a72 := Tryd.isAgg63
  z72 := Tryd.sizeOf63
  v72 := Tryd.zeroValue63
  t75 := Tryd.underlying66
  a75 := Tryd.isAgg66
  z75 := Tryd.sizeOf66
  v75 := Tryd.zeroValue66
  t76 := Tryd.underlying67
  a76 := Tryd.isAgg67
  z76 := Tryd.sizeOf67
  v76 := Tryd.zeroValue67
  t105 := Tryd.underlying91
  a105 := Tryd.isAgg91
  z105 := Tryd.sizeOf91
  v105 := Tryd.zeroValue91
  t107 := Tryd.underlying72
  a107 := Tryd.isAgg72
  z107 := Tryd.sizeOf72
  v107 := Tryd.zeroValue72
  t119 := Tryd.underlying137
  a119 := Tryd.isAgg137
  z119 := Tryd.sizeOf137
  t127 := Tryd.underlying90
  a127 := Tryd.isAgg90
  z127 := Tryd.sizeOf90
  v127 := Tryd.zeroValue90
  t138 := Tryd.underlying139
  a138 := Tryd.isAgg139
  z138 := Tryd.sizeOf139
  v138 := Tryd.zeroValue139
  t139 := Tryd.underlying140
  a139 := Tryd.isAgg140
  z139 := Tryd.sizeOf140
  v139 := Tryd.zeroValue140
  t160 := Tryd.underlying141
  a160 := Tryd.isAgg141
  z160 := Tryd.sizeOf141
  v160 := Tryd.zeroValue141
  t162 := Tryd.underlying116
  a162 := Tryd.isAgg116
  z162 := Tryd.sizeOf116
  v162 := Tryd.zeroValue116
  t164 := Tryd.underlying110
  a164 := Tryd.isAgg110
  z164 := Tryd.sizeOf110
  v164 := Tryd.zeroValue110
  t203 := Tryd.underlying114
  a203 := Tryd.isAgg114
  z203 := Tryd.sizeOf114
  v203 := Tryd.zeroValue114
  t206 := Tryd.underlying156
  a206 := Tryd.isAgg156
  z206 := Tryd.sizeOf156
  v206 := Tryd.zeroValue156
  t208 := Tryd.underlying158
  a208 := Tryd.isAgg158
  z208 := Tryd.sizeOf158
  v208 := Tryd.zeroValue158
  g3 := by kernel_rfl
  g4 := by kernel_rfl
  g13 := by kernel_rfl }
theorem Tryd.Builder_Extra_159 : Builder.Extra Tryd.prog Tryd.lays159_ren := {
  sizeBuilder := by kernel_rfl
  liesBuilder := by kernel_rfl
  t5 := Tryd.underlying5
  a5 := Tryd.isAgg5
  z5 := Tryd.sizeOf5
  v5 := Tryd.zeroValue5
  infoByte := by kernel_rfl
  cellsByte := by kernel_rfl
  sizeByte := by kernel_rfl
  neB5 := by decide }
open Go.RowKit in
/-- strings.ToLower: "ToLower returns s with all Unicode letters mapped to their lower case.": ON ASCII TEXT OF AT MOST 2^47 BYTES. Below the heap's end the world is as it was: where a letter turns, the call makes a builder and its buffer. (LAID: no walk: one application.) -/
theorem Tryd.strings_ToLower_ascii (s : ByteArray) (w : World) (hs : s.size ≤ 140737488355328) (hascii : ∀ (j : Nat) (b : UInt8), s.data.toList[j]? = some b → b.toNat < 128) :
    Calls Tryd.prog 14 #[.string s] w fun e w' => e = .returned (.string ⟨(Lib.toLowerA s.data.toList).toArray⟩) ∧ Below w.heap.size w w' := Any.strings_ToLower_ascii Tryd.lays159 Tryd.Builder_Extra_159 s w hs hascii
def Tryd.lays137_ren : Go.Shelf.Ren := ⟨fun | 137 => 74 | 217 => 93 | 266 => 111 | n => n, fun | 9 => 9 | 5 => 5 | 3 => 3 | n => n, fun | n => n⟩
theorem Tryd.lays137 : Go.Proofs.Lays.n137 Tryd.prog Tryd.lays137_ren := {
  mixed := by kernel_rfl
  f137 := Tryd.func74.trans (congrArg some (by kernel_rfl))
  f217 := Tryd.func93.trans (congrArg some (by kernel_rfl))
  f266 := Tryd.func111.trans (congrArg some (by kernel_rfl))
  t3 := Tryd.underlying3
  a3 := Tryd.isAgg3
  z3 := Tryd.sizeOf3
  v3 := Tryd.zeroValue3
  t5 := Tryd.underlying5
  a5 := Tryd.isAgg5
  z5 := Tryd.sizeOf5
  v5 := Tryd.zeroValue5
  t9 := Tryd.underlying9
  a9 := Tryd.isAgg9
  z9 := Tryd.sizeOf9
  v9 := Tryd.zeroValue9 }
open Go.RowKit in
/-- strings.IndexByte: "IndexByte returns the index of the first instance of c in s, or -1 if c is not present in s.": IT RETURNS 'Lib.indexByte s c'; the world is as it was. (LAID: no walk: one application.) -/
theorem Tryd.strings_IndexByte (s : ByteArray) (c : Int) (w : World) :
    Calls Tryd.prog 74 #[.string s, .int .u8 c] w fun e w' => e = .returned (.int .i64 (Lib.indexByte s.data.toList c.toNat.toUInt8)) ∧ w' = w := Any.strings_IndexByte Tryd.lays137 s c w
def Tryd.laysM171_ren : Go.Shelf.Ren := ⟨fun | 171 => 19 | 243 => 41 | 246 => 68 | 283 => 89 | 284 => 90 | 285 => 91 | 286 => 92 | 129 => 107 | 317 => 106 | 318 => 108 | 319 => 109 | 320 => 110 | 337 => 116 | 338 => 117 | n => n, fun | 3 => 3 | 9 => 9 | 2 => 2 | 4 => 4 | 171 => 131 | 0 => 0 | 53 => 132 | 37 => 47 | 5 => 5 | 173 => 135 | 212 => 152 | 51 => 41 | 20 => 20 | 213 => 153 | 46 => 42 | 232 => 164 | 233 => 165 | n => n, fun | 17 => 4 | 18 => 5 | 19 => 6 | n => n⟩
theorem Tryd.laysM171 : Go.Proofs.LaysM.n171 Tryd.prog Tryd.laysM171_ren := {
  mixed := by kernel_rfl
  f129 := Tryd.func107.trans (congrArg some (by kernel_rfl))
  f171 := Tryd.func19.trans (congrArg some (by kernel_rfl))
  f243 := Tryd.func41.trans (congrArg some (by kernel_rfl))
  f246 := Tryd.func68.trans (congrArg some (by kernel_rfl))
  f283 := Tryd.func89.trans (congrArg some (by kernel_rfl))
  f284 := Tryd.func90.trans (congrArg some (by kernel_rfl))
  f285 := Tryd.func91.trans (congrArg some (by kernel_rfl))
  f286 := Tryd.func92.trans (congrArg some (by kernel_rfl))
  f317 := Tryd.func106.trans (congrArg some (by kernel_rfl))
  f318 := Tryd.func108.trans (congrArg some (by kernel_rfl))
  f319 := Tryd.func109.trans (congrArg some (by kernel_rfl))
  f320 := Tryd.func110.trans (congrArg some (by kernel_rfl))
  f337 := Tryd.func116.trans (congrArg some (by kernel_rfl))
  f338 := Tryd.func117.trans (congrArg some (by kernel_rfl))
  t0 := Tryd.underlying0
  a0 := Tryd.isAgg0
  z0 := Tryd.sizeOf0
  v0 := Tryd.zeroValue0
  t2 := Tryd.underlying2
  a2 := Tryd.isAgg2
  z2 := Tryd.sizeOf2
  v2 := Tryd.zeroValue2
  t3 := Tryd.underlying3
  a3 := Tryd.isAgg3
  z3 := Tryd.sizeOf3
  v3 := Tryd.zeroValue3
  t4 := Tryd.underlying4
  a4 := Tryd.isAgg4
  z4 := Tryd.sizeOf4
  v4 := Tryd.zeroValue4
  t5 := Tryd.underlying5
  a5 := Tryd.isAgg5
  z5 := Tryd.sizeOf5
  v5 := Tryd.zeroValue5
  t9 := Tryd.underlying9
  a9 := Tryd.isAgg9
  z9 := Tryd.sizeOf9
  v9 := Tryd.zeroValue9
  t20 := Tryd.underlying20
  a20 := Tryd.isAgg20
  z20 := Tryd.sizeOf20
  v20 := Tryd.zeroValue20
  t37 := Tryd.underlying47
  a37 := Tryd.isAgg47
  z37 := Tryd.sizeOf47
  v37 := Tryd.zeroValue47
  t46 := Tryd.underlying42
  a46 := Tryd.isAgg42
  z46 := Tryd.sizeOf42
  v46 := Tryd.zeroValue42
  t51 := Tryd.underlying41
  a51 := Tryd.isAgg41
  z51 := Tryd.sizeOf41
  v51 := Tryd.zeroValue41
  t53 := Tryd.underlying132
  a53 := Tryd.isAgg132
  z53 := Tryd.sizeOf132
  v53 := Tryd.zeroValue132
  t171 := Tryd.underlying131
  a171 := Tryd.isAgg131
  z171 := Tryd.sizeOf131
  v171 := Tryd.zeroValue131
  t173 := Tryd.underlying135
  a173 := Tryd.isAgg135
  z173 := Tryd.sizeOf135
  v173 := Tryd.zeroValue135
  t212 := Tryd.underlying152
  a212 := Tryd.isAgg152
  z212 := Tryd.sizeOf152
  v212 := Tryd.zeroValue152
  t213 := Tryd.underlying153
  a213 := Tryd.isAgg153
  z213 := Tryd.sizeOf153
  t232 := Tryd.underlying164
  a232 := Tryd.isAgg164
  z232 := Tryd.sizeOf164
  v232 := Tryd.zeroValue164
  t233 := Tryd.underlying165
  a233 := Tryd.isAgg165
  z233 := Tryd.sizeOf165
  v233 := Tryd.zeroValue165
  g17 := by kernel_rfl
  g18 := by kernel_rfl
  g19 := by kernel_rfl
  i0 := by kernel_rfl
  i2 := by kernel_rfl
  i3 := by kernel_rfl
  i4 := by kernel_rfl
  i5 := by kernel_rfl
  i9 := by kernel_rfl
  i20 := by kernel_rfl
  i37 := by kernel_rfl
  i46 := by kernel_rfl
  i51 := by kernel_rfl
  i53 := by kernel_rfl
  i171 := by kernel_rfl
  i173 := by kernel_rfl
  i212 := by kernel_rfl
  i232 := by kernel_rfl
  i233 := by kernel_rfl
  m17 := by kernel_rfl
  m18 := by kernel_rfl
  m19 := by kernel_rfl }
open Go.RowKit Go.Sort Go.Lib in
/-- strconv.Itoa: "Itoa is equivalent to FormatInt(int64(i), 10).": i's DECIMAL NUMERAL ('Lib.itoa': a '-' where i is negative, then the digits), FOR EVERY int. The world behind the call: the world before it, new blocks behind the heap (the library's 'var a [24]byte'), draws. (LAID: no walk: one application.) -/
theorem Tryd.strconv_Itoa (n : Int) (h0 : -9223372036854775808 ≤ n) (h1 : n ≤ 9223372036854775807) (w : World) (htab : Lib.TabIs Tryd.prog w "internal/strconv.uint64pow10" .u64 Lib.pow10Tab) :
    Calls Tryd.prog 19 #[.int .i64 n] w fun e w' => e = .returned (.string ⟨(Lib.itoa n).toArray⟩) ∧ ∃ k os, w' = grow (w.drewN k) os := Any.strconv_Itoa Tryd.laysM171 n h0 h1 w htab
def Tryd.lays219_ren : Go.Shelf.Ren := ⟨fun | 219 => 99 | 217 => 93 | 225 => 112 | 224 => 113 | 267 => 114 | 266 => 111 | 314 => 118 | n => n, fun | 9 => 9 | 3 => 3 | 4 => 4 | 5 => 5 | 46 => 42 | 146 => 162 | 51 => 41 | n => n, fun | 1 => 1 | n => n⟩
theorem Tryd.lays219 : Go.Proofs.Lays.n219 Tryd.prog Tryd.lays219_ren := {
  mixed := by kernel_rfl
  f217 := Tryd.func93.trans (congrArg some (by kernel_rfl))
  f219 := Tryd.func99.trans (congrArg some (by kernel_rfl))
  f224 := Tryd.func113.trans (congrArg some (by kernel_rfl))
  f225 := Tryd.func112.trans (congrArg some (by kernel_rfl))
  f266 := Tryd.func111.trans (congrArg some (by kernel_rfl))
  f267 := Tryd.func114.trans (congrArg some (by kernel_rfl))
  f314 := Tryd.func118.trans (congrArg some (by kernel_rfl))
  t3 := Tryd.underlying3
  a3 := Tryd.isAgg3
  z3 := Tryd.sizeOf3
  v3 := Tryd.zeroValue3
  t4 := Tryd.underlying4
  a4 := Tryd.isAgg4
  z4 := Tryd.sizeOf4
  v4 := Tryd.zeroValue4
  t5 := Tryd.underlying5
  a5 := Tryd.isAgg5
  z5 := Tryd.sizeOf5
  v5 := Tryd.zeroValue5
  t9 := Tryd.underlying9
  a9 := Tryd.isAgg9
  z9 := Tryd.sizeOf9
  v9 := Tryd.zeroValue9
  t46 := Tryd.underlying42
  a46 := Tryd.isAgg42
  z46 := Tryd.sizeOf42
  v46 := Tryd.zeroValue42
  t51 := Tryd.underlying41
  a51 := Tryd.isAgg41
  z51 := Tryd.sizeOf41
  v51 := Tryd.zeroValue41
  t146 := Tryd.underlying162
  a146 := Tryd.isAgg162
  z146 := Tryd.sizeOf162
  v146 := Tryd.zeroValue162
  g1 := by kernel_rfl }
open Go.RowKit Go.Lib in
/-- internal/stringslite.Index (what strings.Index calls) AT A substr OF ONE BYTE c: IT RETURNS 'Lib.indexByte s c'; the world is as it was. (LAID: no walk: one application.) -/
theorem Tryd.stringslite_Index_one (s : ByteArray) (c : UInt8) (w : World) :
    Calls Tryd.prog 99 #[.string s, .string ⟨#[c]⟩] w fun e w' => e = .returned (.int .i64 (Lib.indexByte s.data.toList c)) ∧ w' = w := Any.stringslite_Index_one Tryd.lays219 s c w
end Go.Proofs
