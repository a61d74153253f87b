/- The functions of this seat: their numbers, and the check of each body, printed by a program of this work. -/
import Derived.Test.YtglndmkmfhafhaaEvFaxB
import Derived.Test.YtglndmkmfhafhaaProg
namespace Go.Ev.Fax
open Go Go.Proofs Go.Ev
def phiT : NT := (.node (.node (.node (.node (.node (.node .nil 0 3 .nil) 1 4 (.node .nil 2 5 .nil)) 3 6 (.node (.node .nil 4 7 .nil) 5 8 (.node .nil 6 9 .nil))) 7 10 (.node (.node
  (.node .nil 8 11 .nil) 9 12 (.node .nil 10 13 .nil)) 11 14 (.node (.node .nil 12 15 .nil) 13 16 .nil))) 14 17 (.node (.node (.node (.node .nil 15 18 .nil) 16 19 (.node .nil 17 20 .nil))
  18 21 (.node (.node .nil 19 22 .nil) 20 23 (.node .nil 21 24 .nil))) 22 25 (.node (.node (.node .nil 23 26 .nil) 24 27 (.node .nil 25 28 .nil)) 26 29 (.node (.node .nil 27 30 .nil)
  28 37 .nil)))) 29 38 (.node (.node (.node (.node (.node .nil 30 39 .nil) 31 40 (.node .nil 32 41 .nil)) 33 42 (.node (.node .nil 34 43 .nil) 35 44 (.node .nil 36 45 .nil))) 37 46 (.node
  (.node (.node .nil 38 47 .nil) 39 54 (.node .nil 40 53 .nil)) 41 55 (.node (.node .nil 42 56 .nil) 43 57 .nil))) 44 58 (.node (.node (.node (.node .nil 45 59 .nil) 46 60 (.node .nil
  47 61 .nil)) 48 62 (.node (.node .nil 49 63 .nil) 50 64 .nil)) 51 65 (.node (.node (.node .nil 52 68 .nil) 53 69 (.node .nil 54 70 .nil)) 55 71 (.node (.node .nil 56 72 .nil) 57 73
  .nil)))))
def tauT : NT := (.node (.node (.node (.node (.node (.node (.node (.node .nil 0 0 .nil) 1 1 .nil) 2 2 (.node .nil 3 3 .nil)) 4 4 (.node (.node .nil 5 5 .nil) 6 6 (.node .nil 7 7 .nil)))
  8 8 (.node (.node (.node .nil 9 9 .nil) 10 10 (.node .nil 11 11 .nil)) 12 12 (.node (.node .nil 13 13 .nil) 14 14 (.node .nil 15 15 .nil)))) 16 16 (.node (.node (.node (.node (.node
  .nil 17 17 .nil) 18 18 .nil) 19 19 (.node .nil 20 20 .nil)) 21 21 (.node (.node .nil 22 22 .nil) 23 23 (.node .nil 24 24 .nil))) 25 25 (.node (.node (.node .nil 26 26 .nil) 27 27 (.node
  .nil 28 28 .nil)) 29 29 (.node (.node .nil 30 30 .nil) 31 31 (.node .nil 32 32 .nil))))) 33 33 (.node (.node (.node (.node (.node (.node .nil 34 34 .nil) 35 35 .nil) 36 36 (.node .nil
  37 37 .nil)) 38 38 (.node (.node .nil 39 39 .nil) 40 40 (.node .nil 41 41 .nil))) 42 42 (.node (.node (.node .nil 43 43 .nil) 44 44 (.node .nil 45 45 .nil)) 46 46 (.node (.node .nil
  47 47 .nil) 48 48 (.node .nil 49 49 .nil)))) 50 50 (.node (.node (.node (.node .nil 51 51 .nil) 52 52 (.node .nil 53 53 .nil)) 54 54 (.node (.node .nil 55 55 .nil) 56 56 (.node .nil
  57 57 .nil))) 58 58 (.node (.node (.node .nil 59 59 .nil) 60 60 (.node .nil 61 61 .nil)) 62 62 (.node (.node .nil 63 63 .nil) 64 64 (.node .nil 65 65 .nil)))))) 66 66 (.node (.node
  (.node (.node (.node (.node (.node .nil 67 67 .nil) 68 68 .nil) 69 69 (.node .nil 70 70 .nil)) 71 71 (.node (.node .nil 72 72 .nil) 73 73 (.node .nil 74 74 .nil))) 75 75 (.node (.node
  (.node .nil 76 76 .nil) 77 77 (.node .nil 78 78 .nil)) 79 79 (.node (.node .nil 80 80 .nil) 81 81 (.node .nil 82 82 .nil)))) 83 83 (.node (.node (.node (.node (.node .nil 84 84 .nil)
  85 85 .nil) 86 86 (.node .nil 87 87 .nil)) 88 88 (.node (.node .nil 89 89 .nil) 90 90 (.node .nil 91 91 .nil))) 92 92 (.node (.node (.node .nil 93 93 .nil) 94 94 (.node .nil 95 95 .nil))
  96 96 (.node (.node .nil 97 97 .nil) 98 98 (.node .nil 99 99 .nil))))) 100 100 (.node (.node (.node (.node (.node (.node .nil 101 101 .nil) 102 102 .nil) 103 103 (.node .nil 104 104
  .nil)) 105 105 (.node (.node .nil 106 106 .nil) 107 107 (.node .nil 108 108 .nil))) 109 109 (.node (.node (.node .nil 110 110 .nil) 111 111 (.node .nil 112 112 .nil)) 113 113 (.node
  (.node .nil 114 114 .nil) 115 115 (.node .nil 116 116 .nil)))) 117 117 (.node (.node (.node (.node .nil 118 118 .nil) 119 119 (.node .nil 120 120 .nil)) 121 121 (.node (.node .nil 122
  122 .nil) 123 123 (.node .nil 124 124 .nil))) 125 125 (.node (.node (.node .nil 126 126 .nil) 127 127 (.node .nil 128 128 .nil)) 129 129 (.node (.node .nil 130 130 .nil) 131 131 (.node
  .nil 132 132 .nil)))))))
noncomputable def cx : Cx := ⟨Try.prog, phiT.get, tauT.get⟩
theorem k_chaselaw07_FaxEncodes : FnOK cx 0 B.chaselaw07_FaxEncodes := fnOK_of (by kernel_rfl) Try.func3 (by kernel_rfl)
theorem k_chaselaw07_FaxDecodes : FnOK cx 1 B.chaselaw07_FaxDecodes := fnOK_of (by kernel_rfl) Try.func4 (by kernel_rfl)
theorem k_chaselaw07_FaxBack : FnOK cx 2 B.chaselaw07_FaxBack := fnOK_of (by kernel_rfl) Try.func5 (by kernel_rfl)
theorem k_chaselaw07_FaxMirrors : FnOK cx 3 B.chaselaw07_FaxMirrors := fnOK_of (by kernel_rfl) Try.func6 (by kernel_rfl)
theorem k_chaselaw07_FaxSame : FnOK cx 4 B.chaselaw07_FaxSame := fnOK_of (by kernel_rfl) Try.func7 (by kernel_rfl)
theorem k_chaselaw07_FaxKnown : FnOK cx 5 B.chaselaw07_FaxKnown := fnOK_of (by kernel_rfl) Try.func8 (by kernel_rfl)
theorem k_chaselaw07_works : FnOK cx 6 B.chaselaw07_works := fnOK_of (by kernel_rfl) Try.func9 (by kernel_rfl)
theorem k_chaseref07_Draft_Width : FnOK cx 7 B.chaseref07_Draft_Width := fnOK_of (by kernel_rfl) Try.func10 (by kernel_rfl)
theorem k_chaseref07_Draft_Data : FnOK cx 8 B.chaseref07_Draft_Data := fnOK_of (by kernel_rfl) Try.func11 (by kernel_rfl)
theorem k_fax_Encode : FnOK cx 9 B.fax_Encode := fnOK_of (by kernel_rfl) Try.func12 (by kernel_rfl)
theorem k_chaseref07_Encode : FnOK cx 10 B.chaseref07_Encode := fnOK_of (by kernel_rfl) Try.func13 (by kernel_rfl)
theorem k_fax_Decode : FnOK cx 11 B.fax_Decode := fnOK_of (by kernel_rfl) Try.func14 (by kernel_rfl)
theorem k_chaseref07_Decode : FnOK cx 12 B.chaseref07_Decode := fnOK_of (by kernel_rfl) Try.func15 (by kernel_rfl)
theorem k_chaselaw07_codes : FnOK cx 14 B.chaselaw07_codes := fnOK_of (by kernel_rfl) Try.func17 (by kernel_rfl)
theorem k_chaseref07_Pack : FnOK cx 15 B.chaseref07_Pack := fnOK_of (by kernel_rfl) Try.func18 (by kernel_rfl)
theorem k_fax_octets : FnOK cx 16 B.fax_octets := fnOK_of (by kernel_rfl) Try.func19 (by kernel_rfl)
theorem k_fax_unpack : FnOK cx 17 B.fax_unpack := fnOK_of (by kernel_rfl) Try.func20 (by kernel_rfl)
theorem k_fax_writer_put : FnOK cx 18 B.fax_writer_put := fnOK_of (by kernel_rfl) Try.func21 (by kernel_rfl)
theorem k_fax_coder_write : FnOK cx 19 B.fax_coder_write := fnOK_of (by kernel_rfl) Try.func22 (by kernel_rfl)
theorem k_chaseref07_Rows : FnOK cx 20 B.chaseref07_Rows := fnOK_of (by kernel_rfl) Try.func23 (by kernel_rfl)
theorem k_chaseref07_Row : FnOK cx 21 B.chaseref07_Row := fnOK_of (by kernel_rfl) Try.func24 (by kernel_rfl)
theorem k_chaseref07_word : FnOK cx 22 B.chaseref07_word := fnOK_of (by kernel_rfl) Try.func25 (by kernel_rfl)
theorem k_fax_filler_next : FnOK cx 23 B.fax_filler_next := fnOK_of (by kernel_rfl) Try.func26 (by kernel_rfl)
theorem k_fax_reader_bit : FnOK cx 24 B.fax_reader_bit := fnOK_of (by kernel_rfl) Try.func27 (by kernel_rfl)
theorem k_chaseref07_Bits : FnOK cx 25 B.chaseref07_Bits := fnOK_of (by kernel_rfl) Try.func28 (by kernel_rfl)
theorem k_chaseref07_starts : FnOK cx 26 B.chaseref07_starts := fnOK_of (by kernel_rfl) Try.func29 (by kernel_rfl)
theorem k_chaseref07_readRow : FnOK cx 27 B.chaseref07_readRow := fnOK_of (by kernel_rfl) Try.func30 (by kernel_rfl)
theorem k_fax_coder_ahead : FnOK cx 28 B.fax_coder_ahead := fnOK_of (by kernel_rfl) Try.func37 (by kernel_rfl)
theorem k_fax_coder_own : FnOK cx 29 B.fax_coder_own := fnOK_of (by kernel_rfl) Try.func38 (by kernel_rfl)
theorem k_fax_vertical : FnOK cx 30 B.fax_vertical := fnOK_of (by kernel_rfl) Try.func39 (by kernel_rfl)
theorem k_fax_run : FnOK cx 31 B.fax_run := fnOK_of (by kernel_rfl) Try.func40 (by kernel_rfl)
theorem k_chaseref07_Change : FnOK cx 32 B.chaseref07_Change := fnOK_of (by kernel_rfl) Try.func41 (by kernel_rfl)
theorem k_chaseref07_Edge : FnOK cx 33 B.chaseref07_Edge := fnOK_of (by kernel_rfl) Try.func42 (by kernel_rfl)
theorem k_chaseref07_Vertical : FnOK cx 34 B.chaseref07_Vertical := fnOK_of (by kernel_rfl) Try.func43 (by kernel_rfl)
theorem k_chaseref07_Run : FnOK cx 35 B.chaseref07_Run := fnOK_of (by kernel_rfl) Try.func44 (by kernel_rfl)
theorem k_fax_reader_zeros : FnOK cx 36 B.fax_reader_zeros := fnOK_of (by kernel_rfl) Try.func45 (by kernel_rfl)
theorem k_fax_modes : FnOK cx 37 B.fax_modes := fnOK_of (by kernel_rfl) Try.func46 (by kernel_rfl)
theorem k_chaseref07_readRun : FnOK cx 38 B.chaseref07_readRun := fnOK_of (by kernel_rfl) Try.func47 (by kernel_rfl)
theorem k_fax_coder_ahead_1 : FnOK cx 39 B.fax_coder_ahead_1 := fnOK_of (by kernel_rfl) Try.func54 (by kernel_rfl)
theorem k_fax_first_int : FnOK cx 40 B.fax_first_int := fnOK_of (by kernel_rfl) Try.func53 (by kernel_rfl)
theorem k_fax_coder_ahead_2 : FnOK cx 41 B.fax_coder_ahead_2 := fnOK_of (by kernel_rfl) Try.func55 (by kernel_rfl)
theorem k_fax_coder_own_1 : FnOK cx 42 B.fax_coder_own_1 := fnOK_of (by kernel_rfl) Try.func56 (by kernel_rfl)
theorem k_fax_coder_own_2 : FnOK cx 43 B.fax_coder_own_2 := fnOK_of (by kernel_rfl) Try.func57 (by kernel_rfl)
theorem k_math_bits_Len : FnOK cx 44 B.math_bits_Len := fnOK_of (by kernel_rfl) Try.func58 (by kernel_rfl)
theorem k_chaseref07_pixel : FnOK cx 45 B.chaseref07_pixel := fnOK_of (by kernel_rfl) Try.func59 (by kernel_rfl)
theorem k_fax_filler_straight : FnOK cx 46 B.fax_filler_straight := fnOK_of (by kernel_rfl) Try.func60 (by kernel_rfl)
theorem k_fax_filler_one : FnOK cx 47 B.fax_filler_one := fnOK_of (by kernel_rfl) Try.func61 (by kernel_rfl)
theorem k_fax_filler_horizontal : FnOK cx 48 B.fax_filler_horizontal := fnOK_of (by kernel_rfl) Try.func62 (by kernel_rfl)
theorem k_fax_filler_pass : FnOK cx 49 B.fax_filler_pass := fnOK_of (by kernel_rfl) Try.func63 (by kernel_rfl)
theorem k_fax_filler_two : FnOK cx 50 B.fax_filler_two := fnOK_of (by kernel_rfl) Try.func64 (by kernel_rfl)
theorem k_fax_filler_three : FnOK cx 51 B.fax_filler_three := fnOK_of (by kernel_rfl) Try.func65 (by kernel_rfl)
theorem k_math_bits_Len32 : FnOK cx 52 B.math_bits_Len32 := fnOK_of (by kernel_rfl) Try.func68 (by kernel_rfl)
theorem k_math_bits_Len64 : FnOK cx 53 B.math_bits_Len64 := fnOK_of (by kernel_rfl) Try.func69 (by kernel_rfl)
theorem k_fax_filler_vertical : FnOK cx 54 B.fax_filler_vertical := fnOK_of (by kernel_rfl) Try.func70 (by kernel_rfl)
theorem k_fax_reader_run : FnOK cx 55 B.fax_reader_run := fnOK_of (by kernel_rfl) Try.func71 (by kernel_rfl)
theorem k_fax_filler_fill : FnOK cx 56 B.fax_filler_fill := fnOK_of (by kernel_rfl) Try.func72 (by kernel_rfl)
theorem k_fax_reader_number : FnOK cx 57 B.fax_reader_number := fnOK_of (by kernel_rfl) Try.func73 (by kernel_rfl)
def fnT : FT := (.node (.node (.node (.node (.node (.node .nil 0 B.chaselaw07_FaxEncodes .nil) 1 B.chaselaw07_FaxDecodes (.node .nil 2 B.chaselaw07_FaxBack .nil)) 3 B.chaselaw07_FaxMirrors
  (.node (.node .nil 4 B.chaselaw07_FaxSame .nil) 5 B.chaselaw07_FaxKnown (.node .nil 6 B.chaselaw07_works .nil))) 7 B.chaseref07_Draft_Width (.node (.node (.node .nil 8 B.chaseref07_Draft_Data
  .nil) 9 B.fax_Encode (.node .nil 10 B.chaseref07_Encode .nil)) 11 B.fax_Decode (.node (.node .nil 12 B.chaseref07_Decode .nil) 14 B.chaselaw07_codes .nil))) 15 B.chaseref07_Pack (.node
  (.node (.node (.node .nil 16 B.fax_octets .nil) 17 B.fax_unpack (.node .nil 18 B.fax_writer_put .nil)) 19 B.fax_coder_write (.node (.node .nil 20 B.chaseref07_Rows .nil) 21 B.chaseref07_Row
  .nil)) 22 B.chaseref07_word (.node (.node (.node .nil 23 B.fax_filler_next .nil) 24 B.fax_reader_bit (.node .nil 25 B.chaseref07_Bits .nil)) 26 B.chaseref07_starts (.node (.node .nil
  27 B.chaseref07_readRow .nil) 28 B.fax_coder_ahead .nil)))) 29 B.fax_coder_own (.node (.node (.node (.node (.node .nil 30 B.fax_vertical .nil) 31 B.fax_run (.node .nil 32 B.chaseref07_Change
  .nil)) 33 B.chaseref07_Edge (.node (.node .nil 34 B.chaseref07_Vertical .nil) 35 B.chaseref07_Run (.node .nil 36 B.fax_reader_zeros .nil))) 37 B.fax_modes (.node (.node (.node .nil
  38 B.chaseref07_readRun .nil) 39 B.fax_coder_ahead_1 (.node .nil 40 B.fax_first_int .nil)) 41 B.fax_coder_ahead_2 (.node (.node .nil 42 B.fax_coder_own_1 .nil) 43 B.fax_coder_own_2
  .nil))) 44 B.math_bits_Len (.node (.node (.node (.node .nil 45 B.chaseref07_pixel .nil) 46 B.fax_filler_straight (.node .nil 47 B.fax_filler_one .nil)) 48 B.fax_filler_horizontal (.node
  (.node .nil 49 B.fax_filler_pass .nil) 50 B.fax_filler_two .nil)) 51 B.fax_filler_three (.node (.node (.node .nil 52 B.math_bits_Len32 .nil) 53 B.math_bits_Len64 (.node .nil 54 B.fax_filler_vertical
  .nil)) 55 B.fax_reader_run (.node (.node .nil 56 B.fax_filler_fill .nil) 57 B.fax_reader_number .nil)))))
theorem fnT_all : fnT.All (FnOK cx) := ⟨⟨⟨⟨⟨⟨trivial, k_chaselaw07_FaxEncodes, trivial⟩, k_chaselaw07_FaxDecodes, ⟨trivial, k_chaselaw07_FaxBack, trivial⟩⟩, k_chaselaw07_FaxMirrors,
  ⟨⟨trivial, k_chaselaw07_FaxSame, trivial⟩, k_chaselaw07_FaxKnown, ⟨trivial, k_chaselaw07_works, trivial⟩⟩⟩, k_chaseref07_Draft_Width, ⟨⟨⟨trivial, k_chaseref07_Draft_Data, trivial⟩,
  k_fax_Encode, ⟨trivial, k_chaseref07_Encode, trivial⟩⟩, k_fax_Decode, ⟨⟨trivial, k_chaseref07_Decode, trivial⟩, k_chaselaw07_codes, trivial⟩⟩⟩, k_chaseref07_Pack, ⟨⟨⟨⟨trivial, k_fax_octets,
  trivial⟩, k_fax_unpack, ⟨trivial, k_fax_writer_put, trivial⟩⟩, k_fax_coder_write, ⟨⟨trivial, k_chaseref07_Rows, trivial⟩, k_chaseref07_Row, trivial⟩⟩, k_chaseref07_word, ⟨⟨⟨trivial,
  k_fax_filler_next, trivial⟩, k_fax_reader_bit, ⟨trivial, k_chaseref07_Bits, trivial⟩⟩, k_chaseref07_starts, ⟨⟨trivial, k_chaseref07_readRow, trivial⟩, k_fax_coder_ahead, trivial⟩⟩⟩⟩,
  k_fax_coder_own, ⟨⟨⟨⟨⟨trivial, k_fax_vertical, trivial⟩, k_fax_run, ⟨trivial, k_chaseref07_Change, trivial⟩⟩, k_chaseref07_Edge, ⟨⟨trivial, k_chaseref07_Vertical, trivial⟩, k_chaseref07_Run,
  ⟨trivial, k_fax_reader_zeros, trivial⟩⟩⟩, k_fax_modes, ⟨⟨⟨trivial, k_chaseref07_readRun, trivial⟩, k_fax_coder_ahead_1, ⟨trivial, k_fax_first_int, trivial⟩⟩, k_fax_coder_ahead_2, ⟨⟨trivial,
  k_fax_coder_own_1, trivial⟩, k_fax_coder_own_2, trivial⟩⟩⟩, k_math_bits_Len, ⟨⟨⟨⟨trivial, k_chaseref07_pixel, trivial⟩, k_fax_filler_straight, ⟨trivial, k_fax_filler_one, trivial⟩⟩,
  k_fax_filler_horizontal, ⟨⟨trivial, k_fax_filler_pass, trivial⟩, k_fax_filler_two, trivial⟩⟩, k_fax_filler_three, ⟨⟨⟨trivial, k_math_bits_Len32, trivial⟩, k_math_bits_Len64, ⟨trivial,
  k_fax_filler_vertical, trivial⟩⟩, k_fax_reader_run, ⟨⟨trivial, k_fax_filler_fill, trivial⟩, k_fax_reader_number, trivial⟩⟩⟩⟩⟩
end Go.Ev.Fax
