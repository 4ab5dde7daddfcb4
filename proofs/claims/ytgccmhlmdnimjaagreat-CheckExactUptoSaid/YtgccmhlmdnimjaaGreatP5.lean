/-
  The settings of the data machine for this seat: by program.
-/
import Derived.KernelRfl
import Derived.Test.YtgccmhlmdnimjaaGreatRows
import Derived.Test.YtgccmhlmdnimjaaGreatP3
namespace Go.Su
open Go.Proofs

def spread {α : Type} (d : α) : Nat → Nat → List (Nat × α) → List α
  | 0, _, _ => []
  | n + 1, i, [] => d :: spread d n (i + 1) []
  | n + 1, i, (j, x) :: l => match Nat.beq i j with
    | true => x :: spread d n (i + 1) l
    | false => d :: spread d n (i + 1) ((j, x) :: l)

abbrev F_main_main : FuncId := 0
abbrev F_gosem_cut : FuncId := 1
abbrev F_gosem_cut_init : FuncId := 2
abbrev F_l19_CheckExact : FuncId := 3
abbrev F_l19_CheckTypes : FuncId := 4
abbrev F_l16_JudgeExact : FuncId := 5
abbrev F_l18_ElabExact : FuncId := 6
abbrev F_l05_TreeWith : FuncId := 7
abbrev F_l05_TreeExact : FuncId := 8
abbrev F_l17_Heavy : FuncId := 9
abbrev F_r17_TameTerm : FuncId := 10
abbrev F_check_Type : FuncId := 11
abbrev F_r17_Right : FuncId := 12
abbrev F_l19_wakes : FuncId := 13
abbrev F_r17_Type : FuncId := 14
abbrev F_keep_Same : FuncId := 15
abbrev F_l19_vars : FuncId := 16
abbrev F_l11_Small : FuncId := 17
abbrev F_r03_Right : FuncId := 18
abbrev F_r03_Without : FuncId := 19
abbrev F_r03_In : FuncId := 20
abbrev F_r03_Size : FuncId := 21
abbrev F_term_Types : FuncId := 22
abbrev F_scheme_Subst : FuncId := 23
abbrev F_l15_Heavy : FuncId := 24
abbrev F_l16_HeavyDeriv : FuncId := 25
abbrev F_r16_TameDeriv : FuncId := 26
abbrev F_keep_Expr : FuncId := 27
abbrev F_keep_Deriv : FuncId := 28
abbrev F_judge_Check : FuncId := 29
abbrev F_r16_Check : FuncId := 30
abbrev F_r05_SameAt : FuncId := 31
abbrev F_keep_Derivs : FuncId := 32
abbrev F_l16_wakes : FuncId := 33
abbrev F_elab_Make : FuncId := 34
abbrev F_r05_Right : FuncId := 35
abbrev F_l18_right : FuncId := 36
abbrev F_l18_wakes : FuncId := 37
abbrev F_r17_Make : FuncId := 38
abbrev F_r17_Same : FuncId := 39
abbrev F_keep_Labels : FuncId := 40
abbrev F_l05_countType : FuncId := 41
abbrev F_l05_Heavy : FuncId := 42
abbrev F_keep_Types : FuncId := 43
abbrev F_tree_With : FuncId := 44
abbrev F_r05_With : FuncId := 45
abbrev F_keep_SameAll : FuncId := 46
abbrev F_l05_wakes : FuncId := 47
abbrev F_tree_Anns : FuncId := 48
abbrev F_tree_Check : FuncId := 49
abbrev F_tree_Size : FuncId := 50
abbrev F_tree_Value : FuncId := 51
abbrev F_keep_Texts : FuncId := 52
abbrev F_tree_Free : FuncId := 53
abbrev F_r05_Value : FuncId := 54
abbrev F_r05_Free : FuncId := 55
abbrev F_r05_Anns : FuncId := 56
abbrev F_tree_Bare : FuncId := 57
abbrev F_r05_Size : FuncId := 58
abbrev F_tree_Depth : FuncId := 59
abbrev F_r05_Depth : FuncId := 60
abbrev F_tree_Same : FuncId := 61
abbrev F_r05_Same : FuncId := 62
abbrev F_r05_Bare : FuncId := 63
abbrev F_l17_weigh : FuncId := 64
abbrev F_r17_bulk : FuncId := 65
abbrev F_term_Check : FuncId := 66
abbrev F_check_scope_term : FuncId := 67
abbrev F_r17_own : FuncId := 68
abbrev F_l19_cast : FuncId := 69
abbrev F_r17_K_typ : FuncId := 70
abbrev F_l03_Heavy : FuncId := 71
abbrev F_r08_Deep : FuncId := 72
abbrev F_r03_Vars : FuncId := 73
abbrev F_r03_Kids : FuncId := 74
abbrev F_term_right : FuncId := 75
abbrev F_term_bindsRight : FuncId := 76
abbrev F_term_types : FuncId := 77
abbrev F_typ_Check : FuncId := 78
abbrev F_scheme_put : FuncId := 79
abbrev F_l16_weigh : FuncId := 80
abbrev F_r16_Bulk_expr : FuncId := 81
abbrev F_keep_Type : FuncId := 82
abbrev F_keep_Pat : FuncId := 83
abbrev F_judge_Cast : FuncId := 84
abbrev F_r16_RightDeriv : FuncId := 85
abbrev F_r16_J_Expr : FuncId := 86
abbrev F_r05_patAt : FuncId := 87
abbrev F_keep_Ints : FuncId := 88
abbrev F_r03_Leaf : FuncId := 89
abbrev F_judge_Put : FuncId := 90
abbrev F_r03_Two : FuncId := 91
abbrev F_r05_own : FuncId := 92
abbrev F_r05_RightPat : FuncId := 93
abbrev F_elab_Plain : FuncId := 94
abbrev F_r17_E_term : FuncId := 95
abbrev F_r17_flat : FuncId := 96
abbrev F_l05_count : FuncId := 97
abbrev F_tree_closed : FuncId := 98
abbrev F_tree_put : FuncId := 99
abbrev F_r03_None : FuncId := 100
abbrev F_r05_note : FuncId := 101
abbrev F_r05_with : FuncId := 102
abbrev F_l05_name : FuncId := 103
abbrev F_tree_CheckPat : FuncId := 104
abbrev F_tree_all : FuncId := 105
abbrev F_tree_none : FuncId := 106
abbrev F_tree_one : FuncId := 107
abbrev F_tree_value : FuncId := 108
abbrev F_tree_scope_look : FuncId := 109
abbrev F_slices_Sort__string_string : FuncId := 110
abbrev F_r05_free : FuncId := 111
abbrev F_r05_anns : FuncId := 112
abbrev F_slices_Clone__api_Pat_api_Pat : FuncId := 113
abbrev F_slices_Clone__api_Expr_api_Expr : FuncId := 114
abbrev F_tree_barePat : FuncId := 115
abbrev F_tree_depthPat : FuncId := 116
abbrev F_typ_Depth : FuncId := 117
abbrev F_r05_patDepth : FuncId := 118
abbrev F_r03_Depth : FuncId := 119
abbrev F_typ_Same : FuncId := 120
abbrev F_slices_EqualFunc__api_Pat__api_Pat_api_Pat_api_Pat : FuncId := 121
abbrev F_tree_samePat : FuncId := 122
abbrev F_slices_EqualFunc__api_Expr__api_Expr_api_Expr_api_Expr : FuncId := 123
abbrev F_r03_Same : FuncId := 124
abbrev F_r05_SamePat : FuncId := 125
abbrev F_r05_barePat : FuncId := 126
abbrev F_l17_light : FuncId := 127
abbrev F_l17_weighPat : FuncId := 128
abbrev F_r17_more : FuncId := 129
abbrev F_r16_Bulk_Of : FuncId := 130
abbrev F_r05_Names : FuncId := 131
abbrev F_r16_Bulk_Named : FuncId := 132
abbrev F_check_scope_name : FuncId := 133
abbrev F_check_scope_has : FuncId := 134
abbrev F_check_with : FuncId := 135
abbrev F_check_fun : FuncId := 136
abbrev F_check_scope_let : FuncId := 137
abbrev F_check_scope_rec : FuncId := 138
abbrev F_check_scope_match : FuncId := 139
abbrev F_check_scope_kids : FuncId := 140
abbrev F_check_scope_of : FuncId := 141
abbrev F_r17_bare : FuncId := 142
abbrev F_r01_Name : FuncId := 143
abbrev F_r17_K_name : FuncId := 144
abbrev F_r17_K_scoped : FuncId := 145
abbrev F_r03_List : FuncId := 146
abbrev F_r17_K_must : FuncId := 147
abbrev F_r17_plain : FuncId := 148
abbrev F_r17_K_wrong : FuncId := 149
abbrev F_r17_K_with : FuncId := 150
abbrev F_r17_K_rec : FuncId := 151
abbrev F_r17_K_match : FuncId := 152
abbrev F_r17_K_op : FuncId := 153
abbrev F_r08_Agree : FuncId := 154
abbrev F_l03_count : FuncId := 155
abbrev F_r03_vars : FuncId := 156
abbrev F_term_one : FuncId := 157
abbrev F_slices_Clone__api_Type_api_Type : FuncId := 158
abbrev F_slices_Clone__api_Term_api_Term : FuncId := 159
abbrev F_term_put : FuncId := 160
abbrev F_term_outside : FuncId := 161
abbrev F_typ_right : FuncId := 162
abbrev F_r16_Bulk_First : FuncId := 163
abbrev F_r16_Bulk_put : FuncId := 164
abbrev F_r16_more : FuncId := 165
abbrev F_r16_Bulk_Last : FuncId := 166
abbrev F_r16_Bulk_match : FuncId := 167
abbrev F_judge_right : FuncId := 168
abbrev F_judge_judging_expr : FuncId := 169
abbrev F_judge_judging_ok : FuncId := 170
abbrev F_r16_J_own : FuncId := 171
abbrev F_r16_last : FuncId := 172
abbrev F_r08_Put : FuncId := 173
abbrev F_r16_Binds : FuncId := 174
abbrev F_r16_J_kid : FuncId := 175
abbrev F_r16_T_of : FuncId := 176
abbrev F_r16_J_fits : FuncId := 177
abbrev F_r16_given : FuncId := 178
abbrev F_r16_plain : FuncId := 179
abbrev F_r16_J_app : FuncId := 180
abbrev F_r16_J_let : FuncId := 181
abbrev F_r16_J_match : FuncId := 182
abbrev F_r16_J_rest : FuncId := 183
abbrev F_judge_put : FuncId := 184
abbrev F_r05_fields : FuncId := 185
abbrev F_r05_pat : FuncId := 186
abbrev F_r05_Has : FuncId := 187
abbrev F_elab_stands : FuncId := 188
abbrev F_elab_put : FuncId := 189
abbrev F_r17_wants : FuncId := 190
abbrev F_r17_E_cast : FuncId := 191
abbrev F_r03_SameAll : FuncId := 192
abbrev F_l05_countPat : FuncId := 193
abbrev F_typ_Closed : FuncId := 194
abbrev F_tree_pats : FuncId := 195
abbrev F_tree_onePat : FuncId := 196
abbrev F_tree_all_1 : FuncId := 197
abbrev F_tree_goExprs : FuncId := 198
abbrev F_tree_shapeOf : FuncId := 199
abbrev F_word_Name : FuncId := 200
abbrev F_tree_scope_with : FuncId := 201
abbrev F_slices_pdqsortOrdered_string : FuncId := 202
abbrev F_math_bits_Len : FuncId := 203
abbrev F_r05_Rise : FuncId := 204
abbrev F_r05_Binds : FuncId := 205
abbrev F_r05_names : FuncId := 206
abbrev F_typ_Vars : FuncId := 207
abbrev F_check_scope_takes : FuncId := 208
abbrev F_check_scope_enter : FuncId := 209
abbrev F_pats_Bind : FuncId := 210
abbrev F_agree_Agree : FuncId := 211
abbrev F_r01_lower : FuncId := 212
abbrev F_r01_part : FuncId := 213
abbrev F_r01_Key : FuncId := 214
abbrev F_r16_Fits : FuncId := 215
abbrev F_r08_leaf : FuncId := 216
abbrev F_r08_like : FuncId := 217
abbrev F_term_shapeOf : FuncId := 218
abbrev F_term_named : FuncId := 219
abbrev F_term_typed : FuncId := 220
abbrev F_term_lists : FuncId := 221
abbrev F_slices_DeleteFunc__api_Bind_api_Bind : FuncId := 222
abbrev F_slices_Clone__api_Bind_api_Bind : FuncId := 223
abbrev F_term_outside_1 : FuncId := 224
abbrev F_slices_Contains__int_int : FuncId := 225
abbrev F_typ_arity : FuncId := 226
abbrev F_judge_find : FuncId := 227
abbrev F_judge_judging_fails : FuncId := 228
abbrev F_judge_judging_choices : FuncId := 229
abbrev F_judge_judging_name : FuncId := 230
abbrev F_judge_judging_kid : FuncId := 231
abbrev F_judge_list : FuncId := 232
abbrev F_judge_judging_fits : FuncId := 233
abbrev F_judge_one : FuncId := 234
abbrev F_judge_with : FuncId := 235
abbrev F_judge_fun : FuncId := 236
abbrev F_judge_judging_more : FuncId := 237
abbrev F_r16_May : FuncId := 238
abbrev F_r16_J_wrong : FuncId := 239
abbrev F_elab_plain : FuncId := 240
abbrev F_typ_without : FuncId := 241
abbrev F_tree_pats_1 : FuncId := 242
abbrev F_tree_goPats : FuncId := 243
abbrev F_word_Key : FuncId := 244
abbrev F_word_inner : FuncId := 245
abbrev F_slices_insertionSortOrdered_string : FuncId := 246
abbrev F_slices_heapSortOrdered_string : FuncId := 247
abbrev F_slices_breakPatternsOrdered_string : FuncId := 248
abbrev F_slices_choosePivotOrdered_string : FuncId := 249
abbrev F_slices_reverseRangeOrdered_string : FuncId := 250
abbrev F_slices_partialInsertionSortOrdered_string : FuncId := 251
abbrev F_cmp_Less_string : FuncId := 252
abbrev F_slices_partitionEqualOrdered_string : FuncId := 253
abbrev F_slices_partitionOrdered_string : FuncId := 254
abbrev F_math_bits_Len32 : FuncId := 255
abbrev F_math_bits_Len64 : FuncId := 256
abbrev F_typ_vars : FuncId := 257
abbrev F_pats_bind : FuncId := 258
abbrev F_agree_agrees : FuncId := 259
abbrev F_r01_digit : FuncId := 260
abbrev F_term_none : FuncId := 261
abbrev F_slices_IndexFunc__api_Bind_api_Bind : FuncId := 262
abbrev F_slices_Index__int_int : FuncId := 263
abbrev F_judge_many : FuncId := 264
abbrev F_judge_judging_enter : FuncId := 265
abbrev F_typ_Static : FuncId := 266
abbrev F_judge_judging_cast : FuncId := 267
abbrev F_judge_judging_app : FuncId := 268
abbrev F_judge_judging_let : FuncId := 269
abbrev F_judge_judging_rec : FuncId := 270
abbrev F_judge_judging_match : FuncId := 271
abbrev F_slices_siftDownOrdered_string : FuncId := 272
abbrev F_slices_nextPowerOfTwo : FuncId := 273
abbrev F_slices_xorshift_Next : FuncId := 274
abbrev F_slices_medianAdjacentOrdered_string : FuncId := 275
abbrev F_slices_medianOrdered_string : FuncId := 276
abbrev F_cmp_isNaN_string : FuncId := 277
abbrev F_pats_leaf : FuncId := 278
abbrev F_slices_order2Ordered_string : FuncId := 279
abbrev F_runtime_boundsError_Error : FuncId := 280
abbrev F_runtime_boundsError_RuntimeError : FuncId := 281
abbrev F_runtime_errorString_Error : FuncId := 282
abbrev F_runtime_errorString_RuntimeError : FuncId := 283
abbrev F_runtime_plainError_Error : FuncId := 284
abbrev F_runtime_plainError_RuntimeError : FuncId := 285
abbrev F_runtime_errorAddressString_Error : FuncId := 286
abbrev F_runtime_errorAddressString_RuntimeError : FuncId := 287
abbrev F_runtime_TypeAssertionError_Error : FuncId := 288
abbrev F_runtime_TypeAssertionError_RuntimeError : FuncId := 289
abbrev F_runtime_PanicNilError_Error : FuncId := 290
abbrev F_runtime_PanicNilError_RuntimeError : FuncId := 291
abbrev F_internal_abi_Type_Align : FuncId := 292
abbrev F_internal_runtime_maps_unhashableTypeError_Error : FuncId := 293
abbrev F_internal_runtime_maps_unhashableTypeError_RuntimeError : FuncId := 294
abbrev F_api_Errno_Error : FuncId := 295
abbrev F_internal_abi_Kind_String : FuncId := 296

def fl_l19_CheckExact : Flags := {}
def fl_l17_Heavy : Flags := { keep := [(3, [0, 3, 4], [], [], [0, 3, 4])] }
def fl_r17_TameTerm : Flags := { shared := [8] }
def fl_check_Type : Flags := {}
def fl_r17_Right : Flags := { keep := [(4, [1, 3], [1], [], [1, 3])] }
def fl_l19_wakes : Flags := {}
def fl_r17_Type : Flags := { shared := [7] }
def fl_keep_Same : Flags := { keep := [(4, [2, 3, 5], [2, 3], [], [2, 3, 5])] }
def fl_l11_Small : Flags := { keep := [(2, [0, 3], [], [], [0, 3])] }
def fl_r03_Right : Flags := { keep := [(4, [1, 3], [1], [], [1, 3])] }
def fl_r03_Without : Flags := { keep := [(4, [1, 2, 5], [2], [], [1, 2, 5])] }
def fl_r03_In : Flags := { keep := [(2, [0, 1, 5], [], [], [0, 1, 5])] }
def fl_r03_Size : Flags := { keep := [(3, [1, 3, 4], [1], [], [1, 3, 4])] }
def fl_scheme_Subst : Flags := { keep := [(5, [1, 2, 4, 6, 16, 17, 18], [2, 4], [], [1, 2, 4, 6, 16, 17, 18])] }
def fl_r05_SameAt : Flags := { keep := [(4, [2, 3, 5], [2, 3], [], [2, 3, 5]), (9, [2, 3, 6], [2, 3], [], [2, 3, 6])] }
def fl_r05_Same : Flags := { keep := [(3, [2, 3], [2, 3], [], [2, 3]), (6, [2, 3, 5], [2, 3], [], [2, 3, 5]), (11, [2, 3, 6], [2, 3], [], [2, 3, 6])] }
def fl_l17_weigh : Flags := { keep := [(5, [1, 2, 5], [2], [], [1, 2, 5]), (11, [1, 2, 6], [2], [], [1, 2, 6]), (15, [1, 2, 7], [2], [], [1, 2, 7])] }
def fl_r17_bulk : Flags := { steal := [7, 120], keep := [(5, [0, 2, 4, 7, 8], [4], [7], [0, 2, 4, 8]), (12, [0, 2, 4, 7, 8, 9], [4], [7], [0, 2, 4, 8, 9]), (19, [0, 2, 4, 7, 8, 9, 10, 11], [4], [7], [0, 2, 4, 8, 9, 10, 11]), (22, [0, 2, 4, 7, 8, 9], [4], [7], [0, 2, 4, 8, 9]), (25, [0, 2, 4, 7, 12, 13], [4], [], [0, 2, 4, 7, 12, 13])] }
def sig_r17_bulk : Sig := { params := [.val, .val, .val], results := [.val] }
def fl_term_Check : Flags := {}
def fl_check_scope_term : Flags := { keep := [(8, [4, 6], [4, 6], [], [4, 6])] }
def sig_check_scope_term : Sig := { params := [.val, .val, .val], results := [.val, .val] }
def fl_r17_own : Flags := { keep := [(5, [1, 5], [1], [], [1, 5]), (10, [1, 6], [1], [], [1, 6]), (15, [1, 7], [1], [], [1, 7])] }
def fl_l19_cast : Flags := {}
def fl_r17_K_typ : Flags := { keep := [(10, [5, 8], [5, 8], [], [5, 8]), (24, [0, 2, 3, 5, 8, 25], [5, 8], [], [0, 2, 3, 5, 8, 25]), (30, [0, 2, 3, 5, 8, 25], [5, 8], [], [0, 2, 3, 5, 8, 25]), (41, [0, 2, 3, 5, 8, 25], [5, 8], [], [0, 2, 3, 5, 8, 25])] }
def sig_r17_K_typ : Sig := { params := [.val, .val, .val, .val], results := [.val] }
def fl_l03_Heavy : Flags := { keep := [(3, [0, 3, 4], [], [], [0, 3, 4])] }
def fl_r08_Deep : Flags := { keep := [(4, [1, 2, 5], [2], [], [1, 2, 5])] }
def fl_r03_Vars : Flags := { steal := [2] }
def fl_r03_Kids : Flags := {}
def fl_term_right : Flags := { keep := [(4, [9, 10, 11], [], [], [9, 10, 11])] }
def fl_typ_Check : Flags := {}
def fl_scheme_put : Flags := { steal := [45], keep := [(10, [1, 2, 6, 9, 38, 39, 40], [6, 9], [9], [1, 2, 6, 38, 39, 40])] }
def sig_scheme_put : Sig := { params := [.val, .val, .val], results := [.val] }
def fl_r05_patAt : Flags := { keep := [(4, [2, 3, 5], [2, 3], [], [2, 3, 5])] }
def fl_r03_Leaf : Flags := {}
def fl_r03_Two : Flags := {}
def fl_r05_RightPat : Flags := { keep := [(5, [3, 4], [], [], [3, 4])] }
def fl_r17_flat : Flags := { keep := [(3, [2, 3], [2, 3], [], [2, 3]), (6, [2, 3, 5], [2, 3], [], [2, 3, 5]), (11, [2, 3, 6], [2, 3], [], [2, 3, 6])] }
def fl_tree_CheckPat : Flags := { shared := [1, 2, 3], keep := [(3, [2, 3, 8], [], [], [2, 3, 8]), (6, [3, 4], [4], [], [3, 4])] }
def fl_typ_Same : Flags := { keep := [(4, [3, 29, 30, 31], [3], [], [3, 29, 30, 31])] }
def fl_r03_Same : Flags := { keep := [(4, [2, 3, 5], [2, 3], [], [2, 3, 5])] }
def fl_r05_SamePat : Flags := { keep := [(4, [2, 3, 5], [2, 3], [], [2, 3, 5])] }
def fl_l17_light : Flags := {}
def fl_l17_weighPat : Flags := { keep := [(5, [1, 2, 5], [2], [], [1, 2, 5])] }
def fl_r17_more : Flags := { steal := [6] }
def fl_r16_Bulk_Of : Flags := {}
def sig_r16_Bulk_Of : Sig := { params := [.val, .val], results := [.val] }
def fl_r05_Names : Flags := { steal := [2] }
def fl_r16_Bulk_Named : Flags := { keep := [(3, [0, 1, 2, 3, 9, 10], [], [], [0, 1, 2, 3, 9, 10]), (7, [0, 1, 2, 9, 11], [], [], [0, 1, 2, 9, 11])] }
def sig_r16_Bulk_Named : Sig := { params := [.val, .val, .val, .val], results := [.val] }
def fl_check_scope_name : Flags := { steal := [10, 61, 74], keep := [(2, [0, 2, 4, 6, 8], [4, 6], [], [0, 2, 4, 6, 8]), (14, [4, 6, 9, 10, 54, 55, 56], [4, 6, 9], [10], [4, 6, 9, 54, 55, 56])] }
def sig_check_scope_name : Sig := { params := [.val, .val, .val], results := [.val, .val] }
def fl_check_scope_has : Flags := { keep := [(2, [0, 9, 10, 11], [], [], [0, 9, 10, 11]), (5, [0, 9, 10, 11, 16, 17, 18], [], [], [0, 9, 10, 11, 16, 17, 18])] }
def sig_check_scope_has : Sig := { params := [.val, .val], results := [.val] }
def fl_check_with : Flags := { steal := [4] }
def sig_check_with : Sig := { params := [.val, .val], results := [.own] }
def fl_check_fun : Flags := {}
def fl_check_scope_let : Flags := {}
def sig_check_scope_let : Sig := { params := [.val, .val, .val], results := [.val, .val] }
def fl_check_scope_rec : Flags := { keep := [(10, [0, 2, 4, 6, 9, 10, 11], [4, 6, 9, 10], [], [0, 2, 4, 6, 9, 10, 11])] }
def sig_check_scope_rec : Sig := { params := [.val, .val, .val], results := [.val, .val] }
def fl_check_scope_match : Flags := { steal := [15, 59, 76], keep := [(6, [0, 2, 4, 6, 8, 10, 34, 35, 36], [4, 6, 8, 10], [], [0, 2, 4, 6, 8, 10, 34, 35, 36]), (13, [0, 2, 4, 6, 8, 10, 11, 15, 34, 35, 36, 53, 54, 55], [4, 6, 8, 10], [15], [0, 2, 4, 6, 8, 10, 11, 34, 35, 36, 53, 54, 55])] }
def sig_check_scope_match : Sig := { params := [.val, .val, .val], results := [.val, .val] }
def fl_check_scope_kids : Flags := { steal := [6, 8, 30, 35], keep := [(3, [0, 2, 8, 14, 15, 16], [], [8], [0, 2, 14, 15, 16])] }
def sig_check_scope_kids : Sig := { params := [.val, .val, .val], results := [.val, .val] }
def fl_check_scope_of : Flags := { keep := [(13, [0, 2, 4, 6, 11], [4, 6], [], [0, 2, 4, 6, 11]), (21, [2, 6, 8, 9], [6], [], [2, 6, 8, 9])] }
def sig_check_scope_of : Sig := { params := [.val, .val, .val], results := [.val, .val] }
def fl_r17_bare : Flags := { keep := [(25, [1, 2, 4, 9], [1, 2, 4], [], [1, 2, 4, 9])] }
def fl_r01_Name : Flags := { keep := [(4, [0, 3], [], [], [0, 3])] }
def fl_r17_K_name : Flags := { keep := [(2, [0, 2, 3, 5, 8, 9], [5, 8], [], [0, 2, 3, 5, 8, 9]), (4, [0, 2, 3, 5, 8, 9], [5, 8], [], [0, 2, 3, 5, 8, 9]), (11, [0, 2, 3, 5, 8, 9, 10], [5, 8], [], [0, 2, 3, 5, 8, 9, 10])] }
def sig_r17_K_name : Sig := { params := [.val, .val, .val, .val], results := [.val] }
def fl_r17_K_scoped : Flags := { keep := [(3, [0, 2, 6, 7], [], [], [0, 2, 6, 7])] }
def sig_r17_K_scoped : Sig := { params := [.val, .val, .val], results := [] }
def fl_r03_List : Flags := {}
def fl_r17_K_must : Flags := {}
def sig_r17_K_must : Sig := { params := [.val, .val], results := [] }
def fl_r17_plain : Flags := { steal := [6] }
def fl_r17_K_wrong : Flags := {}
def sig_r17_K_wrong : Sig := { params := [.val, .val], results := [] }
def fl_r17_K_with : Flags := { steal := [6, 7, 26, 33], keep := [(3, [0, 2, 7, 8], [], [7], [0, 2, 8])] }
def sig_r17_K_with : Sig := { params := [.val, .val, .val], results := [.val] }
def fl_r17_K_rec : Flags := {}
def sig_r17_K_rec : Sig := { params := [.val, .val, .val, .val], results := [.val] }
def fl_r17_K_match : Flags := { steal := [12, 14, 39, 47, 61, 82], keep := [(4, [0, 2, 3, 5, 8, 9, 10, 11], [5, 8, 9, 10], [], [0, 2, 3, 5, 8, 9, 10, 11]), (10, [0, 2, 3, 5, 8, 9, 10, 11, 12, 14, 15], [5, 8, 9, 10], [14], [0, 2, 3, 5, 8, 9, 10, 11, 12, 15])] }
def sig_r17_K_match : Sig := { params := [.val, .val, .val, .val], results := [.val] }
def fl_r17_K_op : Flags := { keep := [(4, [0, 2, 3, 5, 8, 9], [5, 8, 9], [], [0, 2, 3, 5, 8, 9])] }
def sig_r17_K_op : Sig := { params := [.val, .val, .val, .val], results := [.val] }
def fl_r08_Agree : Flags := { keep := [(10, [2, 3, 5], [2, 3], [], [2, 3, 5])] }
def fl_l03_count : Flags := { keep := [(3, [1, 2, 5], [2], [], [1, 2, 5])] }
def fl_r03_vars : Flags := { steal := [1, 4, 16, 33, 35], keep := [(3, [1, 2], [2], [1], [2]), (4, [1, 2, 5], [2], [1], [2, 5])] }
def sig_r03_vars : Sig := { params := [.val, .own], results := [.own] }
def fl_term_one : Flags := { keep := [(4, [1, 3], [1, 3], [], [1, 3]), (6, [1, 3], [1, 3], [], [1, 3]), (8, [1, 3], [1, 3], [], [1, 3]), (10, [1, 3], [1, 3], [], [1, 3]), (12, [1, 3], [1, 3], [], [1, 3])] }
def fl_typ_right : Flags := { keep := [(9, [33, 34, 35], [], [], [33, 34, 35])] }
def fl_r08_Put : Flags := { steal := [42], keep := [(3, [1, 2, 4, 5], [2, 4], [], [1, 2, 4, 5]), (10, [1, 2, 4, 6, 7], [2, 4, 6], [6], [1, 2, 4, 7])] }
def fl_r16_Binds : Flags := { steal := [4, 5, 13, 25], keep := [(3, [0, 1, 5, 6], [], [5], [0, 1, 6])] }
def fl_r05_pat : Flags := { keep := [(25, [1, 3, 4], [1, 4], [], [1, 3, 4]), (28, [1, 3, 5], [1], [], [1, 3, 5])] }
def fl_r05_Has : Flags := { keep := [(2, [0, 1, 5], [], [], [0, 1, 5])] }
def fl_r03_SameAll : Flags := { keep := [(4, [0, 1, 5], [], [], [0, 1, 5])] }
def fl_typ_Closed : Flags := {}
def fl_tree_onePat : Flags := { keep := [(24, [1, 3, 4], [1, 3], [], [1, 3, 4])] }
def fl_word_Name : Flags := { keep := [(4, [0, 3], [], [], [0, 3])] }
def fl_r05_names : Flags := { steal := [1, 4, 9, 26, 28], keep := [(4, [1, 2, 5], [2], [1], [2, 5])] }
def sig_r05_names : Sig := { params := [.val, .own], results := [.own] }
def fl_typ_Vars : Flags := { steal := [2] }
def fl_check_scope_takes : Flags := { keep := [(2, [0, 1, 7, 8, 9], [], [], [0, 1, 7, 8, 9])] }
def sig_check_scope_takes : Sig := { params := [.val, .val], results := [.val] }
def fl_check_scope_enter : Flags := { keep := [(1, [0, 2, 8, 9, 10], [], [], [0, 2, 8, 9, 10])] }
def sig_check_scope_enter : Sig := { params := [.val, .val, .val], results := [] }
def fl_pats_Bind : Flags := { steal := [4, 6, 16, 20, 24] }
def fl_agree_Agree : Flags := {}
def fl_r01_lower : Flags := {}
def fl_r01_part : Flags := {}
def fl_r01_Key : Flags := { keep := [(2, [0, 3], [], [], [0, 3]), (8, [0, 4, 5], [], [], [0, 4, 5])] }
def fl_r16_Fits : Flags := { steal := [2, 6, 8, 15, 18, 30, 43, 44, 53, 55, 59, 68, 70, 74, 81, 82, 91, 93, 97, 103, 105], keep := [(10, [2, 3, 4], [3, 4], [2], [3, 4])] }
def sig_r16_Fits : Sig := { params := [.val, .val, .own], results := [.own, .val] }
def fl_r08_leaf : Flags := {}
def fl_r08_like : Flags := {}
def fl_term_shapeOf : Flags := {}
def fl_term_named : Flags := {}
def fl_term_typed : Flags := {}
def fl_term_lists : Flags := { keep := [(2, [1, 10, 11, 12], [1], [], [1, 10, 11, 12]), (8, [1, 24, 25, 26], [1], [], [1, 24, 25, 26]), (14, [35, 36, 37], [], [], [35, 36, 37])] }
def fl_slices_Contains__int_int : Flags := {}
def fl_typ_arity : Flags := {}
def fl_typ_without : Flags := { keep := [(4, [1, 12, 13, 14], [], [], [1, 12, 13, 14])] }
def fl_word_Key : Flags := {}
def fl_word_inner : Flags := {}
def fl_typ_vars : Flags := { steal := [2, 6, 17, 36, 39], keep := [(5, [1, 2, 3], [3], [2], [1, 3]), (6, [1, 2, 28, 29, 30], [], [2], [1, 28, 29, 30])] }
def sig_typ_vars : Sig := { params := [.val, .val, .own], results := [.own] }
def fl_pats_bind : Flags := { steal := [2, 6, 14, 23, 26, 59, 65, 67, 72], keep := [(16, [2, 3, 8], [3], [2], [3, 8]), (17, [2, 8, 52, 53, 54], [], [2], [8, 52, 53, 54])] }
def sig_pats_bind : Sig := { params := [.val, .val, .own], results := [.own, .val] }
def fl_agree_agrees : Flags := { keep := [(8, [3, 33, 34, 35], [3], [], [3, 33, 34, 35])] }
def fl_r01_digit : Flags := {}
def fl_term_none : Flags := {}
def fl_slices_Index__int_int : Flags := { keep := [(2, [0, 1, 7, 8], [], [], [0, 1, 7, 8])] }
def fl_pats_leaf : Flags := {}

def flL : List Flags := [{}, {}, {}, fl_l19_CheckExact, {}, {}, {}, {}, {}, fl_l17_Heavy, fl_r17_TameTerm, fl_check_Type, fl_r17_Right, fl_l19_wakes, fl_r17_Type, fl_keep_Same, {}, fl_l11_Small, fl_r03_Right, fl_r03_Without, fl_r03_In, fl_r03_Size, {}, fl_scheme_Subst, {}, {}, {}, {}, {}, {}, {}, fl_r05_SameAt, {}, {}, {}, {}, {}, {}, {}, {}, {}, {}, {}, {}, {}, {}, {}, {}, {}, {}, {}, {}, {}, {}, {}, {}, {}, {}, {}, {}, {}, {}, fl_r05_Same, {}, fl_l17_weigh, fl_r17_bulk, fl_term_Check, fl_check_scope_term, fl_r17_own, fl_l19_cast, fl_r17_K_typ, fl_l03_Heavy, fl_r08_Deep, fl_r03_Vars, fl_r03_Kids, fl_term_right, {}, {}, fl_typ_Check, fl_scheme_put, {}, {}, {}, {}, {}, {}, {}, fl_r05_patAt, {}, fl_r03_Leaf, {}, fl_r03_Two, {}, fl_r05_RightPat, {}, {}, fl_r17_flat, {}, {}, {}, {}, {}, {}, {}, fl_tree_CheckPat, {}, {}, {}, {}, {}, {}, {}, {}, {}, {}, {}, {}, {}, {}, {}, fl_typ_Same, {}, {}, {}, fl_r03_Same, fl_r05_SamePat, {}, fl_l17_light, fl_l17_weighPat, fl_r17_more, fl_r16_Bulk_Of, fl_r05_Names, fl_r16_Bulk_Named, fl_check_scope_name, fl_check_scope_has, fl_check_with, fl_check_fun, fl_check_scope_let, fl_check_scope_rec, fl_check_scope_match, fl_check_scope_kids, fl_check_scope_of, fl_r17_bare, fl_r01_Name, fl_r17_K_name, fl_r17_K_scoped, fl_r03_List, fl_r17_K_must, fl_r17_plain, fl_r17_K_wrong, fl_r17_K_with, fl_r17_K_rec, fl_r17_K_match, fl_r17_K_op, fl_r08_Agree, fl_l03_count, fl_r03_vars, fl_term_one, {}, {}, {}, {}, fl_typ_right, {}, {}, {}, {}, {}, {}, {}, {}, {}, {}, fl_r08_Put, fl_r16_Binds, {}, {}, {}, {}, {}, {}, {}, {}, {}, {}, {}, fl_r05_pat, fl_r05_Has, {}, {}, {}, {}, fl_r03_SameAll, {}, fl_typ_Closed, {}, fl_tree_onePat, {}, {}, {}, fl_word_Name, {}, {}, {}, {}, {}, fl_r05_names, fl_typ_Vars, fl_check_scope_takes, fl_check_scope_enter, fl_pats_Bind, fl_agree_Agree, fl_r01_lower, fl_r01_part, fl_r01_Key, fl_r16_Fits, fl_r08_leaf, fl_r08_like, fl_term_shapeOf, fl_term_named, fl_term_typed, fl_term_lists, {}, {}, {}, fl_slices_Contains__int_int, fl_typ_arity, {}, {}, {}, {}, {}, {}, {}, {}, {}, {}, {}, {}, {}, {}, fl_typ_without, {}, {}, fl_word_Key, fl_word_inner, {}, {}, {}, {}, {}, {}, {}, {}, {}, {}, {}, fl_typ_vars, fl_pats_bind, fl_agree_agrees, fl_r01_digit, fl_term_none, {}, fl_slices_Index__int_int, {}, {}, {}, {}, {}, {}, {}, {}, {}, {}, {}, {}, {}, {}, fl_pats_leaf, {}, {}, {}, {}, {}, {}, {}, {}, {}, {}, {}, {}, {}, {}, {}, {}, {}, {}]
def sigL : List (Option Sig) := [none, none, none, none, none, none, none, none, none, none, none, none, none, none, none, none, none, none, none, none, none, none, none, none, none, none, none, none, none, none, none, none, none, none, none, none, none, none, none, none, none, none, none, none, none, none, none, none, none, none, none, none, none, none, none, none, none, none, none, none, none, none, none, none, none, some sig_r17_bulk, none, some sig_check_scope_term, none, none, some sig_r17_K_typ, none, none, none, none, none, none, none, none, some sig_scheme_put, none, none, none, none, none, none, none, none, none, none, none, none, none, none, none, none, none, none, none, none, none, none, none, none, none, none, none, none, none, none, none, none, none, none, none, none, none, none, none, none, none, none, none, none, none, none, none, none, none, none, some sig_r16_Bulk_Of, none, some sig_r16_Bulk_Named, some sig_check_scope_name, some sig_check_scope_has, some sig_check_with, none, some sig_check_scope_let, some sig_check_scope_rec, some sig_check_scope_match, some sig_check_scope_kids, some sig_check_scope_of, none, none, some sig_r17_K_name, some sig_r17_K_scoped, none, some sig_r17_K_must, none, some sig_r17_K_wrong, some sig_r17_K_with, some sig_r17_K_rec, some sig_r17_K_match, some sig_r17_K_op, none, none, some sig_r03_vars, none, none, none, none, none, none, none, none, none, none, none, none, none, none, none, none, none, none, none, none, none, none, none, none, none, none, none, none, none, none, none, none, none, none, none, none, none, none, none, none, none, none, none, none, none, none, none, none, none, some sig_r05_names, none, some sig_check_scope_takes, some sig_check_scope_enter, none, none, none, none, none, some sig_r16_Fits, none, none, none, none, none, none, none, none, none, none, none, none, none, none, none, none, none, none, none, none, none, none, none, none, none, none, none, none, none, none, none, none, none, none, none, none, none, none, none, none, none, some sig_typ_vars, some sig_pats_bind, none, none, none, none, none, none, none, none, none, none, none, none, none, none, none, none, none, none, none, none, none, none, none, none, none, none, none, none, none, none, none, none, none, none, none, none, none, none]
def clL : List FuncId := []
def csL : List (FuncId × Nat) := [(195, 7)]
def mkL : List (FuncId × FuncId) := [(195, 242)]
noncomputable def itF (f : FuncId) : Option (List DV → Option (List DV)) := if f = 242 then some (flatD 7 6) else none
noncomputable def cfg : Cfg where
  P := Tryz.prog
  fl f := flL.getD f {}
  sig f := sigL.getD f none
  prim _ := none
  clone f := clL.contains f
  csz f := (csL.lookup f).getD 0
  mki f := mkL.lookup f
  iter f := itF f

end Go.Su
