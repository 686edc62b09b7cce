/-
  The calls of the functions, and for each function a plain text of what it does (written by a program). No conditions.
-/
import Derived.Test.YtgdmjdacmebfjaaGreatDoorMa
import Derived.Test.YtgdmjdacmebfjaaGreatDoorProg
namespace Go.Proofs.YtgdmjdacmebfjaaGreatDoor.D
open Go
@[reducible] noncomputable def PROG : Program := Go.Proofs.Tryz.prog
@[reducible] def T_ar9_9_uint8 : TypeId := 102
@[reducible] def T_disk_Disk : TypeId := 45
@[reducible] def T_disk_file : TypeId := 76
@[reducible] def T_disk_names : TypeId := 42
@[reducible] def T_fn_disk_names : TypeId := 69
@[reducible] def T_fn_r_api_Errno : TypeId := 34
@[reducible] def T_frame_Frame : TypeId := 61
@[reducible] def T_int : TypeId := 3
@[reducible] def T_pt_disk_file : TypeId := 74
@[reducible] def T_pt_wal_Log : TypeId := 27
@[reducible] def T_pt_wal_segment : TypeId := 47
@[reducible] def T_sl_int : TypeId := 22
@[reducible] def T_slices_xorshift : TypeId := 129
@[reducible] def T_string : TypeId := 9
@[reducible] def T_strings_asciiSet : TypeId := 108
@[reducible] def T_sum_masks : TypeId := 104
@[reducible] def T_uint8 : TypeId := 5
@[reducible] def T_wal_Log : TypeId := 49
@[reducible] def T_wal_segment : TypeId := 63
@[reducible] def F_barographlaw05_WalCuts : FuncId := 3
@[reducible] def F_barographlaw05_works : FuncId := 4
@[reducible] def F_disk_New : FuncId := 5
@[reducible] def F_wal_Open : FuncId := 6
@[reducible] def F_wal_Log_Append : FuncId := 7
@[reducible] def F_wal_Log_Sync : FuncId := 8
@[reducible] def F_wal_Log_CutAfter : FuncId := 9
@[reducible] def F_wal_Log_Last : FuncId := 10
@[reducible] def F_disk_Disk_Crash : FuncId := 11
@[reducible] def F_wal_Log_Read : FuncId := 12
@[reducible] def F_disk_Disk_Up : FuncId := 13
@[reducible] def F_slices_DeleteFunc_string_string : FuncId := 14
@[reducible] def F_disk_Disk_Names : FuncId := 15
@[reducible] def F_wal_Open_1 : FuncId := 16
@[reducible] def F_wal_number : FuncId := 17
@[reducible] def F_disk_Disk_Read : FuncId := 18
@[reducible] def F_wal_parse : FuncId := 19
@[reducible] def F_wal_Log_fits : FuncId := 20
@[reducible] def F_wal_Log_end : FuncId := 21
@[reducible] def F_wal_Log_remove : FuncId := 22
@[reducible] def F_frame_Put : FuncId := 23
@[reducible] def F_disk_Disk_Append : FuncId := 24
@[reducible] def F_wal_name : FuncId := 25
@[reducible] def F_disk_Disk_Sync : FuncId := 26
@[reducible] def F_disk_Disk_SyncNames : FuncId := 27
@[reducible] def F_wal_Log_First : FuncId := 28
@[reducible] def F_disk_Disk_Remove : FuncId := 29
@[reducible] def F_wal_Log_shorten : FuncId := 30
@[reducible] def F_wal_Log_stands : FuncId := 31
@[reducible] def F_disk_Disk_Crash_1 : FuncId := 32
@[reducible] def F_slices_Sorted_string : FuncId := 33
@[reducible] def F_maps_Keys_disk_names_string_disk_file : FuncId := 34
@[reducible] def F_maps_Clone_disk_names_string_disk_file : FuncId := 35
@[reducible] def F_wal_segment_last : FuncId := 36
@[reducible] def F_frame_Get : FuncId := 37
@[reducible] def F_slices_IndexFunc_string_string : FuncId := 38
@[reducible] def F_digits_Text : FuncId := 39
@[reducible] def F_sum_Bytes : FuncId := 40
@[reducible] def F_sum_Of : FuncId := 41
@[reducible] def F_disk_Disk_write : FuncId := 42
@[reducible] def F_disk_right : FuncId := 43
@[reducible] def F_disk_Disk_Used : FuncId := 44
@[reducible] def F_disk_Disk_change : FuncId := 45
@[reducible] def F_disk_Disk_Append_1 : FuncId := 46
@[reducible] def F_disk_Disk_find : FuncId := 47
@[reducible] def F_disk_Disk_Remove_1 : FuncId := 48
@[reducible] def F_wal_Log_shorten_1 : FuncId := 49
@[reducible] def F_wal_Log_shorten_2 : FuncId := 50
@[reducible] def F_wal_Log_shorten_3 : FuncId := 51
@[reducible] def F_disk_Disk_Rename : FuncId := 52
@[reducible] def F_slices_Collect_string : FuncId := 53
@[reducible] def F_slices_Sort_string_string : FuncId := 54
@[reducible] def F_maps_Keys_disk_names_string_disk_file_1 : FuncId := 55
@[reducible] def F_digits_GetText : FuncId := 57
@[reducible] def F_digits_Num : FuncId := 58
@[reducible] def F_sum_More : FuncId := 59
@[reducible] def F_strings_Trim : FuncId := 60
@[reducible] def F_disk_Disk_Rename_1 : FuncId := 61
@[reducible] def F_slices_AppendSeq_string_string : FuncId := 62
@[reducible] def F_slices_pdqsortOrdered_string : FuncId := 63
@[reducible] def F_bits_Len : FuncId := 64
@[reducible] def F_digits_GetNum : FuncId := 65
@[reducible] def F_sum_masks_step : FuncId := 66
@[reducible] def F_strings_trimLeftByte : FuncId := 67
@[reducible] def F_strings_trimRightByte : FuncId := 68
@[reducible] def F_strings_makeASCIISet : FuncId := 69
@[reducible] def F_strings_trimLeftASCII : FuncId := 70
@[reducible] def F_strings_trimRightASCII : FuncId := 71
@[reducible] def F_strings_trimLeftUnicode : FuncId := 72
@[reducible] def F_strings_trimRightUnicode : FuncId := 73
@[reducible] def F_slices_insertionSortOrdered_string : FuncId := 74
@[reducible] def F_slices_heapSortOrdered_string : FuncId := 75
@[reducible] def F_slices_breakPatternsOrdered_string : FuncId := 76
@[reducible] def F_slices_choosePivotOrdered_string : FuncId := 77
@[reducible] def F_slices_reverseRangeOrdered_string : FuncId := 78
@[reducible] def F_slices_partialInsertionSortOrdered_string : FuncId := 79
@[reducible] def F_cmp_Less_string : FuncId := 80
@[reducible] def F_slices_partitionEqualOrdered_string : FuncId := 81
@[reducible] def F_slices_partitionOrdered_string : FuncId := 82
@[reducible] def F_bits_Len64 : FuncId := 84
@[reducible] def F_strings_asciiSet_contains : FuncId := 85
@[reducible] def F_utf8_DecodeRuneInString : FuncId := 86
@[reducible] def F_strings_ContainsRune : FuncId := 87
@[reducible] def F_utf8_DecodeLastRuneInString : FuncId := 88
@[reducible] def F_slices_siftDownOrdered_string : FuncId := 89
@[reducible] def F_slices_nextPowerOfTwo : FuncId := 90
@[reducible] def F_slices_xorshift_Next : FuncId := 91
@[reducible] def F_slices_medianAdjacentOrdered_string : FuncId := 92
@[reducible] def F_slices_medianOrdered_string : FuncId := 93
@[reducible] def F_cmp_isNaN_string : FuncId := 94
@[reducible] def F_utf8_decodeRuneInStringSlow : FuncId := 95
@[reducible] def F_strings_IndexRune : FuncId := 96
@[reducible] def F_utf8_RuneStart : FuncId := 97
@[reducible] def F_slices_order2Ordered_string : FuncId := 98
theorem wide : Go.Proofs.Tryz.prog.follows .mixedOrders = true := by kernel_rfl
theorem sz_5 : szT Go.Proofs.Tryz.prog 5 = some 1 := by kernel_rfl
theorem zr_5 : zrT Go.Proofs.Tryz.prog 5 = some (Value.int .u8 0) := by kernel_rfl
theorem cf_7 : callable Go.Proofs.Tryz.prog 7 = true := by kernel_rfl
theorem sz_3 : szT Go.Proofs.Tryz.prog 3 = some 1 := by kernel_rfl
theorem zr_3 : zrT Go.Proofs.Tryz.prog 3 = some (Value.int .i64 0) := by kernel_rfl
theorem cf_12 : callable Go.Proofs.Tryz.prog 12 = true := by kernel_rfl
theorem cf_10 : callable Go.Proofs.Tryz.prog 10 = true := by kernel_rfl
theorem cf_6 : callable Go.Proofs.Tryz.prog 6 = true := by kernel_rfl
theorem cf_11 : callable Go.Proofs.Tryz.prog 11 = true := by kernel_rfl
theorem by_3 : byT Go.Proofs.Tryz.prog 3 = some 8 := by kernel_rfl
theorem cf_9 : callable Go.Proofs.Tryz.prog 9 = true := by kernel_rfl
theorem cf_8 : callable Go.Proofs.Tryz.prog 8 = true := by kernel_rfl
theorem cf_5 : callable Go.Proofs.Tryz.prog 5 = true := by kernel_rfl
theorem cf_4 : callable Go.Proofs.Tryz.prog 4 = true := by kernel_rfl
theorem fo_49_1 : fieldOff Go.Proofs.Tryz.prog 49 1 = some 1 := by kernel_rfl
theorem sz_9 : szT Go.Proofs.Tryz.prog 9 = some 1 := by kernel_rfl
theorem fo_49_4 : fieldOff Go.Proofs.Tryz.prog 49 4 = some 4 := by kernel_rfl
theorem fo_49_5 : fieldOff Go.Proofs.Tryz.prog 49 5 = some 5 := by kernel_rfl
theorem cf_21 : callable Go.Proofs.Tryz.prog 21 = true := by kernel_rfl
theorem cf_22 : callable Go.Proofs.Tryz.prog 22 = true := by kernel_rfl
theorem sz_46 : szT Go.Proofs.Tryz.prog 46 = some 1 := by kernel_rfl
theorem sz_47 : szT Go.Proofs.Tryz.prog 47 = some 1 := by kernel_rfl
theorem zr_47 : zrT Go.Proofs.Tryz.prog 47 = some (Value.pointer none) := by kernel_rfl
theorem by_47 : byT Go.Proofs.Tryz.prog 47 = some 8 := by kernel_rfl
theorem cf_20 : callable Go.Proofs.Tryz.prog 20 = true := by kernel_rfl
theorem cf_19 : callable Go.Proofs.Tryz.prog 19 = true := by kernel_rfl
theorem cf_17 : callable Go.Proofs.Tryz.prog 17 = true := by kernel_rfl
theorem cf_18 : callable Go.Proofs.Tryz.prog 18 = true := by kernel_rfl
theorem cf_14 : callable Go.Proofs.Tryz.prog 14 = true := by kernel_rfl
theorem cf_15 : callable Go.Proofs.Tryz.prog 15 = true := by kernel_rfl
theorem cf_13 : callable Go.Proofs.Tryz.prog 13 = true := by kernel_rfl
theorem fo_45_4 : fieldOff Go.Proofs.Tryz.prog 45 4 = some 4 := by kernel_rfl
theorem zr_9 : zrT Go.Proofs.Tryz.prog 9 = some (Value.string ByteArray.empty) := by kernel_rfl
theorem cf_38 : callable Go.Proofs.Tryz.prog 38 = true := by kernel_rfl
theorem fo_45_1 : fieldOff Go.Proofs.Tryz.prog 45 1 = some 1 := by kernel_rfl
theorem cf_33 : callable Go.Proofs.Tryz.prog 33 = true := by kernel_rfl
theorem cf_34 : callable Go.Proofs.Tryz.prog 34 = true := by kernel_rfl
theorem cf_54 : callable Go.Proofs.Tryz.prog 54 = true := by kernel_rfl
theorem cf_53 : callable Go.Proofs.Tryz.prog 53 = true := by kernel_rfl
theorem cf_62 : callable Go.Proofs.Tryz.prog 62 = true := by kernel_rfl
theorem cf_63 : callable Go.Proofs.Tryz.prog 63 = true := by kernel_rfl
theorem cf_64 : callable Go.Proofs.Tryz.prog 64 = true := by kernel_rfl
theorem cf_74 : callable Go.Proofs.Tryz.prog 74 = true := by kernel_rfl
theorem cf_75 : callable Go.Proofs.Tryz.prog 75 = true := by kernel_rfl
theorem cf_81 : callable Go.Proofs.Tryz.prog 81 = true := by kernel_rfl
theorem cf_82 : callable Go.Proofs.Tryz.prog 82 = true := by kernel_rfl
theorem cf_80 : callable Go.Proofs.Tryz.prog 80 = true := by kernel_rfl
theorem cf_79 : callable Go.Proofs.Tryz.prog 79 = true := by kernel_rfl
theorem cf_78 : callable Go.Proofs.Tryz.prog 78 = true := by kernel_rfl
theorem cf_77 : callable Go.Proofs.Tryz.prog 77 = true := by kernel_rfl
theorem cf_76 : callable Go.Proofs.Tryz.prog 76 = true := by kernel_rfl
theorem cf_94 : callable Go.Proofs.Tryz.prog 94 = true := by kernel_rfl
theorem cf_89 : callable Go.Proofs.Tryz.prog 89 = true := by kernel_rfl
theorem zr_129 : zrT Go.Proofs.Tryz.prog 129 = some (Value.int .u64 0) := by kernel_rfl
theorem sz_129 : szT Go.Proofs.Tryz.prog 129 = some 1 := by kernel_rfl
theorem cf_91 : callable Go.Proofs.Tryz.prog 91 = true := by kernel_rfl
theorem cf_90 : callable Go.Proofs.Tryz.prog 90 = true := by kernel_rfl
theorem cf_84 : callable Go.Proofs.Tryz.prog 84 = true := by kernel_rfl
theorem cf_93 : callable Go.Proofs.Tryz.prog 93 = true := by kernel_rfl
theorem cf_92 : callable Go.Proofs.Tryz.prog 92 = true := by kernel_rfl
theorem cf_98 : callable Go.Proofs.Tryz.prog 98 = true := by kernel_rfl
theorem zr_74 : zrT Go.Proofs.Tryz.prog 74 = some (Value.pointer none) := by kernel_rfl
theorem fo_76_0 : fieldOff Go.Proofs.Tryz.prog 76 0 = some 0 := by kernel_rfl
theorem fo_63_2 : fieldOff Go.Proofs.Tryz.prog 63 2 = some 2 := by kernel_rfl
theorem zr_61 : zrT Go.Proofs.Tryz.prog 61 = some (Value.agg #[Value.int .i64 0, Value.string ByteArray.empty]) := by kernel_rfl
theorem sz_61 : szT Go.Proofs.Tryz.prog 61 = some 2 := by kernel_rfl
theorem fo_63_1 : fieldOff Go.Proofs.Tryz.prog 63 1 = some 1 := by kernel_rfl
theorem sz_22 : szT Go.Proofs.Tryz.prog 22 = some 1 := by kernel_rfl
theorem fo_61_0 : fieldOff Go.Proofs.Tryz.prog 61 0 = some 0 := by kernel_rfl
theorem cf_37 : callable Go.Proofs.Tryz.prog 37 = true := by kernel_rfl
theorem cf_40 : callable Go.Proofs.Tryz.prog 40 = true := by kernel_rfl
theorem cf_41 : callable Go.Proofs.Tryz.prog 41 = true := by kernel_rfl
theorem cf_57 : callable Go.Proofs.Tryz.prog 57 = true := by kernel_rfl
theorem cf_59 : callable Go.Proofs.Tryz.prog 59 = true := by kernel_rfl
theorem zr_104 : zrT Go.Proofs.Tryz.prog 104 = some (Value.agg #[Value.int .u32 0, Value.int .u32 0]) := by kernel_rfl
theorem sz_104 : szT Go.Proofs.Tryz.prog 104 = some 2 := by kernel_rfl
theorem cf_66 : callable Go.Proofs.Tryz.prog 66 = true := by kernel_rfl
theorem sz_83 : szT Go.Proofs.Tryz.prog 83 = some 1 := by kernel_rfl
theorem cf_65 : callable Go.Proofs.Tryz.prog 65 = true := by kernel_rfl
theorem fo_63_0 : fieldOff Go.Proofs.Tryz.prog 63 0 = some 0 := by kernel_rfl
theorem cf_36 : callable Go.Proofs.Tryz.prog 36 = true := by kernel_rfl
theorem fo_49_0 : fieldOff Go.Proofs.Tryz.prog 49 0 = some 0 := by kernel_rfl
theorem cf_29 : callable Go.Proofs.Tryz.prog 29 = true := by kernel_rfl
theorem cf_27 : callable Go.Proofs.Tryz.prog 27 = true := by kernel_rfl
theorem fo_45_2 : fieldOff Go.Proofs.Tryz.prog 45 2 = some 2 := by kernel_rfl
theorem sz_42 : szT Go.Proofs.Tryz.prog 42 = some 1 := by kernel_rfl
theorem fo_45_3 : fieldOff Go.Proofs.Tryz.prog 45 3 = some 3 := by kernel_rfl
theorem sz_43 : szT Go.Proofs.Tryz.prog 43 = some 1 := by kernel_rfl
theorem cf_35 : callable Go.Proofs.Tryz.prog 35 = true := by kernel_rfl
theorem cf_42 : callable Go.Proofs.Tryz.prog 42 = true := by kernel_rfl
theorem fo_45_5 : fieldOff Go.Proofs.Tryz.prog 45 5 = some 5 := by kernel_rfl
theorem sz_4 : szT Go.Proofs.Tryz.prog 4 = some 1 := by kernel_rfl
theorem cf_45 : callable Go.Proofs.Tryz.prog 45 = true := by kernel_rfl
theorem cf_47 : callable Go.Proofs.Tryz.prog 47 = true := by kernel_rfl
theorem sz_69 : szT Go.Proofs.Tryz.prog 69 = some 1 := by kernel_rfl
theorem zr_69 : zrT Go.Proofs.Tryz.prog 69 = some (Value.nilFunc) := by kernel_rfl
theorem by_69 : byT Go.Proofs.Tryz.prog 69 = some 8 := by kernel_rfl
theorem fo_49_2 : fieldOff Go.Proofs.Tryz.prog 49 2 = some 2 := by kernel_rfl
theorem fo_63_3 : fieldOff Go.Proofs.Tryz.prog 63 3 = some 3 := by kernel_rfl
theorem fo_49_3 : fieldOff Go.Proofs.Tryz.prog 49 3 = some 3 := by kernel_rfl
theorem cf_24 : callable Go.Proofs.Tryz.prog 24 = true := by kernel_rfl
theorem cf_25 : callable Go.Proofs.Tryz.prog 25 = true := by kernel_rfl
theorem cf_23 : callable Go.Proofs.Tryz.prog 23 = true := by kernel_rfl
theorem fo_61_1 : fieldOff Go.Proofs.Tryz.prog 61 1 = some 1 := by kernel_rfl
theorem cf_39 : callable Go.Proofs.Tryz.prog 39 = true := by kernel_rfl
theorem cf_58 : callable Go.Proofs.Tryz.prog 58 = true := by kernel_rfl
theorem zr_102 : zrT Go.Proofs.Tryz.prog 102 = some (Value.agg #[Value.int .u8 0, Value.int .u8 0, Value.int .u8 0, Value.int .u8 0, Value.int .u8 0, Value.int .u8 0, Value.int .u8 0, Value.int .u8 0, Value.int .u8 0]) := by kernel_rfl
theorem sz_74 : szT Go.Proofs.Tryz.prog 74 = some 1 := by kernel_rfl
theorem fo_45_0 : fieldOff Go.Proofs.Tryz.prog 45 0 = some 0 := by kernel_rfl
theorem cf_44 : callable Go.Proofs.Tryz.prog 44 = true := by kernel_rfl
theorem cf_43 : callable Go.Proofs.Tryz.prog 43 = true := by kernel_rfl
theorem cf_60 : callable Go.Proofs.Tryz.prog 60 = true := by kernel_rfl
theorem cf_67 : callable Go.Proofs.Tryz.prog 67 = true := by kernel_rfl
theorem cf_68 : callable Go.Proofs.Tryz.prog 68 = true := by kernel_rfl
theorem zr_108 : zrT Go.Proofs.Tryz.prog 108 = some (Value.agg (List.replicate 256 (Value.bool false)).toArray) := by kernel_rfl
theorem sz_108 : szT Go.Proofs.Tryz.prog 108 = some 256 := by kernel_rfl
theorem cf_70 : callable Go.Proofs.Tryz.prog 70 = true := by kernel_rfl
theorem cf_71 : callable Go.Proofs.Tryz.prog 71 = true := by kernel_rfl
theorem cf_72 : callable Go.Proofs.Tryz.prog 72 = true := by kernel_rfl
theorem cf_73 : callable Go.Proofs.Tryz.prog 73 = true := by kernel_rfl
theorem cf_69 : callable Go.Proofs.Tryz.prog 69 = true := by kernel_rfl
theorem cf_85 : callable Go.Proofs.Tryz.prog 85 = true := by kernel_rfl
theorem cf_87 : callable Go.Proofs.Tryz.prog 87 = true := by kernel_rfl
theorem cf_86 : callable Go.Proofs.Tryz.prog 86 = true := by kernel_rfl
theorem cf_95 : callable Go.Proofs.Tryz.prog 95 = true := by kernel_rfl
theorem cf_96 : callable Go.Proofs.Tryz.prog 96 = true := by kernel_rfl
theorem cf_88 : callable Go.Proofs.Tryz.prog 88 = true := by kernel_rfl
theorem cf_97 : callable Go.Proofs.Tryz.prog 97 = true := by kernel_rfl
theorem by_5 : byT Go.Proofs.Tryz.prog 5 = some 1 := by kernel_rfl
theorem cf_26 : callable Go.Proofs.Tryz.prog 26 = true := by kernel_rfl
theorem fo_76_1 : fieldOff Go.Proofs.Tryz.prog 76 1 = some 1 := by kernel_rfl
theorem cf_32 : callable Go.Proofs.Tryz.prog 32 = true := by kernel_rfl
theorem sz_45 : szT Go.Proofs.Tryz.prog 45 = some 6 := by kernel_rfl
theorem cf_31 : callable Go.Proofs.Tryz.prog 31 = true := by kernel_rfl
theorem cf_30 : callable Go.Proofs.Tryz.prog 30 = true := by kernel_rfl
theorem cf_28 : callable Go.Proofs.Tryz.prog 28 = true := by kernel_rfl
theorem sz_34 : szT Go.Proofs.Tryz.prog 34 = some 1 := by kernel_rfl
theorem zr_34 : zrT Go.Proofs.Tryz.prog 34 = some (Value.nilFunc) := by kernel_rfl
theorem cf_52 : callable Go.Proofs.Tryz.prog 52 = true := by kernel_rfl
def C_disk_New (room_0 : Int) (h0 : Hp) (K : Option Addr → Hp → Prop) : Prop := CallsH PROG 5 #[Value.int .i64 room_0] h0 fun v h => ∃ r0 : Option Addr, v = Value.pointer r0 ∧ K r0 h
theorem C_disk_New.mono {room_0 : Int} {h0 : Hp} {K K' : Option Addr → Hp → Prop} (hc : C_disk_New room_0 h0 K) (hk : ∀ r0 h, K r0 h → K' r0 h) : C_disk_New room_0 h0 K' := by
  refine CallsH.mono hc ?_
  rintro v h ⟨r0, e, hK⟩
  exact ⟨r0, e, hk _ _ hK⟩
def C_disk_Disk_Up (d_0 : Option Addr) (h0 : Hp) (K : Bool → Hp → Prop) : Prop := CallsH PROG 13 #[Value.pointer d_0] h0 fun v h => ∃ r0 : Bool, v = Value.bool r0 ∧ K r0 h
theorem C_disk_Disk_Up.mono {d_0 : Option Addr} {h0 : Hp} {K K' : Bool → Hp → Prop} (hc : C_disk_Disk_Up d_0 h0 K) (hk : ∀ r0 h, K r0 h → K' r0 h) : C_disk_Disk_Up d_0 h0 K' := by
  refine CallsH.mono hc ?_
  rintro v h ⟨r0, e, hK⟩
  exact ⟨r0, e, hk _ _ hK⟩
def C_slices_IndexFunc_string_string (s_0 : Sl) (f_1 : Value) (h0 : Hp) (K : Int → Hp → Prop) : Prop := CallsH PROG 38 #[Sl.v s_0, f_1] h0 fun v h => ∃ r0 : Int, v = Value.int .i64 r0 ∧ K r0 h
theorem C_slices_IndexFunc_string_string.mono {s_0 : Sl} {f_1 : Value} {h0 : Hp} {K K' : Int → Hp → Prop} (hc : C_slices_IndexFunc_string_string s_0 f_1 h0 K) (hk : ∀ r0 h, K r0 h → K' r0 h) : C_slices_IndexFunc_string_string s_0 f_1 h0 K' := by
  refine CallsH.mono hc ?_
  rintro v h ⟨r0, e, hK⟩
  exact ⟨r0, e, hk _ _ hK⟩
def C_slices_DeleteFunc_string_string (s_0 : Sl) (del_1 : Value) (h0 : Hp) (K : Sl → Hp → Prop) : Prop := CallsH PROG 14 #[Sl.v s_0, del_1] h0 fun v h => ∃ r0 : Sl, v = Sl.v r0 ∧ K r0 h
theorem C_slices_DeleteFunc_string_string.mono {s_0 : Sl} {del_1 : Value} {h0 : Hp} {K K' : Sl → Hp → Prop} (hc : C_slices_DeleteFunc_string_string s_0 del_1 h0 K) (hk : ∀ r0 h, K r0 h → K' r0 h) : C_slices_DeleteFunc_string_string s_0 del_1 h0 K' := by
  refine CallsH.mono hc ?_
  rintro v h ⟨r0, e, hK⟩
  exact ⟨r0, e, hk _ _ hK⟩
def C_slices_AppendSeq_string_string (p0_0 : Sl) (p1_0 : Value) (h0 : Hp) (K : Sl → Hp → Prop) : Prop := CallsH PROG 62 #[Sl.v p0_0, p1_0] h0 fun v h => ∃ r0 : Sl, v = Sl.v r0 ∧ K r0 h
theorem C_slices_AppendSeq_string_string.mono {p0_0 : Sl} {p1_0 : Value} {h0 : Hp} {K K' : Sl → Hp → Prop} (hc : C_slices_AppendSeq_string_string p0_0 p1_0 h0 K) (hk : ∀ r0 h, K r0 h → K' r0 h) : C_slices_AppendSeq_string_string p0_0 p1_0 h0 K' := by
  refine CallsH.mono hc ?_
  rintro v h ⟨r0, e, hK⟩
  exact ⟨r0, e, hk _ _ hK⟩
def C_slices_Collect_string (seq_0 : Value) (h0 : Hp) (K : Sl → Hp → Prop) : Prop := CallsH PROG 53 #[seq_0] h0 fun v h => ∃ r0 : Sl, v = Sl.v r0 ∧ K r0 h
theorem C_slices_Collect_string.mono {seq_0 : Value} {h0 : Hp} {K K' : Sl → Hp → Prop} (hc : C_slices_Collect_string seq_0 h0 K) (hk : ∀ r0 h, K r0 h → K' r0 h) : C_slices_Collect_string seq_0 h0 K' := by
  refine CallsH.mono hc ?_
  rintro v h ⟨r0, e, hK⟩
  exact ⟨r0, e, hk _ _ hK⟩
def C_cmp_isNaN_string (x_0 : ByteArray) (h0 : Hp) (K : Bool → Hp → Prop) : Prop := CallsH PROG 94 #[Value.string x_0] h0 fun v h => ∃ r0 : Bool, v = Value.bool r0 ∧ K r0 h
theorem C_cmp_isNaN_string.mono {x_0 : ByteArray} {h0 : Hp} {K K' : Bool → Hp → Prop} (hc : C_cmp_isNaN_string x_0 h0 K) (hk : ∀ r0 h, K r0 h → K' r0 h) : C_cmp_isNaN_string x_0 h0 K' := by
  refine CallsH.mono hc ?_
  rintro v h ⟨r0, e, hK⟩
  exact ⟨r0, e, hk _ _ hK⟩
def C_cmp_Less_string (x_0 : ByteArray) (y_1 : ByteArray) (h0 : Hp) (K : Bool → Hp → Prop) : Prop := CallsH PROG 80 #[Value.string x_0, Value.string y_1] h0 fun v h => ∃ r0 : Bool, v = Value.bool r0 ∧ K r0 h
theorem C_cmp_Less_string.mono {x_0 : ByteArray} {y_1 : ByteArray} {h0 : Hp} {K K' : Bool → Hp → Prop} (hc : C_cmp_Less_string x_0 y_1 h0 K) (hk : ∀ r0 h, K r0 h → K' r0 h) : C_cmp_Less_string x_0 y_1 h0 K' := by
  refine CallsH.mono hc ?_
  rintro v h ⟨r0, e, hK⟩
  exact ⟨r0, e, hk _ _ hK⟩
def C_slices_insertionSortOrdered_string (data_0 : Sl) (a_1 : Int) (b_2 : Int) (h0 : Hp) (K : Hp → Prop) : Prop := CallsH PROG 74 #[Sl.v data_0, Value.int .i64 a_1, Value.int .i64 b_2] h0 fun v h => v = Value.tuple #[] ∧ K h
theorem C_slices_insertionSortOrdered_string.mono {data_0 : Sl} {a_1 : Int} {b_2 : Int} {h0 : Hp} {K K' : Hp → Prop} (hc : C_slices_insertionSortOrdered_string data_0 a_1 b_2 h0 K) (hk : ∀ h, K h → K' h) : C_slices_insertionSortOrdered_string data_0 a_1 b_2 h0 K' := by
  refine CallsH.mono hc ?_
  rintro v h ⟨e, hK⟩
  exact ⟨e, hk _ hK⟩
def C_slices_siftDownOrdered_string (d_0 : Sl) (t_1 : Int) (p_2 : Int) (p_3 : Int) (h0 : Hp) (K : Hp → Prop) : Prop := CallsH PROG 89 #[Sl.v d_0, Value.int .i64 t_1, Value.int .i64 p_2, Value.int .i64 p_3] h0 fun v h => v = Value.tuple #[] ∧ K h
theorem C_slices_siftDownOrdered_string.mono {d_0 : Sl} {t_1 : Int} {p_2 : Int} {p_3 : Int} {h0 : Hp} {K K' : Hp → Prop} (hc : C_slices_siftDownOrdered_string d_0 t_1 p_2 p_3 h0 K) (hk : ∀ h, K h → K' h) : C_slices_siftDownOrdered_string d_0 t_1 p_2 p_3 h0 K' := by
  refine CallsH.mono hc ?_
  rintro v h ⟨e, hK⟩
  exact ⟨e, hk _ hK⟩
def C_slices_heapSortOrdered_string (data_0 : Sl) (a_1 : Int) (b_2 : Int) (h0 : Hp) (K : Hp → Prop) : Prop := CallsH PROG 75 #[Sl.v data_0, Value.int .i64 a_1, Value.int .i64 b_2] h0 fun v h => v = Value.tuple #[] ∧ K h
theorem C_slices_heapSortOrdered_string.mono {data_0 : Sl} {a_1 : Int} {b_2 : Int} {h0 : Hp} {K K' : Hp → Prop} (hc : C_slices_heapSortOrdered_string data_0 a_1 b_2 h0 K) (hk : ∀ h, K h → K' h) : C_slices_heapSortOrdered_string data_0 a_1 b_2 h0 K' := by
  refine CallsH.mono hc ?_
  rintro v h ⟨e, hK⟩
  exact ⟨e, hk _ hK⟩
def C_bits_Len64 (p0_0 : Int) (h0 : Hp) (K : Int → Hp → Prop) : Prop := CallsH PROG 84 #[Value.int .u64 p0_0] h0 fun v h => ∃ r0 : Int, v = Value.int .i64 r0 ∧ K r0 h
theorem C_bits_Len64.mono {p0_0 : Int} {h0 : Hp} {K K' : Int → Hp → Prop} (hc : C_bits_Len64 p0_0 h0 K) (hk : ∀ r0 h, K r0 h → K' r0 h) : C_bits_Len64 p0_0 h0 K' := by
  refine CallsH.mono hc ?_
  rintro v h ⟨r0, e, hK⟩
  exact ⟨r0, e, hk _ _ hK⟩
def C_bits_Len (x_0 : Int) (h0 : Hp) (K : Int → Hp → Prop) : Prop := CallsH PROG 64 #[Value.int .u64 x_0] h0 fun v h => ∃ r0 : Int, v = Value.int .i64 r0 ∧ K r0 h
theorem C_bits_Len.mono {x_0 : Int} {h0 : Hp} {K K' : Int → Hp → Prop} (hc : C_bits_Len x_0 h0 K) (hk : ∀ r0 h, K r0 h → K' r0 h) : C_bits_Len x_0 h0 K' := by
  refine CallsH.mono hc ?_
  rintro v h ⟨r0, e, hK⟩
  exact ⟨r0, e, hk _ _ hK⟩
def C_slices_nextPowerOfTwo (length_0 : Int) (h0 : Hp) (K : Int → Hp → Prop) : Prop := CallsH PROG 90 #[Value.int .i64 length_0] h0 fun v h => ∃ r0 : Int, v = Value.int .u64 r0 ∧ K r0 h
theorem C_slices_nextPowerOfTwo.mono {length_0 : Int} {h0 : Hp} {K K' : Int → Hp → Prop} (hc : C_slices_nextPowerOfTwo length_0 h0 K) (hk : ∀ r0 h, K r0 h → K' r0 h) : C_slices_nextPowerOfTwo length_0 h0 K' := by
  refine CallsH.mono hc ?_
  rintro v h ⟨r0, e, hK⟩
  exact ⟨r0, e, hk _ _ hK⟩
def C_slices_xorshift_Next (r_0 : Option Addr) (h0 : Hp) (K : Int → Hp → Prop) : Prop := CallsH PROG 91 #[Value.pointer r_0] h0 fun v h => ∃ r0 : Int, v = Value.int .u64 r0 ∧ K r0 h
theorem C_slices_xorshift_Next.mono {r_0 : Option Addr} {h0 : Hp} {K K' : Int → Hp → Prop} (hc : C_slices_xorshift_Next r_0 h0 K) (hk : ∀ r0 h, K r0 h → K' r0 h) : C_slices_xorshift_Next r_0 h0 K' := by
  refine CallsH.mono hc ?_
  rintro v h ⟨r0, e, hK⟩
  exact ⟨r0, e, hk _ _ hK⟩
def C_slices_breakPatternsOrdered_string (d_0 : Sl) (t_1 : Int) (p_2 : Int) (h0 : Hp) (K : Hp → Prop) : Prop := CallsH PROG 76 #[Sl.v d_0, Value.int .i64 t_1, Value.int .i64 p_2] h0 fun v h => v = Value.tuple #[] ∧ K h
theorem C_slices_breakPatternsOrdered_string.mono {d_0 : Sl} {t_1 : Int} {p_2 : Int} {h0 : Hp} {K K' : Hp → Prop} (hc : C_slices_breakPatternsOrdered_string d_0 t_1 p_2 h0 K) (hk : ∀ h, K h → K' h) : C_slices_breakPatternsOrdered_string d_0 t_1 p_2 h0 K' := by
  refine CallsH.mono hc ?_
  rintro v h ⟨e, hK⟩
  exact ⟨e, hk _ hK⟩
def C_slices_order2Ordered_string (data_0 : Sl) (a_1 : Int) (b_2 : Int) (swaps_3 : Option Addr) (h0 : Hp) (K : Int → Int → Hp → Prop) : Prop := CallsH PROG 98 #[Sl.v data_0, Value.int .i64 a_1, Value.int .i64 b_2, Value.pointer swaps_3] h0 fun v h => ∃ r0 : Int, ∃ r1 : Int, v = Value.tuple #[Value.int .i64 r0, Value.int .i64 r1] ∧ K r0 r1 h
theorem C_slices_order2Ordered_string.mono {data_0 : Sl} {a_1 : Int} {b_2 : Int} {swaps_3 : Option Addr} {h0 : Hp} {K K' : Int → Int → Hp → Prop} (hc : C_slices_order2Ordered_string data_0 a_1 b_2 swaps_3 h0 K) (hk : ∀ r0 r1 h, K r0 r1 h → K' r0 r1 h) : C_slices_order2Ordered_string data_0 a_1 b_2 swaps_3 h0 K' := by
  refine CallsH.mono hc ?_
  rintro v h ⟨r0, r1, e, hK⟩
  exact ⟨r0, r1, e, hk _ _ _ hK⟩
def C_slices_medianOrdered_string (data_0 : Sl) (a_1 : Int) (b_2 : Int) (c_3 : Int) (swaps_4 : Option Addr) (h0 : Hp) (K : Int → Hp → Prop) : Prop := CallsH PROG 93 #[Sl.v data_0, Value.int .i64 a_1, Value.int .i64 b_2, Value.int .i64 c_3, Value.pointer swaps_4] h0 fun v h => ∃ r0 : Int, v = Value.int .i64 r0 ∧ K r0 h
theorem C_slices_medianOrdered_string.mono {data_0 : Sl} {a_1 : Int} {b_2 : Int} {c_3 : Int} {swaps_4 : Option Addr} {h0 : Hp} {K K' : Int → Hp → Prop} (hc : C_slices_medianOrdered_string data_0 a_1 b_2 c_3 swaps_4 h0 K) (hk : ∀ r0 h, K r0 h → K' r0 h) : C_slices_medianOrdered_string data_0 a_1 b_2 c_3 swaps_4 h0 K' := by
  refine CallsH.mono hc ?_
  rintro v h ⟨r0, e, hK⟩
  exact ⟨r0, e, hk _ _ hK⟩
def C_slices_medianAdjacentOrdered_string (data_0 : Sl) (a_1 : Int) (swaps_2 : Option Addr) (h0 : Hp) (K : Int → Hp → Prop) : Prop := CallsH PROG 92 #[Sl.v data_0, Value.int .i64 a_1, Value.pointer swaps_2] h0 fun v h => ∃ r0 : Int, v = Value.int .i64 r0 ∧ K r0 h
theorem C_slices_medianAdjacentOrdered_string.mono {data_0 : Sl} {a_1 : Int} {swaps_2 : Option Addr} {h0 : Hp} {K K' : Int → Hp → Prop} (hc : C_slices_medianAdjacentOrdered_string data_0 a_1 swaps_2 h0 K) (hk : ∀ r0 h, K r0 h → K' r0 h) : C_slices_medianAdjacentOrdered_string data_0 a_1 swaps_2 h0 K' := by
  refine CallsH.mono hc ?_
  rintro v h ⟨r0, e, hK⟩
  exact ⟨r0, e, hk _ _ hK⟩
def C_slices_choosePivotOrdered_string (data_0 : Sl) (a_1 : Int) (b_2 : Int) (h0 : Hp) (K : Int → Int → Hp → Prop) : Prop := CallsH PROG 77 #[Sl.v data_0, Value.int .i64 a_1, Value.int .i64 b_2] h0 fun v h => ∃ r0 : Int, ∃ r1 : Int, v = Value.tuple #[Value.int .i64 r0, Value.int .i64 r1] ∧ K r0 r1 h
theorem C_slices_choosePivotOrdered_string.mono {data_0 : Sl} {a_1 : Int} {b_2 : Int} {h0 : Hp} {K K' : Int → Int → Hp → Prop} (hc : C_slices_choosePivotOrdered_string data_0 a_1 b_2 h0 K) (hk : ∀ r0 r1 h, K r0 r1 h → K' r0 r1 h) : C_slices_choosePivotOrdered_string data_0 a_1 b_2 h0 K' := by
  refine CallsH.mono hc ?_
  rintro v h ⟨r0, r1, e, hK⟩
  exact ⟨r0, r1, e, hk _ _ _ hK⟩
def C_slices_reverseRangeOrdered_string (data_0 : Sl) (a_1 : Int) (b_2 : Int) (h0 : Hp) (K : Hp → Prop) : Prop := CallsH PROG 78 #[Sl.v data_0, Value.int .i64 a_1, Value.int .i64 b_2] h0 fun v h => v = Value.tuple #[] ∧ K h
theorem C_slices_reverseRangeOrdered_string.mono {data_0 : Sl} {a_1 : Int} {b_2 : Int} {h0 : Hp} {K K' : Hp → Prop} (hc : C_slices_reverseRangeOrdered_string data_0 a_1 b_2 h0 K) (hk : ∀ h, K h → K' h) : C_slices_reverseRangeOrdered_string data_0 a_1 b_2 h0 K' := by
  refine CallsH.mono hc ?_
  rintro v h ⟨e, hK⟩
  exact ⟨e, hk _ hK⟩
def C_slices_partialInsertionSortOrdered_string (d_0 : Sl) (t_1 : Int) (p_2 : Int) (h0 : Hp) (K : Bool → Hp → Prop) : Prop := CallsH PROG 79 #[Sl.v d_0, Value.int .i64 t_1, Value.int .i64 p_2] h0 fun v h => ∃ r0 : Bool, v = Value.bool r0 ∧ K r0 h
theorem C_slices_partialInsertionSortOrdered_string.mono {d_0 : Sl} {t_1 : Int} {p_2 : Int} {h0 : Hp} {K K' : Bool → Hp → Prop} (hc : C_slices_partialInsertionSortOrdered_string d_0 t_1 p_2 h0 K) (hk : ∀ r0 h, K r0 h → K' r0 h) : C_slices_partialInsertionSortOrdered_string d_0 t_1 p_2 h0 K' := by
  refine CallsH.mono hc ?_
  rintro v h ⟨r0, e, hK⟩
  exact ⟨r0, e, hk _ _ hK⟩
def C_slices_partitionEqualOrdered_string (d_0 : Sl) (t_1 : Int) (p_2 : Int) (p_3 : Int) (h0 : Hp) (K : Int → Hp → Prop) : Prop := CallsH PROG 81 #[Sl.v d_0, Value.int .i64 t_1, Value.int .i64 p_2, Value.int .i64 p_3] h0 fun v h => ∃ r0 : Int, v = Value.int .i64 r0 ∧ K r0 h
theorem C_slices_partitionEqualOrdered_string.mono {d_0 : Sl} {t_1 : Int} {p_2 : Int} {p_3 : Int} {h0 : Hp} {K K' : Int → Hp → Prop} (hc : C_slices_partitionEqualOrdered_string d_0 t_1 p_2 p_3 h0 K) (hk : ∀ r0 h, K r0 h → K' r0 h) : C_slices_partitionEqualOrdered_string d_0 t_1 p_2 p_3 h0 K' := by
  refine CallsH.mono hc ?_
  rintro v h ⟨r0, e, hK⟩
  exact ⟨r0, e, hk _ _ hK⟩
def C_slices_partitionOrdered_string (d_0 : Sl) (t_1 : Int) (p_2 : Int) (p_3 : Int) (h0 : Hp) (K : Int → Bool → Hp → Prop) : Prop := CallsH PROG 82 #[Sl.v d_0, Value.int .i64 t_1, Value.int .i64 p_2, Value.int .i64 p_3] h0 fun v h => ∃ r0 : Int, ∃ r1 : Bool, v = Value.tuple #[Value.int .i64 r0, Value.bool r1] ∧ K r0 r1 h
theorem C_slices_partitionOrdered_string.mono {d_0 : Sl} {t_1 : Int} {p_2 : Int} {p_3 : Int} {h0 : Hp} {K K' : Int → Bool → Hp → Prop} (hc : C_slices_partitionOrdered_string d_0 t_1 p_2 p_3 h0 K) (hk : ∀ r0 r1 h, K r0 r1 h → K' r0 r1 h) : C_slices_partitionOrdered_string d_0 t_1 p_2 p_3 h0 K' := by
  refine CallsH.mono hc ?_
  rintro v h ⟨r0, r1, e, hK⟩
  exact ⟨r0, r1, e, hk _ _ _ hK⟩
def C_slices_pdqsortOrdered_string (d_0 : Sl) (t_1 : Int) (p_2 : Int) (p_3 : Int) (h0 : Hp) (K : Hp → Prop) : Prop := CallsH PROG 63 #[Sl.v d_0, Value.int .i64 t_1, Value.int .i64 p_2, Value.int .i64 p_3] h0 fun v h => v = Value.tuple #[] ∧ K h
theorem C_slices_pdqsortOrdered_string.mono {d_0 : Sl} {t_1 : Int} {p_2 : Int} {p_3 : Int} {h0 : Hp} {K K' : Hp → Prop} (hc : C_slices_pdqsortOrdered_string d_0 t_1 p_2 p_3 h0 K) (hk : ∀ h, K h → K' h) : C_slices_pdqsortOrdered_string d_0 t_1 p_2 p_3 h0 K' := by
  refine CallsH.mono hc ?_
  rintro v h ⟨e, hK⟩
  exact ⟨e, hk _ hK⟩
def C_slices_Sort_string_string (x_0 : Sl) (h0 : Hp) (K : Hp → Prop) : Prop := CallsH PROG 54 #[Sl.v x_0] h0 fun v h => v = Value.tuple #[] ∧ K h
theorem C_slices_Sort_string_string.mono {x_0 : Sl} {h0 : Hp} {K K' : Hp → Prop} (hc : C_slices_Sort_string_string x_0 h0 K) (hk : ∀ h, K h → K' h) : C_slices_Sort_string_string x_0 h0 K' := by
  refine CallsH.mono hc ?_
  rintro v h ⟨e, hK⟩
  exact ⟨e, hk _ hK⟩
def C_slices_Sorted_string (seq_0 : Value) (h0 : Hp) (K : Sl → Hp → Prop) : Prop := CallsH PROG 33 #[seq_0] h0 fun v h => ∃ r0 : Sl, v = Sl.v r0 ∧ K r0 h
theorem C_slices_Sorted_string.mono {seq_0 : Value} {h0 : Hp} {K K' : Sl → Hp → Prop} (hc : C_slices_Sorted_string seq_0 h0 K) (hk : ∀ r0 h, K r0 h → K' r0 h) : C_slices_Sorted_string seq_0 h0 K' := by
  refine CallsH.mono hc ?_
  rintro v h ⟨r0, e, hK⟩
  exact ⟨r0, e, hk _ _ hK⟩
def C_maps_Keys_disk_names_string_disk_file (m_0 : Option Nat) (h0 : Hp) (K : Value → Hp → Prop) : Prop := CallsH PROG 34 #[Value.map m_0] h0 fun v h => ∃ r0 : Value, v = r0 ∧ K r0 h
theorem C_maps_Keys_disk_names_string_disk_file.mono {m_0 : Option Nat} {h0 : Hp} {K K' : Value → Hp → Prop} (hc : C_maps_Keys_disk_names_string_disk_file m_0 h0 K) (hk : ∀ r0 h, K r0 h → K' r0 h) : C_maps_Keys_disk_names_string_disk_file m_0 h0 K' := by
  refine CallsH.mono hc ?_
  rintro v h ⟨r0, e, hK⟩
  exact ⟨r0, e, hk _ _ hK⟩
def C_disk_Disk_Names (d_0 : Option Addr) (h0 : Hp) (K : Sl → Hp → Prop) : Prop := CallsH PROG 15 #[Value.pointer d_0] h0 fun v h => ∃ r0 : Sl, v = Sl.v r0 ∧ K r0 h
theorem C_disk_Disk_Names.mono {d_0 : Option Addr} {h0 : Hp} {K K' : Sl → Hp → Prop} (hc : C_disk_Disk_Names d_0 h0 K) (hk : ∀ r0 h, K r0 h → K' r0 h) : C_disk_Disk_Names d_0 h0 K' := by
  refine CallsH.mono hc ?_
  rintro v h ⟨r0, e, hK⟩
  exact ⟨r0, e, hk _ _ hK⟩
def C_wal_number (s_0 : ByteArray) (h0 : Hp) (K : Int → Hp → Prop) : Prop := CallsH PROG 17 #[Value.string s_0] h0 fun v h => ∃ r0 : Int, v = Value.int .i64 r0 ∧ K r0 h
theorem C_wal_number.mono {s_0 : ByteArray} {h0 : Hp} {K K' : Int → Hp → Prop} (hc : C_wal_number s_0 h0 K) (hk : ∀ r0 h, K r0 h → K' r0 h) : C_wal_number s_0 h0 K' := by
  refine CallsH.mono hc ?_
  rintro v h ⟨r0, e, hK⟩
  exact ⟨r0, e, hk _ _ hK⟩
def C_disk_Disk_Read (d_0 : Option Addr) (name_1 : ByteArray) (h0 : Hp) (K : ByteArray → Int → Hp → Prop) : Prop := CallsH PROG 18 #[Value.pointer d_0, Value.string name_1] h0 fun v h => ∃ r0 : ByteArray, ∃ r1 : Int, v = Value.tuple #[Value.string r0, Value.int .i64 r1] ∧ K r0 r1 h
theorem C_disk_Disk_Read.mono {d_0 : Option Addr} {name_1 : ByteArray} {h0 : Hp} {K K' : ByteArray → Int → Hp → Prop} (hc : C_disk_Disk_Read d_0 name_1 h0 K) (hk : ∀ r0 r1 h, K r0 r1 h → K' r0 r1 h) : C_disk_Disk_Read d_0 name_1 h0 K' := by
  refine CallsH.mono hc ?_
  rintro v h ⟨r0, r1, e, hK⟩
  exact ⟨r0, r1, e, hk _ _ _ hK⟩
def C_sum_Bytes (c_0 : Int) (h0 : Hp) (K : ByteArray → Hp → Prop) : Prop := CallsH PROG 40 #[Value.int .u32 c_0] h0 fun v h => ∃ r0 : ByteArray, v = Value.string r0 ∧ K r0 h
theorem C_sum_Bytes.mono {c_0 : Int} {h0 : Hp} {K K' : ByteArray → Hp → Prop} (hc : C_sum_Bytes c_0 h0 K) (hk : ∀ r0 h, K r0 h → K' r0 h) : C_sum_Bytes c_0 h0 K' := by
  refine CallsH.mono hc ?_
  rintro v h ⟨r0, e, hK⟩
  exact ⟨r0, e, hk _ _ hK⟩
def C_sum_masks_step (m_0 : Option Addr) (c_1 : Int) (h0 : Hp) (K : Int → Hp → Prop) : Prop := CallsH PROG 66 #[Value.pointer m_0, Value.int .u32 c_1] h0 fun v h => ∃ r0 : Int, v = Value.int .u32 r0 ∧ K r0 h
theorem C_sum_masks_step.mono {m_0 : Option Addr} {c_1 : Int} {h0 : Hp} {K K' : Int → Hp → Prop} (hc : C_sum_masks_step m_0 c_1 h0 K) (hk : ∀ r0 h, K r0 h → K' r0 h) : C_sum_masks_step m_0 c_1 h0 K' := by
  refine CallsH.mono hc ?_
  rintro v h ⟨r0, e, hK⟩
  exact ⟨r0, e, hk _ _ hK⟩
def C_sum_More (c_0 : Int) (s_1 : ByteArray) (h0 : Hp) (K : Int → Hp → Prop) : Prop := CallsH PROG 59 #[Value.int .u32 c_0, Value.string s_1] h0 fun v h => ∃ r0 : Int, v = Value.int .u32 r0 ∧ K r0 h
theorem C_sum_More.mono {c_0 : Int} {s_1 : ByteArray} {h0 : Hp} {K K' : Int → Hp → Prop} (hc : C_sum_More c_0 s_1 h0 K) (hk : ∀ r0 h, K r0 h → K' r0 h) : C_sum_More c_0 s_1 h0 K' := by
  refine CallsH.mono hc ?_
  rintro v h ⟨r0, e, hK⟩
  exact ⟨r0, e, hk _ _ hK⟩
def C_sum_Of (s_0 : ByteArray) (h0 : Hp) (K : Int → Hp → Prop) : Prop := CallsH PROG 41 #[Value.string s_0] h0 fun v h => ∃ r0 : Int, v = Value.int .u32 r0 ∧ K r0 h
theorem C_sum_Of.mono {s_0 : ByteArray} {h0 : Hp} {K K' : Int → Hp → Prop} (hc : C_sum_Of s_0 h0 K) (hk : ∀ r0 h, K r0 h → K' r0 h) : C_sum_Of s_0 h0 K' := by
  refine CallsH.mono hc ?_
  rintro v h ⟨r0, e, hK⟩
  exact ⟨r0, e, hk _ _ hK⟩
def C_digits_GetNum (s_0 : ByteArray) (h0 : Hp) (K : Int → Int → Int → Hp → Prop) : Prop := CallsH PROG 65 #[Value.string s_0] h0 fun v h => ∃ r0 : Int, ∃ r1 : Int, ∃ r2 : Int, v = Value.tuple #[Value.int .u64 r0, Value.int .i64 r1, Value.int .i64 r2] ∧ K r0 r1 r2 h
theorem C_digits_GetNum.mono {s_0 : ByteArray} {h0 : Hp} {K K' : Int → Int → Int → Hp → Prop} (hc : C_digits_GetNum s_0 h0 K) (hk : ∀ r0 r1 r2 h, K r0 r1 r2 h → K' r0 r1 r2 h) : C_digits_GetNum s_0 h0 K' := by
  refine CallsH.mono hc ?_
  rintro v h ⟨r0, r1, r2, e, hK⟩
  exact ⟨r0, r1, r2, e, hk _ _ _ _ hK⟩
def C_digits_GetText (s_0 : ByteArray) (most_1 : Int) (h0 : Hp) (K : ByteArray → Int → Int → Hp → Prop) : Prop := CallsH PROG 57 #[Value.string s_0, Value.int .i64 most_1] h0 fun v h => ∃ r0 : ByteArray, ∃ r1 : Int, ∃ r2 : Int, v = Value.tuple #[Value.string r0, Value.int .i64 r1, Value.int .i64 r2] ∧ K r0 r1 r2 h
theorem C_digits_GetText.mono {s_0 : ByteArray} {most_1 : Int} {h0 : Hp} {K K' : ByteArray → Int → Int → Hp → Prop} (hc : C_digits_GetText s_0 most_1 h0 K) (hk : ∀ r0 r1 r2 h, K r0 r1 r2 h → K' r0 r1 r2 h) : C_digits_GetText s_0 most_1 h0 K' := by
  refine CallsH.mono hc ?_
  rintro v h ⟨r0, r1, r2, e, hK⟩
  exact ⟨r0, r1, r2, e, hk _ _ _ _ hK⟩
def C_frame_Get (s_0 : ByteArray) (h0 : Hp) (K : Int → ByteArray → Int → Int → Hp → Prop) : Prop := CallsH PROG 37 #[Value.string s_0] h0 fun v h => ∃ r0 : Int, ∃ r1 : ByteArray, ∃ r2 : Int, ∃ r3 : Int, v = Value.tuple #[Value.agg #[Value.int .i64 r0, Value.string r1], Value.int .i64 r2, Value.int .i64 r3] ∧ K r0 r1 r2 r3 h
theorem C_frame_Get.mono {s_0 : ByteArray} {h0 : Hp} {K K' : Int → ByteArray → Int → Int → Hp → Prop} (hc : C_frame_Get s_0 h0 K) (hk : ∀ r0 r1 r2 r3 h, K r0 r1 r2 r3 h → K' r0 r1 r2 r3 h) : C_frame_Get s_0 h0 K' := by
  refine CallsH.mono hc ?_
  rintro v h ⟨r0, r1, r2, r3, e, hK⟩
  exact ⟨r0, r1, r2, r3, e, hk _ _ _ _ _ hK⟩
def C_wal_parse (first_0 : Int) (s_1 : ByteArray) (h0 : Hp) (K : Option Addr → Hp → Prop) : Prop := CallsH PROG 19 #[Value.int .i64 first_0, Value.string s_1] h0 fun v h => ∃ r0 : Option Addr, v = Value.pointer r0 ∧ K r0 h
theorem C_wal_parse.mono {first_0 : Int} {s_1 : ByteArray} {h0 : Hp} {K K' : Option Addr → Hp → Prop} (hc : C_wal_parse first_0 s_1 h0 K) (hk : ∀ r0 h, K r0 h → K' r0 h) : C_wal_parse first_0 s_1 h0 K' := by
  refine CallsH.mono hc ?_
  rintro v h ⟨r0, e, hK⟩
  exact ⟨r0, e, hk _ _ hK⟩
def C_wal_segment_last (s_0 : Option Addr) (h0 : Hp) (K : Int → Hp → Prop) : Prop := CallsH PROG 36 #[Value.pointer s_0] h0 fun v h => ∃ r0 : Int, v = Value.int .i64 r0 ∧ K r0 h
theorem C_wal_segment_last.mono {s_0 : Option Addr} {h0 : Hp} {K K' : Int → Hp → Prop} (hc : C_wal_segment_last s_0 h0 K) (hk : ∀ r0 h, K r0 h → K' r0 h) : C_wal_segment_last s_0 h0 K' := by
  refine CallsH.mono hc ?_
  rintro v h ⟨r0, e, hK⟩
  exact ⟨r0, e, hk _ _ hK⟩
def C_wal_Log_end (l_0 : Option Addr) (h0 : Hp) (K : Int → Hp → Prop) : Prop := CallsH PROG 21 #[Value.pointer l_0] h0 fun v h => ∃ r0 : Int, v = Value.int .i64 r0 ∧ K r0 h
theorem C_wal_Log_end.mono {l_0 : Option Addr} {h0 : Hp} {K K' : Int → Hp → Prop} (hc : C_wal_Log_end l_0 h0 K) (hk : ∀ r0 h, K r0 h → K' r0 h) : C_wal_Log_end l_0 h0 K' := by
  refine CallsH.mono hc ?_
  rintro v h ⟨r0, e, hK⟩
  exact ⟨r0, e, hk _ _ hK⟩
def C_wal_Log_fits (l_0 : Option Addr) (x_1 : Option Addr) (base_2 : Int) (h0 : Hp) (K : Bool → Hp → Prop) : Prop := CallsH PROG 20 #[Value.pointer l_0, Value.pointer x_1, Value.int .i64 base_2] h0 fun v h => ∃ r0 : Bool, v = Value.bool r0 ∧ K r0 h
theorem C_wal_Log_fits.mono {l_0 : Option Addr} {x_1 : Option Addr} {base_2 : Int} {h0 : Hp} {K K' : Bool → Hp → Prop} (hc : C_wal_Log_fits l_0 x_1 base_2 h0 K) (hk : ∀ r0 h, K r0 h → K' r0 h) : C_wal_Log_fits l_0 x_1 base_2 h0 K' := by
  refine CallsH.mono hc ?_
  rintro v h ⟨r0, e, hK⟩
  exact ⟨r0, e, hk _ _ hK⟩
def C_maps_Clone_disk_names_string_disk_file (m_0 : Option Nat) (h0 : Hp) (K : Option Nat → Hp → Prop) : Prop := CallsH PROG 35 #[Value.map m_0] h0 fun v h => ∃ r0 : Option Nat, v = Value.map r0 ∧ K r0 h
theorem C_maps_Clone_disk_names_string_disk_file.mono {m_0 : Option Nat} {h0 : Hp} {K K' : Option Nat → Hp → Prop} (hc : C_maps_Clone_disk_names_string_disk_file m_0 h0 K) (hk : ∀ r0 h, K r0 h → K' r0 h) : C_maps_Clone_disk_names_string_disk_file m_0 h0 K' := by
  refine CallsH.mono hc ?_
  rintro v h ⟨r0, e, hK⟩
  exact ⟨r0, e, hk _ _ hK⟩
def C_disk_Disk_write (d_0 : Option Addr) (h0 : Hp) (K : Bool → Hp → Prop) : Prop := CallsH PROG 42 #[Value.pointer d_0] h0 fun v h => ∃ r0 : Bool, v = Value.bool r0 ∧ K r0 h
theorem C_disk_Disk_write.mono {d_0 : Option Addr} {h0 : Hp} {K K' : Bool → Hp → Prop} (hc : C_disk_Disk_write d_0 h0 K) (hk : ∀ r0 h, K r0 h → K' r0 h) : C_disk_Disk_write d_0 h0 K' := by
  refine CallsH.mono hc ?_
  rintro v h ⟨r0, e, hK⟩
  exact ⟨r0, e, hk _ _ hK⟩
def C_disk_Disk_SyncNames (d_0 : Option Addr) (h0 : Hp) (K : Int → Hp → Prop) : Prop := CallsH PROG 27 #[Value.pointer d_0] h0 fun v h => ∃ r0 : Int, v = Value.int .i64 r0 ∧ K r0 h
theorem C_disk_Disk_SyncNames.mono {d_0 : Option Addr} {h0 : Hp} {K K' : Int → Hp → Prop} (hc : C_disk_Disk_SyncNames d_0 h0 K) (hk : ∀ r0 h, K r0 h → K' r0 h) : C_disk_Disk_SyncNames d_0 h0 K' := by
  refine CallsH.mono hc ?_
  rintro v h ⟨r0, e, hK⟩
  exact ⟨r0, e, hk _ _ hK⟩
def C_disk_Disk_change (d_0 : Option Addr) (c_1 : Value) (h0 : Hp) (K : Hp → Prop) : Prop := CallsH PROG 45 #[Value.pointer d_0, c_1] h0 fun v h => v = Value.tuple #[] ∧ K h
theorem C_disk_Disk_change.mono {d_0 : Option Addr} {c_1 : Value} {h0 : Hp} {K K' : Hp → Prop} (hc : C_disk_Disk_change d_0 c_1 h0 K) (hk : ∀ h, K h → K' h) : C_disk_Disk_change d_0 c_1 h0 K' := by
  refine CallsH.mono hc ?_
  rintro v h ⟨e, hK⟩
  exact ⟨e, hk _ hK⟩
def C_disk_Disk_find (d_0 : Option Addr) (name_1 : ByteArray) (h0 : Hp) (K : Option Addr → Int → Hp → Prop) : Prop := CallsH PROG 47 #[Value.pointer d_0, Value.string name_1] h0 fun v h => ∃ r0 : Option Addr, ∃ r1 : Int, v = Value.tuple #[Value.pointer r0, Value.int .i64 r1] ∧ K r0 r1 h
theorem C_disk_Disk_find.mono {d_0 : Option Addr} {name_1 : ByteArray} {h0 : Hp} {K K' : Option Addr → Int → Hp → Prop} (hc : C_disk_Disk_find d_0 name_1 h0 K) (hk : ∀ r0 r1 h, K r0 r1 h → K' r0 r1 h) : C_disk_Disk_find d_0 name_1 h0 K' := by
  refine CallsH.mono hc ?_
  rintro v h ⟨r0, r1, e, hK⟩
  exact ⟨r0, r1, e, hk _ _ _ hK⟩
def C_disk_Disk_Remove (d_0 : Option Addr) (name_1 : ByteArray) (h0 : Hp) (K : Int → Hp → Prop) : Prop := CallsH PROG 29 #[Value.pointer d_0, Value.string name_1] h0 fun v h => ∃ r0 : Int, v = Value.int .i64 r0 ∧ K r0 h
theorem C_disk_Disk_Remove.mono {d_0 : Option Addr} {name_1 : ByteArray} {h0 : Hp} {K K' : Int → Hp → Prop} (hc : C_disk_Disk_Remove d_0 name_1 h0 K) (hk : ∀ r0 h, K r0 h → K' r0 h) : C_disk_Disk_Remove d_0 name_1 h0 K' := by
  refine CallsH.mono hc ?_
  rintro v h ⟨r0, e, hK⟩
  exact ⟨r0, e, hk _ _ hK⟩
def C_wal_Log_remove (l_0 : Option Addr) (files_1 : Sl) (h0 : Hp) (K : Int → Hp → Prop) : Prop := CallsH PROG 22 #[Value.pointer l_0, Sl.v files_1] h0 fun v h => ∃ r0 : Int, v = Value.int .i64 r0 ∧ K r0 h
theorem C_wal_Log_remove.mono {l_0 : Option Addr} {files_1 : Sl} {h0 : Hp} {K K' : Int → Hp → Prop} (hc : C_wal_Log_remove l_0 files_1 h0 K) (hk : ∀ r0 h, K r0 h → K' r0 h) : C_wal_Log_remove l_0 files_1 h0 K' := by
  refine CallsH.mono hc ?_
  rintro v h ⟨r0, e, hK⟩
  exact ⟨r0, e, hk _ _ hK⟩
def C_wal_Open (d_0 : Option Addr) (t_1 : Int) (h0 : Hp) (K : Option Addr → Int → Hp → Prop) : Prop := CallsH PROG 6 #[Value.pointer d_0, Value.int .i64 t_1] h0 fun v h => ∃ r0 : Option Addr, ∃ r1 : Int, v = Value.tuple #[Value.pointer r0, Value.int .i64 r1] ∧ K r0 r1 h
theorem C_wal_Open.mono {d_0 : Option Addr} {t_1 : Int} {h0 : Hp} {K K' : Option Addr → Int → Hp → Prop} (hc : C_wal_Open d_0 t_1 h0 K) (hk : ∀ r0 r1 h, K r0 r1 h → K' r0 r1 h) : C_wal_Open d_0 t_1 h0 K' := by
  refine CallsH.mono hc ?_
  rintro v h ⟨r0, r1, e, hK⟩
  exact ⟨r0, r1, e, hk _ _ _ hK⟩
def C_digits_Num (n_0 : Int) (h0 : Hp) (K : ByteArray → Hp → Prop) : Prop := CallsH PROG 58 #[Value.int .u64 n_0] h0 fun v h => ∃ r0 : ByteArray, v = Value.string r0 ∧ K r0 h
theorem C_digits_Num.mono {n_0 : Int} {h0 : Hp} {K K' : ByteArray → Hp → Prop} (hc : C_digits_Num n_0 h0 K) (hk : ∀ r0 h, K r0 h → K' r0 h) : C_digits_Num n_0 h0 K' := by
  refine CallsH.mono hc ?_
  rintro v h ⟨r0, e, hK⟩
  exact ⟨r0, e, hk _ _ hK⟩
def C_digits_Text (s_0 : ByteArray) (h0 : Hp) (K : ByteArray → Hp → Prop) : Prop := CallsH PROG 39 #[Value.string s_0] h0 fun v h => ∃ r0 : ByteArray, v = Value.string r0 ∧ K r0 h
theorem C_digits_Text.mono {s_0 : ByteArray} {h0 : Hp} {K K' : ByteArray → Hp → Prop} (hc : C_digits_Text s_0 h0 K) (hk : ∀ r0 h, K r0 h → K' r0 h) : C_digits_Text s_0 h0 K' := by
  refine CallsH.mono hc ?_
  rintro v h ⟨r0, e, hK⟩
  exact ⟨r0, e, hk _ _ hK⟩
def C_frame_Put (f_0_0 : Int) (f_1_0 : ByteArray) (h0 : Hp) (K : ByteArray → Int → Hp → Prop) : Prop := CallsH PROG 23 #[Value.agg #[Value.int .i64 f_0_0, Value.string f_1_0]] h0 fun v h => ∃ r0 : ByteArray, ∃ r1 : Int, v = Value.tuple #[Value.string r0, Value.int .i64 r1] ∧ K r0 r1 h
theorem C_frame_Put.mono {f_0_0 : Int} {f_1_0 : ByteArray} {h0 : Hp} {K K' : ByteArray → Int → Hp → Prop} (hc : C_frame_Put f_0_0 f_1_0 h0 K) (hk : ∀ r0 r1 h, K r0 r1 h → K' r0 r1 h) : C_frame_Put f_0_0 f_1_0 h0 K' := by
  refine CallsH.mono hc ?_
  rintro v h ⟨r0, r1, e, hK⟩
  exact ⟨r0, r1, e, hk _ _ _ hK⟩
def C_strings_trimLeftByte (s_0 : ByteArray) (c_1 : Int) (h0 : Hp) (K : ByteArray → Hp → Prop) : Prop := CallsH PROG 67 #[Value.string s_0, Value.int .u8 c_1] h0 fun v h => ∃ r0 : ByteArray, v = Value.string r0 ∧ K r0 h
theorem C_strings_trimLeftByte.mono {s_0 : ByteArray} {c_1 : Int} {h0 : Hp} {K K' : ByteArray → Hp → Prop} (hc : C_strings_trimLeftByte s_0 c_1 h0 K) (hk : ∀ r0 h, K r0 h → K' r0 h) : C_strings_trimLeftByte s_0 c_1 h0 K' := by
  refine CallsH.mono hc ?_
  rintro v h ⟨r0, e, hK⟩
  exact ⟨r0, e, hk _ _ hK⟩
def C_strings_trimRightByte (s_0 : ByteArray) (c_1 : Int) (h0 : Hp) (K : ByteArray → Hp → Prop) : Prop := CallsH PROG 68 #[Value.string s_0, Value.int .u8 c_1] h0 fun v h => ∃ r0 : ByteArray, v = Value.string r0 ∧ K r0 h
theorem C_strings_trimRightByte.mono {s_0 : ByteArray} {c_1 : Int} {h0 : Hp} {K K' : ByteArray → Hp → Prop} (hc : C_strings_trimRightByte s_0 c_1 h0 K) (hk : ∀ r0 h, K r0 h → K' r0 h) : C_strings_trimRightByte s_0 c_1 h0 K' := by
  refine CallsH.mono hc ?_
  rintro v h ⟨r0, e, hK⟩
  exact ⟨r0, e, hk _ _ hK⟩
def C_strings_makeASCIISet (chars_0 : ByteArray) (h0 : Hp) (K : List Value → Bool → Hp → Prop) : Prop := CallsH PROG 69 #[Value.string chars_0] h0 fun v h => ∃ r0 : List Value, ∃ r1 : Bool, v = Value.tuple #[Value.agg (r0).toArray, Value.bool r1] ∧ K r0 r1 h
theorem C_strings_makeASCIISet.mono {chars_0 : ByteArray} {h0 : Hp} {K K' : List Value → Bool → Hp → Prop} (hc : C_strings_makeASCIISet chars_0 h0 K) (hk : ∀ r0 r1 h, K r0 r1 h → K' r0 r1 h) : C_strings_makeASCIISet chars_0 h0 K' := by
  refine CallsH.mono hc ?_
  rintro v h ⟨r0, r1, e, hK⟩
  exact ⟨r0, r1, e, hk _ _ _ hK⟩
def C_strings_asciiSet_contains (as_0 : Option Addr) (c_1 : Int) (h0 : Hp) (K : Bool → Hp → Prop) : Prop := CallsH PROG 85 #[Value.pointer as_0, Value.int .u8 c_1] h0 fun v h => ∃ r0 : Bool, v = Value.bool r0 ∧ K r0 h
theorem C_strings_asciiSet_contains.mono {as_0 : Option Addr} {c_1 : Int} {h0 : Hp} {K K' : Bool → Hp → Prop} (hc : C_strings_asciiSet_contains as_0 c_1 h0 K) (hk : ∀ r0 h, K r0 h → K' r0 h) : C_strings_asciiSet_contains as_0 c_1 h0 K' := by
  refine CallsH.mono hc ?_
  rintro v h ⟨r0, e, hK⟩
  exact ⟨r0, e, hk _ _ hK⟩
def C_strings_trimLeftASCII (s_0 : ByteArray) (as_1 : Option Addr) (h0 : Hp) (K : ByteArray → Hp → Prop) : Prop := CallsH PROG 70 #[Value.string s_0, Value.pointer as_1] h0 fun v h => ∃ r0 : ByteArray, v = Value.string r0 ∧ K r0 h
theorem C_strings_trimLeftASCII.mono {s_0 : ByteArray} {as_1 : Option Addr} {h0 : Hp} {K K' : ByteArray → Hp → Prop} (hc : C_strings_trimLeftASCII s_0 as_1 h0 K) (hk : ∀ r0 h, K r0 h → K' r0 h) : C_strings_trimLeftASCII s_0 as_1 h0 K' := by
  refine CallsH.mono hc ?_
  rintro v h ⟨r0, e, hK⟩
  exact ⟨r0, e, hk _ _ hK⟩
def C_strings_trimRightASCII (s_0 : ByteArray) (as_1 : Option Addr) (h0 : Hp) (K : ByteArray → Hp → Prop) : Prop := CallsH PROG 71 #[Value.string s_0, Value.pointer as_1] h0 fun v h => ∃ r0 : ByteArray, v = Value.string r0 ∧ K r0 h
theorem C_strings_trimRightASCII.mono {s_0 : ByteArray} {as_1 : Option Addr} {h0 : Hp} {K K' : ByteArray → Hp → Prop} (hc : C_strings_trimRightASCII s_0 as_1 h0 K) (hk : ∀ r0 h, K r0 h → K' r0 h) : C_strings_trimRightASCII s_0 as_1 h0 K' := by
  refine CallsH.mono hc ?_
  rintro v h ⟨r0, e, hK⟩
  exact ⟨r0, e, hk _ _ hK⟩
def C_utf8_decodeRuneInStringSlow (p0_0 : ByteArray) (h0 : Hp) (K : Int → Int → Hp → Prop) : Prop := CallsH PROG 95 #[Value.string p0_0] h0 fun v h => ∃ r0 : Int, ∃ r1 : Int, v = Value.tuple #[Value.int .i32 r0, Value.int .i64 r1] ∧ K r0 r1 h
theorem C_utf8_decodeRuneInStringSlow.mono {p0_0 : ByteArray} {h0 : Hp} {K K' : Int → Int → Hp → Prop} (hc : C_utf8_decodeRuneInStringSlow p0_0 h0 K) (hk : ∀ r0 r1 h, K r0 r1 h → K' r0 r1 h) : C_utf8_decodeRuneInStringSlow p0_0 h0 K' := by
  refine CallsH.mono hc ?_
  rintro v h ⟨r0, r1, e, hK⟩
  exact ⟨r0, r1, e, hk _ _ _ hK⟩
def C_utf8_DecodeRuneInString (s_0 : ByteArray) (h0 : Hp) (K : Int → Int → Hp → Prop) : Prop := CallsH PROG 86 #[Value.string s_0] h0 fun v h => ∃ r0 : Int, ∃ r1 : Int, v = Value.tuple #[Value.int .i32 r0, Value.int .i64 r1] ∧ K r0 r1 h
theorem C_utf8_DecodeRuneInString.mono {s_0 : ByteArray} {h0 : Hp} {K K' : Int → Int → Hp → Prop} (hc : C_utf8_DecodeRuneInString s_0 h0 K) (hk : ∀ r0 r1 h, K r0 r1 h → K' r0 r1 h) : C_utf8_DecodeRuneInString s_0 h0 K' := by
  refine CallsH.mono hc ?_
  rintro v h ⟨r0, r1, e, hK⟩
  exact ⟨r0, r1, e, hk _ _ _ hK⟩
def C_strings_IndexRune (p0_0 : ByteArray) (p1_0 : Int) (h0 : Hp) (K : Int → Hp → Prop) : Prop := CallsH PROG 96 #[Value.string p0_0, Value.int .i32 p1_0] h0 fun v h => ∃ r0 : Int, v = Value.int .i64 r0 ∧ K r0 h
theorem C_strings_IndexRune.mono {p0_0 : ByteArray} {p1_0 : Int} {h0 : Hp} {K K' : Int → Hp → Prop} (hc : C_strings_IndexRune p0_0 p1_0 h0 K) (hk : ∀ r0 h, K r0 h → K' r0 h) : C_strings_IndexRune p0_0 p1_0 h0 K' := by
  refine CallsH.mono hc ?_
  rintro v h ⟨r0, e, hK⟩
  exact ⟨r0, e, hk _ _ hK⟩
def C_strings_ContainsRune (s_0 : ByteArray) (r_1 : Int) (h0 : Hp) (K : Bool → Hp → Prop) : Prop := CallsH PROG 87 #[Value.string s_0, Value.int .i32 r_1] h0 fun v h => ∃ r0 : Bool, v = Value.bool r0 ∧ K r0 h
theorem C_strings_ContainsRune.mono {s_0 : ByteArray} {r_1 : Int} {h0 : Hp} {K K' : Bool → Hp → Prop} (hc : C_strings_ContainsRune s_0 r_1 h0 K) (hk : ∀ r0 h, K r0 h → K' r0 h) : C_strings_ContainsRune s_0 r_1 h0 K' := by
  refine CallsH.mono hc ?_
  rintro v h ⟨r0, e, hK⟩
  exact ⟨r0, e, hk _ _ hK⟩
def C_strings_trimLeftUnicode (s_0 : ByteArray) (cutset_1 : ByteArray) (h0 : Hp) (K : ByteArray → Hp → Prop) : Prop := CallsH PROG 72 #[Value.string s_0, Value.string cutset_1] h0 fun v h => ∃ r0 : ByteArray, v = Value.string r0 ∧ K r0 h
theorem C_strings_trimLeftUnicode.mono {s_0 : ByteArray} {cutset_1 : ByteArray} {h0 : Hp} {K K' : ByteArray → Hp → Prop} (hc : C_strings_trimLeftUnicode s_0 cutset_1 h0 K) (hk : ∀ r0 h, K r0 h → K' r0 h) : C_strings_trimLeftUnicode s_0 cutset_1 h0 K' := by
  refine CallsH.mono hc ?_
  rintro v h ⟨r0, e, hK⟩
  exact ⟨r0, e, hk _ _ hK⟩
def C_utf8_RuneStart (b_0 : Int) (h0 : Hp) (K : Bool → Hp → Prop) : Prop := CallsH PROG 97 #[Value.int .u8 b_0] h0 fun v h => ∃ r0 : Bool, v = Value.bool r0 ∧ K r0 h
theorem C_utf8_RuneStart.mono {b_0 : Int} {h0 : Hp} {K K' : Bool → Hp → Prop} (hc : C_utf8_RuneStart b_0 h0 K) (hk : ∀ r0 h, K r0 h → K' r0 h) : C_utf8_RuneStart b_0 h0 K' := by
  refine CallsH.mono hc ?_
  rintro v h ⟨r0, e, hK⟩
  exact ⟨r0, e, hk _ _ hK⟩
def C_utf8_DecodeLastRuneInString (s_0 : ByteArray) (h0 : Hp) (K : Int → Int → Hp → Prop) : Prop := CallsH PROG 88 #[Value.string s_0] h0 fun v h => ∃ r0 : Int, ∃ r1 : Int, v = Value.tuple #[Value.int .i32 r0, Value.int .i64 r1] ∧ K r0 r1 h
theorem C_utf8_DecodeLastRuneInString.mono {s_0 : ByteArray} {h0 : Hp} {K K' : Int → Int → Hp → Prop} (hc : C_utf8_DecodeLastRuneInString s_0 h0 K) (hk : ∀ r0 r1 h, K r0 r1 h → K' r0 r1 h) : C_utf8_DecodeLastRuneInString s_0 h0 K' := by
  refine CallsH.mono hc ?_
  rintro v h ⟨r0, r1, e, hK⟩
  exact ⟨r0, r1, e, hk _ _ _ hK⟩
def C_strings_trimRightUnicode (s_0 : ByteArray) (cutset_1 : ByteArray) (h0 : Hp) (K : ByteArray → Hp → Prop) : Prop := CallsH PROG 73 #[Value.string s_0, Value.string cutset_1] h0 fun v h => ∃ r0 : ByteArray, v = Value.string r0 ∧ K r0 h
theorem C_strings_trimRightUnicode.mono {s_0 : ByteArray} {cutset_1 : ByteArray} {h0 : Hp} {K K' : ByteArray → Hp → Prop} (hc : C_strings_trimRightUnicode s_0 cutset_1 h0 K) (hk : ∀ r0 h, K r0 h → K' r0 h) : C_strings_trimRightUnicode s_0 cutset_1 h0 K' := by
  refine CallsH.mono hc ?_
  rintro v h ⟨r0, e, hK⟩
  exact ⟨r0, e, hk _ _ hK⟩
def C_strings_Trim (s_0 : ByteArray) (cutset_1 : ByteArray) (h0 : Hp) (K : ByteArray → Hp → Prop) : Prop := CallsH PROG 60 #[Value.string s_0, Value.string cutset_1] h0 fun v h => ∃ r0 : ByteArray, v = Value.string r0 ∧ K r0 h
theorem C_strings_Trim.mono {s_0 : ByteArray} {cutset_1 : ByteArray} {h0 : Hp} {K K' : ByteArray → Hp → Prop} (hc : C_strings_Trim s_0 cutset_1 h0 K) (hk : ∀ r0 h, K r0 h → K' r0 h) : C_strings_Trim s_0 cutset_1 h0 K' := by
  refine CallsH.mono hc ?_
  rintro v h ⟨r0, e, hK⟩
  exact ⟨r0, e, hk _ _ hK⟩
def C_disk_right (name_0 : ByteArray) (h0 : Hp) (K : Bool → Hp → Prop) : Prop := CallsH PROG 43 #[Value.string name_0] h0 fun v h => ∃ r0 : Bool, v = Value.bool r0 ∧ K r0 h
theorem C_disk_right.mono {name_0 : ByteArray} {h0 : Hp} {K K' : Bool → Hp → Prop} (hc : C_disk_right name_0 h0 K) (hk : ∀ r0 h, K r0 h → K' r0 h) : C_disk_right name_0 h0 K' := by
  refine CallsH.mono hc ?_
  rintro v h ⟨r0, e, hK⟩
  exact ⟨r0, e, hk _ _ hK⟩
def C_disk_Disk_Used (d_0 : Option Addr) (h0 : Hp) (K : Int → Hp → Prop) : Prop := CallsH PROG 44 #[Value.pointer d_0] h0 fun v h => ∃ r0 : Int, v = Value.int .i64 r0 ∧ K r0 h
theorem C_disk_Disk_Used.mono {d_0 : Option Addr} {h0 : Hp} {K K' : Int → Hp → Prop} (hc : C_disk_Disk_Used d_0 h0 K) (hk : ∀ r0 h, K r0 h → K' r0 h) : C_disk_Disk_Used d_0 h0 K' := by
  refine CallsH.mono hc ?_
  rintro v h ⟨r0, e, hK⟩
  exact ⟨r0, e, hk _ _ hK⟩
def C_disk_Disk_Append (d_0 : Option Addr) (name_1 : ByteArray) (s_2 : ByteArray) (h0 : Hp) (K : Int → Hp → Prop) : Prop := CallsH PROG 24 #[Value.pointer d_0, Value.string name_1, Value.string s_2] h0 fun v h => ∃ r0 : Int, v = Value.int .i64 r0 ∧ K r0 h
theorem C_disk_Disk_Append.mono {d_0 : Option Addr} {name_1 : ByteArray} {s_2 : ByteArray} {h0 : Hp} {K K' : Int → Hp → Prop} (hc : C_disk_Disk_Append d_0 name_1 s_2 h0 K) (hk : ∀ r0 h, K r0 h → K' r0 h) : C_disk_Disk_Append d_0 name_1 s_2 h0 K' := by
  refine CallsH.mono hc ?_
  rintro v h ⟨r0, e, hK⟩
  exact ⟨r0, e, hk _ _ hK⟩
def C_wal_name (n_0 : Int) (h0 : Hp) (K : ByteArray → Hp → Prop) : Prop := CallsH PROG 25 #[Value.int .i64 n_0] h0 fun v h => ∃ r0 : ByteArray, v = Value.string r0 ∧ K r0 h
theorem C_wal_name.mono {n_0 : Int} {h0 : Hp} {K K' : ByteArray → Hp → Prop} (hc : C_wal_name n_0 h0 K) (hk : ∀ r0 h, K r0 h → K' r0 h) : C_wal_name n_0 h0 K' := by
  refine CallsH.mono hc ?_
  rintro v h ⟨r0, e, hK⟩
  exact ⟨r0, e, hk _ _ hK⟩
def C_wal_Log_Append (d_0 : Option Addr) (t_1 : ByteArray) (h0 : Hp) (K : Int → Int → Hp → Prop) : Prop := CallsH PROG 7 #[Value.pointer d_0, Value.string t_1] h0 fun v h => ∃ r0 : Int, ∃ r1 : Int, v = Value.tuple #[Value.int .i64 r0, Value.int .i64 r1] ∧ K r0 r1 h
theorem C_wal_Log_Append.mono {d_0 : Option Addr} {t_1 : ByteArray} {h0 : Hp} {K K' : Int → Int → Hp → Prop} (hc : C_wal_Log_Append d_0 t_1 h0 K) (hk : ∀ r0 r1 h, K r0 r1 h → K' r0 r1 h) : C_wal_Log_Append d_0 t_1 h0 K' := by
  refine CallsH.mono hc ?_
  rintro v h ⟨r0, r1, e, hK⟩
  exact ⟨r0, r1, e, hk _ _ _ hK⟩
def C_disk_Disk_Sync (d_0 : Option Addr) (name_1 : ByteArray) (h0 : Hp) (K : Int → Hp → Prop) : Prop := CallsH PROG 26 #[Value.pointer d_0, Value.string name_1] h0 fun v h => ∃ r0 : Int, v = Value.int .i64 r0 ∧ K r0 h
theorem C_disk_Disk_Sync.mono {d_0 : Option Addr} {name_1 : ByteArray} {h0 : Hp} {K K' : Int → Hp → Prop} (hc : C_disk_Disk_Sync d_0 name_1 h0 K) (hk : ∀ r0 h, K r0 h → K' r0 h) : C_disk_Disk_Sync d_0 name_1 h0 K' := by
  refine CallsH.mono hc ?_
  rintro v h ⟨r0, e, hK⟩
  exact ⟨r0, e, hk _ _ hK⟩
def C_wal_Log_Sync (l_0 : Option Addr) (h0 : Hp) (K : Int → Hp → Prop) : Prop := CallsH PROG 8 #[Value.pointer l_0] h0 fun v h => ∃ r0 : Int, v = Value.int .i64 r0 ∧ K r0 h
theorem C_wal_Log_Sync.mono {l_0 : Option Addr} {h0 : Hp} {K K' : Int → Hp → Prop} (hc : C_wal_Log_Sync l_0 h0 K) (hk : ∀ r0 h, K r0 h → K' r0 h) : C_wal_Log_Sync l_0 h0 K' := by
  refine CallsH.mono hc ?_
  rintro v h ⟨r0, e, hK⟩
  exact ⟨r0, e, hk _ _ hK⟩
def C_wal_Log_Last (l_0 : Option Addr) (h0 : Hp) (K : Int → Hp → Prop) : Prop := CallsH PROG 10 #[Value.pointer l_0] h0 fun v h => ∃ r0 : Int, v = Value.int .i64 r0 ∧ K r0 h
theorem C_wal_Log_Last.mono {l_0 : Option Addr} {h0 : Hp} {K K' : Int → Hp → Prop} (hc : C_wal_Log_Last l_0 h0 K) (hk : ∀ r0 h, K r0 h → K' r0 h) : C_wal_Log_Last l_0 h0 K' := by
  refine CallsH.mono hc ?_
  rintro v h ⟨r0, e, hK⟩
  exact ⟨r0, e, hk _ _ hK⟩
def C_disk_Disk_Crash_1 (of_0 : Int) (q1 : Addr) (h0 : Hp) (K : Int → Hp → Prop) : Prop := CallsH PROG 32 #[Value.int .i64 of_0, Value.pointer (some q1)] h0 fun v h => ∃ r0 : Int, v = Value.int .i64 r0 ∧ K r0 h
theorem C_disk_Disk_Crash_1.mono {of_0 : Int} {q1 : Addr} {h0 : Hp} {K K' : Int → Hp → Prop} (hc : C_disk_Disk_Crash_1 of_0 q1 h0 K) (hk : ∀ r0 h, K r0 h → K' r0 h) : C_disk_Disk_Crash_1 of_0 q1 h0 K' := by
  refine CallsH.mono hc ?_
  rintro v h ⟨r0, e, hK⟩
  exact ⟨r0, e, hk _ _ hK⟩
def C_disk_Disk_Crash (d_0 : Option Addr) (t_1 : Sl) (h0 : Hp) (K : Hp → Prop) : Prop := CallsH PROG 11 #[Value.pointer d_0, Sl.v t_1] h0 fun v h => v = Value.tuple #[] ∧ K h
theorem C_disk_Disk_Crash.mono {d_0 : Option Addr} {t_1 : Sl} {h0 : Hp} {K K' : Hp → Prop} (hc : C_disk_Disk_Crash d_0 t_1 h0 K) (hk : ∀ h, K h → K' h) : C_disk_Disk_Crash d_0 t_1 h0 K' := by
  refine CallsH.mono hc ?_
  rintro v h ⟨e, hK⟩
  exact ⟨e, hk _ hK⟩
def C_wal_Log_Read (d_0 : Option Addr) (t_1 : Int) (h0 : Hp) (K : ByteArray → Int → Hp → Prop) : Prop := CallsH PROG 12 #[Value.pointer d_0, Value.int .i64 t_1] h0 fun v h => ∃ r0 : ByteArray, ∃ r1 : Int, v = Value.tuple #[Value.string r0, Value.int .i64 r1] ∧ K r0 r1 h
theorem C_wal_Log_Read.mono {d_0 : Option Addr} {t_1 : Int} {h0 : Hp} {K K' : ByteArray → Int → Hp → Prop} (hc : C_wal_Log_Read d_0 t_1 h0 K) (hk : ∀ r0 r1 h, K r0 r1 h → K' r0 r1 h) : C_wal_Log_Read d_0 t_1 h0 K' := by
  refine CallsH.mono hc ?_
  rintro v h ⟨r0, r1, e, hK⟩
  exact ⟨r0, r1, e, hk _ _ _ hK⟩
def C_barographlaw05_works (h0 : Hp) (K : Bool → Hp → Prop) : Prop := CallsH PROG 4 #[] h0 fun v h => ∃ r0 : Bool, v = Value.bool r0 ∧ K r0 h
theorem C_barographlaw05_works.mono {h0 : Hp} {K K' : Bool → Hp → Prop} (hc : C_barographlaw05_works h0 K) (hk : ∀ r0 h, K r0 h → K' r0 h) : C_barographlaw05_works h0 K' := by
  refine CallsH.mono hc ?_
  rintro v h ⟨r0, e, hK⟩
  exact ⟨r0, e, hk _ _ hK⟩
def C_wal_Log_First (l_0 : Option Addr) (h0 : Hp) (K : Int → Hp → Prop) : Prop := CallsH PROG 28 #[Value.pointer l_0] h0 fun v h => ∃ r0 : Int, v = Value.int .i64 r0 ∧ K r0 h
theorem C_wal_Log_First.mono {l_0 : Option Addr} {h0 : Hp} {K K' : Int → Hp → Prop} (hc : C_wal_Log_First l_0 h0 K) (hk : ∀ r0 h, K r0 h → K' r0 h) : C_wal_Log_First l_0 h0 K' := by
  refine CallsH.mono hc ?_
  rintro v h ⟨r0, e, hK⟩
  exact ⟨r0, e, hk _ _ hK⟩
def C_wal_Log_shorten (d_0 : Option Addr) (t_1 : Option Addr) (p_2 : Int) (h0 : Hp) (K : Int → Hp → Prop) : Prop := CallsH PROG 30 #[Value.pointer d_0, Value.pointer t_1, Value.int .i64 p_2] h0 fun v h => ∃ r0 : Int, v = Value.int .i64 r0 ∧ K r0 h
theorem C_wal_Log_shorten.mono {d_0 : Option Addr} {t_1 : Option Addr} {p_2 : Int} {h0 : Hp} {K K' : Int → Hp → Prop} (hc : C_wal_Log_shorten d_0 t_1 p_2 h0 K) (hk : ∀ r0 h, K r0 h → K' r0 h) : C_wal_Log_shorten d_0 t_1 p_2 h0 K' := by
  refine CallsH.mono hc ?_
  rintro v h ⟨r0, e, hK⟩
  exact ⟨r0, e, hk _ _ hK⟩
def C_wal_Log_stands (l_0 : Option Addr) (n_1 : Int) (h0 : Hp) (K : Int → Hp → Prop) : Prop := CallsH PROG 31 #[Value.pointer l_0, Value.int .i64 n_1] h0 fun v h => ∃ r0 : Int, v = Value.int .i64 r0 ∧ K r0 h
theorem C_wal_Log_stands.mono {l_0 : Option Addr} {n_1 : Int} {h0 : Hp} {K K' : Int → Hp → Prop} (hc : C_wal_Log_stands l_0 n_1 h0 K) (hk : ∀ r0 h, K r0 h → K' r0 h) : C_wal_Log_stands l_0 n_1 h0 K' := by
  refine CallsH.mono hc ?_
  rintro v h ⟨r0, e, hK⟩
  exact ⟨r0, e, hk _ _ hK⟩
def C_wal_Log_CutAfter (d_0 : Option Addr) (t_1 : Int) (h0 : Hp) (K : Int → Hp → Prop) : Prop := CallsH PROG 9 #[Value.pointer d_0, Value.int .i64 t_1] h0 fun v h => ∃ r0 : Int, v = Value.int .i64 r0 ∧ K r0 h
theorem C_wal_Log_CutAfter.mono {d_0 : Option Addr} {t_1 : Int} {h0 : Hp} {K K' : Int → Hp → Prop} (hc : C_wal_Log_CutAfter d_0 t_1 h0 K) (hk : ∀ r0 h, K r0 h → K' r0 h) : C_wal_Log_CutAfter d_0 t_1 h0 K' := by
  refine CallsH.mono hc ?_
  rintro v h ⟨r0, e, hK⟩
  exact ⟨r0, e, hk _ _ hK⟩
def C_barographlaw05_WalCuts (d_0 : Int) (t_1 : Int) (p_2 : Sl) (h0 : Hp) (K : Bool → Hp → Prop) : Prop := CallsH PROG 3 #[Value.int .i64 d_0, Value.int .i64 t_1, Sl.v p_2] h0 fun v h => ∃ r0 : Bool, v = Value.bool r0 ∧ K r0 h
theorem C_barographlaw05_WalCuts.mono {d_0 : Int} {t_1 : Int} {p_2 : Sl} {h0 : Hp} {K K' : Bool → Hp → Prop} (hc : C_barographlaw05_WalCuts d_0 t_1 p_2 h0 K) (hk : ∀ r0 h, K r0 h → K' r0 h) : C_barographlaw05_WalCuts d_0 t_1 p_2 h0 K' := by
  refine CallsH.mono hc ?_
  rintro v h ⟨r0, e, hK⟩
  exact ⟨r0, e, hk _ _ hK⟩
def C_disk_Disk_Append_1 (n_0 : Option Nat) (q1 : Addr) (q2 : Addr) (h0 : Hp) (K : Hp → Prop) : Prop := CallsH PROG 46 #[Value.map n_0, Value.pointer (some q1), Value.pointer (some q2)] h0 fun v h => v = Value.tuple #[] ∧ K h
theorem C_disk_Disk_Append_1.mono {n_0 : Option Nat} {q1 : Addr} {q2 : Addr} {h0 : Hp} {K K' : Hp → Prop} (hc : C_disk_Disk_Append_1 n_0 q1 q2 h0 K) (hk : ∀ h, K h → K' h) : C_disk_Disk_Append_1 n_0 q1 q2 h0 K' := by
  refine CallsH.mono hc ?_
  rintro v h ⟨e, hK⟩
  exact ⟨e, hk _ hK⟩
def C_disk_Disk_Remove_1 (n_0 : Option Nat) (q1 : Addr) (h0 : Hp) (K : Hp → Prop) : Prop := CallsH PROG 48 #[Value.map n_0, Value.pointer (some q1)] h0 fun v h => v = Value.tuple #[] ∧ K h
theorem C_disk_Disk_Remove_1.mono {n_0 : Option Nat} {q1 : Addr} {h0 : Hp} {K K' : Hp → Prop} (hc : C_disk_Disk_Remove_1 n_0 q1 h0 K) (hk : ∀ h, K h → K' h) : C_disk_Disk_Remove_1 n_0 q1 h0 K' := by
  refine CallsH.mono hc ?_
  rintro v h ⟨e, hK⟩
  exact ⟨e, hk _ hK⟩
def C_disk_Disk_Rename_1 (n_0 : Option Nat) (q1 : Addr) (q2 : Addr) (q3 : Addr) (h0 : Hp) (K : Hp → Prop) : Prop := CallsH PROG 61 #[Value.map n_0, Value.pointer (some q1), Value.pointer (some q2), Value.pointer (some q3)] h0 fun v h => v = Value.tuple #[] ∧ K h
theorem C_disk_Disk_Rename_1.mono {n_0 : Option Nat} {q1 : Addr} {q2 : Addr} {q3 : Addr} {h0 : Hp} {K K' : Hp → Prop} (hc : C_disk_Disk_Rename_1 n_0 q1 q2 q3 h0 K) (hk : ∀ h, K h → K' h) : C_disk_Disk_Rename_1 n_0 q1 q2 q3 h0 K' := by
  refine CallsH.mono hc ?_
  rintro v h ⟨e, hK⟩
  exact ⟨e, hk _ hK⟩
def C_wal_Log_shorten_1 (q0 : Addr) (q1 : Addr) (q2 : Addr) (h0 : Hp) (K : Int → Hp → Prop) : Prop := CallsH PROG 49 #[Value.pointer (some q0), Value.pointer (some q1), Value.pointer (some q2)] h0 fun v h => ∃ r0 : Int, v = Value.int .i64 r0 ∧ K r0 h
theorem C_wal_Log_shorten_1.mono {q0 : Addr} {q1 : Addr} {q2 : Addr} {h0 : Hp} {K K' : Int → Hp → Prop} (hc : C_wal_Log_shorten_1 q0 q1 q2 h0 K) (hk : ∀ r0 h, K r0 h → K' r0 h) : C_wal_Log_shorten_1 q0 q1 q2 h0 K' := by
  refine CallsH.mono hc ?_
  rintro v h ⟨r0, e, hK⟩
  exact ⟨r0, e, hk _ _ hK⟩
def C_wal_Log_shorten_2 (q0 : Addr) (h0 : Hp) (K : Int → Hp → Prop) : Prop := CallsH PROG 50 #[Value.pointer (some q0)] h0 fun v h => ∃ r0 : Int, v = Value.int .i64 r0 ∧ K r0 h
theorem C_wal_Log_shorten_2.mono {q0 : Addr} {h0 : Hp} {K K' : Int → Hp → Prop} (hc : C_wal_Log_shorten_2 q0 h0 K) (hk : ∀ r0 h, K r0 h → K' r0 h) : C_wal_Log_shorten_2 q0 h0 K' := by
  refine CallsH.mono hc ?_
  rintro v h ⟨r0, e, hK⟩
  exact ⟨r0, e, hk _ _ hK⟩
def C_disk_Disk_Rename (d_0 : Option Addr) (from_1 : ByteArray) (to_2 : ByteArray) (h0 : Hp) (K : Int → Hp → Prop) : Prop := CallsH PROG 52 #[Value.pointer d_0, Value.string from_1, Value.string to_2] h0 fun v h => ∃ r0 : Int, v = Value.int .i64 r0 ∧ K r0 h
theorem C_disk_Disk_Rename.mono {d_0 : Option Addr} {from_1 : ByteArray} {to_2 : ByteArray} {h0 : Hp} {K K' : Int → Hp → Prop} (hc : C_disk_Disk_Rename d_0 from_1 to_2 h0 K) (hk : ∀ r0 h, K r0 h → K' r0 h) : C_disk_Disk_Rename d_0 from_1 to_2 h0 K' := by
  refine CallsH.mono hc ?_
  rintro v h ⟨r0, e, hK⟩
  exact ⟨r0, e, hk _ _ hK⟩
def C_wal_Log_shorten_3 (q0 : Addr) (q1 : Addr) (h0 : Hp) (K : Int → Hp → Prop) : Prop := CallsH PROG 51 #[Value.pointer (some q0), Value.pointer (some q1)] h0 fun v h => ∃ r0 : Int, v = Value.int .i64 r0 ∧ K r0 h
theorem C_wal_Log_shorten_3.mono {q0 : Addr} {q1 : Addr} {h0 : Hp} {K K' : Int → Hp → Prop} (hc : C_wal_Log_shorten_3 q0 q1 h0 K) (hk : ∀ r0 h, K r0 h → K' r0 h) : C_wal_Log_shorten_3 q0 q1 h0 K' := by
  refine CallsH.mono hc ?_
  rintro v h ⟨r0, e, hK⟩
  exact ⟨r0, e, hk _ _ hK⟩
def C_wal_Open_1 (s_0 : ByteArray) (h0 : Hp) (K : Bool → Hp → Prop) : Prop := CallsH PROG 16 #[Value.string s_0] h0 fun v h => ∃ r0 : Bool, v = Value.bool r0 ∧ K r0 h
theorem C_wal_Open_1.mono {s_0 : ByteArray} {h0 : Hp} {K K' : Bool → Hp → Prop} (hc : C_wal_Open_1 s_0 h0 K) (hk : ∀ r0 h, K r0 h → K' r0 h) : C_wal_Open_1 s_0 h0 K' := by
  refine CallsH.mono hc ?_
  rintro v h ⟨r0, e, hK⟩
  exact ⟨r0, e, hk _ _ hK⟩
end Go.Proofs.YtgdmjdacmebfjaaGreatDoor.D

namespace Go.Proofs.YtgdmjdacmebfjaaGreatDoor.D
open Go

/-! barograph/disk.New -/
def D_disk_New (room_0 : Int) (h0 : Hp) (K : Option Addr → Hp → Prop) : Prop :=
  ∀ hz1 : Hp, hz1 = h0.push (.map #[] 0) →
  ∀ hz3 : Hp, hz3 = hz1.push (.map #[] 0) →
  ∀ hz5 : Hp, hz5 = hz3.push (.cells #[Value.int .i64 room_0, Value.map (some h0.size), Value.map (some hz1.size), Sl.v (Sl.mk none 0 0), Value.bool false, Value.int .i64 (-1)] T_disk_Disk) →
  K (some (blk hz3.size)) hz5

/-! (*barograph/disk.Disk).Up -/
def D_disk_Disk_Up (d_0 : Option Addr) (h0 : Hp) (K : Bool → Hp → Prop) : Prop :=
  ∃ a1 : Addr, d_0 = some a1 ∧
  ∃ x3 : Bool, cellH h0 (a1.add 4) = some (Value.bool x3) ∧
  K (!x3) h0

/-! slices.IndexFunc[[]string,string] -/
def D_slices_IndexFunc_string_string_l1 (s_0 : Sl) (f_1 : Value) (K : Int → Hp → Prop) (x1 : Int) (hz2 : Hp) (C3 : Int → Hp → Prop) : Prop :=
  if (decide (x1 < (s_0.len : Int))) = true then
    ∃ a5 : Addr, s_0.a = some a5 ∧
    (0 : Int) ≤ x1 ∧
    x1 < (s_0.len : Int) ∧
    ∃ x9 : ByteArray, cellH hz2 (a5.add (x1.toNat * 1)) = some (Value.string x9) ∧
    ∃ (g14 : FuncId) (fi15 ca16 : List Value), f_1 = Value.func (.func g14) fi15.toArray ca16.toArray ∧ callable PROG g14 = true ∧
    CallsH PROG g14 (fi15 ++ [Value.string x9] ++ ca16).toArray hz2 fun v hz11 => ∃ r12 : Bool, v = Value.bool r12 ∧
    if r12 = true then
      K x1 hz11
    else
      C3 (IntKind.i64.wrap (x1 + 1)) hz11
  else
    K (-1) hz2
def D_slices_IndexFunc_string_string (s_0 : Sl) (f_1 : Value) (h0 : Hp) (K : Int → Hp → Prop) : Prop :=
  ∃ (I : Int → Hp → Prop) (μ : Int → Hp → Nat), I 0 h0 ∧ ∀ (x1 : Int) (h : Hp), I x1 h → D_slices_IndexFunc_string_string_l1 s_0 f_1 K x1 h (fun x1' h' => I x1' h' ∧ μ x1' h' < μ x1 h)

/-! slices.DeleteFunc[[]string,string] -/
def D_slices_DeleteFunc_string_string_j1 (j5 : Int) (C7 : Int → Int → Hp → Prop) (i9 : Int) (hz10 : Hp) : Prop :=
  C7 i9 (IntKind.i64.wrap (j5 + 1)) hz10
def D_slices_DeleteFunc_string_string_l2 (s_0 : Sl) (del_1 : Value) (K : Sl → Hp → Prop) (i4 : Int) (j5 : Int) (hz6 : Hp) (C7 : Int → Int → Hp → Prop) : Prop :=
  if (decide (j5 < (s_0.len : Int))) = true then
    ∃ a11 : Addr, s_0.a = some a11 ∧
    (0 : Int) ≤ j5 ∧
    j5 < (s_0.len : Int) ∧
    ∃ x15 : ByteArray, cellH hz6 (a11.add (j5.toNat * 1)) = some (Value.string x15) ∧
    ∃ (g27 : FuncId) (fi28 ca29 : List Value), del_1 = Value.func (.func g27) fi28.toArray ca29.toArray ∧ callable PROG g27 = true ∧
    CallsH PROG g27 (fi28 ++ [Value.string x15] ++ ca29).toArray hz6 fun v hz17 => ∃ r18 : Bool, v = Value.bool r18 ∧
    if (!r18) = true then
      (0 : Int) ≤ i4 ∧
      i4 < (s_0.len : Int) ∧
      ∃ u23 : Value, cellH hz17 (a11.add (i4.toNat * 1)) = some u23 ∧
      frozenH hz17 (a11.add (i4.toNat * 1)) = false ∧
      ∀ hz22 : Hp, hz22 = setH hz17 (a11.add (i4.toNat * 1)) (Value.string x15) →
      D_slices_DeleteFunc_string_string_j1 j5 C7 (IntKind.i64.wrap (i4 + 1)) hz22
    else
      D_slices_DeleteFunc_string_string_j1 j5 C7 i4 hz17
  else
    ∃ n34 : Nat, i4 = (n34 : Int) ∧
    n34 ≤ s_0.len ∧
    s_0.len ≤ s_0.cap ∧
    (∀ b, (slCut s_0 n34 s_0.len 1).a = some b → canPut b hz6 0 (Builtin.zeroCells #[Value.string ByteArray.empty] (slCut s_0 n34 s_0.len 1).len).toList) ∧
    ∀ hz38 : Hp, hz38 = clrH hz6 (slCut s_0 n34 s_0.len 1) (Builtin.zeroCells #[Value.string ByteArray.empty] (slCut s_0 n34 s_0.len 1).len).toList →
    ∃ n41 : Nat, i4 = (n41 : Int) ∧
    0 ≤ n41 ∧
    n41 ≤ s_0.cap ∧
    K (slCut s_0 0 n41 1) hz38
def D_slices_DeleteFunc_string_string (s_0 : Sl) (del_1 : Value) (h0 : Hp) (K : Sl → Hp → Prop) : Prop :=
  C_slices_IndexFunc_string_string s_0 del_1 h0 fun r2 hz1 =>
  if (r2 == ((-1) : Int)) = true then
    K s_0 hz1
  else
    ∃ (I : Int → Int → Hp → Prop) (μ : Int → Int → Hp → Nat), I r2 (IntKind.i64.wrap (r2 + 1)) hz1 ∧ ∀ (i4 : Int) (j5 : Int) (h : Hp), I i4 j5 h → D_slices_DeleteFunc_string_string_l2 s_0 del_1 K i4 j5 h (fun i4' j5' h' => I i4' j5' h' ∧ μ i4' j5' h' < μ i4 j5 h)

/-! slices.Collect[string] -/
def D_slices_Collect_string (seq_0 : Value) (h0 : Hp) (K : Sl → Hp → Prop) : Prop :=
  C_slices_AppendSeq_string_string (Sl.mk none 0 0) seq_0 h0 fun r2 hz1 =>
  K r2 hz1

/-! cmp.isNaN[string] -/
def D_cmp_isNaN_string (x_0 : ByteArray) (h0 : Hp) (K : Bool → Hp → Prop) : Prop :=
  K (!(x_0.toList == x_0.toList)) h0

/-! cmp.Less[string] -/
def D_cmp_Less_string_j1 (K : Bool → Hp → Prop) (x1 : Bool) (hz2 : Hp) : Prop :=
  K x1 hz2
def D_cmp_Less_string (x_0 : ByteArray) (y_1 : ByteArray) (h0 : Hp) (K : Bool → Hp → Prop) : Prop :=
  C_cmp_isNaN_string x_0 h0 fun r4 hz3 =>
  if r4 = true then
    C_cmp_isNaN_string y_1 hz3 fun r7 hz6 =>
    if (!r7) = true then
      D_cmp_Less_string_j1 K true hz6
    else
      D_cmp_Less_string_j1 K (Op.bytesLess x_0.toList y_1.toList) hz6
  else
    D_cmp_Less_string_j1 K (Op.bytesLess x_0.toList y_1.toList) hz3

/-! slices.insertionSortOrdered[string] -/
def D_slices_insertionSortOrdered_string_j1 (data_0 : Sl) (i1 : Int) (C3 : Int → Hp → Prop) (j5 : Int) (C7 : Int → Hp → Prop) (x8 : Bool) (hz9 : Hp) : Prop :=
  if x8 = true then
    ∃ a11 : Addr, data_0.a = some a11 ∧
    (0 : Int) ≤ IntKind.i64.wrap (j5 - 1) ∧
    IntKind.i64.wrap (j5 - 1) < (data_0.len : Int) ∧
    ∃ x15 : ByteArray, cellH hz9 (a11.add ((IntKind.i64.wrap (j5 - 1)).toNat * 1)) = some (Value.string x15) ∧
    (0 : Int) ≤ j5 ∧
    j5 < (data_0.len : Int) ∧
    ∃ x19 : ByteArray, cellH hz9 (a11.add (j5.toNat * 1)) = some (Value.string x19) ∧
    (0 : Int) ≤ j5 ∧
    j5 < (data_0.len : Int) ∧
    ∃ u24 : Value, cellH hz9 (a11.add (j5.toNat * 1)) = some u24 ∧
    frozenH hz9 (a11.add (j5.toNat * 1)) = false ∧
    ∀ hz23 : Hp, hz23 = setH hz9 (a11.add (j5.toNat * 1)) (Value.string x15) →
    cellH hz23 (a11.add ((IntKind.i64.wrap (j5 - 1)).toNat * 1)) = some (Value.string x15) ∧ cellH hz23 (a11.add (j5.toNat * 1)) = some (Value.string x19) ∧
    (0 : Int) ≤ IntKind.i64.wrap (j5 - 1) ∧
    IntKind.i64.wrap (j5 - 1) < (data_0.len : Int) ∧
    ∃ u31 : Value, cellH hz23 (a11.add ((IntKind.i64.wrap (j5 - 1)).toNat * 1)) = some u31 ∧
    frozenH hz23 (a11.add ((IntKind.i64.wrap (j5 - 1)).toNat * 1)) = false ∧
    ∀ hz30 : Hp, hz30 = setH hz23 (a11.add ((IntKind.i64.wrap (j5 - 1)).toNat * 1)) (Value.string x19) →
    C7 (IntKind.i64.wrap (j5 - 1)) hz30
  else
    C3 (IntKind.i64.wrap (i1 + 1)) hz9
def D_slices_insertionSortOrdered_string_l2 (data_0 : Sl) (a_1 : Int) (i1 : Int) (C3 : Int → Hp → Prop) (j5 : Int) (hz6 : Hp) (C7 : Int → Hp → Prop) : Prop :=
  if (decide (j5 > a_1)) = true then
    ∃ a36 : Addr, data_0.a = some a36 ∧
    (0 : Int) ≤ j5 ∧
    j5 < (data_0.len : Int) ∧
    ∃ x40 : ByteArray, cellH hz6 (a36.add (j5.toNat * 1)) = some (Value.string x40) ∧
    (0 : Int) ≤ IntKind.i64.wrap (j5 - 1) ∧
    IntKind.i64.wrap (j5 - 1) < (data_0.len : Int) ∧
    ∃ x44 : ByteArray, cellH hz6 (a36.add ((IntKind.i64.wrap (j5 - 1)).toNat * 1)) = some (Value.string x44) ∧
    C_cmp_Less_string x40 x44 hz6 fun r47 hz46 =>
    cellH hz46 (a36.add (j5.toNat * 1)) = some (Value.string x40) ∧ cellH hz46 (a36.add ((IntKind.i64.wrap (j5 - 1)).toNat * 1)) = some (Value.string x44) ∧
    D_slices_insertionSortOrdered_string_j1 data_0 i1 C3 j5 C7 r47 hz46
  else
    D_slices_insertionSortOrdered_string_j1 data_0 i1 C3 j5 C7 false hz6
def D_slices_insertionSortOrdered_string_l3 (data_0 : Sl) (a_1 : Int) (b_2 : Int) (K : Hp → Prop) (i1 : Int) (hz2 : Hp) (C3 : Int → Hp → Prop) : Prop :=
  if (decide (i1 < b_2)) = true then
    ∃ (I : Int → Hp → Prop) (μ : Int → Hp → Nat), I i1 hz2 ∧ ∀ (j5 : Int) (h : Hp), I j5 h → D_slices_insertionSortOrdered_string_l2 data_0 a_1 i1 C3 j5 h (fun j5' h' => I j5' h' ∧ μ j5' h' < μ j5 h)
  else
    K hz2
def D_slices_insertionSortOrdered_string (data_0 : Sl) (a_1 : Int) (b_2 : Int) (h0 : Hp) (K : Hp → Prop) : Prop :=
  ∃ (I : Int → Hp → Prop) (μ : Int → Hp → Nat), I (IntKind.i64.wrap (a_1 + 1)) h0 ∧ ∀ (i1 : Int) (h : Hp), I i1 h → D_slices_insertionSortOrdered_string_l3 data_0 a_1 b_2 K i1 h (fun i1' h' => I i1' h' ∧ μ i1' h' < μ i1 h)

/-! slices.siftDownOrdered[string] -/
def D_slices_siftDownOrdered_string_j1 (d_0 : Sl) (p_3 : Int) (K : Hp → Prop) (x1 : Int) (C3 : Int → Hp → Prop) (x5 : Int) (hz6 : Hp) : Prop :=
  ∃ a7 : Addr, d_0.a = some a7 ∧
  (0 : Int) ≤ IntKind.i64.wrap (p_3 + x1) ∧
  IntKind.i64.wrap (p_3 + x1) < (d_0.len : Int) ∧
  ∃ x11 : ByteArray, cellH hz6 (a7.add ((IntKind.i64.wrap (p_3 + x1)).toNat * 1)) = some (Value.string x11) ∧
  (0 : Int) ≤ IntKind.i64.wrap (p_3 + x5) ∧
  IntKind.i64.wrap (p_3 + x5) < (d_0.len : Int) ∧
  ∃ x15 : ByteArray, cellH hz6 (a7.add ((IntKind.i64.wrap (p_3 + x5)).toNat * 1)) = some (Value.string x15) ∧
  C_cmp_Less_string x11 x15 hz6 fun r18 hz17 =>
  cellH hz17 (a7.add ((IntKind.i64.wrap (p_3 + x1)).toNat * 1)) = some (Value.string x11) ∧ cellH hz17 (a7.add ((IntKind.i64.wrap (p_3 + x5)).toNat * 1)) = some (Value.string x15) ∧
  if (!r18) = true then
    K hz17
  else
    (0 : Int) ≤ IntKind.i64.wrap (p_3 + x5) ∧
    IntKind.i64.wrap (p_3 + x5) < (d_0.len : Int) ∧
    ∃ x22 : ByteArray, cellH hz17 (a7.add ((IntKind.i64.wrap (p_3 + x5)).toNat * 1)) = some (Value.string x22) ∧
    (0 : Int) ≤ IntKind.i64.wrap (p_3 + x1) ∧
    IntKind.i64.wrap (p_3 + x1) < (d_0.len : Int) ∧
    ∃ x26 : ByteArray, cellH hz17 (a7.add ((IntKind.i64.wrap (p_3 + x1)).toNat * 1)) = some (Value.string x26) ∧
    (0 : Int) ≤ IntKind.i64.wrap (p_3 + x1) ∧
    IntKind.i64.wrap (p_3 + x1) < (d_0.len : Int) ∧
    ∃ u31 : Value, cellH hz17 (a7.add ((IntKind.i64.wrap (p_3 + x1)).toNat * 1)) = some u31 ∧
    frozenH hz17 (a7.add ((IntKind.i64.wrap (p_3 + x1)).toNat * 1)) = false ∧
    ∀ hz30 : Hp, hz30 = setH hz17 (a7.add ((IntKind.i64.wrap (p_3 + x1)).toNat * 1)) (Value.string x22) →
    cellH hz30 (a7.add ((IntKind.i64.wrap (p_3 + x5)).toNat * 1)) = some (Value.string x22) ∧ cellH hz30 (a7.add ((IntKind.i64.wrap (p_3 + x1)).toNat * 1)) = some (Value.string x26) ∧
    (0 : Int) ≤ IntKind.i64.wrap (p_3 + x5) ∧
    IntKind.i64.wrap (p_3 + x5) < (d_0.len : Int) ∧
    ∃ u38 : Value, cellH hz30 (a7.add ((IntKind.i64.wrap (p_3 + x5)).toNat * 1)) = some u38 ∧
    frozenH hz30 (a7.add ((IntKind.i64.wrap (p_3 + x5)).toNat * 1)) = false ∧
    ∀ hz37 : Hp, hz37 = setH hz30 (a7.add ((IntKind.i64.wrap (p_3 + x5)).toNat * 1)) (Value.string x26) →
    C3 x5 hz37
def D_slices_siftDownOrdered_string_j2 (d_0 : Sl) (p_3 : Int) (K : Hp → Prop) (x1 : Int) (C3 : Int → Hp → Prop) (x42 : Bool) (hz43 : Hp) : Prop :=
  if x42 = true then
    D_slices_siftDownOrdered_string_j1 d_0 p_3 K x1 C3 (IntKind.i64.wrap ((IntKind.i64.wrap ((IntKind.i64.wrap (2 * x1)) + 1)) + 1)) hz43
  else
    D_slices_siftDownOrdered_string_j1 d_0 p_3 K x1 C3 (IntKind.i64.wrap ((IntKind.i64.wrap (2 * x1)) + 1)) hz43
def D_slices_siftDownOrdered_string_l3 (d_0 : Sl) (p_2 : Int) (p_3 : Int) (K : Hp → Prop) (x1 : Int) (hz2 : Hp) (C3 : Int → Hp → Prop) : Prop :=
  if (decide ((IntKind.i64.wrap ((IntKind.i64.wrap (2 * x1)) + 1)) ≥ p_2)) = true then
    K hz2
  else
    if (decide ((IntKind.i64.wrap ((IntKind.i64.wrap ((IntKind.i64.wrap (2 * x1)) + 1)) + 1)) < p_2)) = true then
      ∃ a46 : Addr, d_0.a = some a46 ∧
      (0 : Int) ≤ IntKind.i64.wrap (p_3 + (IntKind.i64.wrap ((IntKind.i64.wrap (2 * x1)) + 1))) ∧
      IntKind.i64.wrap (p_3 + (IntKind.i64.wrap ((IntKind.i64.wrap (2 * x1)) + 1))) < (d_0.len : Int) ∧
      ∃ x50 : ByteArray, cellH hz2 (a46.add ((IntKind.i64.wrap (p_3 + (IntKind.i64.wrap ((IntKind.i64.wrap (2 * x1)) + 1)))).toNat * 1)) = some (Value.string x50) ∧
      (0 : Int) ≤ IntKind.i64.wrap ((IntKind.i64.wrap (p_3 + (IntKind.i64.wrap ((IntKind.i64.wrap (2 * x1)) + 1)))) + 1) ∧
      IntKind.i64.wrap ((IntKind.i64.wrap (p_3 + (IntKind.i64.wrap ((IntKind.i64.wrap (2 * x1)) + 1)))) + 1) < (d_0.len : Int) ∧
      ∃ x54 : ByteArray, cellH hz2 (a46.add ((IntKind.i64.wrap ((IntKind.i64.wrap (p_3 + (IntKind.i64.wrap ((IntKind.i64.wrap (2 * x1)) + 1)))) + 1)).toNat * 1)) = some (Value.string x54) ∧
      C_cmp_Less_string x50 x54 hz2 fun r57 hz56 =>
      cellH hz56 (a46.add ((IntKind.i64.wrap (p_3 + (IntKind.i64.wrap ((IntKind.i64.wrap (2 * x1)) + 1)))).toNat * 1)) = some (Value.string x50) ∧ cellH hz56 (a46.add ((IntKind.i64.wrap ((IntKind.i64.wrap (p_3 + (IntKind.i64.wrap ((IntKind.i64.wrap (2 * x1)) + 1)))) + 1)).toNat * 1)) = some (Value.string x54) ∧
      D_slices_siftDownOrdered_string_j2 d_0 p_3 K x1 C3 r57 hz56
    else
      D_slices_siftDownOrdered_string_j2 d_0 p_3 K x1 C3 false hz2
def D_slices_siftDownOrdered_string (d_0 : Sl) (t_1 : Int) (p_2 : Int) (p_3 : Int) (h0 : Hp) (K : Hp → Prop) : Prop :=
  ∃ (I : Int → Hp → Prop) (μ : Int → Hp → Nat), I t_1 h0 ∧ ∀ (x1 : Int) (h : Hp), I x1 h → D_slices_siftDownOrdered_string_l3 d_0 p_2 p_3 K x1 h (fun x1' h' => I x1' h' ∧ μ x1' h' < μ x1 h)

/-! slices.heapSortOrdered[string] -/
def D_slices_heapSortOrdered_string_l1 (data_0 : Sl) (a_1 : Int) (K : Hp → Prop) (i6 : Int) (hz7 : Hp) (C8 : Int → Hp → Prop) : Prop :=
  if (decide (i6 ≥ (0 : Int))) = true then
    ∃ a10 : Addr, data_0.a = some a10 ∧
    (0 : Int) ≤ IntKind.i64.wrap (a_1 + i6) ∧
    IntKind.i64.wrap (a_1 + i6) < (data_0.len : Int) ∧
    ∃ x14 : ByteArray, cellH hz7 (a10.add ((IntKind.i64.wrap (a_1 + i6)).toNat * 1)) = some (Value.string x14) ∧
    (0 : Int) ≤ a_1 ∧
    a_1 < (data_0.len : Int) ∧
    ∃ x18 : ByteArray, cellH hz7 (a10.add (a_1.toNat * 1)) = some (Value.string x18) ∧
    (0 : Int) ≤ a_1 ∧
    a_1 < (data_0.len : Int) ∧
    ∃ u23 : Value, cellH hz7 (a10.add (a_1.toNat * 1)) = some u23 ∧
    frozenH hz7 (a10.add (a_1.toNat * 1)) = false ∧
    ∀ hz22 : Hp, hz22 = setH hz7 (a10.add (a_1.toNat * 1)) (Value.string x14) →
    cellH hz22 (a10.add ((IntKind.i64.wrap (a_1 + i6)).toNat * 1)) = some (Value.string x14) ∧ cellH hz22 (a10.add (a_1.toNat * 1)) = some (Value.string x18) ∧
    (0 : Int) ≤ IntKind.i64.wrap (a_1 + i6) ∧
    IntKind.i64.wrap (a_1 + i6) < (data_0.len : Int) ∧
    ∃ u30 : Value, cellH hz22 (a10.add ((IntKind.i64.wrap (a_1 + i6)).toNat * 1)) = some u30 ∧
    frozenH hz22 (a10.add ((IntKind.i64.wrap (a_1 + i6)).toNat * 1)) = false ∧
    ∀ hz29 : Hp, hz29 = setH hz22 (a10.add ((IntKind.i64.wrap (a_1 + i6)).toNat * 1)) (Value.string x18) →
    C_slices_siftDownOrdered_string data_0 0 i6 a_1 hz29 fun hz34 =>
    C8 (IntKind.i64.wrap (i6 - 1)) hz34
  else
    K hz7
def D_slices_heapSortOrdered_string_l2 (data_0 : Sl) (a_1 : Int) (b_2 : Int) (K : Hp → Prop) (i1 : Int) (hz2 : Hp) (C3 : Int → Hp → Prop) : Prop :=
  if (decide (i1 ≥ (0 : Int))) = true then
    C_slices_siftDownOrdered_string data_0 i1 (IntKind.i64.wrap (b_2 - a_1)) a_1 hz2 fun hz5 =>
    C3 (IntKind.i64.wrap (i1 - 1)) hz5
  else
    ∃ (I : Int → Hp → Prop) (μ : Int → Hp → Nat), I (IntKind.i64.wrap ((IntKind.i64.wrap (b_2 - a_1)) - 1)) hz2 ∧ ∀ (i6 : Int) (h : Hp), I i6 h → D_slices_heapSortOrdered_string_l1 data_0 a_1 K i6 h (fun i6' h' => I i6' h' ∧ μ i6' h' < μ i6 h)
def D_slices_heapSortOrdered_string (data_0 : Sl) (a_1 : Int) (b_2 : Int) (h0 : Hp) (K : Hp → Prop) : Prop :=
  ∃ (I : Int → Hp → Prop) (μ : Int → Hp → Nat), I (IntKind.i64.wrap (Int.tdiv (IntKind.i64.wrap ((IntKind.i64.wrap (b_2 - a_1)) - 1)) 2)) h0 ∧ ∀ (i1 : Int) (h : Hp), I i1 h → D_slices_heapSortOrdered_string_l2 data_0 a_1 b_2 K i1 h (fun i1' h' => I i1' h' ∧ μ i1' h' < μ i1 h)

/-! math/bits.Len -/
def D_bits_Len (x_0 : Int) (h0 : Hp) (K : Int → Hp → Prop) : Prop :=
  C_bits_Len64 x_0 h0 fun r2 hz1 =>
  K r2 hz1

/-! slices.nextPowerOfTwo -/
def D_slices_nextPowerOfTwo (length_0 : Int) (h0 : Hp) (K : Int → Hp → Prop) : Prop :=
  C_bits_Len (IntKind.u64.wrap length_0) h0 fun r2 hz1 =>
  0 ≤ r2 ∧
  K (IntKind.u64.wrap (1 * 2 ^ (min (Int.toNat r2) 64))) hz1

/-! (*slices.xorshift).Next -/
def D_slices_xorshift_Next (r_0 : Option Addr) (h0 : Hp) (K : Int → Hp → Prop) : Prop :=
  ∃ a1 : Addr, r_0 = some a1 ∧
  ∃ x3 : Int, cellH h0 a1 = some (Value.int .u64 x3) ∧
  ∃ x5 : Int, cellH h0 a1 = some (Value.int .u64 x5) ∧
  ∃ u8 : Value, cellH h0 a1 = some u8 ∧
  frozenH h0 a1 = false ∧
  ∀ hz7 : Hp, hz7 = setH h0 a1 (Value.int .u64 (bitsI .xor .u64 x3 (IntKind.u64.wrap (x5 * 2 ^ (min (Int.toNat 13) 64))))) →
  ∃ x12 : Int, cellH hz7 a1 = some (Value.int .u64 x12) ∧
  ∃ x14 : Int, cellH hz7 a1 = some (Value.int .u64 x14) ∧
  ∃ u17 : Value, cellH hz7 a1 = some u17 ∧
  frozenH hz7 a1 = false ∧
  ∀ hz16 : Hp, hz16 = setH hz7 a1 (Value.int .u64 (bitsI .xor .u64 x12 (Int.fdiv x14 (2 ^ (min (Int.toNat 7) 64))))) →
  ∃ x21 : Int, cellH hz16 a1 = some (Value.int .u64 x21) ∧
  ∃ x23 : Int, cellH hz16 a1 = some (Value.int .u64 x23) ∧
  ∃ u26 : Value, cellH hz16 a1 = some u26 ∧
  frozenH hz16 a1 = false ∧
  ∀ hz25 : Hp, hz25 = setH hz16 a1 (Value.int .u64 (bitsI .xor .u64 x21 (IntKind.u64.wrap (x23 * 2 ^ (min (Int.toNat 17) 64))))) →
  ∃ x30 : Int, cellH hz25 a1 = some (Value.int .u64 x30) ∧
  K x30 hz25

/-! slices.breakPatternsOrdered[string] -/
def D_slices_breakPatternsOrdered_string_j1 (d_0 : Sl) (t_1 : Int) (x11 : Int) (C13 : Int → Hp → Prop) (x17 : Int) (hz18 : Hp) : Prop :=
  ∃ a19 : Addr, d_0.a = some a19 ∧
  (0 : Int) ≤ IntKind.i64.wrap (t_1 + x17) ∧
  IntKind.i64.wrap (t_1 + x17) < (d_0.len : Int) ∧
  ∃ x23 : ByteArray, cellH hz18 (a19.add ((IntKind.i64.wrap (t_1 + x17)).toNat * 1)) = some (Value.string x23) ∧
  (0 : Int) ≤ x11 ∧
  x11 < (d_0.len : Int) ∧
  ∃ x27 : ByteArray, cellH hz18 (a19.add (x11.toNat * 1)) = some (Value.string x27) ∧
  (0 : Int) ≤ x11 ∧
  x11 < (d_0.len : Int) ∧
  ∃ u32 : Value, cellH hz18 (a19.add (x11.toNat * 1)) = some u32 ∧
  frozenH hz18 (a19.add (x11.toNat * 1)) = false ∧
  ∀ hz31 : Hp, hz31 = setH hz18 (a19.add (x11.toNat * 1)) (Value.string x23) →
  cellH hz31 (a19.add ((IntKind.i64.wrap (t_1 + x17)).toNat * 1)) = some (Value.string x23) ∧ cellH hz31 (a19.add (x11.toNat * 1)) = some (Value.string x27) ∧
  (0 : Int) ≤ IntKind.i64.wrap (t_1 + x17) ∧
  IntKind.i64.wrap (t_1 + x17) < (d_0.len : Int) ∧
  ∃ u39 : Value, cellH hz31 (a19.add ((IntKind.i64.wrap (t_1 + x17)).toNat * 1)) = some u39 ∧
  frozenH hz31 (a19.add ((IntKind.i64.wrap (t_1 + x17)).toNat * 1)) = false ∧
  ∀ hz38 : Hp, hz38 = setH hz31 (a19.add ((IntKind.i64.wrap (t_1 + x17)).toNat * 1)) (Value.string x27) →
  C13 (IntKind.i64.wrap (x11 + 1)) hz38
def D_slices_breakPatternsOrdered_string_l2 (d_0 : Sl) (t_1 : Int) (p_2 : Int) (h0 : Hp) (K : Hp → Prop) (r10 : Int) (x11 : Int) (hz12 : Hp) (C13 : Int → Hp → Prop) : Prop :=
  if (decide (x11 ≤ (IntKind.i64.wrap ((IntKind.i64.wrap (t_1 + (IntKind.i64.wrap ((IntKind.i64.wrap (Int.tdiv (IntKind.i64.wrap (p_2 - t_1)) 4)) * 2)))) + 1)))) = true then
    C_slices_xorshift_Next (some (blk h0.size)) hz12 fun r16 hz15 =>
    if (decide ((IntKind.i64.wrap (bitsI .and .u64 r16 (IntKind.u64.wrap (r10 - 1)))) ≥ (IntKind.i64.wrap (p_2 - t_1)))) = true then
      D_slices_breakPatternsOrdered_string_j1 d_0 t_1 x11 C13 (IntKind.i64.wrap ((IntKind.i64.wrap (bitsI .and .u64 r16 (IntKind.u64.wrap (r10 - 1)))) - (IntKind.i64.wrap (p_2 - t_1)))) hz15
    else
      D_slices_breakPatternsOrdered_string_j1 d_0 t_1 x11 C13 (IntKind.i64.wrap (bitsI .and .u64 r16 (IntKind.u64.wrap (r10 - 1)))) hz15
  else
    K hz12
def D_slices_breakPatternsOrdered_string (d_0 : Sl) (t_1 : Int) (p_2 : Int) (h0 : Hp) (K : Hp → Prop) : Prop :=
  if (decide ((IntKind.i64.wrap (p_2 - t_1)) ≥ (8 : Int))) = true then
    ∀ hz2 : Hp, hz2 = h0.push (.cells #[Value.int .u64 0] T_slices_xorshift) →
    ∃ u5 : Value, cellH hz2 (blk h0.size) = some u5 ∧
    frozenH hz2 (blk h0.size) = false ∧
    ∀ hz4 : Hp, hz4 = setH hz2 (blk h0.size) (Value.int .u64 (IntKind.u64.wrap (IntKind.i64.wrap (p_2 - t_1)))) →
    C_slices_nextPowerOfTwo (IntKind.i64.wrap (p_2 - t_1)) hz4 fun r10 hz9 =>
    ∃ (I : Int → Hp → Prop) (μ : Int → Hp → Nat), I (IntKind.i64.wrap ((IntKind.i64.wrap (t_1 + (IntKind.i64.wrap ((IntKind.i64.wrap (Int.tdiv (IntKind.i64.wrap (p_2 - t_1)) 4)) * 2)))) - 1)) hz9 ∧ ∀ (x11 : Int) (h : Hp), I x11 h → D_slices_breakPatternsOrdered_string_l2 d_0 t_1 p_2 h0 K r10 x11 h (fun x11' h' => I x11' h' ∧ μ x11' h' < μ x11 h)
  else
    K h0

/-! slices.order2Ordered[string] -/
def D_slices_order2Ordered_string (data_0 : Sl) (a_1 : Int) (b_2 : Int) (swaps_3 : Option Addr) (h0 : Hp) (K : Int → Int → Hp → Prop) : Prop :=
  ∃ a1 : Addr, data_0.a = some a1 ∧
  (0 : Int) ≤ b_2 ∧
  b_2 < (data_0.len : Int) ∧
  ∃ x5 : ByteArray, cellH h0 (a1.add (b_2.toNat * 1)) = some (Value.string x5) ∧
  (0 : Int) ≤ a_1 ∧
  a_1 < (data_0.len : Int) ∧
  ∃ x9 : ByteArray, cellH h0 (a1.add (a_1.toNat * 1)) = some (Value.string x9) ∧
  C_cmp_Less_string x5 x9 h0 fun r12 hz11 =>
  cellH hz11 (a1.add (b_2.toNat * 1)) = some (Value.string x5) ∧ cellH hz11 (a1.add (a_1.toNat * 1)) = some (Value.string x9) ∧
  if r12 = true then
    ∃ a14 : Addr, swaps_3 = some a14 ∧
    ∃ x16 : Int, cellH hz11 a14 = some (Value.int .i64 x16) ∧
    ∃ u19 : Value, cellH hz11 a14 = some u19 ∧
    frozenH hz11 a14 = false ∧
    ∀ hz18 : Hp, hz18 = setH hz11 a14 (Value.int .i64 (IntKind.i64.wrap (x16 + 1))) →
    K b_2 a_1 hz18
  else
    K a_1 b_2 hz11

/-! slices.medianOrdered[string] -/
def D_slices_medianOrdered_string (data_0 : Sl) (a_1 : Int) (b_2 : Int) (c_3 : Int) (swaps_4 : Option Addr) (h0 : Hp) (K : Int → Hp → Prop) : Prop :=
  C_slices_order2Ordered_string data_0 a_1 b_2 swaps_4 h0 fun r2 r3 hz1 =>
  C_slices_order2Ordered_string data_0 r3 c_3 swaps_4 hz1 fun r5 _r6 hz4 =>
  C_slices_order2Ordered_string data_0 r2 r5 swaps_4 hz4 fun _r8 r9 hz7 =>
  K r9 hz7

/-! slices.medianAdjacentOrdered[string] -/
def D_slices_medianAdjacentOrdered_string (data_0 : Sl) (a_1 : Int) (swaps_2 : Option Addr) (h0 : Hp) (K : Int → Hp → Prop) : Prop :=
  C_slices_medianOrdered_string data_0 (IntKind.i64.wrap (a_1 - 1)) a_1 (IntKind.i64.wrap (a_1 + 1)) swaps_2 h0 fun r2 hz1 =>
  K r2 hz1

/-! slices.choosePivotOrdered[string] -/
def D_slices_choosePivotOrdered_string_j1 (h0 : Hp) (K : Int → Int → Hp → Prop) (j3 : Int) (hz4 : Hp) : Prop :=
  ∃ x5 : Int, cellH hz4 (blk h0.size) = some (Value.int .i64 x5) ∧
  if (x5 == (0 : Int)) = true then
    K j3 1 hz4
  else
    if (x5 == (12 : Int)) = true then
      K j3 2 hz4
    else
      K j3 0 hz4
def D_slices_choosePivotOrdered_string_j2 (data_0 : Sl) (h0 : Hp) (K : Int → Int → Hp → Prop) (i10 : Int) (j11 : Int) (k12 : Int) (hz13 : Hp) : Prop :=
  C_slices_medianOrdered_string data_0 i10 j11 k12 (some (blk h0.size)) hz13 fun r15 hz14 =>
  D_slices_choosePivotOrdered_string_j1 h0 K r15 hz14
def D_slices_choosePivotOrdered_string (data_0 : Sl) (a_1 : Int) (b_2 : Int) (h0 : Hp) (K : Int → Int → Hp → Prop) : Prop :=
  ∀ hz1 : Hp, hz1 = h0.push (.cells #[Value.int .i64 0] T_int) →
  if (decide ((IntKind.i64.wrap (b_2 - a_1)) ≥ (8 : Int))) = true then
    if (decide ((IntKind.i64.wrap (b_2 - a_1)) ≥ (50 : Int))) = true then
      C_slices_medianAdjacentOrdered_string data_0 (IntKind.i64.wrap (a_1 + (IntKind.i64.wrap ((IntKind.i64.wrap (Int.tdiv (IntKind.i64.wrap (b_2 - a_1)) 4)) * 1)))) (some (blk h0.size)) hz1 fun r18 hz17 =>
      C_slices_medianAdjacentOrdered_string data_0 (IntKind.i64.wrap (a_1 + (IntKind.i64.wrap ((IntKind.i64.wrap (Int.tdiv (IntKind.i64.wrap (b_2 - a_1)) 4)) * 2)))) (some (blk h0.size)) hz17 fun r20 hz19 =>
      C_slices_medianAdjacentOrdered_string data_0 (IntKind.i64.wrap (a_1 + (IntKind.i64.wrap ((IntKind.i64.wrap (Int.tdiv (IntKind.i64.wrap (b_2 - a_1)) 4)) * 3)))) (some (blk h0.size)) hz19 fun r22 hz21 =>
      D_slices_choosePivotOrdered_string_j2 data_0 h0 K r18 r20 r22 hz21
    else
      D_slices_choosePivotOrdered_string_j2 data_0 h0 K (IntKind.i64.wrap (a_1 + (IntKind.i64.wrap ((IntKind.i64.wrap (Int.tdiv (IntKind.i64.wrap (b_2 - a_1)) 4)) * 1)))) (IntKind.i64.wrap (a_1 + (IntKind.i64.wrap ((IntKind.i64.wrap (Int.tdiv (IntKind.i64.wrap (b_2 - a_1)) 4)) * 2)))) (IntKind.i64.wrap (a_1 + (IntKind.i64.wrap ((IntKind.i64.wrap (Int.tdiv (IntKind.i64.wrap (b_2 - a_1)) 4)) * 3)))) hz1
  else
    D_slices_choosePivotOrdered_string_j1 h0 K (IntKind.i64.wrap (a_1 + (IntKind.i64.wrap ((IntKind.i64.wrap (Int.tdiv (IntKind.i64.wrap (b_2 - a_1)) 4)) * 2)))) hz1

/-! slices.reverseRangeOrdered[string] -/
def D_slices_reverseRangeOrdered_string_l1 (data_0 : Sl) (K : Hp → Prop) (i1 : Int) (j2 : Int) (hz3 : Hp) (C4 : Int → Int → Hp → Prop) : Prop :=
  if (decide (i1 < j2)) = true then
    ∃ a6 : Addr, data_0.a = some a6 ∧
    (0 : Int) ≤ j2 ∧
    j2 < (data_0.len : Int) ∧
    ∃ x10 : ByteArray, cellH hz3 (a6.add (j2.toNat * 1)) = some (Value.string x10) ∧
    (0 : Int) ≤ i1 ∧
    i1 < (data_0.len : Int) ∧
    ∃ x14 : ByteArray, cellH hz3 (a6.add (i1.toNat * 1)) = some (Value.string x14) ∧
    (0 : Int) ≤ i1 ∧
    i1 < (data_0.len : Int) ∧
    ∃ u19 : Value, cellH hz3 (a6.add (i1.toNat * 1)) = some u19 ∧
    frozenH hz3 (a6.add (i1.toNat * 1)) = false ∧
    ∀ hz18 : Hp, hz18 = setH hz3 (a6.add (i1.toNat * 1)) (Value.string x10) →
    cellH hz18 (a6.add (j2.toNat * 1)) = some (Value.string x10) ∧ cellH hz18 (a6.add (i1.toNat * 1)) = some (Value.string x14) ∧
    (0 : Int) ≤ j2 ∧
    j2 < (data_0.len : Int) ∧
    ∃ u26 : Value, cellH hz18 (a6.add (j2.toNat * 1)) = some u26 ∧
    frozenH hz18 (a6.add (j2.toNat * 1)) = false ∧
    ∀ hz25 : Hp, hz25 = setH hz18 (a6.add (j2.toNat * 1)) (Value.string x14) →
    C4 (IntKind.i64.wrap (i1 + 1)) (IntKind.i64.wrap (j2 - 1)) hz25
  else
    K hz3
def D_slices_reverseRangeOrdered_string (data_0 : Sl) (a_1 : Int) (b_2 : Int) (h0 : Hp) (K : Hp → Prop) : Prop :=
  ∃ (I : Int → Int → Hp → Prop) (μ : Int → Int → Hp → Nat), I a_1 (IntKind.i64.wrap (b_2 - 1)) h0 ∧ ∀ (i1 : Int) (j2 : Int) (h : Hp), I i1 j2 h → D_slices_reverseRangeOrdered_string_l1 data_0 K i1 j2 h (fun i1' j2' h' => I i1' j2' h' ∧ μ i1' j2' h' < μ i1 j2 h)

/-! slices.partialInsertionSortOrdered[string] -/
def D_slices_partialInsertionSortOrdered_string_j1 (x2 : Int) (C4 : Int → Int → Hp → Prop) (x6 : Int) (hz7 : Hp) : Prop :=
  C4 x6 (IntKind.i64.wrap (x2 + 1)) hz7
def D_slices_partialInsertionSortOrdered_string_l2 (d_0 : Sl) (p_2 : Int) (x2 : Int) (C4 : Int → Int → Hp → Prop) (x8 : Int) (a16 : Addr) (x42 : Int) (hz43 : Hp) (C44 : Int → Hp → Prop) : Prop :=
  if (decide (x42 < p_2)) = true then
    (0 : Int) ≤ x42 ∧
    x42 < (d_0.len : Int) ∧
    ∃ x48 : ByteArray, cellH hz43 (a16.add (x42.toNat * 1)) = some (Value.string x48) ∧
    (0 : Int) ≤ IntKind.i64.wrap (x42 - 1) ∧
    IntKind.i64.wrap (x42 - 1) < (d_0.len : Int) ∧
    ∃ x52 : ByteArray, cellH hz43 (a16.add ((IntKind.i64.wrap (x42 - 1)).toNat * 1)) = some (Value.string x52) ∧
    C_cmp_Less_string x48 x52 hz43 fun r55 hz54 =>
    cellH hz54 (a16.add (x42.toNat * 1)) = some (Value.string x48) ∧ cellH hz54 (a16.add ((IntKind.i64.wrap (x42 - 1)).toNat * 1)) = some (Value.string x52) ∧
    if (!r55) = true then
      D_slices_partialInsertionSortOrdered_string_j1 x2 C4 x8 hz54
    else
      (0 : Int) ≤ IntKind.i64.wrap (x42 - 1) ∧
      IntKind.i64.wrap (x42 - 1) < (d_0.len : Int) ∧
      ∃ x59 : ByteArray, cellH hz54 (a16.add ((IntKind.i64.wrap (x42 - 1)).toNat * 1)) = some (Value.string x59) ∧
      (0 : Int) ≤ x42 ∧
      x42 < (d_0.len : Int) ∧
      ∃ x63 : ByteArray, cellH hz54 (a16.add (x42.toNat * 1)) = some (Value.string x63) ∧
      (0 : Int) ≤ x42 ∧
      x42 < (d_0.len : Int) ∧
      ∃ u68 : Value, cellH hz54 (a16.add (x42.toNat * 1)) = some u68 ∧
      frozenH hz54 (a16.add (x42.toNat * 1)) = false ∧
      ∀ hz67 : Hp, hz67 = setH hz54 (a16.add (x42.toNat * 1)) (Value.string x59) →
      cellH hz67 (a16.add ((IntKind.i64.wrap (x42 - 1)).toNat * 1)) = some (Value.string x59) ∧ cellH hz67 (a16.add (x42.toNat * 1)) = some (Value.string x63) ∧
      (0 : Int) ≤ IntKind.i64.wrap (x42 - 1) ∧
      IntKind.i64.wrap (x42 - 1) < (d_0.len : Int) ∧
      ∃ u75 : Value, cellH hz67 (a16.add ((IntKind.i64.wrap (x42 - 1)).toNat * 1)) = some u75 ∧
      frozenH hz67 (a16.add ((IntKind.i64.wrap (x42 - 1)).toNat * 1)) = false ∧
      ∀ hz74 : Hp, hz74 = setH hz67 (a16.add ((IntKind.i64.wrap (x42 - 1)).toNat * 1)) (Value.string x63) →
      C44 (IntKind.i64.wrap (x42 + 1)) hz74
  else
    D_slices_partialInsertionSortOrdered_string_j1 x2 C4 x8 hz43
def D_slices_partialInsertionSortOrdered_string_j3 (d_0 : Sl) (p_2 : Int) (x2 : Int) (C4 : Int → Int → Hp → Prop) (x8 : Int) (a16 : Addr) (hz40 : Hp) : Prop :=
  if (decide ((IntKind.i64.wrap (p_2 - x8)) ≥ (2 : Int))) = true then
    ∃ (I : Int → Hp → Prop) (μ : Int → Hp → Nat), I (IntKind.i64.wrap (x8 + 1)) hz40 ∧ ∀ (x42 : Int) (h : Hp), I x42 h → D_slices_partialInsertionSortOrdered_string_l2 d_0 p_2 x2 C4 x8 a16 x42 h (fun x42' h' => I x42' h' ∧ μ x42' h' < μ x42 h)
  else
    D_slices_partialInsertionSortOrdered_string_j1 x2 C4 x8 hz40
def D_slices_partialInsertionSortOrdered_string_l4 (d_0 : Sl) (p_2 : Int) (x2 : Int) (C4 : Int → Int → Hp → Prop) (x8 : Int) (a16 : Addr) (x82 : Int) (hz83 : Hp) (C84 : Int → Hp → Prop) : Prop :=
  if (decide (x82 ≥ (1 : Int))) = true then
    (0 : Int) ≤ x82 ∧
    x82 < (d_0.len : Int) ∧
    ∃ x88 : ByteArray, cellH hz83 (a16.add (x82.toNat * 1)) = some (Value.string x88) ∧
    (0 : Int) ≤ IntKind.i64.wrap (x82 - 1) ∧
    IntKind.i64.wrap (x82 - 1) < (d_0.len : Int) ∧
    ∃ x92 : ByteArray, cellH hz83 (a16.add ((IntKind.i64.wrap (x82 - 1)).toNat * 1)) = some (Value.string x92) ∧
    C_cmp_Less_string x88 x92 hz83 fun r95 hz94 =>
    cellH hz94 (a16.add (x82.toNat * 1)) = some (Value.string x88) ∧ cellH hz94 (a16.add ((IntKind.i64.wrap (x82 - 1)).toNat * 1)) = some (Value.string x92) ∧
    if (!r95) = true then
      D_slices_partialInsertionSortOrdered_string_j3 d_0 p_2 x2 C4 x8 a16 hz94
    else
      (0 : Int) ≤ IntKind.i64.wrap (x82 - 1) ∧
      IntKind.i64.wrap (x82 - 1) < (d_0.len : Int) ∧
      ∃ x99 : ByteArray, cellH hz94 (a16.add ((IntKind.i64.wrap (x82 - 1)).toNat * 1)) = some (Value.string x99) ∧
      (0 : Int) ≤ x82 ∧
      x82 < (d_0.len : Int) ∧
      ∃ x103 : ByteArray, cellH hz94 (a16.add (x82.toNat * 1)) = some (Value.string x103) ∧
      (0 : Int) ≤ x82 ∧
      x82 < (d_0.len : Int) ∧
      ∃ u108 : Value, cellH hz94 (a16.add (x82.toNat * 1)) = some u108 ∧
      frozenH hz94 (a16.add (x82.toNat * 1)) = false ∧
      ∀ hz107 : Hp, hz107 = setH hz94 (a16.add (x82.toNat * 1)) (Value.string x99) →
      cellH hz107 (a16.add ((IntKind.i64.wrap (x82 - 1)).toNat * 1)) = some (Value.string x99) ∧ cellH hz107 (a16.add (x82.toNat * 1)) = some (Value.string x103) ∧
      (0 : Int) ≤ IntKind.i64.wrap (x82 - 1) ∧
      IntKind.i64.wrap (x82 - 1) < (d_0.len : Int) ∧
      ∃ u115 : Value, cellH hz107 (a16.add ((IntKind.i64.wrap (x82 - 1)).toNat * 1)) = some u115 ∧
      frozenH hz107 (a16.add ((IntKind.i64.wrap (x82 - 1)).toNat * 1)) = false ∧
      ∀ hz114 : Hp, hz114 = setH hz107 (a16.add ((IntKind.i64.wrap (x82 - 1)).toNat * 1)) (Value.string x103) →
      C84 (IntKind.i64.wrap (x82 - 1)) hz114
  else
    D_slices_partialInsertionSortOrdered_string_j3 d_0 p_2 x2 C4 x8 a16 hz83
def D_slices_partialInsertionSortOrdered_string_j5 (d_0 : Sl) (t_1 : Int) (p_2 : Int) (K : Bool → Hp → Prop) (x2 : Int) (C4 : Int → Int → Hp → Prop) (x8 : Int) (C10 : Int → Hp → Prop) (x11 : Bool) (hz12 : Hp) : Prop :=
  if x11 = true then
    C10 (IntKind.i64.wrap (x8 + 1)) hz12
  else
    if (x8 == p_2) = true then
      K true hz12
    else
      if (decide ((IntKind.i64.wrap (p_2 - t_1)) < (50 : Int))) = true then
        K false hz12
      else
        ∃ a16 : Addr, d_0.a = some a16 ∧
        (0 : Int) ≤ IntKind.i64.wrap (x8 - 1) ∧
        IntKind.i64.wrap (x8 - 1) < (d_0.len : Int) ∧
        ∃ x20 : ByteArray, cellH hz12 (a16.add ((IntKind.i64.wrap (x8 - 1)).toNat * 1)) = some (Value.string x20) ∧
        (0 : Int) ≤ x8 ∧
        x8 < (d_0.len : Int) ∧
        ∃ x24 : ByteArray, cellH hz12 (a16.add (x8.toNat * 1)) = some (Value.string x24) ∧
        (0 : Int) ≤ x8 ∧
        x8 < (d_0.len : Int) ∧
        ∃ u29 : Value, cellH hz12 (a16.add (x8.toNat * 1)) = some u29 ∧
        frozenH hz12 (a16.add (x8.toNat * 1)) = false ∧
        ∀ hz28 : Hp, hz28 = setH hz12 (a16.add (x8.toNat * 1)) (Value.string x20) →
        cellH hz28 (a16.add ((IntKind.i64.wrap (x8 - 1)).toNat * 1)) = some (Value.string x20) ∧ cellH hz28 (a16.add (x8.toNat * 1)) = some (Value.string x24) ∧
        (0 : Int) ≤ IntKind.i64.wrap (x8 - 1) ∧
        IntKind.i64.wrap (x8 - 1) < (d_0.len : Int) ∧
        ∃ u36 : Value, cellH hz28 (a16.add ((IntKind.i64.wrap (x8 - 1)).toNat * 1)) = some u36 ∧
        frozenH hz28 (a16.add ((IntKind.i64.wrap (x8 - 1)).toNat * 1)) = false ∧
        ∀ hz35 : Hp, hz35 = setH hz28 (a16.add ((IntKind.i64.wrap (x8 - 1)).toNat * 1)) (Value.string x24) →
        if (decide ((IntKind.i64.wrap (x8 - t_1)) ≥ (2 : Int))) = true then
          ∃ (I : Int → Hp → Prop) (μ : Int → Hp → Nat), I (IntKind.i64.wrap (x8 - 1)) hz35 ∧ ∀ (x82 : Int) (h : Hp), I x82 h → D_slices_partialInsertionSortOrdered_string_l4 d_0 p_2 x2 C4 x8 a16 x82 h (fun x82' h' => I x82' h' ∧ μ x82' h' < μ x82 h)
        else
          D_slices_partialInsertionSortOrdered_string_j3 d_0 p_2 x2 C4 x8 a16 hz35
def D_slices_partialInsertionSortOrdered_string_l6 (d_0 : Sl) (t_1 : Int) (p_2 : Int) (K : Bool → Hp → Prop) (x2 : Int) (C4 : Int → Int → Hp → Prop) (x8 : Int) (hz9 : Hp) (C10 : Int → Hp → Prop) : Prop :=
  if (decide (x8 < p_2)) = true then
    ∃ a124 : Addr, d_0.a = some a124 ∧
    (0 : Int) ≤ x8 ∧
    x8 < (d_0.len : Int) ∧
    ∃ x128 : ByteArray, cellH hz9 (a124.add (x8.toNat * 1)) = some (Value.string x128) ∧
    (0 : Int) ≤ IntKind.i64.wrap (x8 - 1) ∧
    IntKind.i64.wrap (x8 - 1) < (d_0.len : Int) ∧
    ∃ x132 : ByteArray, cellH hz9 (a124.add ((IntKind.i64.wrap (x8 - 1)).toNat * 1)) = some (Value.string x132) ∧
    C_cmp_Less_string x128 x132 hz9 fun r135 hz134 =>
    cellH hz134 (a124.add (x8.toNat * 1)) = some (Value.string x128) ∧ cellH hz134 (a124.add ((IntKind.i64.wrap (x8 - 1)).toNat * 1)) = some (Value.string x132) ∧
    D_slices_partialInsertionSortOrdered_string_j5 d_0 t_1 p_2 K x2 C4 x8 C10 (!r135) hz134
  else
    D_slices_partialInsertionSortOrdered_string_j5 d_0 t_1 p_2 K x2 C4 x8 C10 false hz9
def D_slices_partialInsertionSortOrdered_string_l7 (d_0 : Sl) (t_1 : Int) (p_2 : Int) (K : Bool → Hp → Prop) (x1 : Int) (x2 : Int) (hz3 : Hp) (C4 : Int → Int → Hp → Prop) : Prop :=
  if (decide (x2 < (5 : Int))) = true then
    ∃ (I : Int → Hp → Prop) (μ : Int → Hp → Nat), I x1 hz3 ∧ ∀ (x8 : Int) (h : Hp), I x8 h → D_slices_partialInsertionSortOrdered_string_l6 d_0 t_1 p_2 K x2 C4 x8 h (fun x8' h' => I x8' h' ∧ μ x8' h' < μ x8 h)
  else
    K false hz3
def D_slices_partialInsertionSortOrdered_string (d_0 : Sl) (t_1 : Int) (p_2 : Int) (h0 : Hp) (K : Bool → Hp → Prop) : Prop :=
  ∃ (I : Int → Int → Hp → Prop) (μ : Int → Int → Hp → Nat), I (IntKind.i64.wrap (t_1 + 1)) 0 h0 ∧ ∀ (x1 : Int) (x2 : Int) (h : Hp), I x1 x2 h → D_slices_partialInsertionSortOrdered_string_l7 d_0 t_1 p_2 K x1 x2 h (fun x1' x2' h' => I x1' x2' h' ∧ μ x1' x2' h' < μ x1 x2 h)

/-! slices.partitionEqualOrdered[string] -/
def D_slices_partitionEqualOrdered_string_j1 (d_0 : Sl) (K : Int → Hp → Prop) (a1 : Addr) (C28 : Int → Int → Hp → Prop) (x29 : Int) (x35 : Int) (C37 : Int → Hp → Prop) (x38 : Bool) (hz39 : Hp) : Prop :=
  if x38 = true then
    C37 (IntKind.i64.wrap (x35 - 1)) hz39
  else
    if (decide (x29 > x35)) = true then
      K x29 hz39
    else
      (0 : Int) ≤ x35 ∧
      x35 < (d_0.len : Int) ∧
      ∃ x44 : ByteArray, cellH hz39 (a1.add (x35.toNat * 1)) = some (Value.string x44) ∧
      (0 : Int) ≤ x29 ∧
      x29 < (d_0.len : Int) ∧
      ∃ x48 : ByteArray, cellH hz39 (a1.add (x29.toNat * 1)) = some (Value.string x48) ∧
      (0 : Int) ≤ x29 ∧
      x29 < (d_0.len : Int) ∧
      ∃ u53 : Value, cellH hz39 (a1.add (x29.toNat * 1)) = some u53 ∧
      frozenH hz39 (a1.add (x29.toNat * 1)) = false ∧
      ∀ hz52 : Hp, hz52 = setH hz39 (a1.add (x29.toNat * 1)) (Value.string x44) →
      cellH hz52 (a1.add (x35.toNat * 1)) = some (Value.string x44) ∧ cellH hz52 (a1.add (x29.toNat * 1)) = some (Value.string x48) ∧
      (0 : Int) ≤ x35 ∧
      x35 < (d_0.len : Int) ∧
      ∃ u60 : Value, cellH hz52 (a1.add (x35.toNat * 1)) = some u60 ∧
      frozenH hz52 (a1.add (x35.toNat * 1)) = false ∧
      ∀ hz59 : Hp, hz59 = setH hz52 (a1.add (x35.toNat * 1)) (Value.string x48) →
      C28 (IntKind.i64.wrap (x29 + 1)) (IntKind.i64.wrap (x35 - 1)) hz59
def D_slices_partitionEqualOrdered_string_l2 (d_0 : Sl) (t_1 : Int) (K : Int → Hp → Prop) (a1 : Addr) (C28 : Int → Int → Hp → Prop) (x29 : Int) (x35 : Int) (hz36 : Hp) (C37 : Int → Hp → Prop) : Prop :=
  if (decide (x29 ≤ x35)) = true then
    (0 : Int) ≤ t_1 ∧
    t_1 < (d_0.len : Int) ∧
    ∃ x67 : ByteArray, cellH hz36 (a1.add (t_1.toNat * 1)) = some (Value.string x67) ∧
    (0 : Int) ≤ x35 ∧
    x35 < (d_0.len : Int) ∧
    ∃ x71 : ByteArray, cellH hz36 (a1.add (x35.toNat * 1)) = some (Value.string x71) ∧
    C_cmp_Less_string x67 x71 hz36 fun r74 hz73 =>
    cellH hz73 (a1.add (t_1.toNat * 1)) = some (Value.string x67) ∧ cellH hz73 (a1.add (x35.toNat * 1)) = some (Value.string x71) ∧
    D_slices_partitionEqualOrdered_string_j1 d_0 K a1 C28 x29 x35 C37 r74 hz73
  else
    D_slices_partitionEqualOrdered_string_j1 d_0 K a1 C28 x29 x35 C37 false hz36
def D_slices_partitionEqualOrdered_string_j3 (d_0 : Sl) (t_1 : Int) (K : Int → Hp → Prop) (a1 : Addr) (x26 : Int) (C28 : Int → Int → Hp → Prop) (x29 : Int) (C31 : Int → Hp → Prop) (x32 : Bool) (hz33 : Hp) : Prop :=
  if x32 = true then
    C31 (IntKind.i64.wrap (x29 + 1)) hz33
  else
    ∃ (I : Int → Hp → Prop) (μ : Int → Hp → Nat), I x26 hz33 ∧ ∀ (x35 : Int) (h : Hp), I x35 h → D_slices_partitionEqualOrdered_string_l2 d_0 t_1 K a1 C28 x29 x35 h (fun x35' h' => I x35' h' ∧ μ x35' h' < μ x35 h)
def D_slices_partitionEqualOrdered_string_l4 (d_0 : Sl) (t_1 : Int) (K : Int → Hp → Prop) (a1 : Addr) (x26 : Int) (C28 : Int → Int → Hp → Prop) (x29 : Int) (hz30 : Hp) (C31 : Int → Hp → Prop) : Prop :=
  if (decide (x29 ≤ x26)) = true then
    (0 : Int) ≤ t_1 ∧
    t_1 < (d_0.len : Int) ∧
    ∃ x82 : ByteArray, cellH hz30 (a1.add (t_1.toNat * 1)) = some (Value.string x82) ∧
    (0 : Int) ≤ x29 ∧
    x29 < (d_0.len : Int) ∧
    ∃ x86 : ByteArray, cellH hz30 (a1.add (x29.toNat * 1)) = some (Value.string x86) ∧
    C_cmp_Less_string x82 x86 hz30 fun r89 hz88 =>
    cellH hz88 (a1.add (t_1.toNat * 1)) = some (Value.string x82) ∧ cellH hz88 (a1.add (x29.toNat * 1)) = some (Value.string x86) ∧
    D_slices_partitionEqualOrdered_string_j3 d_0 t_1 K a1 x26 C28 x29 C31 (!r89) hz88
  else
    D_slices_partitionEqualOrdered_string_j3 d_0 t_1 K a1 x26 C28 x29 C31 false hz30
def D_slices_partitionEqualOrdered_string_l5 (d_0 : Sl) (t_1 : Int) (K : Int → Hp → Prop) (a1 : Addr) (x25 : Int) (x26 : Int) (hz27 : Hp) (C28 : Int → Int → Hp → Prop) : Prop :=
  ∃ (I : Int → Hp → Prop) (μ : Int → Hp → Nat), I x25 hz27 ∧ ∀ (x29 : Int) (h : Hp), I x29 h → D_slices_partitionEqualOrdered_string_l4 d_0 t_1 K a1 x26 C28 x29 h (fun x29' h' => I x29' h' ∧ μ x29' h' < μ x29 h)
def D_slices_partitionEqualOrdered_string (d_0 : Sl) (t_1 : Int) (p_2 : Int) (p_3 : Int) (h0 : Hp) (K : Int → Hp → Prop) : Prop :=
  ∃ a1 : Addr, d_0.a = some a1 ∧
  (0 : Int) ≤ p_3 ∧
  p_3 < (d_0.len : Int) ∧
  ∃ x5 : ByteArray, cellH h0 (a1.add (p_3.toNat * 1)) = some (Value.string x5) ∧
  (0 : Int) ≤ t_1 ∧
  t_1 < (d_0.len : Int) ∧
  ∃ x9 : ByteArray, cellH h0 (a1.add (t_1.toNat * 1)) = some (Value.string x9) ∧
  (0 : Int) ≤ t_1 ∧
  t_1 < (d_0.len : Int) ∧
  ∃ u14 : Value, cellH h0 (a1.add (t_1.toNat * 1)) = some u14 ∧
  frozenH h0 (a1.add (t_1.toNat * 1)) = false ∧
  ∀ hz13 : Hp, hz13 = setH h0 (a1.add (t_1.toNat * 1)) (Value.string x5) →
  cellH hz13 (a1.add (p_3.toNat * 1)) = some (Value.string x5) ∧ cellH hz13 (a1.add (t_1.toNat * 1)) = some (Value.string x9) ∧
  (0 : Int) ≤ p_3 ∧
  p_3 < (d_0.len : Int) ∧
  ∃ u21 : Value, cellH hz13 (a1.add (p_3.toNat * 1)) = some u21 ∧
  frozenH hz13 (a1.add (p_3.toNat * 1)) = false ∧
  ∀ hz20 : Hp, hz20 = setH hz13 (a1.add (p_3.toNat * 1)) (Value.string x9) →
  ∃ (I : Int → Int → Hp → Prop) (μ : Int → Int → Hp → Nat), I (IntKind.i64.wrap (t_1 + 1)) (IntKind.i64.wrap (p_2 - 1)) hz20 ∧ ∀ (x25 : Int) (x26 : Int) (h : Hp), I x25 x26 h → D_slices_partitionEqualOrdered_string_l5 d_0 t_1 K a1 x25 x26 h (fun x25' x26' h' => I x25' x26' h' ∧ μ x25' x26' h' < μ x25 x26 h)

/-! slices.partitionOrdered[string] -/
def D_slices_partitionOrdered_string_j1 (d_0 : Sl) (t_1 : Int) (K : Int → Bool → Hp → Prop) (a1 : Addr) (C85 : Int → Int → Hp → Prop) (x86 : Int) (x92 : Int) (C94 : Int → Hp → Prop) (x95 : Bool) (hz96 : Hp) : Prop :=
  if x95 = true then
    C94 (IntKind.i64.wrap (x92 - 1)) hz96
  else
    if (decide (x86 > x92)) = true then
      (0 : Int) ≤ t_1 ∧
      t_1 < (d_0.len : Int) ∧
      ∃ x101 : ByteArray, cellH hz96 (a1.add (t_1.toNat * 1)) = some (Value.string x101) ∧
      (0 : Int) ≤ x92 ∧
      x92 < (d_0.len : Int) ∧
      ∃ x105 : ByteArray, cellH hz96 (a1.add (x92.toNat * 1)) = some (Value.string x105) ∧
      (0 : Int) ≤ x92 ∧
      x92 < (d_0.len : Int) ∧
      ∃ u110 : Value, cellH hz96 (a1.add (x92.toNat * 1)) = some u110 ∧
      frozenH hz96 (a1.add (x92.toNat * 1)) = false ∧
      ∀ hz109 : Hp, hz109 = setH hz96 (a1.add (x92.toNat * 1)) (Value.string x101) →
      cellH hz109 (a1.add (t_1.toNat * 1)) = some (Value.string x101) ∧ cellH hz109 (a1.add (x92.toNat * 1)) = some (Value.string x105) ∧
      (0 : Int) ≤ t_1 ∧
      t_1 < (d_0.len : Int) ∧
      ∃ u117 : Value, cellH hz109 (a1.add (t_1.toNat * 1)) = some u117 ∧
      frozenH hz109 (a1.add (t_1.toNat * 1)) = false ∧
      ∀ hz116 : Hp, hz116 = setH hz109 (a1.add (t_1.toNat * 1)) (Value.string x105) →
      K x92 false hz116
    else
      (0 : Int) ≤ x92 ∧
      x92 < (d_0.len : Int) ∧
      ∃ x123 : ByteArray, cellH hz96 (a1.add (x92.toNat * 1)) = some (Value.string x123) ∧
      (0 : Int) ≤ x86 ∧
      x86 < (d_0.len : Int) ∧
      ∃ x127 : ByteArray, cellH hz96 (a1.add (x86.toNat * 1)) = some (Value.string x127) ∧
      (0 : Int) ≤ x86 ∧
      x86 < (d_0.len : Int) ∧
      ∃ u132 : Value, cellH hz96 (a1.add (x86.toNat * 1)) = some u132 ∧
      frozenH hz96 (a1.add (x86.toNat * 1)) = false ∧
      ∀ hz131 : Hp, hz131 = setH hz96 (a1.add (x86.toNat * 1)) (Value.string x123) →
      cellH hz131 (a1.add (x92.toNat * 1)) = some (Value.string x123) ∧ cellH hz131 (a1.add (x86.toNat * 1)) = some (Value.string x127) ∧
      (0 : Int) ≤ x92 ∧
      x92 < (d_0.len : Int) ∧
      ∃ u139 : Value, cellH hz131 (a1.add (x92.toNat * 1)) = some u139 ∧
      frozenH hz131 (a1.add (x92.toNat * 1)) = false ∧
      ∀ hz138 : Hp, hz138 = setH hz131 (a1.add (x92.toNat * 1)) (Value.string x127) →
      C85 (IntKind.i64.wrap (x86 + 1)) (IntKind.i64.wrap (x92 - 1)) hz138
def D_slices_partitionOrdered_string_l2 (d_0 : Sl) (t_1 : Int) (K : Int → Bool → Hp → Prop) (a1 : Addr) (C85 : Int → Int → Hp → Prop) (x86 : Int) (x92 : Int) (hz93 : Hp) (C94 : Int → Hp → Prop) : Prop :=
  if (decide (x86 ≤ x92)) = true then
    (0 : Int) ≤ x92 ∧
    x92 < (d_0.len : Int) ∧
    ∃ x146 : ByteArray, cellH hz93 (a1.add (x92.toNat * 1)) = some (Value.string x146) ∧
    (0 : Int) ≤ t_1 ∧
    t_1 < (d_0.len : Int) ∧
    ∃ x150 : ByteArray, cellH hz93 (a1.add (t_1.toNat * 1)) = some (Value.string x150) ∧
    C_cmp_Less_string x146 x150 hz93 fun r153 hz152 =>
    cellH hz152 (a1.add (x92.toNat * 1)) = some (Value.string x146) ∧ cellH hz152 (a1.add (t_1.toNat * 1)) = some (Value.string x150) ∧
    D_slices_partitionOrdered_string_j1 d_0 t_1 K a1 C85 x86 x92 C94 (!r153) hz152
  else
    D_slices_partitionOrdered_string_j1 d_0 t_1 K a1 C85 x86 x92 C94 false hz93
def D_slices_partitionOrdered_string_j3 (d_0 : Sl) (t_1 : Int) (K : Int → Bool → Hp → Prop) (a1 : Addr) (x83 : Int) (C85 : Int → Int → Hp → Prop) (x86 : Int) (C88 : Int → Hp → Prop) (x89 : Bool) (hz90 : Hp) : Prop :=
  if x89 = true then
    C88 (IntKind.i64.wrap (x86 + 1)) hz90
  else
    ∃ (I : Int → Hp → Prop) (μ : Int → Hp → Nat), I x83 hz90 ∧ ∀ (x92 : Int) (h : Hp), I x92 h → D_slices_partitionOrdered_string_l2 d_0 t_1 K a1 C85 x86 x92 h (fun x92' h' => I x92' h' ∧ μ x92' h' < μ x92 h)
def D_slices_partitionOrdered_string_l4 (d_0 : Sl) (t_1 : Int) (K : Int → Bool → Hp → Prop) (a1 : Addr) (x83 : Int) (C85 : Int → Int → Hp → Prop) (x86 : Int) (hz87 : Hp) (C88 : Int → Hp → Prop) : Prop :=
  if (decide (x86 ≤ x83)) = true then
    (0 : Int) ≤ x86 ∧
    x86 < (d_0.len : Int) ∧
    ∃ x161 : ByteArray, cellH hz87 (a1.add (x86.toNat * 1)) = some (Value.string x161) ∧
    (0 : Int) ≤ t_1 ∧
    t_1 < (d_0.len : Int) ∧
    ∃ x165 : ByteArray, cellH hz87 (a1.add (t_1.toNat * 1)) = some (Value.string x165) ∧
    C_cmp_Less_string x161 x165 hz87 fun r168 hz167 =>
    cellH hz167 (a1.add (x86.toNat * 1)) = some (Value.string x161) ∧ cellH hz167 (a1.add (t_1.toNat * 1)) = some (Value.string x165) ∧
    D_slices_partitionOrdered_string_j3 d_0 t_1 K a1 x83 C85 x86 C88 r168 hz167
  else
    D_slices_partitionOrdered_string_j3 d_0 t_1 K a1 x83 C85 x86 C88 false hz87
def D_slices_partitionOrdered_string_l5 (d_0 : Sl) (t_1 : Int) (K : Int → Bool → Hp → Prop) (a1 : Addr) (x82 : Int) (x83 : Int) (hz84 : Hp) (C85 : Int → Int → Hp → Prop) : Prop :=
  ∃ (I : Int → Hp → Prop) (μ : Int → Hp → Nat), I x82 hz84 ∧ ∀ (x86 : Int) (h : Hp), I x86 h → D_slices_partitionOrdered_string_l4 d_0 t_1 K a1 x83 C85 x86 h (fun x86' h' => I x86' h' ∧ μ x86' h' < μ x86 h)
def D_slices_partitionOrdered_string_j6 (d_0 : Sl) (t_1 : Int) (K : Int → Bool → Hp → Prop) (a1 : Addr) (x25 : Int) (x31 : Int) (C33 : Int → Hp → Prop) (x34 : Bool) (hz35 : Hp) : Prop :=
  if x34 = true then
    C33 (IntKind.i64.wrap (x31 - 1)) hz35
  else
    if (decide (x25 > x31)) = true then
      (0 : Int) ≤ t_1 ∧
      t_1 < (d_0.len : Int) ∧
      ∃ x40 : ByteArray, cellH hz35 (a1.add (t_1.toNat * 1)) = some (Value.string x40) ∧
      (0 : Int) ≤ x31 ∧
      x31 < (d_0.len : Int) ∧
      ∃ x44 : ByteArray, cellH hz35 (a1.add (x31.toNat * 1)) = some (Value.string x44) ∧
      (0 : Int) ≤ x31 ∧
      x31 < (d_0.len : Int) ∧
      ∃ u49 : Value, cellH hz35 (a1.add (x31.toNat * 1)) = some u49 ∧
      frozenH hz35 (a1.add (x31.toNat * 1)) = false ∧
      ∀ hz48 : Hp, hz48 = setH hz35 (a1.add (x31.toNat * 1)) (Value.string x40) →
      cellH hz48 (a1.add (t_1.toNat * 1)) = some (Value.string x40) ∧ cellH hz48 (a1.add (x31.toNat * 1)) = some (Value.string x44) ∧
      (0 : Int) ≤ t_1 ∧
      t_1 < (d_0.len : Int) ∧
      ∃ u56 : Value, cellH hz48 (a1.add (t_1.toNat * 1)) = some u56 ∧
      frozenH hz48 (a1.add (t_1.toNat * 1)) = false ∧
      ∀ hz55 : Hp, hz55 = setH hz48 (a1.add (t_1.toNat * 1)) (Value.string x44) →
      K x31 true hz55
    else
      (0 : Int) ≤ x31 ∧
      x31 < (d_0.len : Int) ∧
      ∃ x62 : ByteArray, cellH hz35 (a1.add (x31.toNat * 1)) = some (Value.string x62) ∧
      (0 : Int) ≤ x25 ∧
      x25 < (d_0.len : Int) ∧
      ∃ x66 : ByteArray, cellH hz35 (a1.add (x25.toNat * 1)) = some (Value.string x66) ∧
      (0 : Int) ≤ x25 ∧
      x25 < (d_0.len : Int) ∧
      ∃ u71 : Value, cellH hz35 (a1.add (x25.toNat * 1)) = some u71 ∧
      frozenH hz35 (a1.add (x25.toNat * 1)) = false ∧
      ∀ hz70 : Hp, hz70 = setH hz35 (a1.add (x25.toNat * 1)) (Value.string x62) →
      cellH hz70 (a1.add (x31.toNat * 1)) = some (Value.string x62) ∧ cellH hz70 (a1.add (x25.toNat * 1)) = some (Value.string x66) ∧
      (0 : Int) ≤ x31 ∧
      x31 < (d_0.len : Int) ∧
      ∃ u78 : Value, cellH hz70 (a1.add (x31.toNat * 1)) = some u78 ∧
      frozenH hz70 (a1.add (x31.toNat * 1)) = false ∧
      ∀ hz77 : Hp, hz77 = setH hz70 (a1.add (x31.toNat * 1)) (Value.string x66) →
      ∃ (I : Int → Int → Hp → Prop) (μ : Int → Int → Hp → Nat), I (IntKind.i64.wrap (x25 + 1)) (IntKind.i64.wrap (x31 - 1)) hz77 ∧ ∀ (x82 : Int) (x83 : Int) (h : Hp), I x82 x83 h → D_slices_partitionOrdered_string_l5 d_0 t_1 K a1 x82 x83 h (fun x82' x83' h' => I x82' x83' h' ∧ μ x82' x83' h' < μ x82 x83 h)
def D_slices_partitionOrdered_string_l7 (d_0 : Sl) (t_1 : Int) (K : Int → Bool → Hp → Prop) (a1 : Addr) (x25 : Int) (x31 : Int) (hz32 : Hp) (C33 : Int → Hp → Prop) : Prop :=
  if (decide (x25 ≤ x31)) = true then
    (0 : Int) ≤ x31 ∧
    x31 < (d_0.len : Int) ∧
    ∃ x178 : ByteArray, cellH hz32 (a1.add (x31.toNat * 1)) = some (Value.string x178) ∧
    (0 : Int) ≤ t_1 ∧
    t_1 < (d_0.len : Int) ∧
    ∃ x182 : ByteArray, cellH hz32 (a1.add (t_1.toNat * 1)) = some (Value.string x182) ∧
    C_cmp_Less_string x178 x182 hz32 fun r185 hz184 =>
    cellH hz184 (a1.add (x31.toNat * 1)) = some (Value.string x178) ∧ cellH hz184 (a1.add (t_1.toNat * 1)) = some (Value.string x182) ∧
    D_slices_partitionOrdered_string_j6 d_0 t_1 K a1 x25 x31 C33 (!r185) hz184
  else
    D_slices_partitionOrdered_string_j6 d_0 t_1 K a1 x25 x31 C33 false hz32
def D_slices_partitionOrdered_string_j8 (d_0 : Sl) (t_1 : Int) (p_2 : Int) (K : Int → Bool → Hp → Prop) (a1 : Addr) (x25 : Int) (C27 : Int → Hp → Prop) (x28 : Bool) (hz29 : Hp) : Prop :=
  if x28 = true then
    C27 (IntKind.i64.wrap (x25 + 1)) hz29
  else
    ∃ (I : Int → Hp → Prop) (μ : Int → Hp → Nat), I (IntKind.i64.wrap (p_2 - 1)) hz29 ∧ ∀ (x31 : Int) (h : Hp), I x31 h → D_slices_partitionOrdered_string_l7 d_0 t_1 K a1 x25 x31 h (fun x31' h' => I x31' h' ∧ μ x31' h' < μ x31 h)
def D_slices_partitionOrdered_string_l9 (d_0 : Sl) (t_1 : Int) (p_2 : Int) (K : Int → Bool → Hp → Prop) (a1 : Addr) (x25 : Int) (hz26 : Hp) (C27 : Int → Hp → Prop) : Prop :=
  if (decide (x25 ≤ (IntKind.i64.wrap (p_2 - 1)))) = true then
    (0 : Int) ≤ x25 ∧
    x25 < (d_0.len : Int) ∧
    ∃ x193 : ByteArray, cellH hz26 (a1.add (x25.toNat * 1)) = some (Value.string x193) ∧
    (0 : Int) ≤ t_1 ∧
    t_1 < (d_0.len : Int) ∧
    ∃ x197 : ByteArray, cellH hz26 (a1.add (t_1.toNat * 1)) = some (Value.string x197) ∧
    C_cmp_Less_string x193 x197 hz26 fun r200 hz199 =>
    cellH hz199 (a1.add (x25.toNat * 1)) = some (Value.string x193) ∧ cellH hz199 (a1.add (t_1.toNat * 1)) = some (Value.string x197) ∧
    D_slices_partitionOrdered_string_j8 d_0 t_1 p_2 K a1 x25 C27 r200 hz199
  else
    D_slices_partitionOrdered_string_j8 d_0 t_1 p_2 K a1 x25 C27 false hz26
def D_slices_partitionOrdered_string (d_0 : Sl) (t_1 : Int) (p_2 : Int) (p_3 : Int) (h0 : Hp) (K : Int → Bool → Hp → Prop) : Prop :=
  ∃ a1 : Addr, d_0.a = some a1 ∧
  (0 : Int) ≤ p_3 ∧
  p_3 < (d_0.len : Int) ∧
  ∃ x5 : ByteArray, cellH h0 (a1.add (p_3.toNat * 1)) = some (Value.string x5) ∧
  (0 : Int) ≤ t_1 ∧
  t_1 < (d_0.len : Int) ∧
  ∃ x9 : ByteArray, cellH h0 (a1.add (t_1.toNat * 1)) = some (Value.string x9) ∧
  (0 : Int) ≤ t_1 ∧
  t_1 < (d_0.len : Int) ∧
  ∃ u14 : Value, cellH h0 (a1.add (t_1.toNat * 1)) = some u14 ∧
  frozenH h0 (a1.add (t_1.toNat * 1)) = false ∧
  ∀ hz13 : Hp, hz13 = setH h0 (a1.add (t_1.toNat * 1)) (Value.string x5) →
  cellH hz13 (a1.add (p_3.toNat * 1)) = some (Value.string x5) ∧ cellH hz13 (a1.add (t_1.toNat * 1)) = some (Value.string x9) ∧
  (0 : Int) ≤ p_3 ∧
  p_3 < (d_0.len : Int) ∧
  ∃ u21 : Value, cellH hz13 (a1.add (p_3.toNat * 1)) = some u21 ∧
  frozenH hz13 (a1.add (p_3.toNat * 1)) = false ∧
  ∀ hz20 : Hp, hz20 = setH hz13 (a1.add (p_3.toNat * 1)) (Value.string x9) →
  ∃ (I : Int → Hp → Prop) (μ : Int → Hp → Nat), I (IntKind.i64.wrap (t_1 + 1)) hz20 ∧ ∀ (x25 : Int) (h : Hp), I x25 h → D_slices_partitionOrdered_string_l9 d_0 t_1 p_2 K a1 x25 h (fun x25' h' => I x25' h' ∧ μ x25' h' < μ x25 h)

/-! slices.pdqsortOrdered[string] -/
def D_slices_pdqsortOrdered_string_j1 (d_0 : Sl) (t1 : Int) (x2 : Int) (x4 : Bool) (x5 : Bool) (C7 : Int → Int → Int → Bool → Bool → Hp → Prop) (x12 : Int) (x17 : Int) (x21 : Bool) (hz22 : Hp) : Prop :=
  if x21 = true then
    C_slices_partitionEqualOrdered_string d_0 t1 x2 x17 hz22 fun r25 hz24 =>
    C7 r25 x2 x12 x4 x5 hz24
  else
    C_slices_partitionOrdered_string d_0 t1 x2 x17 hz22 fun r27 r28 hz26 =>
    if (decide ((IntKind.i64.wrap (r27 - t1)) < (IntKind.i64.wrap (x2 - r27)))) = true then
      C_slices_pdqsortOrdered_string d_0 t1 r27 x12 hz26 fun hz30 =>
      C7 (IntKind.i64.wrap (r27 + 1)) x2 x12 (decide ((IntKind.i64.wrap (r27 - t1)) ≥ (IntKind.i64.wrap (Int.tdiv (IntKind.i64.wrap (x2 - t1)) 8)))) r28 hz30
    else
      C_slices_pdqsortOrdered_string d_0 (IntKind.i64.wrap (r27 + 1)) x2 x12 hz26 fun hz31 =>
      C7 t1 r27 x12 (decide ((IntKind.i64.wrap (x2 - r27)) ≥ (IntKind.i64.wrap (Int.tdiv (IntKind.i64.wrap (x2 - t1)) 8)))) r28 hz31
def D_slices_pdqsortOrdered_string_j2 (d_0 : Sl) (t1 : Int) (x2 : Int) (x4 : Bool) (x5 : Bool) (C7 : Int → Int → Int → Bool → Bool → Hp → Prop) (x12 : Int) (x17 : Int) (hz20 : Hp) : Prop :=
  if (decide (t1 > (0 : Int))) = true then
    ∃ a33 : Addr, d_0.a = some a33 ∧
    (0 : Int) ≤ IntKind.i64.wrap (t1 - 1) ∧
    IntKind.i64.wrap (t1 - 1) < (d_0.len : Int) ∧
    ∃ x37 : ByteArray, cellH hz20 (a33.add ((IntKind.i64.wrap (t1 - 1)).toNat * 1)) = some (Value.string x37) ∧
    (0 : Int) ≤ x17 ∧
    x17 < (d_0.len : Int) ∧
    ∃ x41 : ByteArray, cellH hz20 (a33.add (x17.toNat * 1)) = some (Value.string x41) ∧
    C_cmp_Less_string x37 x41 hz20 fun r44 hz43 =>
    cellH hz43 (a33.add ((IntKind.i64.wrap (t1 - 1)).toNat * 1)) = some (Value.string x37) ∧ cellH hz43 (a33.add (x17.toNat * 1)) = some (Value.string x41) ∧
    D_slices_pdqsortOrdered_string_j1 d_0 t1 x2 x4 x5 C7 x12 x17 (!r44) hz43
  else
    D_slices_pdqsortOrdered_string_j1 d_0 t1 x2 x4 x5 C7 x12 x17 false hz20
def D_slices_pdqsortOrdered_string_j3 (d_0 : Sl) (K : Hp → Prop) (t1 : Int) (x2 : Int) (x4 : Bool) (x5 : Bool) (C7 : Int → Int → Int → Bool → Bool → Hp → Prop) (x12 : Int) (x17 : Int) (x47 : Bool) (hz48 : Hp) : Prop :=
  if x47 = true then
    C_slices_partialInsertionSortOrdered_string d_0 t1 x2 hz48 fun r51 hz50 =>
    if r51 = true then
      K hz50
    else
      D_slices_pdqsortOrdered_string_j2 d_0 t1 x2 x4 x5 C7 x12 x17 hz50
  else
    D_slices_pdqsortOrdered_string_j2 d_0 t1 x2 x4 x5 C7 x12 x17 hz48
def D_slices_pdqsortOrdered_string_j4 (d_0 : Sl) (K : Hp → Prop) (t1 : Int) (x2 : Int) (x4 : Bool) (x5 : Bool) (C7 : Int → Int → Int → Bool → Bool → Hp → Prop) (x12 : Int) (x17 : Int) (x18 : Int) (hz19 : Hp) : Prop :=
  if x4 = true then
    if x5 = true then
      D_slices_pdqsortOrdered_string_j3 d_0 K t1 x2 x4 x5 C7 x12 x17 (x18 == (1 : Int)) hz19
    else
      D_slices_pdqsortOrdered_string_j3 d_0 K t1 x2 x4 x5 C7 x12 x17 false hz19
  else
    D_slices_pdqsortOrdered_string_j3 d_0 K t1 x2 x4 x5 C7 x12 x17 false hz19
def D_slices_pdqsortOrdered_string_j5 (d_0 : Sl) (K : Hp → Prop) (t1 : Int) (x2 : Int) (x4 : Bool) (x5 : Bool) (C7 : Int → Int → Int → Bool → Bool → Hp → Prop) (x12 : Int) (hz13 : Hp) : Prop :=
  C_slices_choosePivotOrdered_string d_0 t1 x2 hz13 fun r15 r16 hz14 =>
  if (r16 == (2 : Int)) = true then
    C_slices_reverseRangeOrdered_string d_0 t1 x2 hz14 fun hz60 =>
    D_slices_pdqsortOrdered_string_j4 d_0 K t1 x2 x4 x5 C7 x12 (IntKind.i64.wrap ((IntKind.i64.wrap (x2 - 1)) - (IntKind.i64.wrap (r15 - t1)))) 1 hz60
  else
    D_slices_pdqsortOrdered_string_j4 d_0 K t1 x2 x4 x5 C7 x12 r15 r16 hz14
def D_slices_pdqsortOrdered_string_l6 (d_0 : Sl) (K : Hp → Prop) (t1 : Int) (x2 : Int) (x3 : Int) (x4 : Bool) (x5 : Bool) (hz6 : Hp) (C7 : Int → Int → Int → Bool → Bool → Hp → Prop) : Prop :=
  if (decide ((IntKind.i64.wrap (x2 - t1)) ≤ (12 : Int))) = true then
    C_slices_insertionSortOrdered_string d_0 t1 x2 hz6 fun hz9 =>
    K hz9
  else
    if (x3 == (0 : Int)) = true then
      C_slices_heapSortOrdered_string d_0 t1 x2 hz6 fun hz11 =>
      K hz11
    else
      if (!x4) = true then
        C_slices_breakPatternsOrdered_string d_0 t1 x2 hz6 fun hz64 =>
        D_slices_pdqsortOrdered_string_j5 d_0 K t1 x2 x4 x5 C7 (IntKind.i64.wrap (x3 - 1)) hz64
      else
        D_slices_pdqsortOrdered_string_j5 d_0 K t1 x2 x4 x5 C7 x3 hz6
def D_slices_pdqsortOrdered_string (d_0 : Sl) (t_1 : Int) (p_2 : Int) (p_3 : Int) (h0 : Hp) (K : Hp → Prop) : Prop :=
  ∃ (I : Int → Int → Int → Bool → Bool → Hp → Prop) (μ : Int → Int → Int → Bool → Bool → Hp → Nat), I t_1 p_2 p_3 true true h0 ∧ ∀ (t1 : Int) (x2 : Int) (x3 : Int) (x4 : Bool) (x5 : Bool) (h : Hp), I t1 x2 x3 x4 x5 h → D_slices_pdqsortOrdered_string_l6 d_0 K t1 x2 x3 x4 x5 h (fun t1' x2' x3' x4' x5' h' => I t1' x2' x3' x4' x5' h' ∧ μ t1' x2' x3' x4' x5' h' < μ t1 x2 x3 x4 x5 h)

/-! slices.Sort[[]string,string] -/
def D_slices_Sort_string_string (x_0 : Sl) (h0 : Hp) (K : Hp → Prop) : Prop :=
  C_bits_Len (IntKind.u64.wrap (x_0.len : Int)) h0 fun r2 hz1 =>
  C_slices_pdqsortOrdered_string x_0 0 (x_0.len : Int) r2 hz1 fun hz3 =>
  K hz3

/-! slices.Sorted[string] -/
def D_slices_Sorted_string (seq_0 : Value) (h0 : Hp) (K : Sl → Hp → Prop) : Prop :=
  C_slices_Collect_string seq_0 h0 fun r2 hz1 =>
  C_slices_Sort_string_string r2 hz1 fun hz3 =>
  K r2 hz3

/-! maps.Keys[barograph/disk.names,string,*barograph/disk.file] -/
def D_maps_Keys_disk_names_string_disk_file (m_0 : Option Nat) (h0 : Hp) (K : Value → Hp → Prop) : Prop :=
  ∀ hz1 : Hp, hz1 = h0.push (.cells #[Value.map m_0] T_disk_names) →
  K (Value.func (.func F_maps_Keys_disk_names_string_disk_file_1) #[] #[Value.pointer (some (blk h0.size))]) hz1

/-! (*barograph/disk.Disk).Names -/
def D_disk_Disk_Names (d_0 : Option Addr) (h0 : Hp) (K : Sl → Hp → Prop) : Prop :=
  ∃ a1 : Addr, d_0 = some a1 ∧
  ∃ x3 : Bool, cellH h0 (a1.add 4) = some (Value.bool x3) ∧
  if x3 = true then
    K (Sl.mk none 0 0) h0
  else
    ∃ x6 : Option Nat, cellH h0 (a1.add 1) = some (Value.map x6) ∧
    C_maps_Keys_disk_names_string_disk_file x6 h0 fun r9 hz8 =>
    C_slices_Sorted_string r9 hz8 fun r11 hz10 =>
    K r11 hz10

/-! barograph/wal.number -/
def D_wal_number_j1 (K : Int → Hp → Prop) (n10 : Int) (x11 : Int) (C13 : Int → Int → Hp → Prop) (x19 : Int) (x21 : Bool) (hz22 : Hp) : Prop :=
  if x21 = true then
    K 0 hz22
  else
    C13 (IntKind.i64.wrap ((IntKind.i64.wrap (10 * n10)) + (IntKind.i64.wrap (IntKind.u8.wrap (x19 - 48))))) (IntKind.i64.wrap (x11 + 1)) hz22
def D_wal_number_l2 (s_0 : ByteArray) (K : Int → Hp → Prop) (hz2 : Hp) (c7 : Nat) (n10 : Int) (x11 : Int) (hz12 : Hp) (C13 : Int → Int → Hp → Prop) : Prop :=
  if (decide (x11 < ((Sl.mk (some (blk hz2.size)) (s_0.extract 1 s_0.size).size c7).len : Int))) = true then
    ∃ a15 : Addr, (Sl.mk (some (blk hz2.size)) (s_0.extract 1 s_0.size).size c7).a = some a15 ∧
    (0 : Int) ≤ x11 ∧
    x11 < ((Sl.mk (some (blk hz2.size)) (s_0.extract 1 s_0.size).size c7).len : Int) ∧
    ∃ x19 : Int, cellH hz12 (a15.add (x11.toNat * 1)) = some (Value.int .u8 x19) ∧
    if (decide (x19 < (48 : Int))) = true then
      D_wal_number_j1 K n10 x11 C13 x19 true hz12
    else
      D_wal_number_j1 K n10 x11 C13 x19 (decide (x19 > (57 : Int))) hz12
  else
    K n10 hz12
def D_wal_number_j3 (s_0 : ByteArray) (K : Int → Hp → Prop) (x1 : Bool) (hz2 : Hp) : Prop :=
  if x1 = true then
    K 0 hz2
  else
    1 ≤ s_0.size ∧
    s_0.size ≤ s_0.size ∧
    ∀ (c7 : Nat) (hz6 : Hp), (s_0.extract 1 s_0.size).size ≤ c7 → hz6 = hz2.push (.cells ((u8s (s_0.extract 1 s_0.size)).toArray ++ Array.replicate (c7 - (s_0.extract 1 s_0.size).size) (.int .u8 0)) T_uint8 (c7, c7 + 1)) →
    ∃ (I : Int → Int → Hp → Prop) (μ : Int → Int → Hp → Nat), I 0 0 hz6 ∧ ∀ (n10 : Int) (x11 : Int) (h : Hp), I n10 x11 h → D_wal_number_l2 s_0 K hz2 c7 n10 x11 h (fun n10' x11' h' => I n10' x11' h' ∧ μ n10' x11' h' < μ n10 x11 h)
def D_wal_number (s_0 : ByteArray) (h0 : Hp) (K : Int → Hp → Prop) : Prop :=
  if ((s_0.size : Int) != (9 : Int)) = true then
    D_wal_number_j3 s_0 K true h0
  else
    (0 : Int) ≤ 0 ∧
    0 < (s_0.size : Int) ∧
    D_wal_number_j3 s_0 K ((bt s_0 0) != (119 : Int)) h0

/-! (*barograph/disk.Disk).Read -/
def D_disk_Disk_Read (d_0 : Option Addr) (name_1 : ByteArray) (h0 : Hp) (K : ByteArray → Int → Hp → Prop) : Prop :=
  ∃ a1 : Addr, d_0 = some a1 ∧
  ∃ x3 : Option Nat, cellH h0 (a1.add 1) = some (Value.map x3) ∧
  ∃ es5 : List MapEntry, mapEs h0 x3 = some es5 ∧
  strKeys es5 ∧
  ∃ v8 : Option Addr, ((idxS name_1 es5 0).map (·.2)).getD (Value.pointer none) = Value.pointer v8 ∧
  ∃ x10 : Bool, cellH h0 (a1.add 4) = some (Value.bool x10) ∧
  if x10 = true then
    K (ByteArray.mk #[]) 11 h0
  else
    if v8.isNone = true then
      K (ByteArray.mk #[]) 12 h0
    else
      ∃ a14 : Addr, v8 = some a14 ∧
      ∃ x16 : ByteArray, cellH h0 (a14.add 0) = some (Value.string x16) ∧
      K x16 0 h0

/-! barograph/sum.Bytes -/
def D_sum_Bytes (c_0 : Int) (h0 : Hp) (K : ByteArray → Hp → Prop) : Prop :=
  ∀ hz1 : Hp, hz1 = h0.push (.cells #[Value.int .u8 (IntKind.u8.wrap (Int.fdiv c_0 (2 ^ (min (Int.toNat 24) 32)))), Value.int .u8 (IntKind.u8.wrap (Int.fdiv c_0 (2 ^ (min (Int.toNat 16) 32)))), Value.int .u8 (IntKind.u8.wrap (Int.fdiv c_0 (2 ^ (min (Int.toNat 8) 32)))), Value.int .u8 (IntKind.u8.wrap c_0)] T_uint8) →
  ∃ x3 : ByteArray, bytesAt hz1 (Sl.mk (some (blk h0.size)) 4 4) x3 ∧
  K x3 hz1

/-! (*barograph/sum.masks).step -/
def D_sum_masks_step (m_0 : Option Addr) (c_1 : Int) (h0 : Hp) (K : Int → Hp → Prop) : Prop :=
  ∃ a1 : Addr, m_0 = some a1 ∧
  (0 : Int) ≤ bitsI .and .u32 c_1 1 ∧
  bitsI .and .u32 c_1 1 < 2 ∧
  ∃ x5 : Int, cellH h0 (a1.add ((bitsI .and .u32 c_1 1).toNat * 1)) = some (Value.int .u32 x5) ∧
  K (bitsI .xor .u32 (Int.fdiv c_1 (2 ^ (min (Int.toNat 1) 32))) x5) h0

/-! barograph/sum.More -/
def D_sum_More_l1 (h0 : Hp) (x7 : Int) (C9 : Int → Int → Hp → Prop) (c13 : Int) (x14 : Int) (hz15 : Hp) (C16 : Int → Int → Hp → Prop) : Prop :=
  if (decide (x14 < (8 : Int))) = true then
    C_sum_masks_step (some (blk h0.size)) c13 hz15 fun r19 hz18 =>
    C16 r19 (IntKind.i64.wrap (x14 + 1)) hz18
  else
    C9 c13 (IntKind.i64.wrap (x7 + 1)) hz15
def D_sum_More_l2 (s_1 : ByteArray) (h0 : Hp) (K : Int → Hp → Prop) (c6 : Int) (x7 : Int) (hz8 : Hp) (C9 : Int → Int → Hp → Prop) : Prop :=
  if (decide (x7 < (s_1.size : Int))) = true then
    (0 : Int) ≤ x7 ∧
    x7 < (s_1.size : Int) ∧
    ∃ (I : Int → Int → Hp → Prop) (μ : Int → Int → Hp → Nat), I (bitsI .xor .u32 c6 (IntKind.u32.wrap (bt s_1 x7))) 0 hz8 ∧ ∀ (c13 : Int) (x14 : Int) (h : Hp), I c13 x14 h → D_sum_More_l1 h0 x7 C9 c13 x14 h (fun c13' x14' h' => I c13' x14' h' ∧ μ c13' x14' h' < μ c13 x14 h)
  else
    K (bitsI .xor .u32 (IntKind.u32.max) c6) hz8
def D_sum_More (c_0 : Int) (s_1 : ByteArray) (h0 : Hp) (K : Int → Hp → Prop) : Prop :=
  ∀ hz1 : Hp, hz1 = h0.push (.cells #[Value.int .u32 0, Value.int .u32 0] T_sum_masks) →
  canPut (blk h0.size) hz1 0 [Value.int .u32 0, Value.int .u32 2197175160] ∧
  ∀ hz3 : Hp, hz3 = putsFrom (blk h0.size) hz1 0 [Value.int .u32 0, Value.int .u32 2197175160] →
  ∃ (I : Int → Int → Hp → Prop) (μ : Int → Int → Hp → Nat), I (bitsI .xor .u32 (IntKind.u32.max) c_0) 0 hz3 ∧ ∀ (c6 : Int) (x7 : Int) (h : Hp), I c6 x7 h → D_sum_More_l2 s_1 h0 K c6 x7 h (fun c6' x7' h' => I c6' x7' h' ∧ μ c6' x7' h' < μ c6 x7 h)

/-! barograph/sum.Of -/
def D_sum_Of (s_0 : ByteArray) (h0 : Hp) (K : Int → Hp → Prop) : Prop :=
  C_sum_More 0 s_0 h0 fun r2 hz1 =>
  K r2 hz1

/-! barograph/digits.GetNum -/
def D_digits_GetNum_l1 (s_0 : ByteArray) (K : Int → Int → Int → Hp → Prop) (hz9 : Hp) (n11 : Nat) (c16 : Nat) (n19 : Int) (x20 : Int) (hz21 : Hp) (C22 : Int → Int → Hp → Prop) : Prop :=
  if (decide (x20 < ((Sl.mk (some (blk hz9.size)) ((s_0.extract 1 s_0.size).extract 0 n11).size c16).len : Int))) = true then
    ∃ a24 : Addr, (Sl.mk (some (blk hz9.size)) ((s_0.extract 1 s_0.size).extract 0 n11).size c16).a = some a24 ∧
    (0 : Int) ≤ x20 ∧
    x20 < ((Sl.mk (some (blk hz9.size)) ((s_0.extract 1 s_0.size).extract 0 n11).size c16).len : Int) ∧
    ∃ x28 : Int, cellH hz21 (a24.add (x20.toNat * 1)) = some (Value.int .u8 x28) ∧
    C22 (bitsI .or .u64 (IntKind.u64.wrap (n19 * 2 ^ (min (Int.toNat 8) 64))) (IntKind.u64.wrap x28)) (IntKind.i64.wrap (x20 + 1)) hz21
  else
    K n19 (IntKind.i64.wrap (1 + (IntKind.i64.wrap (bt s_0 0)))) 0 hz21
def D_digits_GetNum_j2 (s_0 : ByteArray) (K : Int → Int → Int → Hp → Prop) (x8 : Bool) (hz9 : Hp) : Prop :=
  if x8 = true then
    K 0 0 3 hz9
  else
    ∃ n11 : Nat, IntKind.i64.wrap (bt s_0 0) = (n11 : Int) ∧
    0 ≤ n11 ∧
    n11 ≤ (s_0.extract 1 s_0.size).size ∧
    ∀ (c16 : Nat) (hz15 : Hp), ((s_0.extract 1 s_0.size).extract 0 n11).size ≤ c16 → hz15 = hz9.push (.cells ((u8s ((s_0.extract 1 s_0.size).extract 0 n11)).toArray ++ Array.replicate (c16 - ((s_0.extract 1 s_0.size).extract 0 n11).size) (.int .u8 0)) T_uint8 (c16, c16 + 1)) →
    ∃ (I : Int → Int → Hp → Prop) (μ : Int → Int → Hp → Nat), I 0 0 hz15 ∧ ∀ (n19 : Int) (x20 : Int) (h : Hp), I n19 x20 h → D_digits_GetNum_l1 s_0 K hz9 n11 c16 n19 x20 h (fun n19' x20' h' => I n19' x20' h' ∧ μ n19' x20' h' < μ n19 x20 h)
def D_digits_GetNum (s_0 : ByteArray) (h0 : Hp) (K : Int → Int → Int → Hp → Prop) : Prop :=
  if (s_0.toList == (ByteArray.mk #[]).toList) = true then
    K 0 0 1 h0
  else
    (0 : Int) ≤ 0 ∧
    0 < (s_0.size : Int) ∧
    1 ≤ s_0.size ∧
    s_0.size ≤ s_0.size ∧
    if (decide ((IntKind.i64.wrap (bt s_0 0)) > (8 : Int))) = true then
      K 0 0 2 h0
    else
      if (decide (((s_0.extract 1 s_0.size).size : Int) < (IntKind.i64.wrap (bt s_0 0)))) = true then
        K 0 0 1 h0
      else
        if (decide ((IntKind.i64.wrap (bt s_0 0)) > (0 : Int))) = true then
          (0 : Int) ≤ 0 ∧
          0 < ((s_0.extract 1 s_0.size).size : Int) ∧
          D_digits_GetNum_j2 s_0 K ((bt (s_0.extract 1 s_0.size) 0) == (0 : Int)) h0
        else
          D_digits_GetNum_j2 s_0 K false h0

/-! barograph/digits.GetText -/
def D_digits_GetText_j1 (s_0 : ByteArray) (K : ByteArray → Int → Int → Hp → Prop) (r2 : Int) (r3 : Int) (x6 : Bool) (hz7 : Hp) : Prop :=
  if x6 = true then
    K (ByteArray.mk #[]) 0 8 hz7
  else
    if (decide (r2 > (IntKind.u64.wrap (IntKind.i64.wrap ((s_0.size : Int) - r3))))) = true then
      K (ByteArray.mk #[]) 0 1 hz7
    else
      ∃ n10 : Nat, r3 = (n10 : Int) ∧
      ∃ n12 : Nat, IntKind.i64.wrap (r3 + (IntKind.i64.wrap r2)) = (n12 : Int) ∧
      n10 ≤ n12 ∧
      n12 ≤ s_0.size ∧
      K (s_0.extract n10 n12) (IntKind.i64.wrap (r3 + (IntKind.i64.wrap r2))) 0 hz7
def D_digits_GetText (s_0 : ByteArray) (most_1 : Int) (h0 : Hp) (K : ByteArray → Int → Int → Hp → Prop) : Prop :=
  C_digits_GetNum s_0 h0 fun r2 r3 r4 hz1 =>
  if (r4 != (0 : Int)) = true then
    K (ByteArray.mk #[]) 0 r4 hz1
  else
    if (decide (most_1 < (0 : Int))) = true then
      D_digits_GetText_j1 s_0 K r2 r3 true hz1
    else
      D_digits_GetText_j1 s_0 K r2 r3 (decide (r2 > (IntKind.u64.wrap most_1))) hz1

/-! barograph/frame.Get -/
def D_frame_Get (s_0 : ByteArray) (h0 : Hp) (K : Int → ByteArray → Int → Int → Hp → Prop) : Prop :=
  ∀ hz1 : Hp, hz1 = h0.push (.cells #[Value.int .i64 0, Value.string ByteArray.empty] T_frame_Frame) →
  if (s_0.toList == (ByteArray.mk #[]).toList) = true then
    canPut (blk h0.size) hz1 0 [Value.int .i64 0, Value.string ByteArray.empty] ∧
    ∀ hz4 : Hp, hz4 = putsFrom (blk h0.size) hz1 0 [Value.int .i64 0, Value.string ByteArray.empty] →
    ∃ y7 : Int, ∃ y8 : ByteArray, cellsAt hz4 (blk h0.size) [Value.int .i64 y7, Value.string y8] ∧
    K y7 y8 0 1 hz4
  else
    (0 : Int) ≤ 0 ∧
    0 < (s_0.size : Int) ∧
    if ((bt s_0 0) == (0 : Int)) = true then
      canPut (blk h0.size) hz1 0 [Value.int .i64 0, Value.string ByteArray.empty] ∧
      ∀ hz13 : Hp, hz13 = putsFrom (blk h0.size) hz1 0 [Value.int .i64 0, Value.string ByteArray.empty] →
      ∃ y16 : Int, ∃ y17 : ByteArray, cellsAt hz13 (blk h0.size) [Value.int .i64 y16, Value.string y17] ∧
      K y16 y17 0 5 hz13
    else
      1 ≤ s_0.size ∧
      s_0.size ≤ s_0.size ∧
      C_digits_GetText (s_0.extract 1 s_0.size) 65536 hz1 fun r22 r23 r24 hz21 =>
      if (r24 != (0 : Int)) = true then
        canPut (blk h0.size) hz21 0 [Value.int .i64 0, Value.string ByteArray.empty] ∧
        ∀ hz26 : Hp, hz26 = putsFrom (blk h0.size) hz21 0 [Value.int .i64 0, Value.string ByteArray.empty] →
        ∃ y29 : Int, ∃ y30 : ByteArray, cellsAt hz26 (blk h0.size) [Value.int .i64 y29, Value.string y30] ∧
        K y29 y30 0 r24 hz26
      else
        if (decide ((IntKind.i64.wrap ((IntKind.i64.wrap (r23 + 1)) + 4)) > (s_0.size : Int))) = true then
          canPut (blk h0.size) hz21 0 [Value.int .i64 0, Value.string ByteArray.empty] ∧
          ∀ hz33 : Hp, hz33 = putsFrom (blk h0.size) hz21 0 [Value.int .i64 0, Value.string ByteArray.empty] →
          ∃ y36 : Int, ∃ y37 : ByteArray, cellsAt hz33 (blk h0.size) [Value.int .i64 y36, Value.string y37] ∧
          K y36 y37 0 1 hz33
        else
          ∃ n39 : Nat, IntKind.i64.wrap (r23 + 1) = (n39 : Int) ∧
          ∃ n41 : Nat, IntKind.i64.wrap ((IntKind.i64.wrap (r23 + 1)) + 4) = (n41 : Int) ∧
          n39 ≤ n41 ∧
          n41 ≤ s_0.size ∧
          ∃ n45 : Nat, IntKind.i64.wrap (r23 + 1) = (n45 : Int) ∧
          0 ≤ n45 ∧
          n45 ≤ s_0.size ∧
          C_sum_Of (s_0.extract 0 n45) hz21 fun r50 hz49 =>
          C_sum_Bytes r50 hz49 fun r52 hz51 =>
          if (!((s_0.extract n39 n41).toList == r52.toList)) = true then
            canPut (blk h0.size) hz51 0 [Value.int .i64 0, Value.string ByteArray.empty] ∧
            ∀ hz54 : Hp, hz54 = putsFrom (blk h0.size) hz51 0 [Value.int .i64 0, Value.string ByteArray.empty] →
            ∃ y57 : Int, ∃ y58 : ByteArray, cellsAt hz54 (blk h0.size) [Value.int .i64 y57, Value.string y58] ∧
            K y57 y58 0 10 hz54
          else
            (0 : Int) ≤ 0 ∧
            0 < (s_0.size : Int) ∧
            canPut (blk h0.size) hz51 0 [Value.int .i64 (IntKind.i64.wrap (bt s_0 0)), Value.string r22] ∧
            ∀ hz62 : Hp, hz62 = putsFrom (blk h0.size) hz51 0 [Value.int .i64 (IntKind.i64.wrap (bt s_0 0)), Value.string r22] →
            ∃ y65 : Int, ∃ y66 : ByteArray, cellsAt hz62 (blk h0.size) [Value.int .i64 y65, Value.string y66] ∧
            K y65 y66 (IntKind.i64.wrap ((IntKind.i64.wrap (r23 + 1)) + 4)) 0 hz62

/-! barograph/wal.parse -/
def D_wal_parse_j1 (h0 : Hp) (K : Option Addr → Hp → Prop) (hz3 : Hp) : Prop :=
  K (some (blk h0.size)) hz3
def D_wal_parse_j2 (h0 : Hp) (K : Option Addr → Hp → Prop) (C5 : Hp → Prop) (r18 : Int) (x25 : Bool) (hz26 : Hp) : Prop :=
  if x25 = true then
    D_wal_parse_j1 h0 K hz26
  else
    ∃ x28 : Sl, cellH hz26 ((blk h0.size).add 1) = some (Sl.v x28) ∧
    ∃ x30 : Int, cellH hz26 ((blk h0.size).add 2) = some (Value.int .i64 x30) ∧
    ∀ hz32 : Hp, hz32 = hz26.push (.cells #[Value.int .i64 x30] T_int) →
    cellH hz32 ((blk h0.size).add 1) = some (Sl.v x28) ∧ cellH hz32 ((blk h0.size).add 2) = some (Value.int .i64 x30) ∧
    apd 1 8 T_int [Value.int .i64 0] hz32 x28 1 [Value.int .i64 x30] fun s35 hz34 =>
    cellH hz34 ((blk h0.size).add 1) = some (Sl.v x28) ∧ cellH hz34 ((blk h0.size).add 2) = some (Value.int .i64 x30) ∧
    ∃ u37 : Value, cellH hz34 ((blk h0.size).add 1) = some u37 ∧
    frozenH hz34 ((blk h0.size).add 1) = false ∧
    ∀ hz36 : Hp, hz36 = setH hz34 ((blk h0.size).add 1) (Sl.v s35) →
    ∃ x41 : Int, cellH hz36 ((blk h0.size).add 2) = some (Value.int .i64 x41) ∧
    ∃ u44 : Value, cellH hz36 ((blk h0.size).add 2) = some u44 ∧
    frozenH hz36 ((blk h0.size).add 2) = false ∧
    ∀ hz43 : Hp, hz43 = setH hz36 ((blk h0.size).add 2) (Value.int .i64 (IntKind.i64.wrap (x41 + r18))) →
    C5 hz43
def D_wal_parse_l3 (s_1 : ByteArray) (h0 : Hp) (K : Option Addr → Hp → Prop) (hz4 : Hp) (C5 : Hp → Prop) : Prop :=
  ∃ x6 : Int, cellH hz4 ((blk h0.size).add 2) = some (Value.int .i64 x6) ∧
  if (decide (x6 < (s_1.size : Int))) = true then
    ∃ x9 : Int, cellH hz4 ((blk h0.size).add 2) = some (Value.int .i64 x9) ∧
    ∃ n11 : Nat, x9 = (n11 : Int) ∧
    n11 ≤ s_1.size ∧
    s_1.size ≤ s_1.size ∧
    C_frame_Get (s_1.extract n11 s_1.size) hz4 fun r16 r17 r18 r19 hz15 =>
    ∀ hz20 : Hp, hz20 = hz15.push (.cells #[Value.int .i64 0, Value.string ByteArray.empty] T_frame_Frame) →
    canPut (blk hz15.size) hz20 0 [Value.int .i64 r16, Value.string r17] ∧
    ∀ hz22 : Hp, hz22 = putsFrom (blk hz15.size) hz20 0 [Value.int .i64 r16, Value.string r17] →
    if (r19 != (0 : Int)) = true then
      D_wal_parse_j2 h0 K C5 r18 true hz22
    else
      ∃ x49 : Int, cellH hz22 ((blk hz15.size).add 0) = some (Value.int .i64 x49) ∧
      D_wal_parse_j2 h0 K C5 r18 (x49 != (1 : Int)) hz22
  else
    D_wal_parse_j1 h0 K hz4
def D_wal_parse (first_0 : Int) (s_1 : ByteArray) (h0 : Hp) (K : Option Addr → Hp → Prop) : Prop :=
  ∀ hz1 : Hp, hz1 = h0.push (.cells #[Value.int .i64 first_0, Sl.v (Sl.mk none 0 0), Value.int .i64 0, Value.bool false] T_wal_segment) →
  ∃ (I : Hp → Prop) (μ : Hp → Nat), I hz1 ∧ ∀ (h : Hp), I h → D_wal_parse_l3 s_1 h0 K h (fun h' => I h' ∧ μ h' < μ h)

/-! (*barograph/wal.segment).last -/
def D_wal_segment_last (s_0 : Option Addr) (h0 : Hp) (K : Int → Hp → Prop) : Prop :=
  ∃ a1 : Addr, s_0 = some a1 ∧
  ∃ x3 : Int, cellH h0 (a1.add 0) = some (Value.int .i64 x3) ∧
  ∃ x5 : Sl, cellH h0 (a1.add 1) = some (Sl.v x5) ∧
  K (IntKind.i64.wrap ((IntKind.i64.wrap (x3 + (x5.len : Int))) - 1)) h0

/-! (*barograph/wal.Log).end -/
def D_wal_Log_end (l_0 : Option Addr) (h0 : Hp) (K : Int → Hp → Prop) : Prop :=
  ∃ a1 : Addr, l_0 = some a1 ∧
  ∃ x3 : Sl, cellH h0 (a1.add 1) = some (Sl.v x3) ∧
  if ((x3.len : Int) == (0 : Int)) = true then
    K 0 h0
  else
    ∃ x6 : Sl, cellH h0 (a1.add 1) = some (Sl.v x6) ∧
    ∃ x8 : Sl, cellH h0 (a1.add 1) = some (Sl.v x8) ∧
    ∃ a10 : Addr, x6.a = some a10 ∧
    (0 : Int) ≤ IntKind.i64.wrap ((x8.len : Int) - 1) ∧
    IntKind.i64.wrap ((x8.len : Int) - 1) < (x6.len : Int) ∧
    ∃ x14 : Option Addr, cellH h0 (a10.add ((IntKind.i64.wrap ((x8.len : Int) - 1)).toNat * 1)) = some (Value.pointer x14) ∧
    C_wal_segment_last x14 h0 fun r17 hz16 =>
    cellH hz16 (a1.add 1) = some (Sl.v x6) ∧ cellH hz16 (a1.add 1) = some (Sl.v x8) ∧ cellH hz16 (a10.add ((IntKind.i64.wrap ((x8.len : Int) - 1)).toNat * 1)) = some (Value.pointer x14) ∧
    K r17 hz16

/-! (*barograph/wal.Log).fits -/
def D_wal_Log_fits (l_0 : Option Addr) (x_1 : Option Addr) (base_2 : Int) (h0 : Hp) (K : Bool → Hp → Prop) : Prop :=
  ∃ a1 : Addr, x_1 = some a1 ∧
  ∃ x3 : Sl, cellH h0 (a1.add 1) = some (Sl.v x3) ∧
  if ((x3.len : Int) == (0 : Int)) = true then
    K false h0
  else
    ∃ a6 : Addr, l_0 = some a6 ∧
    ∃ x8 : Sl, cellH h0 (a6.add 1) = some (Sl.v x8) ∧
    if ((x8.len : Int) == (0 : Int)) = true then
      ∃ x11 : Int, cellH h0 (a1.add 0) = some (Value.int .i64 x11) ∧
      K (decide (x11 ≤ (IntKind.i64.wrap (base_2 + 1)))) h0
    else
      ∃ x13 : Int, cellH h0 (a1.add 0) = some (Value.int .i64 x13) ∧
      C_wal_Log_end l_0 h0 fun r16 hz15 =>
      cellH hz15 (a1.add 0) = some (Value.int .i64 x13) ∧
      K (x13 == (IntKind.i64.wrap (r16 + 1))) hz15

/-! maps.Clone[barograph/disk.names,string,*barograph/disk.file] -/
def D_maps_Clone_disk_names_string_disk_file (m_0 : Option Nat) (h0 : Hp) (K : Option Nat → Hp → Prop) : Prop :=
  if m_0.isNone = true then
    K none h0
  else
    ∃ r3 : Nat, ∃ es4 : Array MapEntry, ∃ clk5 : Nat, m_0 = some r3 ∧
    h0[r3]? = some (.map es4 clk5) ∧
    ∀ hz2 : Hp, hz2 = h0.push (.map es4 clk5) →
    K (some h0.size) hz2

/-! (*barograph/disk.Disk).write -/
def D_disk_Disk_write_j1 (d_0 : Option Addr) (K : Bool → Hp → Prop) (hz1 : Hp) : Prop :=
  ∃ a2 : Addr, d_0 = some a2 ∧
  ∃ x4 : Bool, cellH hz1 (a2.add 4) = some (Value.bool x4) ∧
  if x4 = true then
    K false hz1
  else
    ∃ x7 : Int, cellH hz1 (a2.add 5) = some (Value.int .i64 x7) ∧
    ∃ u10 : Value, cellH hz1 (a2.add 5) = some u10 ∧
    frozenH hz1 (a2.add 5) = false ∧
    ∀ hz9 : Hp, hz9 = setH hz1 (a2.add 5) (Value.int .i64 (maxI (IntKind.i64.wrap (x7 - 1)) (-1))) →
    K true hz9
def D_disk_Disk_write (d_0 : Option Addr) (h0 : Hp) (K : Bool → Hp → Prop) : Prop :=
  ∃ a14 : Addr, d_0 = some a14 ∧
  ∃ x16 : Int, cellH h0 (a14.add 5) = some (Value.int .i64 x16) ∧
  if (x16 == (0 : Int)) = true then
    ∃ u20 : Value, cellH h0 (a14.add 4) = some u20 ∧
    frozenH h0 (a14.add 4) = false ∧
    ∀ hz19 : Hp, hz19 = setH h0 (a14.add 4) (Value.bool true) →
    D_disk_Disk_write_j1 d_0 K hz19
  else
    D_disk_Disk_write_j1 d_0 K h0

/-! (*barograph/disk.Disk).SyncNames -/
def D_disk_Disk_SyncNames (d_0 : Option Addr) (h0 : Hp) (K : Int → Hp → Prop) : Prop :=
  C_disk_Disk_write d_0 h0 fun r2 hz1 =>
  if (!r2) = true then
    K 11 hz1
  else
    ∃ a4 : Addr, d_0 = some a4 ∧
    ∃ x6 : Option Nat, cellH hz1 (a4.add 1) = some (Value.map x6) ∧
    C_maps_Clone_disk_names_string_disk_file x6 hz1 fun r9 hz8 =>
    ∃ u11 : Value, cellH hz8 (a4.add 2) = some u11 ∧
    frozenH hz8 (a4.add 2) = false ∧
    ∀ hz10 : Hp, hz10 = setH hz8 (a4.add 2) (Value.map r9) →
    ∃ u16 : Value, cellH hz10 (a4.add 3) = some u16 ∧
    frozenH hz10 (a4.add 3) = false ∧
    ∀ hz15 : Hp, hz15 = setH hz10 (a4.add 3) (Sl.v (Sl.mk none 0 0)) →
    K 0 hz15

/-! (*barograph/disk.Disk).change -/
def D_disk_Disk_change (d_0 : Option Addr) (c_1 : Value) (h0 : Hp) (K : Hp → Prop) : Prop :=
  ∃ a1 : Addr, d_0 = some a1 ∧
  ∃ x3 : Option Nat, cellH h0 (a1.add 1) = some (Value.map x3) ∧
  ∃ (g18 : FuncId) (fi19 ca20 : List Value), c_1 = Value.func (.func g18) fi19.toArray ca20.toArray ∧ callable PROG g18 = true ∧
  CallsH PROG g18 (fi19 ++ [Value.map x3] ++ ca20).toArray h0 fun v hz5 => v = Value.tuple #[] ∧
  ∃ x6 : Sl, cellH hz5 (a1.add 3) = some (Sl.v x6) ∧
  leaf c_1 ∧
  ∀ hz8 : Hp, hz8 = hz5.push (.cells #[c_1] T_fn_disk_names) →
  apd 1 8 T_fn_disk_names [Value.nilFunc] hz8 x6 1 [c_1] fun s12 hz11 =>
  ∃ u14 : Value, cellH hz11 (a1.add 3) = some u14 ∧
  frozenH hz11 (a1.add 3) = false ∧
  ∀ hz13 : Hp, hz13 = setH hz11 (a1.add 3) (Sl.v s12) →
  K hz13

/-! (*barograph/disk.Disk).find -/
def D_disk_Disk_find (d_0 : Option Addr) (name_1 : ByteArray) (h0 : Hp) (K : Option Addr → Int → Hp → Prop) : Prop :=
  C_disk_Disk_write d_0 h0 fun r2 hz1 =>
  if (!r2) = true then
    K none 11 hz1
  else
    ∃ a4 : Addr, d_0 = some a4 ∧
    ∃ x6 : Option Nat, cellH hz1 (a4.add 1) = some (Value.map x6) ∧
    ∃ es8 : List MapEntry, mapEs hz1 x6 = some es8 ∧
    strKeys es8 ∧
    ∃ v11 : Option Addr, ((idxS name_1 es8 0).map (·.2)).getD (Value.pointer none) = Value.pointer v11 ∧
    if v11.isNone = true then
      K none 12 hz1
    else
      K v11 0 hz1

/-! (*barograph/disk.Disk).Remove -/
def D_disk_Disk_Remove_j1 (K : Int → Hp → Prop) (r7 : Int) (hz8 : Hp) : Prop :=
  K r7 hz8
def D_disk_Disk_Remove (d_0 : Option Addr) (name_1 : ByteArray) (h0 : Hp) (K : Int → Hp → Prop) : Prop :=
  ∀ hz1 : Hp, hz1 = h0.push (.cells #[Value.string name_1] T_string) →
  ∃ x3 : ByteArray, cellH hz1 (blk h0.size) = some (Value.string x3) ∧
  C_disk_Disk_find d_0 x3 hz1 fun _r6 r7 hz5 =>
  if (r7 == (0 : Int)) = true then
    C_disk_Disk_change d_0 (Value.func (.func F_disk_Disk_Remove_1) #[] #[Value.pointer (some (blk h0.size))]) hz5 fun hz10 =>
    D_disk_Disk_Remove_j1 K r7 hz10
  else
    D_disk_Disk_Remove_j1 K r7 hz5

/-! (*barograph/wal.Log).remove -/
def D_wal_Log_remove_l1 (l_0 : Option Addr) (files_1 : Sl) (K : Int → Hp → Prop) (x1 : Int) (hz2 : Hp) (C3 : Int → Hp → Prop) : Prop :=
  if (decide (x1 < (files_1.len : Int))) = true then
    ∃ a5 : Addr, files_1.a = some a5 ∧
    (0 : Int) ≤ x1 ∧
    x1 < (files_1.len : Int) ∧
    ∃ x9 : ByteArray, cellH hz2 (a5.add (x1.toNat * 1)) = some (Value.string x9) ∧
    ∃ a11 : Addr, l_0 = some a11 ∧
    ∃ x13 : Option Addr, cellH hz2 (a11.add 0) = some (Value.pointer x13) ∧
    C_disk_Disk_Remove x13 x9 hz2 fun r16 hz15 =>
    if (r16 != (0 : Int)) = true then
      K r16 hz15
    else
      C3 (IntKind.i64.wrap (x1 + 1)) hz15
  else
    if ((files_1.len : Int) == (0 : Int)) = true then
      K 0 hz2
    else
      ∃ a19 : Addr, l_0 = some a19 ∧
      ∃ x21 : Option Addr, cellH hz2 (a19.add 0) = some (Value.pointer x21) ∧
      C_disk_Disk_SyncNames x21 hz2 fun r24 hz23 =>
      K r24 hz23
def D_wal_Log_remove (l_0 : Option Addr) (files_1 : Sl) (h0 : Hp) (K : Int → Hp → Prop) : Prop :=
  ∃ (I : Int → Hp → Prop) (μ : Int → Hp → Nat), I 0 h0 ∧ ∀ (x1 : Int) (h : Hp), I x1 h → D_wal_Log_remove_l1 l_0 files_1 K x1 h (fun x1' h' => I x1' h' ∧ μ x1' h' < μ x1 h)

/-! barograph/wal.Open -/
def D_wal_Open_j1 (t_1 : Int) (K : Option Addr → Int → Hp → Prop) (hz4 : Hp) (r12 : Sl) (hz14 : Hp) : Prop :=
  ∃ x15 : Sl, cellH hz14 ((blk hz4.size).add 1) = some (Sl.v x15) ∧
  ∃ n17 : Nat, (x15.len : Int) = (n17 : Int) ∧
  n17 ≤ r12.len ∧
  r12.len ≤ r12.cap ∧
  C_wal_Log_remove (some (blk hz4.size)) (slCut r12 n17 r12.len 1) hz14 fun r22 hz21 =>
  if (r22 != (0 : Int)) = true then
    K none r22 hz21
  else
    C_wal_Log_end (some (blk hz4.size)) hz21 fun r25 hz24 =>
    ∃ u27 : Value, cellH hz24 ((blk hz4.size).add 4) = some u27 ∧
    frozenH hz24 ((blk hz4.size).add 4) = false ∧
    ∀ hz26 : Hp, hz26 = setH hz24 ((blk hz4.size).add 4) (Value.int .i64 (maxI t_1 r25)) →
    ∃ x31 : Int, cellH hz26 ((blk hz4.size).add 4) = some (Value.int .i64 x31) ∧
    ∃ u34 : Value, cellH hz26 ((blk hz4.size).add 5) = some u34 ∧
    frozenH hz26 ((blk hz4.size).add 5) = false ∧
    ∀ hz33 : Hp, hz33 = setH hz26 ((blk hz4.size).add 5) (Value.int .i64 x31) →
    K (some (blk hz4.size)) 0 hz33
def D_wal_Open_j2 (t_1 : Int) (K : Option Addr → Int → Hp → Prop) (hz4 : Hp) (r12 : Sl) (hz13 : Hp) : Prop :=
  C_wal_Log_end (some (blk hz4.size)) hz13 fun r39 hz38 =>
  if (decide (r39 < t_1)) = true then
    ∃ u42 : Value, cellH hz38 ((blk hz4.size).add 1) = some u42 ∧
    frozenH hz38 ((blk hz4.size).add 1) = false ∧
    ∀ hz41 : Hp, hz41 = setH hz38 ((blk hz4.size).add 1) (Sl.v (Sl.mk none 0 0)) →
    D_wal_Open_j1 t_1 K hz4 r12 hz41
  else
    D_wal_Open_j1 t_1 K hz4 r12 hz38
def D_wal_Open_l3 (d_0 : Option Addr) (t_1 : Int) (K : Option Addr → Int → Hp → Prop) (hz4 : Hp) (r12 : Sl) (x48 : Int) (hz49 : Hp) (C50 : Int → Hp → Prop) : Prop :=
  if (decide (x48 < (r12.len : Int))) = true then
    ∃ a52 : Addr, r12.a = some a52 ∧
    (0 : Int) ≤ x48 ∧
    x48 < (r12.len : Int) ∧
    ∃ x56 : ByteArray, cellH hz49 (a52.add (x48.toNat * 1)) = some (Value.string x56) ∧
    C_disk_Disk_Read d_0 x56 hz49 fun r59 _r60 hz58 =>
    C_wal_number x56 hz58 fun r62 hz61 =>
    C_wal_parse r62 r59 hz61 fun r64 hz63 =>
    C_wal_Log_fits (some (blk hz4.size)) r64 t_1 hz63 fun r66 hz65 =>
    if (!r66) = true then
      D_wal_Open_j2 t_1 K hz4 r12 hz65
    else
      ∃ x68 : Sl, cellH hz65 ((blk hz4.size).add 1) = some (Sl.v x68) ∧
      ∀ hz70 : Hp, hz70 = hz65.push (.cells #[Value.pointer r64] T_pt_wal_segment) →
      apd 1 8 T_pt_wal_segment [Value.pointer none] hz70 x68 1 [Value.pointer r64] fun s73 hz72 =>
      ∃ u75 : Value, cellH hz72 ((blk hz4.size).add 1) = some u75 ∧
      frozenH hz72 ((blk hz4.size).add 1) = false ∧
      ∀ hz74 : Hp, hz74 = setH hz72 ((blk hz4.size).add 1) (Sl.v s73) →
      C50 (IntKind.i64.wrap (x48 + 1)) hz74
  else
    D_wal_Open_j2 t_1 K hz4 r12 hz49
def D_wal_Open_j4 (d_0 : Option Addr) (t_1 : Int) (K : Option Addr → Int → Hp → Prop) (x1 : Bool) (hz2 : Hp) : Prop :=
  if x1 = true then
    K none 2 hz2
  else
    C_disk_Disk_Up d_0 hz2 fun r5 hz4 =>
    if (!r5) = true then
      K none 11 hz4
    else
      ∀ hz7 : Hp, hz7 = hz4.push (.cells #[Value.pointer d_0, Sl.v (Sl.mk none 0 0), Value.pointer none, Value.bool false, Value.int .i64 0, Value.int .i64 0] T_wal_Log) →
      C_disk_Disk_Names d_0 hz7 fun r10 hz9 =>
      C_slices_DeleteFunc_string_string r10 (Value.func (.func 16) #[] #[]) hz9 fun r12 hz11 =>
      ∃ (I : Int → Hp → Prop) (μ : Int → Hp → Nat), I 0 hz11 ∧ ∀ (x48 : Int) (h : Hp), I x48 h → D_wal_Open_l3 d_0 t_1 K hz4 r12 x48 h (fun x48' h' => I x48' h' ∧ μ x48' h' < μ x48 h)
def D_wal_Open (d_0 : Option Addr) (t_1 : Int) (h0 : Hp) (K : Option Addr → Int → Hp → Prop) : Prop :=
  if (decide (t_1 < (0 : Int))) = true then
    D_wal_Open_j4 d_0 t_1 K true h0
  else
    D_wal_Open_j4 d_0 t_1 K (decide (t_1 ≥ (99999999 : Int))) h0

/-! barograph/digits.Num -/
def D_digits_Num_l1 (h0 : Hp) (K : ByteArray → Hp → Prop) (n3 : Int) (i4 : Int) (hz5 : Hp) (C6 : Int → Int → Hp → Prop) : Prop :=
  if (decide (n3 > (0 : Int))) = true then
    (0 : Int) ≤ IntKind.i64.wrap (i4 - 1) ∧
    IntKind.i64.wrap (i4 - 1) < 9 ∧
    ∃ u11 : Value, cellH hz5 ((blk h0.size).add ((IntKind.i64.wrap (i4 - 1)).toNat * 1)) = some u11 ∧
    frozenH hz5 ((blk h0.size).add ((IntKind.i64.wrap (i4 - 1)).toNat * 1)) = false ∧
    ∀ hz10 : Hp, hz10 = setH hz5 ((blk h0.size).add ((IntKind.i64.wrap (i4 - 1)).toNat * 1)) (Value.int .u8 (IntKind.u8.wrap n3)) →
    C6 (Int.fdiv n3 (2 ^ (min (Int.toNat 8) 64))) (IntKind.i64.wrap (i4 - 1)) hz10
  else
    (0 : Int) ≤ IntKind.i64.wrap (i4 - 1) ∧
    IntKind.i64.wrap (i4 - 1) < 9 ∧
    ∃ u18 : Value, cellH hz5 ((blk h0.size).add ((IntKind.i64.wrap (i4 - 1)).toNat * 1)) = some u18 ∧
    frozenH hz5 ((blk h0.size).add ((IntKind.i64.wrap (i4 - 1)).toNat * 1)) = false ∧
    ∀ hz17 : Hp, hz17 = setH hz5 ((blk h0.size).add ((IntKind.i64.wrap (i4 - 1)).toNat * 1)) (Value.int .u8 (IntKind.u8.wrap (IntKind.i64.wrap (8 - (IntKind.i64.wrap (i4 - 1)))))) →
    ∃ n22 : Nat, IntKind.i64.wrap (i4 - 1) = (n22 : Int) ∧
    n22 ≤ 9 ∧
    9 ≤ 9 ∧
    ∃ x26 : ByteArray, bytesAt hz17 (slArr (blk h0.size) 9 n22 9 1) x26 ∧
    K x26 hz17
def D_digits_Num (n_0 : Int) (h0 : Hp) (K : ByteArray → Hp → Prop) : Prop :=
  ∀ hz1 : Hp, hz1 = h0.push (.cells #[Value.int .u8 0, Value.int .u8 0, Value.int .u8 0, Value.int .u8 0, Value.int .u8 0, Value.int .u8 0, Value.int .u8 0, Value.int .u8 0, Value.int .u8 0] T_ar9_9_uint8) →
  ∃ (I : Int → Int → Hp → Prop) (μ : Int → Int → Hp → Nat), I n_0 9 hz1 ∧ ∀ (n3 : Int) (i4 : Int) (h : Hp), I n3 i4 h → D_digits_Num_l1 h0 K n3 i4 h (fun n3' i4' h' => I n3' i4' h' ∧ μ n3' i4' h' < μ n3 i4 h)

/-! barograph/digits.Text -/
def D_digits_Text (s_0 : ByteArray) (h0 : Hp) (K : ByteArray → Hp → Prop) : Prop :=
  C_digits_Num (IntKind.u64.wrap (s_0.size : Int)) h0 fun r2 hz1 =>
  ((r2.size + s_0.size : Nat) : Int) ≤ 9223372036854775807 ∧
  K (r2 ++ s_0) hz1

/-! barograph/frame.Put -/
def D_frame_Put_j1 (h0 : Hp) (K : ByteArray → Int → Hp → Prop) (x3 : Bool) (hz4 : Hp) : Prop :=
  if x3 = true then
    K (ByteArray.mk #[]) 5 hz4
  else
    ∃ x6 : ByteArray, cellH hz4 ((blk h0.size).add 1) = some (Value.string x6) ∧
    if (decide ((x6.size : Int) > (65536 : Int))) = true then
      K (ByteArray.mk #[]) 8 hz4
    else
      ∃ x9 : Int, cellH hz4 ((blk h0.size).add 0) = some (Value.int .i64 x9) ∧
      ∃ x11 : ByteArray, cellH hz4 ((blk h0.size).add 1) = some (Value.string x11) ∧
      (  ∀ hz13 : Hp, hz13 = hz4.push (.cells #[Value.int .u8 (IntKind.u8.wrap x9)] T_uint8) →
        cellH hz13 ((blk h0.size).add 0) = some (Value.int .i64 x9) ∧ cellH hz13 ((blk h0.size).add 1) = some (Value.string x11) ∧
        ∃ x15 : ByteArray, bytesAt hz13 (Sl.mk (some (blk hz4.size)) 1 1) x15 ∧
        C_digits_Text x11 hz13 fun r18 hz17 =>
        cellH hz17 ((blk h0.size).add 0) = some (Value.int .i64 x9) ∧ cellH hz17 ((blk h0.size).add 1) = some (Value.string x11) ∧ bytesAt hz17 (Sl.mk (some (blk hz4.size)) 1 1) x15 ∧
        ((x15.size + r18.size : Nat) : Int) ≤ 9223372036854775807 ∧
        C_sum_Of (x15 ++ r18) hz17 fun r21 hz20 =>
        C_sum_Bytes r21 hz20 fun r23 hz22 =>
        (((x15 ++ r18).size + r23.size : Nat) : Int) ≤ 9223372036854775807 ∧
        K ((x15 ++ r18) ++ r23) 0 hz22) ∧
      (  C_digits_Text x11 hz4 fun r26 hz25 =>
        cellH hz25 ((blk h0.size).add 0) = some (Value.int .i64 x9) ∧ cellH hz25 ((blk h0.size).add 1) = some (Value.string x11) ∧
        ∀ hz27 : Hp, hz27 = hz25.push (.cells #[Value.int .u8 (IntKind.u8.wrap x9)] T_uint8) →
        cellH hz27 ((blk h0.size).add 0) = some (Value.int .i64 x9) ∧ cellH hz27 ((blk h0.size).add 1) = some (Value.string x11) ∧
        ∃ x29 : ByteArray, bytesAt hz27 (Sl.mk (some (blk hz25.size)) 1 1) x29 ∧
        ((x29.size + r26.size : Nat) : Int) ≤ 9223372036854775807 ∧
        C_sum_Of (x29 ++ r26) hz27 fun r33 hz32 =>
        C_sum_Bytes r33 hz32 fun r35 hz34 =>
        (((x29 ++ r26).size + r35.size : Nat) : Int) ≤ 9223372036854775807 ∧
        K ((x29 ++ r26) ++ r35) 0 hz34)
def D_frame_Put (f_0_0 : Int) (f_1_0 : ByteArray) (h0 : Hp) (K : ByteArray → Int → Hp → Prop) : Prop :=
  ∀ hz1 : Hp, hz1 = h0.push (.cells #[Value.int .i64 f_0_0, Value.string f_1_0] T_frame_Frame) →
  ∃ x37 : Int, cellH hz1 ((blk h0.size).add 0) = some (Value.int .i64 x37) ∧
  if (decide (x37 < (1 : Int))) = true then
    D_frame_Put_j1 h0 K true hz1
  else
    ∃ x40 : Int, cellH hz1 ((blk h0.size).add 0) = some (Value.int .i64 x40) ∧
    D_frame_Put_j1 h0 K (decide (x40 > (255 : Int))) hz1

/-! strings.trimLeftByte -/
def D_strings_trimLeftByte_j1 (K : ByteArray → Hp → Prop) (s1 : ByteArray) (C3 : ByteArray → Hp → Prop) (x4 : Bool) (hz5 : Hp) : Prop :=
  if x4 = true then
    1 ≤ s1.size ∧
    s1.size ≤ s1.size ∧
    C3 (s1.extract 1 s1.size) hz5
  else
    K s1 hz5
def D_strings_trimLeftByte_l2 (c_1 : Int) (K : ByteArray → Hp → Prop) (s1 : ByteArray) (hz2 : Hp) (C3 : ByteArray → Hp → Prop) : Prop :=
  if (decide ((s1.size : Int) > (0 : Int))) = true then
    (0 : Int) ≤ 0 ∧
    0 < (s1.size : Int) ∧
    D_strings_trimLeftByte_j1 K s1 C3 ((bt s1 0) == c_1) hz2
  else
    D_strings_trimLeftByte_j1 K s1 C3 false hz2
def D_strings_trimLeftByte (s_0 : ByteArray) (c_1 : Int) (h0 : Hp) (K : ByteArray → Hp → Prop) : Prop :=
  ∃ (I : ByteArray → Hp → Prop) (μ : ByteArray → Hp → Nat), I s_0 h0 ∧ ∀ (s1 : ByteArray) (h : Hp), I s1 h → D_strings_trimLeftByte_l2 c_1 K s1 h (fun s1' h' => I s1' h' ∧ μ s1' h' < μ s1 h)

/-! strings.trimRightByte -/
def D_strings_trimRightByte_j1 (K : ByteArray → Hp → Prop) (s1 : ByteArray) (C3 : ByteArray → Hp → Prop) (x4 : Bool) (hz5 : Hp) : Prop :=
  if x4 = true then
    ∃ n7 : Nat, IntKind.i64.wrap ((s1.size : Int) - 1) = (n7 : Int) ∧
    0 ≤ n7 ∧
    n7 ≤ s1.size ∧
    C3 (s1.extract 0 n7) hz5
  else
    K s1 hz5
def D_strings_trimRightByte_l2 (c_1 : Int) (K : ByteArray → Hp → Prop) (s1 : ByteArray) (hz2 : Hp) (C3 : ByteArray → Hp → Prop) : Prop :=
  if (decide ((s1.size : Int) > (0 : Int))) = true then
    (0 : Int) ≤ IntKind.i64.wrap ((s1.size : Int) - 1) ∧
    IntKind.i64.wrap ((s1.size : Int) - 1) < (s1.size : Int) ∧
    D_strings_trimRightByte_j1 K s1 C3 ((bt s1 (IntKind.i64.wrap ((s1.size : Int) - 1))) == c_1) hz2
  else
    D_strings_trimRightByte_j1 K s1 C3 false hz2
def D_strings_trimRightByte (s_0 : ByteArray) (c_1 : Int) (h0 : Hp) (K : ByteArray → Hp → Prop) : Prop :=
  ∃ (I : ByteArray → Hp → Prop) (μ : ByteArray → Hp → Nat), I s_0 h0 ∧ ∀ (s1 : ByteArray) (h : Hp), I s1 h → D_strings_trimRightByte_l2 c_1 K s1 h (fun s1' h' => I s1' h' ∧ μ s1' h' < μ s1 h)

/-! strings.makeASCIISet -/
def D_strings_makeASCIISet_l1 (chars_0 : ByteArray) (h0 : Hp) (K : List Value → Bool → Hp → Prop) (i3 : Int) (hz4 : Hp) (C5 : Int → Hp → Prop) : Prop :=
  if (decide (i3 < (chars_0.size : Int))) = true then
    (0 : Int) ≤ i3 ∧
    i3 < (chars_0.size : Int) ∧
    if (decide ((bt chars_0 i3) ≥ (128 : Int))) = true then
      ∃ xs10 : List Value, xs10.length = 256 ∧
      cellsAt hz4 (blk h0.size) xs10 ∧
      (xs10).length = 256 ∧
      canPut (blk h0.size) hz4 0 xs10 ∧
      ∀ hz13 : Hp, hz13 = putsFrom (blk h0.size) hz4 0 xs10 →
      ∃ xs17 : List Value, xs17.length = 256 ∧
      cellsAt hz13 (blk h0.size) xs17 ∧
      K xs17 false hz13
    else
      (0 : Int) ≤ bt chars_0 i3 ∧
      bt chars_0 i3 < 256 ∧
      ∃ u23 : Value, cellH hz4 ((blk h0.size).add ((bt chars_0 i3).toNat * 1)) = some u23 ∧
      frozenH hz4 ((blk h0.size).add ((bt chars_0 i3).toNat * 1)) = false ∧
      ∀ hz22 : Hp, hz22 = setH hz4 ((blk h0.size).add ((bt chars_0 i3).toNat * 1)) (Value.bool true) →
      C5 (IntKind.i64.wrap (i3 + 1)) hz22
  else
    ∃ xs27 : List Value, xs27.length = 256 ∧
    cellsAt hz4 (blk h0.size) xs27 ∧
    (xs27).length = 256 ∧
    canPut (blk h0.size) hz4 0 xs27 ∧
    ∀ hz30 : Hp, hz30 = putsFrom (blk h0.size) hz4 0 xs27 →
    ∃ xs34 : List Value, xs34.length = 256 ∧
    cellsAt hz30 (blk h0.size) xs34 ∧
    K xs34 true hz30
def D_strings_makeASCIISet (chars_0 : ByteArray) (h0 : Hp) (K : List Value → Bool → Hp → Prop) : Prop :=
  ∀ hz1 : Hp, hz1 = h0.push (.cells (List.replicate 256 (Value.bool false)).toArray T_strings_asciiSet) →
  ∃ (I : Int → Hp → Prop) (μ : Int → Hp → Nat), I 0 hz1 ∧ ∀ (i3 : Int) (h : Hp), I i3 h → D_strings_makeASCIISet_l1 chars_0 h0 K i3 h (fun i3' h' => I i3' h' ∧ μ i3' h' < μ i3 h)

/-! (*strings.asciiSet).contains -/
def D_strings_asciiSet_contains (as_0 : Option Addr) (c_1 : Int) (h0 : Hp) (K : Bool → Hp → Prop) : Prop :=
  ∃ a1 : Addr, as_0 = some a1 ∧
  (0 : Int) ≤ c_1 ∧
  c_1 < 256 ∧
  ∃ x5 : Bool, cellH h0 (a1.add (c_1.toNat * 1)) = some (Value.bool x5) ∧
  K x5 h0

/-! strings.trimLeftASCII -/
def D_strings_trimLeftASCII_j1 (K : ByteArray → Hp → Prop) (s1 : ByteArray) (hz2 : Hp) : Prop :=
  K s1 hz2
def D_strings_trimLeftASCII_l2 (as_1 : Option Addr) (K : ByteArray → Hp → Prop) (s3 : ByteArray) (hz4 : Hp) (C5 : ByteArray → Hp → Prop) : Prop :=
  if (decide ((s3.size : Int) > (0 : Int))) = true then
    (0 : Int) ≤ 0 ∧
    0 < (s3.size : Int) ∧
    C_strings_asciiSet_contains as_1 (bt s3 0) hz4 fun r10 hz9 =>
    if (!r10) = true then
      D_strings_trimLeftASCII_j1 K s3 hz9
    else
      1 ≤ s3.size ∧
      s3.size ≤ s3.size ∧
      C5 (s3.extract 1 s3.size) hz9
  else
    D_strings_trimLeftASCII_j1 K s3 hz4
def D_strings_trimLeftASCII (s_0 : ByteArray) (as_1 : Option Addr) (h0 : Hp) (K : ByteArray → Hp → Prop) : Prop :=
  ∃ (I : ByteArray → Hp → Prop) (μ : ByteArray → Hp → Nat), I s_0 h0 ∧ ∀ (s3 : ByteArray) (h : Hp), I s3 h → D_strings_trimLeftASCII_l2 as_1 K s3 h (fun s3' h' => I s3' h' ∧ μ s3' h' < μ s3 h)

/-! strings.trimRightASCII -/
def D_strings_trimRightASCII_j1 (K : ByteArray → Hp → Prop) (s1 : ByteArray) (hz2 : Hp) : Prop :=
  K s1 hz2
def D_strings_trimRightASCII_l2 (as_1 : Option Addr) (K : ByteArray → Hp → Prop) (s3 : ByteArray) (hz4 : Hp) (C5 : ByteArray → Hp → Prop) : Prop :=
  if (decide ((s3.size : Int) > (0 : Int))) = true then
    (0 : Int) ≤ IntKind.i64.wrap ((s3.size : Int) - 1) ∧
    IntKind.i64.wrap ((s3.size : Int) - 1) < (s3.size : Int) ∧
    C_strings_asciiSet_contains as_1 (bt s3 (IntKind.i64.wrap ((s3.size : Int) - 1))) hz4 fun r10 hz9 =>
    if (!r10) = true then
      D_strings_trimRightASCII_j1 K s3 hz9
    else
      ∃ n12 : Nat, IntKind.i64.wrap ((s3.size : Int) - 1) = (n12 : Int) ∧
      0 ≤ n12 ∧
      n12 ≤ s3.size ∧
      C5 (s3.extract 0 n12) hz9
  else
    D_strings_trimRightASCII_j1 K s3 hz4
def D_strings_trimRightASCII (s_0 : ByteArray) (as_1 : Option Addr) (h0 : Hp) (K : ByteArray → Hp → Prop) : Prop :=
  ∃ (I : ByteArray → Hp → Prop) (μ : ByteArray → Hp → Nat), I s_0 h0 ∧ ∀ (s3 : ByteArray) (h : Hp), I s3 h → D_strings_trimRightASCII_l2 as_1 K s3 h (fun s3' h' => I s3' h' ∧ μ s3' h' < μ s3 h)

/-! unicode/utf8.DecodeRuneInString -/
def D_utf8_DecodeRuneInString_j1 (s_0 : ByteArray) (K : Int → Int → Hp → Prop) (x1 : Bool) (hz2 : Hp) : Prop :=
  if x1 = true then
    (0 : Int) ≤ 0 ∧
    0 < (s_0.size : Int) ∧
    K (IntKind.i32.wrap (bt s_0 0)) 1 hz2
  else
    C_utf8_decodeRuneInStringSlow s_0 hz2 fun r7 r8 hz6 =>
    K r7 r8 hz6
def D_utf8_DecodeRuneInString (s_0 : ByteArray) (h0 : Hp) (K : Int → Int → Hp → Prop) : Prop :=
  if (!(s_0.toList == (ByteArray.mk #[]).toList)) = true then
    (0 : Int) ≤ 0 ∧
    0 < (s_0.size : Int) ∧
    D_utf8_DecodeRuneInString_j1 s_0 K (decide ((bt s_0 0) < (128 : Int))) h0
  else
    D_utf8_DecodeRuneInString_j1 s_0 K false h0

/-! strings.ContainsRune -/
def D_strings_ContainsRune (s_0 : ByteArray) (r_1 : Int) (h0 : Hp) (K : Bool → Hp → Prop) : Prop :=
  C_strings_IndexRune s_0 r_1 h0 fun r2 hz1 =>
  K (decide (r2 ≥ (0 : Int))) hz1

/-! strings.trimLeftUnicode -/
def D_strings_trimLeftUnicode_j1 (K : ByteArray → Hp → Prop) (s1 : ByteArray) (hz2 : Hp) : Prop :=
  K s1 hz2
def D_strings_trimLeftUnicode_l2 (cutset_1 : ByteArray) (K : ByteArray → Hp → Prop) (s3 : ByteArray) (hz4 : Hp) (C5 : ByteArray → Hp → Prop) : Prop :=
  if (decide ((s3.size : Int) > (0 : Int))) = true then
    C_utf8_DecodeRuneInString s3 hz4 fun r8 r9 hz7 =>
    C_strings_ContainsRune cutset_1 r8 hz7 fun r11 hz10 =>
    if (!r11) = true then
      D_strings_trimLeftUnicode_j1 K s3 hz10
    else
      ∃ n13 : Nat, r9 = (n13 : Int) ∧
      n13 ≤ s3.size ∧
      s3.size ≤ s3.size ∧
      C5 (s3.extract n13 s3.size) hz10
  else
    D_strings_trimLeftUnicode_j1 K s3 hz4
def D_strings_trimLeftUnicode (s_0 : ByteArray) (cutset_1 : ByteArray) (h0 : Hp) (K : ByteArray → Hp → Prop) : Prop :=
  ∃ (I : ByteArray → Hp → Prop) (μ : ByteArray → Hp → Nat), I s_0 h0 ∧ ∀ (s3 : ByteArray) (h : Hp), I s3 h → D_strings_trimLeftUnicode_l2 cutset_1 K s3 h (fun s3' h' => I s3' h' ∧ μ s3' h' < μ s3 h)

/-! unicode/utf8.RuneStart -/
def D_utf8_RuneStart (b_0 : Int) (h0 : Hp) (K : Bool → Hp → Prop) : Prop :=
  K ((bitsI .and .u8 b_0 192) != (128 : Int)) h0

/-! unicode/utf8.DecodeLastRuneInString -/
def D_utf8_DecodeLastRuneInString_j1 (s_0 : ByteArray) (K : Int → Int → Hp → Prop) (start7 : Int) (hz8 : Hp) : Prop :=
  ∃ n9 : Nat, start7 = (n9 : Int) ∧
  ∃ n11 : Nat, (s_0.size : Int) = (n11 : Int) ∧
  n9 ≤ n11 ∧
  n11 ≤ s_0.size ∧
  C_utf8_DecodeRuneInString (s_0.extract n9 n11) hz8 fun r16 r17 hz15 =>
  if ((IntKind.i64.wrap (start7 + r17)) != (s_0.size : Int)) = true then
    K 65533 1 hz15
  else
    K r16 r17 hz15
def D_utf8_DecodeLastRuneInString_j2 (s_0 : ByteArray) (K : Int → Int → Hp → Prop) (start5 : Int) (hz6 : Hp) : Prop :=
  if (decide (start5 < (0 : Int))) = true then
    D_utf8_DecodeLastRuneInString_j1 s_0 K 0 hz6
  else
    D_utf8_DecodeLastRuneInString_j1 s_0 K start5 hz6
def D_utf8_DecodeLastRuneInString_l3 (s_0 : ByteArray) (K : Int → Int → Hp → Prop) (start22 : Int) (hz23 : Hp) (C24 : Int → Hp → Prop) : Prop :=
  if (decide (start22 ≥ (maxI (IntKind.i64.wrap ((s_0.size : Int) - 4)) 0))) = true then
    (0 : Int) ≤ start22 ∧
    start22 < (s_0.size : Int) ∧
    C_utf8_RuneStart (bt s_0 start22) hz23 fun r29 hz28 =>
    if r29 = true then
      D_utf8_DecodeLastRuneInString_j2 s_0 K start22 hz28
    else
      C24 (IntKind.i64.wrap (start22 - 1)) hz28
  else
    D_utf8_DecodeLastRuneInString_j2 s_0 K start22 hz23
def D_utf8_DecodeLastRuneInString (s_0 : ByteArray) (h0 : Hp) (K : Int → Int → Hp → Prop) : Prop :=
  if ((s_0.size : Int) == (0 : Int)) = true then
    K 65533 0 h0
  else
    (0 : Int) ≤ IntKind.i64.wrap ((s_0.size : Int) - 1) ∧
    IntKind.i64.wrap ((s_0.size : Int) - 1) < (s_0.size : Int) ∧
    if (decide ((IntKind.i32.wrap (bt s_0 (IntKind.i64.wrap ((s_0.size : Int) - 1)))) < (128 : Int))) = true then
      K (IntKind.i32.wrap (bt s_0 (IntKind.i64.wrap ((s_0.size : Int) - 1)))) 1 h0
    else
      ∃ (I : Int → Hp → Prop) (μ : Int → Hp → Nat), I (IntKind.i64.wrap ((IntKind.i64.wrap ((s_0.size : Int) - 1)) - 1)) h0 ∧ ∀ (start22 : Int) (h : Hp), I start22 h → D_utf8_DecodeLastRuneInString_l3 s_0 K start22 h (fun start22' h' => I start22' h' ∧ μ start22' h' < μ start22 h)

/-! strings.trimRightUnicode -/
def D_strings_trimRightUnicode_j1 (K : ByteArray → Hp → Prop) (s1 : ByteArray) (hz2 : Hp) : Prop :=
  K s1 hz2
def D_strings_trimRightUnicode_j2 (cutset_1 : ByteArray) (K : ByteArray → Hp → Prop) (s3 : ByteArray) (C5 : ByteArray → Hp → Prop) (r9 : Int) (n10 : Int) (hz11 : Hp) : Prop :=
  C_strings_ContainsRune cutset_1 r9 hz11 fun r13 hz12 =>
  if (!r13) = true then
    D_strings_trimRightUnicode_j1 K s3 hz12
  else
    ∃ n15 : Nat, IntKind.i64.wrap ((s3.size : Int) - n10) = (n15 : Int) ∧
    0 ≤ n15 ∧
    n15 ≤ s3.size ∧
    C5 (s3.extract 0 n15) hz12
def D_strings_trimRightUnicode_l3 (cutset_1 : ByteArray) (K : ByteArray → Hp → Prop) (s3 : ByteArray) (hz4 : Hp) (C5 : ByteArray → Hp → Prop) : Prop :=
  if (decide ((s3.size : Int) > (0 : Int))) = true then
    (0 : Int) ≤ IntKind.i64.wrap ((s3.size : Int) - 1) ∧
    IntKind.i64.wrap ((s3.size : Int) - 1) < (s3.size : Int) ∧
    if (decide ((IntKind.i32.wrap (bt s3 (IntKind.i64.wrap ((s3.size : Int) - 1)))) ≥ (128 : Int))) = true then
      C_utf8_DecodeLastRuneInString s3 hz4 fun r21 r22 hz20 =>
      D_strings_trimRightUnicode_j2 cutset_1 K s3 C5 r21 r22 hz20
    else
      D_strings_trimRightUnicode_j2 cutset_1 K s3 C5 (IntKind.i32.wrap (bt s3 (IntKind.i64.wrap ((s3.size : Int) - 1)))) 1 hz4
  else
    D_strings_trimRightUnicode_j1 K s3 hz4
def D_strings_trimRightUnicode (s_0 : ByteArray) (cutset_1 : ByteArray) (h0 : Hp) (K : ByteArray → Hp → Prop) : Prop :=
  ∃ (I : ByteArray → Hp → Prop) (μ : ByteArray → Hp → Nat), I s_0 h0 ∧ ∀ (s3 : ByteArray) (h : Hp), I s3 h → D_strings_trimRightUnicode_l3 cutset_1 K s3 h (fun s3' h' => I s3' h' ∧ μ s3' h' < μ s3 h)

/-! strings.Trim -/
def D_strings_Trim_j1 (s_0 : ByteArray) (cutset_1 : ByteArray) (K : ByteArray → Hp → Prop) (x4 : Bool) (hz5 : Hp) : Prop :=
  if x4 = true then
    (0 : Int) ≤ 0 ∧
    0 < (cutset_1.size : Int) ∧
    (0 : Int) ≤ 0 ∧
    0 < (cutset_1.size : Int) ∧
    C_strings_trimRightByte s_0 (bt cutset_1 0) hz5 fun r12 hz11 =>
    C_strings_trimLeftByte r12 (bt cutset_1 0) hz11 fun r14 hz13 =>
    K r14 hz13
  else
    C_strings_makeASCIISet cutset_1 hz5 fun r16 r17 hz15 =>
    ∀ hz18 : Hp, hz18 = hz15.push (.cells (List.replicate 256 (Value.bool false)).toArray T_strings_asciiSet) →
    (r16).length = 256 ∧
    canPut (blk hz15.size) hz18 0 r16 ∧
    ∀ hz20 : Hp, hz20 = putsFrom (blk hz15.size) hz18 0 r16 →
    if r17 = true then
      C_strings_trimRightASCII s_0 (some (blk hz15.size)) hz20 fun r26 hz25 =>
      C_strings_trimLeftASCII r26 (some (blk hz15.size)) hz25 fun r28 hz27 =>
      K r28 hz27
    else
      C_strings_trimRightUnicode s_0 cutset_1 hz20 fun r30 hz29 =>
      C_strings_trimLeftUnicode r30 cutset_1 hz29 fun r32 hz31 =>
      K r32 hz31
def D_strings_Trim_j2 (s_0 : ByteArray) (cutset_1 : ByteArray) (K : ByteArray → Hp → Prop) (x1 : Bool) (hz2 : Hp) : Prop :=
  if x1 = true then
    K s_0 hz2
  else
    if ((cutset_1.size : Int) == (1 : Int)) = true then
      (0 : Int) ≤ 0 ∧
      0 < (cutset_1.size : Int) ∧
      D_strings_Trim_j1 s_0 cutset_1 K (decide ((bt cutset_1 0) < (128 : Int))) hz2
    else
      D_strings_Trim_j1 s_0 cutset_1 K false hz2
def D_strings_Trim (s_0 : ByteArray) (cutset_1 : ByteArray) (h0 : Hp) (K : ByteArray → Hp → Prop) : Prop :=
  if (s_0.toList == (ByteArray.mk #[]).toList) = true then
    D_strings_Trim_j2 s_0 cutset_1 K true h0
  else
    D_strings_Trim_j2 s_0 cutset_1 K (cutset_1.toList == (ByteArray.mk #[]).toList) h0

/-! barograph/disk.right -/
def D_disk_right_j1 (K : Bool → Hp → Prop) (x1 : Bool) (hz2 : Hp) : Prop :=
  K x1 hz2
def D_disk_right (name_0 : ByteArray) (h0 : Hp) (K : Bool → Hp → Prop) : Prop :=
  if (!(name_0.toList == (ByteArray.mk #[]).toList)) = true then
    if (decide ((name_0.size : Int) ≤ (32 : Int))) = true then
      C_strings_Trim name_0 (ByteArray.mk #[97, 98, 99, 100, 101, 102, 103, 104, 105, 106, 107, 108, 109, 110, 111, 112, 113, 114, 115, 116, 117, 118, 119, 120, 121, 122, 48, 49, 50, 51, 52, 53, 54, 55, 56, 57, 46, 45]) h0 fun r6 hz5 =>
      D_disk_right_j1 K (r6.toList == (ByteArray.mk #[]).toList) hz5
    else
      D_disk_right_j1 K false h0
  else
    D_disk_right_j1 K false h0

/-! (*barograph/disk.Disk).Used -/
def D_disk_Disk_Used_l1 (h0 : Hp) (K : Int → Hp → Prop) (n12 : Int) (hz13 : Hp) (C14 : Int → Hp → Prop) : Prop :=
  ∃ (m16 clk17 : Nat) (seen18 : Array Nat) (es19 : Array MapEntry), hz13[h0.size]? = some (.mapIter (some m16) clk17 seen18 clk17) ∧ hz13[m16]? = some (.map es19 clk17) ∧ (∀ e ∈ es19.toList, e.born < clk17) ∧
  (∀ (e20 : MapEntry), e20 ∈ es19.toList → seen18.contains e20.born = false → ∀ hz15 : Hp, hz15 = hz13.setIfInBounds h0.size (.mapIter (some m16) clk17 (seen18.push e20.born) clk17) →
    hz15[h0.size]? = some (.mapIter (some m16) clk17 (seen18.push e20.born) clk17) ∧
    hz15[m16]? = some (.map es19 clk17) ∧
    es19.find? (fun e => e.born == e20.born) = some e20 ∧
    ∃ x30 : Option Addr, e20.val = Value.pointer x30 ∧
    ∃ a32 : Addr, x30 = some a32 ∧
    ∃ x34 : ByteArray, cellH hz15 (a32.add 0) = some (Value.string x34) ∧
    C14 (IntKind.i64.wrap (n12 + (x34.size : Int))) hz15) ∧
  ((∀ e ∈ es19.toList, seen18.contains e.born = true) →
    K n12 hz13)
def D_disk_Disk_Used (d_0 : Option Addr) (h0 : Hp) (K : Int → Hp → Prop) : Prop :=
  ∃ a1 : Addr, d_0 = some a1 ∧
  ∃ x3 : Option Nat, cellH h0 (a1.add 1) = some (Value.map x3) ∧
  ∃ r6 : Nat, ∃ es7 : Array MapEntry, ∃ clk8 : Nat, x3 = some r6 ∧
  h0[r6]? = some (.map es7 clk8) ∧
  ∀ hz5 : Hp, hz5 = h0.push (.mapIter (some r6) clk8 #[] clk8) →
  ∃ (I : Int → Hp → Prop) (μ : Int → Hp → Nat), I 0 hz5 ∧ ∀ (n12 : Int) (h : Hp), I n12 h → D_disk_Disk_Used_l1 h0 K n12 h (fun n12' h' => I n12' h' ∧ μ n12' h' < μ n12 h)

/-! (*barograph/disk.Disk).Append -/
def D_disk_Disk_Append_j1 (s_2 : ByteArray) (K : Int → Hp → Prop) (hz3 : Hp) (hz32 : Hp) : Prop :=
  ∃ x33 : Option Addr, cellH hz32 (blk hz3.size) = some (Value.pointer x33) ∧
  ∃ a35 : Addr, x33 = some a35 ∧
  ∃ x37 : ByteArray, cellH hz32 (a35.add 0) = some (Value.string x37) ∧
  ((x37.size + s_2.size : Nat) : Int) ≤ 9223372036854775807 ∧
  ∃ u41 : Value, cellH hz32 (a35.add 0) = some u41 ∧
  frozenH hz32 (a35.add 0) = false ∧
  ∀ hz40 : Hp, hz40 = setH hz32 (a35.add 0) (Value.string (x37 ++ s_2)) →
  K 0 hz40
def D_disk_Disk_Append_j2 (d_0 : Option Addr) (s_2 : ByteArray) (h0 : Hp) (K : Int → Hp → Prop) (hz3 : Hp) (x29 : Bool) (hz30 : Hp) : Prop :=
  if x29 = true then
    K 4 hz30
  else
    ∃ x45 : Option Addr, cellH hz30 (blk hz3.size) = some (Value.pointer x45) ∧
    if x45.isNone = true then
      ∀ hz48 : Hp, hz48 = hz30.push (.cells #[Value.string ByteArray.empty, Value.int .i64 0] T_disk_file) →
      ∃ u51 : Value, cellH hz48 (blk hz3.size) = some u51 ∧
      frozenH hz48 (blk hz3.size) = false ∧
      ∀ hz50 : Hp, hz50 = setH hz48 (blk hz3.size) (Value.pointer (some (blk hz30.size))) →
      C_disk_Disk_change d_0 (Value.func (.func F_disk_Disk_Append_1) #[] #[Value.pointer (some (blk hz3.size)), Value.pointer (some (blk h0.size))]) hz50 fun hz55 =>
      D_disk_Disk_Append_j1 s_2 K hz3 hz55
    else
      D_disk_Disk_Append_j1 s_2 K hz3 hz30
def D_disk_Disk_Append (d_0 : Option Addr) (name_1 : ByteArray) (s_2 : ByteArray) (h0 : Hp) (K : Int → Hp → Prop) : Prop :=
  ∀ hz1 : Hp, hz1 = h0.push (.cells #[Value.string name_1] T_string) →
  C_disk_Disk_write d_0 hz1 fun r4 hz3 =>
  if (!r4) = true then
    K 11 hz3
  else
    ∃ a6 : Addr, d_0 = some a6 ∧
    ∃ x8 : Option Nat, cellH hz3 (a6.add 1) = some (Value.map x8) ∧
    ∃ x10 : ByteArray, cellH hz3 (blk h0.size) = some (Value.string x10) ∧
    ∃ es12 : List MapEntry, mapEs hz3 x8 = some es12 ∧
    strKeys es12 ∧
    ∃ v15 : Option Addr, ((idxS x10 es12 0).map (·.2)).getD (Value.pointer none) = Value.pointer v15 ∧
    ∀ hz17 : Hp, hz17 = hz3.push (.cells #[Value.pointer none] T_pt_disk_file) →
    cellH hz17 (a6.add 1) = some (Value.map x8) ∧ cellH hz17 (blk h0.size) = some (Value.string x10) ∧ mapEs hz17 x8 = some es12 ∧
    ∃ u20 : Value, cellH hz17 (blk hz3.size) = some u20 ∧
    frozenH hz17 (blk hz3.size) = false ∧
    ∀ hz19 : Hp, hz19 = setH hz17 (blk hz3.size) (Value.pointer v15) →
    ∃ x24 : ByteArray, cellH hz19 (blk h0.size) = some (Value.string x24) ∧
    C_disk_right x24 hz19 fun r27 hz26 =>
    if (!r27) = true then
      K 3 hz26
    else
      ∃ x58 : Int, cellH hz26 (a6.add 0) = some (Value.int .i64 x58) ∧
      C_disk_Disk_Used d_0 hz26 fun r61 hz60 =>
      cellH hz60 (a6.add 0) = some (Value.int .i64 x58) ∧
      if (decide ((s_2.size : Int) > (IntKind.i64.wrap (x58 - r61)))) = true then
        D_disk_Disk_Append_j2 d_0 s_2 h0 K hz3 true hz60
      else
        ∃ x63 : Option Addr, cellH hz60 (blk hz3.size) = some (Value.pointer x63) ∧
        if x63.isNone = true then
          ∃ x66 : Option Nat, cellH hz60 (a6.add 1) = some (Value.map x66) ∧
          ∃ n68 : Nat, lenMap hz60 x66 = some n68 ∧
          D_disk_Disk_Append_j2 d_0 s_2 h0 K hz3 ((n68 : Int) == (64 : Int)) hz60
        else
          D_disk_Disk_Append_j2 d_0 s_2 h0 K hz3 false hz60

/-! barograph/wal.name -/
def D_wal_name_l1 (h0 : Hp) (K : ByteArray → Hp → Prop) (a7 : Addr) (n16 : Int) (i17 : Int) (hz18 : Hp) (C19 : Int → Int → Hp → Prop) : Prop :=
  if (decide (i17 > (0 : Int))) = true then
    (0 : Int) ≤ i17 ∧
    i17 < ((Sl.mk (some (blk h0.size)) (9 : Int).toNat (9 : Int).toNat).len : Int) ∧
    ∃ u24 : Value, cellH hz18 (a7.add (i17.toNat * 1)) = some u24 ∧
    frozenH hz18 (a7.add (i17.toNat * 1)) = false ∧
    ∀ hz23 : Hp, hz23 = setH hz18 (a7.add (i17.toNat * 1)) (Value.int .u8 (IntKind.u8.wrap (IntKind.i64.wrap (48 + (Int.tmod n16 10))))) →
    C19 (IntKind.i64.wrap (Int.tdiv n16 10)) (IntKind.i64.wrap (i17 - 1)) hz23
  else
    ∃ x28 : ByteArray, bytesAt hz18 (Sl.mk (some (blk h0.size)) (9 : Int).toNat (9 : Int).toNat) x28 ∧
    K x28 hz18
def D_wal_name (n_0 : Int) (h0 : Hp) (K : ByteArray → Hp → Prop) : Prop :=
  0 ≤ (9 : Int) ∧
  (9 : Int) ≤ (9 : Int) ∧
  (1 : Int) * (9 : Int) ≤ 281474976710656 ∧
  (9 : Int) ≤ 9223372036854775807 ∧
  ∀ hz1 : Hp, hz1 = h0.push (.cells (Builtin.zeroCells (if (9 : Int).toNat * 1 = 0 then #[] else #[Value.int .u8 0]) (if (9 : Int).toNat * 1 = 0 then 0 else (9 : Int).toNat)) T_uint8) →
  ∃ a7 : Addr, (Sl.mk (some (blk h0.size)) (9 : Int).toNat (9 : Int).toNat).a = some a7 ∧
  (0 : Int) ≤ 0 ∧
  0 < ((Sl.mk (some (blk h0.size)) (9 : Int).toNat (9 : Int).toNat).len : Int) ∧
  ∃ u12 : Value, cellH hz1 (a7.add ((0 : Int).toNat * 1)) = some u12 ∧
  frozenH hz1 (a7.add ((0 : Int).toNat * 1)) = false ∧
  ∀ hz11 : Hp, hz11 = setH hz1 (a7.add ((0 : Int).toNat * 1)) (Value.int .u8 119) →
  ∃ (I : Int → Int → Hp → Prop) (μ : Int → Int → Hp → Nat), I n_0 8 hz11 ∧ ∀ (n16 : Int) (i17 : Int) (h : Hp), I n16 i17 h → D_wal_name_l1 h0 K a7 n16 i17 h (fun n16' i17' h' => I n16' i17' h' ∧ μ n16' i17' h' < μ n16 i17 h)

/-! (*barograph/wal.Log).Append -/
def D_wal_Log_Append_j1 (K : Int → Int → Hp → Prop) (r2 : ByteArray) (a5 : Addr) (x12 : Option Addr) (a16 : Addr) (hz25 : Hp) : Prop :=
  ∃ x26 : Sl, cellH hz25 (a16.add 1) = some (Sl.v x26) ∧
  ∃ x28 : Int, cellH hz25 (a16.add 2) = some (Value.int .i64 x28) ∧
  ∀ hz30 : Hp, hz30 = hz25.push (.cells #[Value.int .i64 x28] T_int) →
  cellH hz30 (a16.add 1) = some (Sl.v x26) ∧ cellH hz30 (a16.add 2) = some (Value.int .i64 x28) ∧
  apd 1 8 T_int [Value.int .i64 0] hz30 x26 1 [Value.int .i64 x28] fun s33 hz32 =>
  cellH hz32 (a16.add 1) = some (Sl.v x26) ∧ cellH hz32 (a16.add 2) = some (Value.int .i64 x28) ∧
  ∃ u35 : Value, cellH hz32 (a16.add 1) = some u35 ∧
  frozenH hz32 (a16.add 1) = false ∧
  ∀ hz34 : Hp, hz34 = setH hz32 (a16.add 1) (Sl.v s33) →
  ∃ x39 : Int, cellH hz34 (a16.add 2) = some (Value.int .i64 x39) ∧
  ∃ u42 : Value, cellH hz34 (a16.add 2) = some u42 ∧
  frozenH hz34 (a16.add 2) = false ∧
  ∀ hz41 : Hp, hz41 = setH hz34 (a16.add 2) (Value.int .i64 (IntKind.i64.wrap (x39 + (r2.size : Int)))) →
  ∃ u47 : Value, cellH hz41 (a16.add 3) = some u47 ∧
  frozenH hz41 (a16.add 3) = false ∧
  ∀ hz46 : Hp, hz46 = setH hz41 (a16.add 3) (Value.bool true) →
  ∃ u52 : Value, cellH hz46 (a5.add 2) = some u52 ∧
  frozenH hz46 (a5.add 2) = false ∧
  ∀ hz51 : Hp, hz51 = setH hz46 (a5.add 2) (Value.pointer x12) →
  ∃ x56 : Int, cellH hz51 (a5.add 4) = some (Value.int .i64 x56) ∧
  ∃ u59 : Value, cellH hz51 (a5.add 4) = some u59 ∧
  frozenH hz51 (a5.add 4) = false ∧
  ∀ hz58 : Hp, hz58 = setH hz51 (a5.add 4) (Value.int .i64 (IntKind.i64.wrap (x56 + 1))) →
  ∃ x63 : Int, cellH hz58 (a5.add 4) = some (Value.int .i64 x63) ∧
  K x63 0 hz58
def D_wal_Log_Append_j2 (K : Int → Int → Hp → Prop) (r2 : ByteArray) (a5 : Addr) (x12 : Option Addr) (hz13 : Hp) : Prop :=
  ∃ x14 : Option Addr, cellH hz13 (a5.add 0) = some (Value.pointer x14) ∧
  ∃ a16 : Addr, x12 = some a16 ∧
  ∃ x18 : Int, cellH hz13 (a16.add 0) = some (Value.int .i64 x18) ∧
  C_wal_name x18 hz13 fun r21 hz20 =>
  cellH hz20 (a5.add 0) = some (Value.pointer x14) ∧ cellH hz20 (a16.add 0) = some (Value.int .i64 x18) ∧
  C_disk_Disk_Append x14 r21 r2 hz20 fun r23 hz22 =>
  cellH hz22 (a5.add 0) = some (Value.pointer x14) ∧ cellH hz22 (a16.add 0) = some (Value.int .i64 x18) ∧
  if (r23 != (0 : Int)) = true then
    K 0 r23 hz22
  else
    ∃ x65 : Sl, cellH hz22 (a16.add 1) = some (Sl.v x65) ∧
    if ((x65.len : Int) == (0 : Int)) = true then
      ∃ x68 : Sl, cellH hz22 (a5.add 1) = some (Sl.v x68) ∧
      ∀ hz70 : Hp, hz70 = hz22.push (.cells #[Value.pointer x12] T_pt_wal_segment) →
      apd 1 8 T_pt_wal_segment [Value.pointer none] hz70 x68 1 [Value.pointer x12] fun s73 hz72 =>
      ∃ u75 : Value, cellH hz72 (a5.add 1) = some u75 ∧
      frozenH hz72 (a5.add 1) = false ∧
      ∀ hz74 : Hp, hz74 = setH hz72 (a5.add 1) (Sl.v s73) →
      ∃ u80 : Value, cellH hz74 (a5.add 3) = some u80 ∧
      frozenH hz74 (a5.add 3) = false ∧
      ∀ hz79 : Hp, hz79 = setH hz74 (a5.add 3) (Value.bool true) →
      D_wal_Log_Append_j1 K r2 a5 x12 a16 hz79
    else
      D_wal_Log_Append_j1 K r2 a5 x12 a16 hz22
def D_wal_Log_Append_j3 (K : Int → Int → Hp → Prop) (r2 : ByteArray) (a5 : Addr) (x10 : Option Addr) (x86 : Bool) (hz87 : Hp) : Prop :=
  if x86 = true then
    ∃ x89 : Int, cellH hz87 (a5.add 4) = some (Value.int .i64 x89) ∧
    ∀ hz91 : Hp, hz91 = hz87.push (.cells #[Value.int .i64 (IntKind.i64.wrap (x89 + 1)), Sl.v (Sl.mk none 0 0), Value.int .i64 0, Value.bool false] T_wal_segment) →
    D_wal_Log_Append_j2 K r2 a5 (some (blk hz87.size)) hz91
  else
    D_wal_Log_Append_j2 K r2 a5 x10 hz87
def D_wal_Log_Append (d_0 : Option Addr) (t_1 : ByteArray) (h0 : Hp) (K : Int → Int → Hp → Prop) : Prop :=
  C_frame_Put 1 t_1 h0 fun r2 r3 hz1 =>
  if (r3 != (0 : Int)) = true then
    K 0 r3 hz1
  else
    ∃ a5 : Addr, d_0 = some a5 ∧
    ∃ x7 : Int, cellH hz1 (a5.add 4) = some (Value.int .i64 x7) ∧
    if (decide (x7 ≥ (99999999 : Int))) = true then
      K 0 4 hz1
    else
      ∃ x10 : Option Addr, cellH hz1 (a5.add 2) = some (Value.pointer x10) ∧
      if x10.isNone = true then
        D_wal_Log_Append_j3 K r2 a5 x10 true hz1
      else
        ∃ a94 : Addr, x10 = some a94 ∧
        ∃ x96 : Sl, cellH hz1 (a94.add 1) = some (Sl.v x96) ∧
        D_wal_Log_Append_j3 K r2 a5 x10 (decide ((x96.len : Int) ≥ (16 : Int))) hz1

/-! (*barograph/disk.Disk).Sync -/
def D_disk_Disk_Sync_j1 (K : Int → Hp → Prop) (r3 : Int) (hz4 : Hp) : Prop :=
  K r3 hz4
def D_disk_Disk_Sync (d_0 : Option Addr) (name_1 : ByteArray) (h0 : Hp) (K : Int → Hp → Prop) : Prop :=
  C_disk_Disk_find d_0 name_1 h0 fun r2 r3 hz1 =>
  if (r3 == (0 : Int)) = true then
    ∃ a6 : Addr, r2 = some a6 ∧
    ∃ x8 : ByteArray, cellH hz1 (a6.add 0) = some (Value.string x8) ∧
    ∃ u11 : Value, cellH hz1 (a6.add 1) = some u11 ∧
    frozenH hz1 (a6.add 1) = false ∧
    ∀ hz10 : Hp, hz10 = setH hz1 (a6.add 1) (Value.int .i64 (x8.size : Int)) →
    D_disk_Disk_Sync_j1 K r3 hz10
  else
    D_disk_Disk_Sync_j1 K r3 hz1

/-! (*barograph/wal.Log).Sync -/
def D_wal_Log_Sync_j1 (x5 : Int) (C7 : Int → Hp → Prop) (hz9 : Hp) : Prop :=
  C7 (IntKind.i64.wrap (x5 + 1)) hz9
def D_wal_Log_Sync_j2 (K : Int → Hp → Prop) (a1 : Addr) (hz37 : Hp) : Prop :=
  ∃ x38 : Int, cellH hz37 (a1.add 4) = some (Value.int .i64 x38) ∧
  ∃ u41 : Value, cellH hz37 (a1.add 5) = some u41 ∧
  frozenH hz37 (a1.add 5) = false ∧
  ∀ hz40 : Hp, hz40 = setH hz37 (a1.add 5) (Value.int .i64 x38) →
  K 0 hz40
def D_wal_Log_Sync_l3 (K : Int → Hp → Prop) (a1 : Addr) (x3 : Sl) (x5 : Int) (hz6 : Hp) (C7 : Int → Hp → Prop) : Prop :=
  if (decide (x5 < (x3.len : Int))) = true then
    ∃ a10 : Addr, x3.a = some a10 ∧
    (0 : Int) ≤ x5 ∧
    x5 < (x3.len : Int) ∧
    ∃ x14 : Option Addr, cellH hz6 (a10.add (x5.toNat * 1)) = some (Value.pointer x14) ∧
    ∃ a16 : Addr, x14 = some a16 ∧
    ∃ x18 : Bool, cellH hz6 (a16.add 3) = some (Value.bool x18) ∧
    if (!x18) = true then
      D_wal_Log_Sync_j1 x5 C7 hz6
    else
      ∃ x21 : Option Addr, cellH hz6 (a1.add 0) = some (Value.pointer x21) ∧
      ∃ x23 : Int, cellH hz6 (a16.add 0) = some (Value.int .i64 x23) ∧
      C_wal_name x23 hz6 fun r26 hz25 =>
      cellH hz25 (a1.add 0) = some (Value.pointer x21) ∧ cellH hz25 (a16.add 0) = some (Value.int .i64 x23) ∧
      C_disk_Disk_Sync x21 r26 hz25 fun r28 hz27 =>
      cellH hz27 (a1.add 0) = some (Value.pointer x21) ∧ cellH hz27 (a16.add 0) = some (Value.int .i64 x23) ∧
      if (r28 != (0 : Int)) = true then
        K r28 hz27
      else
        ∃ u31 : Value, cellH hz27 (a16.add 3) = some u31 ∧
        frozenH hz27 (a16.add 3) = false ∧
        ∀ hz30 : Hp, hz30 = setH hz27 (a16.add 3) (Value.bool false) →
        D_wal_Log_Sync_j1 x5 C7 hz30
  else
    ∃ x45 : Bool, cellH hz6 (a1.add 3) = some (Value.bool x45) ∧
    if x45 = true then
      ∃ x48 : Option Addr, cellH hz6 (a1.add 0) = some (Value.pointer x48) ∧
      C_disk_Disk_SyncNames x48 hz6 fun r51 hz50 =>
      if (r51 != (0 : Int)) = true then
        K r51 hz50
      else
        ∃ u54 : Value, cellH hz50 (a1.add 3) = some u54 ∧
        frozenH hz50 (a1.add 3) = false ∧
        ∀ hz53 : Hp, hz53 = setH hz50 (a1.add 3) (Value.bool false) →
        D_wal_Log_Sync_j2 K a1 hz53
    else
      D_wal_Log_Sync_j2 K a1 hz6
def D_wal_Log_Sync (l_0 : Option Addr) (h0 : Hp) (K : Int → Hp → Prop) : Prop :=
  ∃ a1 : Addr, l_0 = some a1 ∧
  ∃ x3 : Sl, cellH h0 (a1.add 1) = some (Sl.v x3) ∧
  ∃ (I : Int → Hp → Prop) (μ : Int → Hp → Nat), I 0 h0 ∧ ∀ (x5 : Int) (h : Hp), I x5 h → D_wal_Log_Sync_l3 K a1 x3 x5 h (fun x5' h' => I x5' h' ∧ μ x5' h' < μ x5 h)

/-! (*barograph/wal.Log).Last -/
def D_wal_Log_Last (l_0 : Option Addr) (h0 : Hp) (K : Int → Hp → Prop) : Prop :=
  ∃ a1 : Addr, l_0 = some a1 ∧
  ∃ x3 : Int, cellH h0 (a1.add 4) = some (Value.int .i64 x3) ∧
  K x3 h0

/-! (*barograph/disk.Disk).Crash$1 -/
def D_disk_Disk_Crash_1 (of_0 : Int) (q1 : Addr) (h0 : Hp) (K : Int → Hp → Prop) : Prop :=
  ∃ x1 : Sl, cellH h0 q1 = some (Sl.v x1) ∧
  if ((x1.len : Int) == (0 : Int)) = true then
    K 0 h0
  else
    ∃ x4 : Sl, cellH h0 q1 = some (Sl.v x4) ∧
    ∃ a6 : Addr, x4.a = some a6 ∧
    (0 : Int) ≤ 0 ∧
    0 < (x4.len : Int) ∧
    ∃ x10 : Int, cellH h0 (a6.add ((0 : Int).toNat * 1)) = some (Value.int .i64 x10) ∧
    IntKind.u64.wrap (IntKind.i64.wrap (of_0 + 1)) ≠ 0 ∧
    ∃ x13 : Sl, cellH h0 q1 = some (Sl.v x13) ∧
    1 ≤ x13.len ∧
    x13.len ≤ x13.cap ∧
    ∃ u18 : Value, cellH h0 q1 = some u18 ∧
    frozenH h0 q1 = false ∧
    ∀ hz17 : Hp, hz17 = setH h0 q1 (Sl.v (slCut x13 1 x13.len 1)) →
    K (IntKind.i64.wrap (Int.tmod (IntKind.u64.wrap x10) (IntKind.u64.wrap (IntKind.i64.wrap (of_0 + 1))))) hz17

/-! (*barograph/disk.Disk).Crash -/
def D_disk_Disk_Crash_l1 (h0 : Hp) (K : Hp → Prop) (a3 : Addr) (x5 : Option Nat) (r36 : Sl) (x37 : Int) (hz38 : Hp) (C39 : Int → Hp → Prop) : Prop :=
  if (decide (x37 < (r36.len : Int))) = true then
    ∃ a41 : Addr, r36.a = some a41 ∧
    (0 : Int) ≤ x37 ∧
    x37 < (r36.len : Int) ∧
    ∃ x45 : ByteArray, cellH hz38 (a41.add (x37.toNat * 1)) = some (Value.string x45) ∧
    ∃ es47 : List MapEntry, mapEs hz38 x5 = some es47 ∧
    strKeys es47 ∧
    ∃ v50 : Option Addr, ((idxS x45 es47 0).map (·.2)).getD (Value.pointer none) = Value.pointer v50 ∧
    ∃ a52 : Addr, v50 = some a52 ∧
    ∃ x54 : Int, cellH hz38 (a52.add 1) = some (Value.int .i64 x54) ∧
    ∃ x56 : ByteArray, cellH hz38 (a52.add 0) = some (Value.string x56) ∧
    ∃ x58 : Int, cellH hz38 (a52.add 1) = some (Value.int .i64 x58) ∧
    C_disk_Disk_Crash_1 (IntKind.i64.wrap ((x56.size : Int) - x58)) (blk h0.size) hz38 fun r61 hz60 =>
    cellH hz60 (a52.add 1) = some (Value.int .i64 x54) ∧ cellH hz60 (a52.add 0) = some (Value.string x56) ∧ cellH hz60 (a52.add 1) = some (Value.int .i64 x58) ∧
    ∃ u63 : Value, cellH hz60 (a52.add 1) = some u63 ∧
    frozenH hz60 (a52.add 1) = false ∧
    ∀ hz62 : Hp, hz62 = setH hz60 (a52.add 1) (Value.int .i64 (IntKind.i64.wrap (x54 + r61))) →
    ∃ x67 : ByteArray, cellH hz62 (a52.add 0) = some (Value.string x67) ∧
    ∃ x69 : Int, cellH hz62 (a52.add 1) = some (Value.int .i64 x69) ∧
    ∃ n71 : Nat, x69 = (n71 : Int) ∧
    0 ≤ n71 ∧
    n71 ≤ x67.size ∧
    ∃ u76 : Value, cellH hz62 (a52.add 0) = some u76 ∧
    frozenH hz62 (a52.add 0) = false ∧
    ∀ hz75 : Hp, hz75 = setH hz62 (a52.add 0) (Value.string (x67.extract 0 n71)) →
    C39 (IntKind.i64.wrap (x37 + 1)) hz75
  else
    ∃ x80 : Int, cellH hz38 (a3.add 0) = some (Value.int .i64 x80) ∧
    C_maps_Clone_disk_names_string_disk_file x5 hz38 fun r83 hz82 =>
    cellH hz82 (a3.add 0) = some (Value.int .i64 x80) ∧
    canPut a3 hz82 0 [Value.int .i64 x80, Value.map x5, Value.map r83, Sl.v (Sl.mk none 0 0), Value.bool false, Value.int .i64 (-1)] ∧
    ∀ hz84 : Hp, hz84 = putsFrom a3 hz82 0 [Value.int .i64 x80, Value.map x5, Value.map r83, Sl.v (Sl.mk none 0 0), Value.bool false, Value.int .i64 (-1)] →
    K hz84
def D_disk_Disk_Crash_l2 (h0 : Hp) (K : Hp → Prop) (a3 : Addr) (x5 : Option Nat) (x7 : Sl) (n13 : Nat) (x17 : Int) (hz18 : Hp) (C19 : Int → Hp → Prop) : Prop :=
  if (decide (x17 < ((slCut x7 0 n13 1).len : Int))) = true then
    ∃ a21 : Addr, (slCut x7 0 n13 1).a = some a21 ∧
    (0 : Int) ≤ x17 ∧
    x17 < ((slCut x7 0 n13 1).len : Int) ∧
    ∃ x25 : Value, cellH hz18 (a21.add (x17.toNat * 1)) = some (x25) ∧
    ∃ (g28 : FuncId) (fi29 ca30 : List Value), x25 = Value.func (.func g28) fi29.toArray ca30.toArray ∧ callable PROG g28 = true ∧
    CallsH PROG g28 (fi29 ++ [Value.map x5] ++ ca30).toArray hz18 fun v hz27 => v = Value.tuple #[] ∧
    C19 (IntKind.i64.wrap (x17 + 1)) hz27
  else
    C_maps_Keys_disk_names_string_disk_file x5 hz18 fun r34 hz33 =>
    C_slices_Sorted_string r34 hz33 fun r36 hz35 =>
    ∃ (I : Int → Hp → Prop) (μ : Int → Hp → Nat), I 0 hz35 ∧ ∀ (x37 : Int) (h : Hp), I x37 h → D_disk_Disk_Crash_l1 h0 K a3 x5 r36 x37 h (fun x37' h' => I x37' h' ∧ μ x37' h' < μ x37 h)
def D_disk_Disk_Crash (d_0 : Option Addr) (t_1 : Sl) (h0 : Hp) (K : Hp → Prop) : Prop :=
  ∀ hz1 : Hp, hz1 = h0.push (.cells #[Sl.v t_1] T_sl_int) →
  ∃ a3 : Addr, d_0 = some a3 ∧
  ∃ x5 : Option Nat, cellH hz1 (a3.add 2) = some (Value.map x5) ∧
  ∃ x7 : Sl, cellH hz1 (a3.add 3) = some (Sl.v x7) ∧
  ∃ x9 : Sl, cellH hz1 (a3.add 3) = some (Sl.v x9) ∧
  C_disk_Disk_Crash_1 (x9.len : Int) (blk h0.size) hz1 fun r12 hz11 =>
  cellH hz11 (a3.add 3) = some (Sl.v x7) ∧ cellH hz11 (a3.add 3) = some (Sl.v x9) ∧
  ∃ n13 : Nat, r12 = (n13 : Int) ∧
  0 ≤ n13 ∧
  n13 ≤ x7.cap ∧
  ∃ (I : Int → Hp → Prop) (μ : Int → Hp → Nat), I 0 hz11 ∧ ∀ (x17 : Int) (h : Hp), I x17 h → D_disk_Disk_Crash_l2 h0 K a3 x5 x7 n13 x17 h (fun x17' h' => I x17' h' ∧ μ x17' h' < μ x17 h)

/-! (*barograph/wal.Log).Read -/
def D_wal_Log_Read_j1 (t_1 : Int) (K : ByteArray → Int → Hp → Prop) (a1 : Addr) (x5 : Int) (C7 : Int → Hp → Prop) (x13 : Option Addr) (x15 : Bool) (hz16 : Hp) : Prop :=
  if x15 = true then
    C7 (IntKind.i64.wrap (x5 + 1)) hz16
  else
    ∃ x18 : Option Addr, cellH hz16 (a1.add 0) = some (Value.pointer x18) ∧
    ∃ a20 : Addr, x13 = some a20 ∧
    ∃ x22 : Int, cellH hz16 (a20.add 0) = some (Value.int .i64 x22) ∧
    C_wal_name x22 hz16 fun r25 hz24 =>
    cellH hz24 (a1.add 0) = some (Value.pointer x18) ∧ cellH hz24 (a20.add 0) = some (Value.int .i64 x22) ∧
    C_disk_Disk_Read x18 r25 hz24 fun r27 r28 hz26 =>
    cellH hz26 (a1.add 0) = some (Value.pointer x18) ∧ cellH hz26 (a20.add 0) = some (Value.int .i64 x22) ∧
    if (r28 != (0 : Int)) = true then
      K (ByteArray.mk #[]) r28 hz26
    else
      ∃ x30 : Sl, cellH hz26 (a20.add 1) = some (Sl.v x30) ∧
      ∃ x32 : Int, cellH hz26 (a20.add 0) = some (Value.int .i64 x32) ∧
      ∃ a34 : Addr, x30.a = some a34 ∧
      (0 : Int) ≤ IntKind.i64.wrap (t_1 - x32) ∧
      IntKind.i64.wrap (t_1 - x32) < (x30.len : Int) ∧
      ∃ x38 : Int, cellH hz26 (a34.add ((IntKind.i64.wrap (t_1 - x32)).toNat * 1)) = some (Value.int .i64 x38) ∧
      ∃ n40 : Nat, x38 = (n40 : Int) ∧
      n40 ≤ r27.size ∧
      r27.size ≤ r27.size ∧
      (  C_frame_Get (r27.extract n40 r27.size) hz26 fun r45 r46 _r47 r48 hz44 =>
        cellH hz44 (a20.add 1) = some (Sl.v x30) ∧ cellH hz44 (a20.add 0) = some (Value.int .i64 x32) ∧ cellH hz44 (a34.add ((IntKind.i64.wrap (t_1 - x32)).toNat * 1)) = some (Value.int .i64 x38) ∧
        ∀ hz49 : Hp, hz49 = hz44.push (.cells #[Value.int .i64 0, Value.string ByteArray.empty] T_frame_Frame) →
        cellH hz49 (a20.add 1) = some (Sl.v x30) ∧ cellH hz49 (a20.add 0) = some (Value.int .i64 x32) ∧ cellH hz49 (a34.add ((IntKind.i64.wrap (t_1 - x32)).toNat * 1)) = some (Value.int .i64 x38) ∧
        canPut (blk hz44.size) hz49 0 [Value.int .i64 r45, Value.string r46] ∧
        ∀ hz51 : Hp, hz51 = putsFrom (blk hz44.size) hz49 0 [Value.int .i64 r45, Value.string r46] →
        cellH hz51 (a20.add 1) = some (Sl.v x30) ∧ cellH hz51 (a20.add 0) = some (Value.int .i64 x32) ∧ cellH hz51 (a34.add ((IntKind.i64.wrap (t_1 - x32)).toNat * 1)) = some (Value.int .i64 x38) ∧
        ∃ x54 : ByteArray, cellH hz51 ((blk hz44.size).add 1) = some (Value.string x54) ∧
        K x54 r48 hz51) ∧
      (  ∀ hz56 : Hp, hz56 = hz26.push (.cells #[Value.int .i64 0, Value.string ByteArray.empty] T_frame_Frame) →
        cellH hz56 (a20.add 1) = some (Sl.v x30) ∧ cellH hz56 (a20.add 0) = some (Value.int .i64 x32) ∧ cellH hz56 (a34.add ((IntKind.i64.wrap (t_1 - x32)).toNat * 1)) = some (Value.int .i64 x38) ∧
        C_frame_Get (r27.extract n40 r27.size) hz56 fun r59 r60 _r61 r62 hz58 =>
        cellH hz58 (a20.add 1) = some (Sl.v x30) ∧ cellH hz58 (a20.add 0) = some (Value.int .i64 x32) ∧ cellH hz58 (a34.add ((IntKind.i64.wrap (t_1 - x32)).toNat * 1)) = some (Value.int .i64 x38) ∧
        canPut (blk hz26.size) hz58 0 [Value.int .i64 r59, Value.string r60] ∧
        ∀ hz63 : Hp, hz63 = putsFrom (blk hz26.size) hz58 0 [Value.int .i64 r59, Value.string r60] →
        cellH hz63 (a20.add 1) = some (Sl.v x30) ∧ cellH hz63 (a20.add 0) = some (Value.int .i64 x32) ∧ cellH hz63 (a34.add ((IntKind.i64.wrap (t_1 - x32)).toNat * 1)) = some (Value.int .i64 x38) ∧
        ∃ x66 : ByteArray, cellH hz63 ((blk hz26.size).add 1) = some (Value.string x66) ∧
        K x66 r62 hz63)
def D_wal_Log_Read_l2 (t_1 : Int) (K : ByteArray → Int → Hp → Prop) (a1 : Addr) (x3 : Sl) (x5 : Int) (hz6 : Hp) (C7 : Int → Hp → Prop) : Prop :=
  if (decide (x5 < (x3.len : Int))) = true then
    ∃ a9 : Addr, x3.a = some a9 ∧
    (0 : Int) ≤ x5 ∧
    x5 < (x3.len : Int) ∧
    ∃ x13 : Option Addr, cellH hz6 (a9.add (x5.toNat * 1)) = some (Value.pointer x13) ∧
    ∃ a68 : Addr, x13 = some a68 ∧
    ∃ x70 : Int, cellH hz6 (a68.add 0) = some (Value.int .i64 x70) ∧
    if (decide (t_1 < x70)) = true then
      D_wal_Log_Read_j1 t_1 K a1 x5 C7 x13 true hz6
    else
      C_wal_segment_last x13 hz6 fun r74 hz73 =>
      D_wal_Log_Read_j1 t_1 K a1 x5 C7 x13 (decide (t_1 > r74)) hz73
  else
    K (ByteArray.mk #[]) 12 hz6
def D_wal_Log_Read (d_0 : Option Addr) (t_1 : Int) (h0 : Hp) (K : ByteArray → Int → Hp → Prop) : Prop :=
  ∃ a1 : Addr, d_0 = some a1 ∧
  ∃ x3 : Sl, cellH h0 (a1.add 1) = some (Sl.v x3) ∧
  ∃ (I : Int → Hp → Prop) (μ : Int → Hp → Nat), I 0 h0 ∧ ∀ (x5 : Int) (h : Hp), I x5 h → D_wal_Log_Read_l2 t_1 K a1 x3 x5 h (fun x5' h' => I x5' h' ∧ μ x5' h' < μ x5 h)

/-! barograph/barographlaw05.works -/
def D_barographlaw05_works_j1 (K : Bool → Hp → Prop) (d30 : Bool) (hz31 : Hp) : Prop :=
  K d30 hz31
def D_barographlaw05_works_j2 (K : Bool → Hp → Prop) (r13 : Int) (r16 : Int) (r22 : Option Addr) (x24 : Bool) (hz25 : Hp) : Prop :=
  if x24 = true then
    K false hz25
  else
    C_wal_Log_Read r22 2 hz25 fun r28 r29 hz27 =>
    if (r13 == (2 : Int)) = true then
      if (r16 == (0 : Int)) = true then
        C_wal_Log_Last r22 hz27 fun r35 hz34 =>
        if (r35 == (2 : Int)) = true then
          if (r28.toList == (ByteArray.mk #[98]).toList) = true then
            D_barographlaw05_works_j1 K (r29 == (0 : Int)) hz34
          else
            D_barographlaw05_works_j1 K false hz34
        else
          D_barographlaw05_works_j1 K false hz34
      else
        D_barographlaw05_works_j1 K false hz27
    else
      D_barographlaw05_works_j1 K false hz27
def D_barographlaw05_works_j3 (K : Bool → Hp → Prop) (r2 : Option Addr) (r4 : Option Addr) (x6 : Bool) (hz7 : Hp) : Prop :=
  if x6 = true then
    K false hz7
  else
    C_wal_Log_Append r4 (ByteArray.mk #[97]) hz7 fun _r10 _r11 hz9 =>
    C_wal_Log_Append r4 (ByteArray.mk #[98]) hz9 fun r13 _r14 hz12 =>
    C_wal_Log_Sync r4 hz12 fun r16 hz15 =>
    C_wal_Log_Append r4 (ByteArray.mk #[99]) hz15 fun _r18 _r19 hz17 =>
    C_disk_Disk_Crash r2 (Sl.mk none 0 0) hz17 fun hz20 =>
    C_wal_Open r2 0 hz20 fun r22 r23 hz21 =>
    if (r23 != (0 : Int)) = true then
      D_barographlaw05_works_j2 K r13 r16 r22 true hz21
    else
      D_barographlaw05_works_j2 K r13 r16 r22 r22.isNone hz21
def D_barographlaw05_works (h0 : Hp) (K : Bool → Hp → Prop) : Prop :=
  C_disk_New 1000 h0 fun r2 hz1 =>
  C_wal_Open r2 0 hz1 fun r4 r5 hz3 =>
  if (r5 != (0 : Int)) = true then
    D_barographlaw05_works_j3 K r2 r4 true hz3
  else
    D_barographlaw05_works_j3 K r2 r4 r4.isNone hz3

/-! (*barograph/wal.Log).First -/
def D_wal_Log_First (l_0 : Option Addr) (h0 : Hp) (K : Int → Hp → Prop) : Prop :=
  ∃ a1 : Addr, l_0 = some a1 ∧
  ∃ x3 : Sl, cellH h0 (a1.add 1) = some (Sl.v x3) ∧
  if ((x3.len : Int) == (0 : Int)) = true then
    ∃ x6 : Int, cellH h0 (a1.add 4) = some (Value.int .i64 x6) ∧
    K (IntKind.i64.wrap (x6 + 1)) h0
  else
    ∃ x8 : Sl, cellH h0 (a1.add 1) = some (Sl.v x8) ∧
    ∃ a10 : Addr, x8.a = some a10 ∧
    (0 : Int) ≤ 0 ∧
    0 < (x8.len : Int) ∧
    ∃ x14 : Option Addr, cellH h0 (a10.add ((0 : Int).toNat * 1)) = some (Value.pointer x14) ∧
    ∃ a16 : Addr, x14 = some a16 ∧
    ∃ x18 : Int, cellH h0 (a16.add 0) = some (Value.int .i64 x18) ∧
    K x18 h0

/-! (*barograph/wal.Log).shorten -/
def D_wal_Log_shorten_l1 (K : Int → Hp → Prop) (hz76 : Hp) (x79 : Int) (hz80 : Hp) (C81 : Int → Hp → Prop) : Prop :=
  if (decide (x79 < ((Sl.mk (some (blk hz76.size)) 3 3).len : Int))) = true then
    ∃ a83 : Addr, (Sl.mk (some (blk hz76.size)) 3 3).a = some a83 ∧
    (0 : Int) ≤ x79 ∧
    x79 < ((Sl.mk (some (blk hz76.size)) 3 3).len : Int) ∧
    ∃ x87 : Value, cellH hz80 (a83.add (x79.toNat * 1)) = some (x87) ∧
    ∃ (g92 : FuncId) (fi93 ca94 : List Value), x87 = Value.func (.func g92) fi93.toArray ca94.toArray ∧ callable PROG g92 = true ∧
    CallsH PROG g92 (fi93 ++ [] ++ ca94).toArray hz80 fun v hz89 => ∃ r90 : Int, v = Value.int .i64 r90 ∧
    if (r90 != (0 : Int)) = true then
      K r90 hz89
    else
      C81 (IntKind.i64.wrap (x79 + 1)) hz89
  else
    K 0 hz80
def D_wal_Log_shorten_j2 (h0 : Hp) (K : Int → Hp → Prop) (hz1 : Hp) (hz19 : Hp) (hz76 : Hp) : Prop :=
  ∀ hz77 : Hp, hz77 = hz76.push (.cells #[Value.func (.func F_wal_Log_shorten_1) #[] #[Value.pointer (some (blk h0.size)), Value.pointer (some (blk hz19.size)), Value.pointer (some (blk hz1.size))], Value.func (.func F_wal_Log_shorten_2) #[] #[Value.pointer (some (blk h0.size))], Value.func (.func F_wal_Log_shorten_3) #[] #[Value.pointer (some (blk h0.size)), Value.pointer (some (blk hz1.size))]] T_fn_r_api_Errno) →
  ∃ (I : Int → Hp → Prop) (μ : Int → Hp → Nat), I 0 hz77 ∧ ∀ (x79 : Int) (h : Hp), I x79 h → D_wal_Log_shorten_l1 K hz76 x79 h (fun x79' h' => I x79' h' ∧ μ x79' h' < μ x79 h)
def D_wal_Log_shorten_l3 (K : Int → Hp → Prop) (hz177 : Hp) (x180 : Int) (hz181 : Hp) (C182 : Int → Hp → Prop) : Prop :=
  if (decide (x180 < ((Sl.mk (some (blk hz177.size)) 3 3).len : Int))) = true then
    ∃ a184 : Addr, (Sl.mk (some (blk hz177.size)) 3 3).a = some a184 ∧
    (0 : Int) ≤ x180 ∧
    x180 < ((Sl.mk (some (blk hz177.size)) 3 3).len : Int) ∧
    ∃ x188 : Value, cellH hz181 (a184.add (x180.toNat * 1)) = some (x188) ∧
    ∃ (g193 : FuncId) (fi194 ca195 : List Value), x188 = Value.func (.func g193) fi194.toArray ca195.toArray ∧ callable PROG g193 = true ∧
    CallsH PROG g193 (fi194 ++ [] ++ ca195).toArray hz181 fun v hz190 => ∃ r191 : Int, v = Value.int .i64 r191 ∧
    if (r191 != (0 : Int)) = true then
      K r191 hz190
    else
      C182 (IntKind.i64.wrap (x180 + 1)) hz190
  else
    K 0 hz181
def D_wal_Log_shorten_j4 (h0 : Hp) (K : Int → Hp → Prop) (hz1 : Hp) (hz17 : Hp) (hz177 : Hp) : Prop :=
  ∀ hz178 : Hp, hz178 = hz177.push (.cells #[Value.func (.func F_wal_Log_shorten_1) #[] #[Value.pointer (some (blk h0.size)), Value.pointer (some (blk hz17.size)), Value.pointer (some (blk hz1.size))], Value.func (.func F_wal_Log_shorten_2) #[] #[Value.pointer (some (blk h0.size))], Value.func (.func F_wal_Log_shorten_3) #[] #[Value.pointer (some (blk h0.size)), Value.pointer (some (blk hz1.size))]] T_fn_r_api_Errno) →
  ∃ (I : Int → Hp → Prop) (μ : Int → Hp → Nat), I 0 hz178 ∧ ∀ (x180 : Int) (h : Hp), I x180 h → D_wal_Log_shorten_l3 K hz177 x180 h (fun x180' h' => I x180' h' ∧ μ x180' h' < μ x180 h)
def D_wal_Log_shorten_l5 (K : Int → Hp → Prop) (hz280 : Hp) (x283 : Int) (hz284 : Hp) (C285 : Int → Hp → Prop) : Prop :=
  if (decide (x283 < ((Sl.mk (some (blk hz280.size)) 3 3).len : Int))) = true then
    ∃ a287 : Addr, (Sl.mk (some (blk hz280.size)) 3 3).a = some a287 ∧
    (0 : Int) ≤ x283 ∧
    x283 < ((Sl.mk (some (blk hz280.size)) 3 3).len : Int) ∧
    ∃ x291 : Value, cellH hz284 (a287.add (x283.toNat * 1)) = some (x291) ∧
    ∃ (g296 : FuncId) (fi297 ca298 : List Value), x291 = Value.func (.func g296) fi297.toArray ca298.toArray ∧ callable PROG g296 = true ∧
    CallsH PROG g296 (fi297 ++ [] ++ ca298).toArray hz284 fun v hz293 => ∃ r294 : Int, v = Value.int .i64 r294 ∧
    if (r294 != (0 : Int)) = true then
      K r294 hz293
    else
      C285 (IntKind.i64.wrap (x283 + 1)) hz293
  else
    K 0 hz284
def D_wal_Log_shorten_j6 (h0 : Hp) (K : Int → Hp → Prop) (hz1 : Hp) (hz3 : Hp) (hz280 : Hp) : Prop :=
  ∀ hz281 : Hp, hz281 = hz280.push (.cells #[Value.func (.func F_wal_Log_shorten_1) #[] #[Value.pointer (some (blk h0.size)), Value.pointer (some (blk hz3.size)), Value.pointer (some (blk hz1.size))], Value.func (.func F_wal_Log_shorten_2) #[] #[Value.pointer (some (blk h0.size))], Value.func (.func F_wal_Log_shorten_3) #[] #[Value.pointer (some (blk h0.size)), Value.pointer (some (blk hz1.size))]] T_fn_r_api_Errno) →
  ∃ (I : Int → Hp → Prop) (μ : Int → Hp → Nat), I 0 hz281 ∧ ∀ (x283 : Int) (h : Hp), I x283 h → D_wal_Log_shorten_l5 K hz280 x283 h (fun x283' h' => I x283' h' ∧ μ x283' h' < μ x283 h)
def D_wal_Log_shorten (d_0 : Option Addr) (t_1 : Option Addr) (p_2 : Int) (h0 : Hp) (K : Int → Hp → Prop) : Prop :=
  ∀ hz1 : Hp, hz1 = h0.push (.cells #[Value.pointer d_0] T_pt_wal_Log) →
  ∀ hz3 : Hp, hz3 = hz1.push (.cells #[Value.pointer t_1] T_pt_wal_segment) →
  ∃ x5 : Option Addr, cellH hz3 (blk h0.size) = some (Value.pointer x5) ∧
  ∃ a7 : Addr, x5 = some a7 ∧
  ∃ x9 : Option Addr, cellH hz3 (a7.add 0) = some (Value.pointer x9) ∧
  ∃ x11 : Option Addr, cellH hz3 (blk hz1.size) = some (Value.pointer x11) ∧
  ∃ a13 : Addr, x11 = some a13 ∧
  ∃ x15 : Int, cellH hz3 (a13.add 0) = some (Value.int .i64 x15) ∧
  (  C_wal_name x15 hz3 fun r18 hz17 =>
    cellH hz17 (blk h0.size) = some (Value.pointer x5) ∧ cellH hz17 (a7.add 0) = some (Value.pointer x9) ∧ cellH hz17 (blk hz1.size) = some (Value.pointer x11) ∧ cellH hz17 (a13.add 0) = some (Value.int .i64 x15) ∧
    (  C_disk_Disk_Read x9 r18 hz17 fun r20 r21 hz19 =>
      cellH hz19 (blk h0.size) = some (Value.pointer x5) ∧ cellH hz19 (a7.add 0) = some (Value.pointer x9) ∧ cellH hz19 (blk hz1.size) = some (Value.pointer x11) ∧ cellH hz19 (a13.add 0) = some (Value.int .i64 x15) ∧
      ∀ hz22 : Hp, hz22 = hz19.push (.cells #[Value.string ByteArray.empty] T_string) →
      cellH hz22 (blk h0.size) = some (Value.pointer x5) ∧ cellH hz22 (a7.add 0) = some (Value.pointer x9) ∧ cellH hz22 (blk hz1.size) = some (Value.pointer x11) ∧ cellH hz22 (a13.add 0) = some (Value.int .i64 x15) ∧
      ∃ u25 : Value, cellH hz22 (blk hz19.size) = some u25 ∧
      frozenH hz22 (blk hz19.size) = false ∧
      ∀ hz24 : Hp, hz24 = setH hz22 (blk hz19.size) (Value.string r20) →
      cellH hz24 (blk h0.size) = some (Value.pointer x5) ∧ cellH hz24 (a7.add 0) = some (Value.pointer x9) ∧ cellH hz24 (blk hz1.size) = some (Value.pointer x11) ∧ cellH hz24 (a13.add 0) = some (Value.int .i64 x15) ∧
      if (r21 != (0 : Int)) = true then
        K r21 hz24
      else
        ∃ x30 : Option Addr, cellH hz24 (blk hz1.size) = some (Value.pointer x30) ∧
        ∃ a32 : Addr, x30 = some a32 ∧
        ∃ x34 : Int, cellH hz24 (a32.add 0) = some (Value.int .i64 x34) ∧
        ∃ x36 : Option Addr, cellH hz24 (blk hz1.size) = some (Value.pointer x36) ∧
        ∃ x38 : Option Addr, cellH hz24 (blk hz1.size) = some (Value.pointer x38) ∧
        ∃ a40 : Addr, x38 = some a40 ∧
        ∃ x42 : Sl, cellH hz24 (a40.add 1) = some (Sl.v x42) ∧
        ∃ a44 : Addr, x42.a = some a44 ∧
        (0 : Int) ≤ IntKind.i64.wrap ((IntKind.i64.wrap (p_2 - x34)) + 1) ∧
        IntKind.i64.wrap ((IntKind.i64.wrap (p_2 - x34)) + 1) < (x42.len : Int) ∧
        ∃ x48 : Int, cellH hz24 (a44.add ((IntKind.i64.wrap ((IntKind.i64.wrap (p_2 - x34)) + 1)).toNat * 1)) = some (Value.int .i64 x48) ∧
        ∃ a50 : Addr, x36 = some a50 ∧
        ∃ u53 : Value, cellH hz24 (a50.add 2) = some u53 ∧
        frozenH hz24 (a50.add 2) = false ∧
        ∀ hz52 : Hp, hz52 = setH hz24 (a50.add 2) (Value.int .i64 x48) →
        ∃ x57 : Option Addr, cellH hz52 (blk hz1.size) = some (Value.pointer x57) ∧
        ∃ x59 : Option Addr, cellH hz52 (blk hz1.size) = some (Value.pointer x59) ∧
        ∃ a61 : Addr, x59 = some a61 ∧
        ∃ x63 : Sl, cellH hz52 (a61.add 1) = some (Sl.v x63) ∧
        ∃ n65 : Nat, IntKind.i64.wrap ((IntKind.i64.wrap (p_2 - x34)) + 1) = (n65 : Int) ∧
        0 ≤ n65 ∧
        n65 ≤ x63.cap ∧
        ∃ a69 : Addr, x57 = some a69 ∧
        ∃ u72 : Value, cellH hz52 (a69.add 1) = some u72 ∧
        frozenH hz52 (a69.add 1) = false ∧
        ∀ hz71 : Hp, hz71 = setH hz52 (a69.add 1) (Sl.v (slCut x63 0 n65 1)) →
        ∃ x99 : Option Addr, cellH hz71 (blk h0.size) = some (Value.pointer x99) ∧
        ∃ a101 : Addr, x99 = some a101 ∧
        ∃ x103 : Option Addr, cellH hz71 (a101.add 0) = some (Value.pointer x103) ∧
        C_disk_Disk_Read x103 (ByteArray.mk #[116]) hz71 fun _r106 r107 hz105 =>
        if (r107 == (0 : Int)) = true then
          ∃ x109 : Option Addr, cellH hz105 (blk h0.size) = some (Value.pointer x109) ∧
          ∃ a111 : Addr, x109 = some a111 ∧
          ∃ x113 : Option Addr, cellH hz105 (a111.add 0) = some (Value.pointer x113) ∧
          C_disk_Disk_Remove x113 (ByteArray.mk #[116]) hz105 fun r116 hz115 =>
          if (r116 != (0 : Int)) = true then
            K r116 hz115
          else
            D_wal_Log_shorten_j2 h0 K hz1 hz19 hz115
        else
          D_wal_Log_shorten_j2 h0 K hz1 hz19 hz105) ∧
    (  ∀ hz120 : Hp, hz120 = hz17.push (.cells #[Value.string ByteArray.empty] T_string) →
      cellH hz120 (blk h0.size) = some (Value.pointer x5) ∧ cellH hz120 (a7.add 0) = some (Value.pointer x9) ∧ cellH hz120 (blk hz1.size) = some (Value.pointer x11) ∧ cellH hz120 (a13.add 0) = some (Value.int .i64 x15) ∧
      C_disk_Disk_Read x9 r18 hz120 fun r123 r124 hz122 =>
      cellH hz122 (blk h0.size) = some (Value.pointer x5) ∧ cellH hz122 (a7.add 0) = some (Value.pointer x9) ∧ cellH hz122 (blk hz1.size) = some (Value.pointer x11) ∧ cellH hz122 (a13.add 0) = some (Value.int .i64 x15) ∧
      ∃ u126 : Value, cellH hz122 (blk hz17.size) = some u126 ∧
      frozenH hz122 (blk hz17.size) = false ∧
      ∀ hz125 : Hp, hz125 = setH hz122 (blk hz17.size) (Value.string r123) →
      cellH hz125 (blk h0.size) = some (Value.pointer x5) ∧ cellH hz125 (a7.add 0) = some (Value.pointer x9) ∧ cellH hz125 (blk hz1.size) = some (Value.pointer x11) ∧ cellH hz125 (a13.add 0) = some (Value.int .i64 x15) ∧
      if (r124 != (0 : Int)) = true then
        K r124 hz125
      else
        ∃ x131 : Option Addr, cellH hz125 (blk hz1.size) = some (Value.pointer x131) ∧
        ∃ a133 : Addr, x131 = some a133 ∧
        ∃ x135 : Int, cellH hz125 (a133.add 0) = some (Value.int .i64 x135) ∧
        ∃ x137 : Option Addr, cellH hz125 (blk hz1.size) = some (Value.pointer x137) ∧
        ∃ x139 : Option Addr, cellH hz125 (blk hz1.size) = some (Value.pointer x139) ∧
        ∃ a141 : Addr, x139 = some a141 ∧
        ∃ x143 : Sl, cellH hz125 (a141.add 1) = some (Sl.v x143) ∧
        ∃ a145 : Addr, x143.a = some a145 ∧
        (0 : Int) ≤ IntKind.i64.wrap ((IntKind.i64.wrap (p_2 - x135)) + 1) ∧
        IntKind.i64.wrap ((IntKind.i64.wrap (p_2 - x135)) + 1) < (x143.len : Int) ∧
        ∃ x149 : Int, cellH hz125 (a145.add ((IntKind.i64.wrap ((IntKind.i64.wrap (p_2 - x135)) + 1)).toNat * 1)) = some (Value.int .i64 x149) ∧
        ∃ a151 : Addr, x137 = some a151 ∧
        ∃ u154 : Value, cellH hz125 (a151.add 2) = some u154 ∧
        frozenH hz125 (a151.add 2) = false ∧
        ∀ hz153 : Hp, hz153 = setH hz125 (a151.add 2) (Value.int .i64 x149) →
        ∃ x158 : Option Addr, cellH hz153 (blk hz1.size) = some (Value.pointer x158) ∧
        ∃ x160 : Option Addr, cellH hz153 (blk hz1.size) = some (Value.pointer x160) ∧
        ∃ a162 : Addr, x160 = some a162 ∧
        ∃ x164 : Sl, cellH hz153 (a162.add 1) = some (Sl.v x164) ∧
        ∃ n166 : Nat, IntKind.i64.wrap ((IntKind.i64.wrap (p_2 - x135)) + 1) = (n166 : Int) ∧
        0 ≤ n166 ∧
        n166 ≤ x164.cap ∧
        ∃ a170 : Addr, x158 = some a170 ∧
        ∃ u173 : Value, cellH hz153 (a170.add 1) = some u173 ∧
        frozenH hz153 (a170.add 1) = false ∧
        ∀ hz172 : Hp, hz172 = setH hz153 (a170.add 1) (Sl.v (slCut x164 0 n166 1)) →
        ∃ x200 : Option Addr, cellH hz172 (blk h0.size) = some (Value.pointer x200) ∧
        ∃ a202 : Addr, x200 = some a202 ∧
        ∃ x204 : Option Addr, cellH hz172 (a202.add 0) = some (Value.pointer x204) ∧
        C_disk_Disk_Read x204 (ByteArray.mk #[116]) hz172 fun _r207 r208 hz206 =>
        if (r208 == (0 : Int)) = true then
          ∃ x210 : Option Addr, cellH hz206 (blk h0.size) = some (Value.pointer x210) ∧
          ∃ a212 : Addr, x210 = some a212 ∧
          ∃ x214 : Option Addr, cellH hz206 (a212.add 0) = some (Value.pointer x214) ∧
          C_disk_Disk_Remove x214 (ByteArray.mk #[116]) hz206 fun r217 hz216 =>
          if (r217 != (0 : Int)) = true then
            K r217 hz216
          else
            D_wal_Log_shorten_j4 h0 K hz1 hz17 hz216
        else
          D_wal_Log_shorten_j4 h0 K hz1 hz17 hz206)) ∧
  (  ∀ hz221 : Hp, hz221 = hz3.push (.cells #[Value.string ByteArray.empty] T_string) →
    cellH hz221 (blk h0.size) = some (Value.pointer x5) ∧ cellH hz221 (a7.add 0) = some (Value.pointer x9) ∧ cellH hz221 (blk hz1.size) = some (Value.pointer x11) ∧ cellH hz221 (a13.add 0) = some (Value.int .i64 x15) ∧
    C_wal_name x15 hz221 fun r224 hz223 =>
    cellH hz223 (blk h0.size) = some (Value.pointer x5) ∧ cellH hz223 (a7.add 0) = some (Value.pointer x9) ∧ cellH hz223 (blk hz1.size) = some (Value.pointer x11) ∧ cellH hz223 (a13.add 0) = some (Value.int .i64 x15) ∧
    C_disk_Disk_Read x9 r224 hz223 fun r226 r227 hz225 =>
    cellH hz225 (blk h0.size) = some (Value.pointer x5) ∧ cellH hz225 (a7.add 0) = some (Value.pointer x9) ∧ cellH hz225 (blk hz1.size) = some (Value.pointer x11) ∧ cellH hz225 (a13.add 0) = some (Value.int .i64 x15) ∧
    ∃ u229 : Value, cellH hz225 (blk hz3.size) = some u229 ∧
    frozenH hz225 (blk hz3.size) = false ∧
    ∀ hz228 : Hp, hz228 = setH hz225 (blk hz3.size) (Value.string r226) →
    cellH hz228 (blk h0.size) = some (Value.pointer x5) ∧ cellH hz228 (a7.add 0) = some (Value.pointer x9) ∧ cellH hz228 (blk hz1.size) = some (Value.pointer x11) ∧ cellH hz228 (a13.add 0) = some (Value.int .i64 x15) ∧
    if (r227 != (0 : Int)) = true then
      K r227 hz228
    else
      ∃ x234 : Option Addr, cellH hz228 (blk hz1.size) = some (Value.pointer x234) ∧
      ∃ a236 : Addr, x234 = some a236 ∧
      ∃ x238 : Int, cellH hz228 (a236.add 0) = some (Value.int .i64 x238) ∧
      ∃ x240 : Option Addr, cellH hz228 (blk hz1.size) = some (Value.pointer x240) ∧
      ∃ x242 : Option Addr, cellH hz228 (blk hz1.size) = some (Value.pointer x242) ∧
      ∃ a244 : Addr, x242 = some a244 ∧
      ∃ x246 : Sl, cellH hz228 (a244.add 1) = some (Sl.v x246) ∧
      ∃ a248 : Addr, x246.a = some a248 ∧
      (0 : Int) ≤ IntKind.i64.wrap ((IntKind.i64.wrap (p_2 - x238)) + 1) ∧
      IntKind.i64.wrap ((IntKind.i64.wrap (p_2 - x238)) + 1) < (x246.len : Int) ∧
      ∃ x252 : Int, cellH hz228 (a248.add ((IntKind.i64.wrap ((IntKind.i64.wrap (p_2 - x238)) + 1)).toNat * 1)) = some (Value.int .i64 x252) ∧
      ∃ a254 : Addr, x240 = some a254 ∧
      ∃ u257 : Value, cellH hz228 (a254.add 2) = some u257 ∧
      frozenH hz228 (a254.add 2) = false ∧
      ∀ hz256 : Hp, hz256 = setH hz228 (a254.add 2) (Value.int .i64 x252) →
      ∃ x261 : Option Addr, cellH hz256 (blk hz1.size) = some (Value.pointer x261) ∧
      ∃ x263 : Option Addr, cellH hz256 (blk hz1.size) = some (Value.pointer x263) ∧
      ∃ a265 : Addr, x263 = some a265 ∧
      ∃ x267 : Sl, cellH hz256 (a265.add 1) = some (Sl.v x267) ∧
      ∃ n269 : Nat, IntKind.i64.wrap ((IntKind.i64.wrap (p_2 - x238)) + 1) = (n269 : Int) ∧
      0 ≤ n269 ∧
      n269 ≤ x267.cap ∧
      ∃ a273 : Addr, x261 = some a273 ∧
      ∃ u276 : Value, cellH hz256 (a273.add 1) = some u276 ∧
      frozenH hz256 (a273.add 1) = false ∧
      ∀ hz275 : Hp, hz275 = setH hz256 (a273.add 1) (Sl.v (slCut x267 0 n269 1)) →
      ∃ x303 : Option Addr, cellH hz275 (blk h0.size) = some (Value.pointer x303) ∧
      ∃ a305 : Addr, x303 = some a305 ∧
      ∃ x307 : Option Addr, cellH hz275 (a305.add 0) = some (Value.pointer x307) ∧
      C_disk_Disk_Read x307 (ByteArray.mk #[116]) hz275 fun _r310 r311 hz309 =>
      if (r311 == (0 : Int)) = true then
        ∃ x313 : Option Addr, cellH hz309 (blk h0.size) = some (Value.pointer x313) ∧
        ∃ a315 : Addr, x313 = some a315 ∧
        ∃ x317 : Option Addr, cellH hz309 (a315.add 0) = some (Value.pointer x317) ∧
        C_disk_Disk_Remove x317 (ByteArray.mk #[116]) hz309 fun r320 hz319 =>
        if (r320 != (0 : Int)) = true then
          K r320 hz319
        else
          D_wal_Log_shorten_j6 h0 K hz1 hz3 hz319
      else
        D_wal_Log_shorten_j6 h0 K hz1 hz3 hz309)

/-! (*barograph/wal.Log).stands -/
def D_wal_Log_stands_j1 (K : Int → Hp → Prop) (r6 : Int) (hz7 : Hp) : Prop :=
  K r6 hz7
def D_wal_Log_stands (l_0 : Option Addr) (n_1 : Int) (h0 : Hp) (K : Int → Hp → Prop) : Prop :=
  ∃ a1 : Addr, l_0 = some a1 ∧
  ∃ x3 : Option Addr, cellH h0 (a1.add 0) = some (Value.pointer x3) ∧
  C_disk_Disk_SyncNames x3 h0 fun r6 hz5 =>
  if (r6 == (0 : Int)) = true then
    ∃ u10 : Value, cellH hz5 (a1.add 4) = some u10 ∧
    frozenH hz5 (a1.add 4) = false ∧
    ∀ hz9 : Hp, hz9 = setH hz5 (a1.add 4) (Value.int .i64 n_1) →
    ∃ u15 : Value, cellH hz9 (a1.add 5) = some u15 ∧
    frozenH hz9 (a1.add 5) = false ∧
    ∀ hz14 : Hp, hz14 = setH hz9 (a1.add 5) (Value.int .i64 n_1) →
    ∃ u20 : Value, cellH hz14 (a1.add 3) = some u20 ∧
    frozenH hz14 (a1.add 3) = false ∧
    ∀ hz19 : Hp, hz19 = setH hz14 (a1.add 3) (Value.bool false) →
    D_wal_Log_stands_j1 K r6 hz19
  else
    D_wal_Log_stands_j1 K r6 hz5

/-! (*barograph/wal.Log).CutAfter -/
def D_wal_Log_CutAfter_j1 (d_0 : Option Addr) (t_1 : Int) (K : Int → Hp → Prop) (hz51 : Hp) : Prop :=
  C_wal_Log_stands d_0 t_1 hz51 fun r53 hz52 =>
  K r53 hz52
def D_wal_Log_CutAfter_j2 (d_0 : Option Addr) (t_1 : Int) (K : Int → Hp → Prop) (a4 : Addr) (C15 : Hp → Prop) (x16 : Bool) (hz17 : Hp) : Prop :=
  if x16 = true then
    ∃ x19 : Sl, cellH hz17 (a4.add 1) = some (Sl.v x19) ∧
    ∃ x21 : Option Addr, cellH hz17 (a4.add 0) = some (Value.pointer x21) ∧
    ∃ x23 : Sl, cellH hz17 (a4.add 1) = some (Sl.v x23) ∧
    ∃ a25 : Addr, x23.a = some a25 ∧
    (0 : Int) ≤ IntKind.i64.wrap ((x19.len : Int) - 1) ∧
    IntKind.i64.wrap ((x19.len : Int) - 1) < (x23.len : Int) ∧
    ∃ x29 : Option Addr, cellH hz17 (a25.add ((IntKind.i64.wrap ((x19.len : Int) - 1)).toNat * 1)) = some (Value.pointer x29) ∧
    ∃ a31 : Addr, x29 = some a31 ∧
    ∃ x33 : Int, cellH hz17 (a31.add 0) = some (Value.int .i64 x33) ∧
    C_wal_name x33 hz17 fun r36 hz35 =>
    cellH hz35 (a4.add 0) = some (Value.pointer x21) ∧ cellH hz35 (a4.add 1) = some (Sl.v x23) ∧ cellH hz35 (a25.add ((IntKind.i64.wrap ((x19.len : Int) - 1)).toNat * 1)) = some (Value.pointer x29) ∧ cellH hz35 (a31.add 0) = some (Value.int .i64 x33) ∧
    C_disk_Disk_Remove x21 r36 hz35 fun r38 hz37 =>
    cellH hz37 (a4.add 0) = some (Value.pointer x21) ∧ cellH hz37 (a4.add 1) = some (Sl.v x23) ∧ cellH hz37 (a25.add ((IntKind.i64.wrap ((x19.len : Int) - 1)).toNat * 1)) = some (Value.pointer x29) ∧ cellH hz37 (a31.add 0) = some (Value.int .i64 x33) ∧
    if (r38 != (0 : Int)) = true then
      K r38 hz37
    else
      ∃ x40 : Sl, cellH hz37 (a4.add 1) = some (Sl.v x40) ∧
      ∃ n42 : Nat, IntKind.i64.wrap ((x19.len : Int) - 1) = (n42 : Int) ∧
      0 ≤ n42 ∧
      n42 ≤ x40.cap ∧
      ∃ u47 : Value, cellH hz37 (a4.add 1) = some u47 ∧
      frozenH hz37 (a4.add 1) = false ∧
      ∀ hz46 : Hp, hz46 = setH hz37 (a4.add 1) (Sl.v (slCut x40 0 n42 1)) →
      C15 hz46
  else
    C_wal_Log_end d_0 hz17 fun r55 hz54 =>
    if (decide (r55 > t_1)) = true then
      ∃ x57 : Sl, cellH hz54 (a4.add 1) = some (Sl.v x57) ∧
      ∃ x59 : Sl, cellH hz54 (a4.add 1) = some (Sl.v x59) ∧
      ∃ a61 : Addr, x57.a = some a61 ∧
      (0 : Int) ≤ IntKind.i64.wrap ((x59.len : Int) - 1) ∧
      IntKind.i64.wrap ((x59.len : Int) - 1) < (x57.len : Int) ∧
      ∃ x65 : Option Addr, cellH hz54 (a61.add ((IntKind.i64.wrap ((x59.len : Int) - 1)).toNat * 1)) = some (Value.pointer x65) ∧
      C_wal_Log_shorten d_0 x65 t_1 hz54 fun r68 hz67 =>
      cellH hz67 (a4.add 1) = some (Sl.v x57) ∧ cellH hz67 (a4.add 1) = some (Sl.v x59) ∧ cellH hz67 (a61.add ((IntKind.i64.wrap ((x59.len : Int) - 1)).toNat * 1)) = some (Value.pointer x65) ∧
      if (r68 != (0 : Int)) = true then
        K r68 hz67
      else
        D_wal_Log_CutAfter_j1 d_0 t_1 K hz67
    else
      D_wal_Log_CutAfter_j1 d_0 t_1 K hz54
def D_wal_Log_CutAfter_l3 (d_0 : Option Addr) (t_1 : Int) (K : Int → Hp → Prop) (a4 : Addr) (hz14 : Hp) (C15 : Hp → Prop) : Prop :=
  ∃ x72 : Sl, cellH hz14 (a4.add 1) = some (Sl.v x72) ∧
  if (decide ((x72.len : Int) > (0 : Int))) = true then
    ∃ x75 : Sl, cellH hz14 (a4.add 1) = some (Sl.v x75) ∧
    ∃ x77 : Sl, cellH hz14 (a4.add 1) = some (Sl.v x77) ∧
    ∃ a79 : Addr, x75.a = some a79 ∧
    (0 : Int) ≤ IntKind.i64.wrap ((x77.len : Int) - 1) ∧
    IntKind.i64.wrap ((x77.len : Int) - 1) < (x75.len : Int) ∧
    ∃ x83 : Option Addr, cellH hz14 (a79.add ((IntKind.i64.wrap ((x77.len : Int) - 1)).toNat * 1)) = some (Value.pointer x83) ∧
    ∃ a85 : Addr, x83 = some a85 ∧
    ∃ x87 : Int, cellH hz14 (a85.add 0) = some (Value.int .i64 x87) ∧
    D_wal_Log_CutAfter_j2 d_0 t_1 K a4 C15 (decide (x87 > t_1)) hz14
  else
    D_wal_Log_CutAfter_j2 d_0 t_1 K a4 C15 false hz14
def D_wal_Log_CutAfter_j4 (d_0 : Option Addr) (t_1 : Int) (K : Int → Hp → Prop) (x1 : Bool) (hz2 : Hp) : Prop :=
  if x1 = true then
    K 2 hz2
  else
    ∃ a4 : Addr, d_0 = some a4 ∧
    ∃ u7 : Value, cellH hz2 (a4.add 2) = some u7 ∧
    frozenH hz2 (a4.add 2) = false ∧
    ∀ hz6 : Hp, hz6 = setH hz2 (a4.add 2) (Value.pointer none) →
    ∃ x11 : Int, cellH hz6 (a4.add 4) = some (Value.int .i64 x11) ∧
    if (t_1 == x11) = true then
      K 0 hz6
    else
      ∃ (I : Hp → Prop) (μ : Hp → Nat), I hz6 ∧ ∀ (h : Hp), I h → D_wal_Log_CutAfter_l3 d_0 t_1 K a4 h (fun h' => I h' ∧ μ h' < μ h)
def D_wal_Log_CutAfter (d_0 : Option Addr) (t_1 : Int) (h0 : Hp) (K : Int → Hp → Prop) : Prop :=
  C_wal_Log_First d_0 h0 fun r94 hz93 =>
  if (decide (t_1 < (IntKind.i64.wrap (r94 - 1)))) = true then
    D_wal_Log_CutAfter_j4 d_0 t_1 K true hz93
  else
    ∃ a96 : Addr, d_0 = some a96 ∧
    ∃ x98 : Int, cellH hz93 (a96.add 4) = some (Value.int .i64 x98) ∧
    D_wal_Log_CutAfter_j4 d_0 t_1 K (decide (t_1 > x98)) hz93

/-! barograph/barographlaw05.WalCuts -/
def D_barographlaw05_WalCuts_j1 (K : Bool → Hp → Prop) (x47 : Int) (C49 : Int → Hp → Prop) (x54 : Bool) (hz55 : Hp) : Prop :=
  if x54 = true then
    K false hz55
  else
    C49 (IntKind.i64.wrap (x47 + 1)) hz55
def D_barographlaw05_WalCuts_l2 (d_0 : Int) (t_1 : Int) (K : Bool → Hp → Prop) (r36 : Option Addr) (x47 : Int) (hz48 : Hp) (C49 : Int → Hp → Prop) : Prop :=
  if (decide (x47 ≤ (IntKind.i64.wrap (Int.tmod (IntKind.u64.wrap t_1) (IntKind.u64.wrap (IntKind.i64.wrap ((IntKind.i64.wrap (1 + (IntKind.i64.wrap (Int.tmod (IntKind.u64.wrap d_0) 50)))) + 1))))))) = true then
    C_wal_Log_Read r36 x47 hz48 fun r52 r53 hz51 =>
    if (r53 != (0 : Int)) = true then
      D_barographlaw05_WalCuts_j1 K x47 C49 true hz51
    else
      ∀ hz58 : Hp, hz58 = hz51.push (.cells #[Value.int .u8 (IntKind.u8.wrap x47)] T_uint8) →
      ∃ x60 : ByteArray, bytesAt hz58 (Sl.mk (some (blk hz51.size)) 1 1) x60 ∧
      D_barographlaw05_WalCuts_j1 K x47 C49 (!(r52.toList == x60.toList)) hz58
  else
    K true hz48
def D_barographlaw05_WalCuts_j3 (d_0 : Int) (t_1 : Int) (K : Bool → Hp → Prop) (r36 : Option Addr) (x44 : Bool) (hz45 : Hp) : Prop :=
  if x44 = true then
    K false hz45
  else
    ∃ (I : Int → Hp → Prop) (μ : Int → Hp → Nat), I 1 hz45 ∧ ∀ (x47 : Int) (h : Hp), I x47 h → D_barographlaw05_WalCuts_l2 d_0 t_1 K r36 x47 h (fun x47' h' => I x47' h' ∧ μ x47' h' < μ x47 h)
def D_barographlaw05_WalCuts_j4 (d_0 : Int) (t_1 : Int) (K : Bool → Hp → Prop) (r36 : Option Addr) (x38 : Bool) (hz39 : Hp) : Prop :=
  if x38 = true then
    K false hz39
  else
    C_wal_Log_Append r36 (ByteArray.mk #[110, 101, 120, 116]) hz39 fun r42 r43 hz41 =>
    if (r42 != (IntKind.i64.wrap ((IntKind.i64.wrap (Int.tmod (IntKind.u64.wrap t_1) (IntKind.u64.wrap (IntKind.i64.wrap ((IntKind.i64.wrap (1 + (IntKind.i64.wrap (Int.tmod (IntKind.u64.wrap d_0) 50)))) + 1))))) + 1))) = true then
      D_barographlaw05_WalCuts_j3 d_0 t_1 K r36 true hz41
    else
      D_barographlaw05_WalCuts_j3 d_0 t_1 K r36 (r43 != (0 : Int)) hz41
def D_barographlaw05_WalCuts_j5 (d_0 : Int) (t_1 : Int) (p_2 : Sl) (K : Bool → Hp → Prop) (r6 : Option Addr) (x24 : Bool) (hz25 : Hp) : Prop :=
  if x24 = true then
    K false hz25
  else
    ∀ hz27 : Hp, hz27 = hz25.push (.cells #[] T_int) →
    ∃ news31 : List Value, news31.length = p_2.len * 1 ∧
    srcAt hz27 p_2.a news31 ∧
    apd 1 8 T_int [Value.int .i64 0] hz27 (Sl.mk (some (blk hz25.size)) 0 0) p_2.len news31 fun s30 hz29 =>
    C_disk_Disk_Crash r6 s30 hz29 fun hz34 =>
    C_wal_Open r6 0 hz34 fun r36 r37 hz35 =>
    if (r37 != (0 : Int)) = true then
      D_barographlaw05_WalCuts_j4 d_0 t_1 K r36 true hz35
    else
      if r36.isNone = true then
        D_barographlaw05_WalCuts_j4 d_0 t_1 K r36 true hz35
      else
        C_wal_Log_Last r36 hz35 fun r72 hz71 =>
        D_barographlaw05_WalCuts_j4 d_0 t_1 K r36 (r72 != (IntKind.i64.wrap (Int.tmod (IntKind.u64.wrap t_1) (IntKind.u64.wrap (IntKind.i64.wrap ((IntKind.i64.wrap (1 + (IntKind.i64.wrap (Int.tmod (IntKind.u64.wrap d_0) 50)))) + 1)))))) hz71
def D_barographlaw05_WalCuts_l6 (d_0 : Int) (t_1 : Int) (p_2 : Sl) (K : Bool → Hp → Prop) (r6 : Option Addr) (r8 : Option Addr) (x13 : Int) (hz14 : Hp) (C15 : Int → Hp → Prop) : Prop :=
  if (decide (x13 ≤ (IntKind.i64.wrap (1 + (IntKind.i64.wrap (Int.tmod (IntKind.u64.wrap d_0) 50)))))) = true then
    ∀ hz17 : Hp, hz17 = hz14.push (.cells #[Value.int .u8 (IntKind.u8.wrap x13)] T_uint8) →
    ∃ x19 : ByteArray, bytesAt hz17 (Sl.mk (some (blk hz14.size)) 1 1) x19 ∧
    C_wal_Log_Append r8 x19 hz17 fun _r22 _r23 hz21 =>
    C15 (IntKind.i64.wrap (x13 + 1)) hz21
  else
    C_wal_Log_Sync r8 hz14 fun r76 hz75 =>
    if (r76 != (0 : Int)) = true then
      D_barographlaw05_WalCuts_j5 d_0 t_1 p_2 K r6 true hz75
    else
      C_wal_Log_CutAfter r8 (IntKind.i64.wrap (Int.tmod (IntKind.u64.wrap t_1) (IntKind.u64.wrap (IntKind.i64.wrap ((IntKind.i64.wrap (1 + (IntKind.i64.wrap (Int.tmod (IntKind.u64.wrap d_0) 50)))) + 1))))) hz75 fun r79 hz78 =>
      if (r79 != (0 : Int)) = true then
        D_barographlaw05_WalCuts_j5 d_0 t_1 p_2 K r6 true hz78
      else
        C_wal_Log_Last r8 hz78 fun r82 hz81 =>
        D_barographlaw05_WalCuts_j5 d_0 t_1 p_2 K r6 (r82 != (IntKind.i64.wrap (Int.tmod (IntKind.u64.wrap t_1) (IntKind.u64.wrap (IntKind.i64.wrap ((IntKind.i64.wrap (1 + (IntKind.i64.wrap (Int.tmod (IntKind.u64.wrap d_0) 50)))) + 1)))))) hz81
def D_barographlaw05_WalCuts_j7 (d_0 : Int) (t_1 : Int) (p_2 : Sl) (K : Bool → Hp → Prop) (r6 : Option Addr) (r8 : Option Addr) (x10 : Bool) (hz11 : Hp) : Prop :=
  if x10 = true then
    K false hz11
  else
    ∃ (I : Int → Hp → Prop) (μ : Int → Hp → Nat), I 1 hz11 ∧ ∀ (x13 : Int) (h : Hp), I x13 h → D_barographlaw05_WalCuts_l6 d_0 t_1 p_2 K r6 r8 x13 h (fun x13' h' => I x13' h' ∧ μ x13' h' < μ x13 h)
def D_barographlaw05_WalCuts (d_0 : Int) (t_1 : Int) (p_2 : Sl) (h0 : Hp) (K : Bool → Hp → Prop) : Prop :=
  C_barographlaw05_works  h0 fun r2 hz1 =>
  if (!r2) = true then
    K false hz1
  else
    IntKind.u64.wrap (IntKind.i64.wrap ((IntKind.i64.wrap (1 + (IntKind.i64.wrap (Int.tmod (IntKind.u64.wrap d_0) 50)))) + 1)) ≠ 0 ∧
    C_disk_New 1048576 hz1 fun r6 hz5 =>
    C_wal_Open r6 0 hz5 fun r8 r9 hz7 =>
    if (r9 != (0 : Int)) = true then
      D_barographlaw05_WalCuts_j7 d_0 t_1 p_2 K r6 r8 true hz7
    else
      D_barographlaw05_WalCuts_j7 d_0 t_1 p_2 K r6 r8 r8.isNone hz7

/-! (*barograph/disk.Disk).Append$1 -/
def D_disk_Disk_Append_1 (n_0 : Option Nat) (q1 : Addr) (q2 : Addr) (h0 : Hp) (K : Hp → Prop) : Prop :=
  ∃ x1 : ByteArray, cellH h0 q2 = some (Value.string x1) ∧
  ∃ x3 : Option Addr, cellH h0 q1 = some (Value.pointer x3) ∧
  ∃ r6 : Nat, ∃ es7 : Array MapEntry, ∃ clk8 : Nat, n_0 = some r6 ∧
  h0[r6]? = some (.map es7 clk8) ∧
  strKeys es7.toList ∧
  ∀ hz5 : Hp, hz5 = h0.setIfInBounds r6 (updS es7 clk8 x1 (Value.pointer x3)) →
  K hz5

/-! (*barograph/disk.Disk).Remove$1 -/
def D_disk_Disk_Remove_1 (n_0 : Option Nat) (q1 : Addr) (h0 : Hp) (K : Hp → Prop) : Prop :=
  ∃ x1 : ByteArray, cellH h0 q1 = some (Value.string x1) ∧
  ∃ r4 : Nat, ∃ es5 : Array MapEntry, ∃ clk6 : Nat, n_0 = some r4 ∧
  h0[r4]? = some (.map es5 clk6) ∧
  strKeys es5.toList ∧
  ∀ hz3 : Hp, hz3 = h0.setIfInBounds r4 (delS es5 clk6 x1) →
  K hz3

/-! (*barograph/disk.Disk).Rename$1 -/
def D_disk_Disk_Rename_1 (n_0 : Option Nat) (q1 : Addr) (q2 : Addr) (q3 : Addr) (h0 : Hp) (K : Hp → Prop) : Prop :=
  ∃ x1 : ByteArray, cellH h0 q1 = some (Value.string x1) ∧
  ∃ r4 : Nat, ∃ es5 : Array MapEntry, ∃ clk6 : Nat, n_0 = some r4 ∧
  h0[r4]? = some (.map es5 clk6) ∧
  strKeys es5.toList ∧
  ∀ hz3 : Hp, hz3 = h0.setIfInBounds r4 (delS es5 clk6 x1) →
  ∃ x11 : ByteArray, cellH hz3 q3 = some (Value.string x11) ∧
  ∃ x13 : Option Addr, cellH hz3 q2 = some (Value.pointer x13) ∧
  ∃ r16 : Nat, ∃ es17 : Array MapEntry, ∃ clk18 : Nat, n_0 = some r16 ∧
  hz3[r16]? = some (.map es17 clk18) ∧
  strKeys es17.toList ∧
  ∀ hz15 : Hp, hz15 = hz3.setIfInBounds r16 (updS es17 clk18 x11 (Value.pointer x13)) →
  K hz15

/-! (*barograph/wal.Log).shorten$1 -/
def D_wal_Log_shorten_1 (q0 : Addr) (q1 : Addr) (q2 : Addr) (h0 : Hp) (K : Int → Hp → Prop) : Prop :=
  ∃ x1 : Option Addr, cellH h0 q0 = some (Value.pointer x1) ∧
  ∃ a3 : Addr, x1 = some a3 ∧
  ∃ x5 : Option Addr, cellH h0 (a3.add 0) = some (Value.pointer x5) ∧
  ∃ x7 : ByteArray, cellH h0 q1 = some (Value.string x7) ∧
  ∃ x9 : Option Addr, cellH h0 q2 = some (Value.pointer x9) ∧
  ∃ a11 : Addr, x9 = some a11 ∧
  ∃ x13 : Int, cellH h0 (a11.add 2) = some (Value.int .i64 x13) ∧
  ∃ n15 : Nat, x13 = (n15 : Int) ∧
  0 ≤ n15 ∧
  n15 ≤ x7.size ∧
  C_disk_Disk_Append x5 (ByteArray.mk #[116]) (x7.extract 0 n15) h0 fun r20 hz19 =>
  cellH hz19 q0 = some (Value.pointer x1) ∧ cellH hz19 (a3.add 0) = some (Value.pointer x5) ∧ cellH hz19 q1 = some (Value.string x7) ∧ cellH hz19 q2 = some (Value.pointer x9) ∧ cellH hz19 (a11.add 2) = some (Value.int .i64 x13) ∧
  K r20 hz19

/-! (*barograph/wal.Log).shorten$2 -/
def D_wal_Log_shorten_2 (q0 : Addr) (h0 : Hp) (K : Int → Hp → Prop) : Prop :=
  ∃ x1 : Option Addr, cellH h0 q0 = some (Value.pointer x1) ∧
  ∃ a3 : Addr, x1 = some a3 ∧
  ∃ x5 : Option Addr, cellH h0 (a3.add 0) = some (Value.pointer x5) ∧
  C_disk_Disk_Sync x5 (ByteArray.mk #[116]) h0 fun r8 hz7 =>
  K r8 hz7

/-! (*barograph/disk.Disk).Rename -/
def D_disk_Disk_Rename (d_0 : Option Addr) (from_1 : ByteArray) (to_2 : ByteArray) (h0 : Hp) (K : Int → Hp → Prop) : Prop :=
  ∀ hz1 : Hp, hz1 = h0.push (.cells #[Value.string from_1] T_string) →
  ∀ hz3 : Hp, hz3 = hz1.push (.cells #[Value.string to_2] T_string) →
  ∃ x5 : ByteArray, cellH hz3 (blk h0.size) = some (Value.string x5) ∧
  C_disk_Disk_find d_0 x5 hz3 fun r8 r9 hz7 =>
  ∀ hz10 : Hp, hz10 = hz7.push (.cells #[Value.pointer none] T_pt_disk_file) →
  ∃ u13 : Value, cellH hz10 (blk hz7.size) = some u13 ∧
  frozenH hz10 (blk hz7.size) = false ∧
  ∀ hz12 : Hp, hz12 = setH hz10 (blk hz7.size) (Value.pointer r8) →
  if (r9 != (0 : Int)) = true then
    K r9 hz12
  else
    ∃ x18 : ByteArray, cellH hz12 (blk hz1.size) = some (Value.string x18) ∧
    C_disk_right x18 hz12 fun r21 hz20 =>
    if (!r21) = true then
      K 3 hz20
    else
      C_disk_Disk_change d_0 (Value.func (.func F_disk_Disk_Rename_1) #[] #[Value.pointer (some (blk h0.size)), Value.pointer (some (blk hz7.size)), Value.pointer (some (blk hz1.size))]) hz20 fun hz23 =>
      K 0 hz23

/-! (*barograph/wal.Log).shorten$3 -/
def D_wal_Log_shorten_3 (q0 : Addr) (q1 : Addr) (h0 : Hp) (K : Int → Hp → Prop) : Prop :=
  ∃ x1 : Option Addr, cellH h0 q0 = some (Value.pointer x1) ∧
  ∃ a3 : Addr, x1 = some a3 ∧
  ∃ x5 : Option Addr, cellH h0 (a3.add 0) = some (Value.pointer x5) ∧
  ∃ x7 : Option Addr, cellH h0 q1 = some (Value.pointer x7) ∧
  ∃ a9 : Addr, x7 = some a9 ∧
  ∃ x11 : Int, cellH h0 (a9.add 0) = some (Value.int .i64 x11) ∧
  C_wal_name x11 h0 fun r14 hz13 =>
  cellH hz13 q0 = some (Value.pointer x1) ∧ cellH hz13 (a3.add 0) = some (Value.pointer x5) ∧ cellH hz13 q1 = some (Value.pointer x7) ∧ cellH hz13 (a9.add 0) = some (Value.int .i64 x11) ∧
  C_disk_Disk_Rename x5 (ByteArray.mk #[116]) r14 hz13 fun r16 hz15 =>
  cellH hz15 q0 = some (Value.pointer x1) ∧ cellH hz15 (a3.add 0) = some (Value.pointer x5) ∧ cellH hz15 q1 = some (Value.pointer x7) ∧ cellH hz15 (a9.add 0) = some (Value.int .i64 x11) ∧
  K r16 hz15

/-! barograph/wal.Open$1 -/
def D_wal_Open_1 (s_0 : ByteArray) (h0 : Hp) (K : Bool → Hp → Prop) : Prop :=
  C_wal_number s_0 h0 fun r2 hz1 =>
  K (r2 == (0 : Int)) hz1
end Go.Proofs.YtgdmjdacmebfjaaGreatDoor.D
