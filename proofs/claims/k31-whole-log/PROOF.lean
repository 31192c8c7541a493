import PyProof.Rows.All
import Wide.All
import OpenK.AllK
import Wide.FinOn
import KE.KStateDown
import Lean
import HandS.ForMost
import HandS.Defaults
import HandS.Exc
import HandS.Head0
import HandS.Head1
import HandS.Head2
import HandS.HeadEnd
import HandS.HeadHook1
import HandS.HeadHook2
import PySem.Challenge.RW_segmentfs_k31_whole_log_is_never_stuck
import HandS.Evl
import KE.GoesEnum
import HandS.Iter
import HandS.MakeKwOnly
import HandS.More
import PyProof.Rows.SortShellAny
import HandS.IterVal
import HandS.SetKeys
import KE.DataMinMax
import HandS.SortKw
import HandS.NoneIn
import HandS.Conv
import HandS.GenList
import HandS.Zip
import HandS.DictEq
import PyProof.P3Eq
import PyProof.NeKinds
import PyProof.FactsAll.dict_1
import PyProof.FactsAll.subtypes_5
import PyProof.FactsAll.subtypes_6
import HandS.TupMul
import HandS.TupAny
import HandS.DeepEq
import HandS.WordsDict
import HandS.Style
set_option Elab.async false
set_option linter.all false
set_option maxRecDepth 100000
set_option maxHeartbeats 0
namespace Sg
open PySem PySem.Spec PyProof.Rows L2
def top (i : Nat) : Stmt := PySem.Challenge.pw_segmentfs_k31_whole_log_is_never_stuck.main.body.getD i (.Pass ⟨0, 0, 0, 0⟩)
abbrev s_is_payload : Stmt := top 7
abbrev s_payload_of : Stmt := top 8
abbrev s_stamped : Stmt := top 9
abbrev s_Layout_init : Stmt := inClass (top 21) 0
abbrev s_parts_of : Stmt := top 22
abbrev s_address_at : Stmt := top 23
abbrev s_segment_of : Stmt := top 24
abbrev s_region_start : Stmt := top 25
abbrev s_Counts_init : Stmt := inClass (top 27) 0
abbrev s_empty_table : Stmt := top 29
abbrev s_commit_to_table : Stmt := top 30
abbrev s_slots_after : Stmt := top 31
abbrev s_move_in_table : Stmt := top 32
abbrev s_Log_init : Stmt := inClass (top 34) 0
abbrev s_payload_at : Stmt := top 35
abbrev s_live_addresses : Stmt := top 36
abbrev s_next_sequence : Stmt := top 37
abbrev s_enter_segment : Stmt := top 38
abbrev s_take_batch : Stmt := top 39
abbrev s_write_batch : Stmt := top 40
abbrev s_append_commit : Stmt := top 41
abbrev s_append_move : Stmt := top 42
abbrev s_sync_log : Stmt := top 43
abbrev s_checkpoint_numbers : Stmt := top 45
abbrev s_read_numbers : Stmt := top 46
abbrev s_extended_queue : Stmt := top 47
abbrev s_write_checkpoint : Stmt := top 48
abbrev s_live_counts : Stmt := top 50
abbrev s_ages : Stmt := top 51
abbrev s_candidates : Stmt := top 52
abbrev s_victims : Stmt := top 54
abbrev s_cargo : Stmt := top 55
abbrev s_fill : Stmt := top 56
abbrev s_is_better : Stmt := top 58
abbrev s_order_candidates : Stmt := top 59
abbrev s_has_room : Stmt := top 61
abbrev s_make_room : Stmt := top 62
abbrev s_Device_init : Stmt := inClass (top 64) 0
abbrev s_Device_read : Stmt := inClass (top 64) 1
abbrev s_Device_write : Stmt := inClass (top 64) 2
abbrev s_Device_barrier : Stmt := inClass (top 64) 3
abbrev s_Device_pending : Stmt := inClass (top 64) 6
abbrev s_Device_left : Stmt := inClass (top 64) 8
abbrev s_Device_written_blocks : Stmt := inClass (top 64) 9
abbrev s_Device_count_command : Stmt := inClass (top 64) 11
abbrev s_new_log : Stmt := top 66
abbrev s_checkpoint_in : Stmt := top 67
abbrev s_batch_at : Stmt := top 68
abbrev s_take_next : Stmt := top 69
abbrev s_recover : Stmt := top 70
abbrev s_mount_log : Stmt := top 71
abbrev s_law_row : Stmt := top 73
abbrev s_law_digits : Stmt := top 74
abbrev s_law_layout : Stmt := top 75
abbrev s_law_contents : Stmt := top 76
abbrev s_law_after : Stmt := top 77
abbrev s_law_payloads : Stmt := top 78
abbrev s_law_ids : Stmt := top 79
abbrev s_law_used : Stmt := top 80
abbrev s_law_live : Stmt := top 81
abbrev s_law_failure : Stmt := top 82
abbrev s_law_behind : Stmt := top 83
abbrev s_law_points : Stmt := top 84
abbrev s_law_room_made : Stmt := top 85
abbrev s_law : Stmt := top 86
def d_is_payload : He.DefD := ⟨("is_payload", none), "is_payload", "is_payload", defArgs s_is_payload, defBody s_is_payload, defScope s_is_payload, [], []⟩
def d_payload_of : He.DefD := ⟨("payload_of", none), "payload_of", "payload_of", defArgs s_payload_of, defBody s_payload_of, defScope s_payload_of, [], []⟩
def d_stamped : He.DefD := ⟨("stamped", none), "stamped", "stamped", defArgs s_stamped, defBody s_stamped, defScope s_stamped, [], []⟩
def d_Layout_init : He.DefD := ⟨("Layout", some "__init__"), "__init__", "Layout.__init__", defArgs s_Layout_init, defBody s_Layout_init, defScope s_Layout_init, [], []⟩
def d_parts_of : He.DefD := ⟨("parts_of", none), "parts_of", "parts_of", defArgs s_parts_of, defBody s_parts_of, defScope s_parts_of, [], []⟩
def d_address_at : He.DefD := ⟨("address_at", none), "address_at", "address_at", defArgs s_address_at, defBody s_address_at, defScope s_address_at, [], []⟩
def d_segment_of : He.DefD := ⟨("segment_of", none), "segment_of", "segment_of", defArgs s_segment_of, defBody s_segment_of, defScope s_segment_of, [], []⟩
def d_region_start : He.DefD := ⟨("region_start", none), "region_start", "region_start", defArgs s_region_start, defBody s_region_start, defScope s_region_start, [], []⟩
def d_Counts_init : He.DefD := ⟨("Counts", some "__init__"), "__init__", "Counts.__init__", defArgs s_Counts_init, defBody s_Counts_init, defScope s_Counts_init, [], []⟩
def d_empty_table : He.DefD := ⟨("empty_table", none), "empty_table", "empty_table", defArgs s_empty_table, defBody s_empty_table, defScope s_empty_table, [], []⟩
def d_commit_to_table : He.DefD := ⟨("commit_to_table", none), "commit_to_table", "commit_to_table", defArgs s_commit_to_table, defBody s_commit_to_table, defScope s_commit_to_table, [], []⟩
def d_slots_after : He.DefD := ⟨("slots_after", none), "slots_after", "slots_after", defArgs s_slots_after, defBody s_slots_after, defScope s_slots_after, [], []⟩
def d_move_in_table : He.DefD := ⟨("move_in_table", none), "move_in_table", "move_in_table", defArgs s_move_in_table, defBody s_move_in_table, defScope s_move_in_table, [], []⟩
def d_Log_init : He.DefD := ⟨("Log", some "__init__"), "__init__", "Log.__init__", defArgs s_Log_init, defBody s_Log_init, defScope s_Log_init, [], []⟩
def d_payload_at : He.DefD := ⟨("payload_at", none), "payload_at", "payload_at", defArgs s_payload_at, defBody s_payload_at, defScope s_payload_at, [], []⟩
def d_live_addresses : He.DefD := ⟨("live_addresses", none), "live_addresses", "live_addresses", defArgs s_live_addresses, defBody s_live_addresses, defScope s_live_addresses, [], []⟩
def d_next_sequence : He.DefD := ⟨("next_sequence", none), "next_sequence", "next_sequence", defArgs s_next_sequence, defBody s_next_sequence, defScope s_next_sequence, [], []⟩
def d_enter_segment : He.DefD := ⟨("enter_segment", none), "enter_segment", "enter_segment", defArgs s_enter_segment, defBody s_enter_segment, defScope s_enter_segment, [], []⟩
def d_take_batch : He.DefD := ⟨("take_batch", none), "take_batch", "take_batch", defArgs s_take_batch, defBody s_take_batch, defScope s_take_batch, [], []⟩
def d_write_batch : He.DefD := ⟨("write_batch", none), "write_batch", "write_batch", defArgs s_write_batch, defBody s_write_batch, defScope s_write_batch, [], []⟩
def d_append_commit : He.DefD := ⟨("append_commit", none), "append_commit", "append_commit", defArgs s_append_commit, defBody s_append_commit, defScope s_append_commit, [], []⟩
def d_append_move : He.DefD := ⟨("append_move", none), "append_move", "append_move", defArgs s_append_move, defBody s_append_move, defScope s_append_move, [], []⟩
def d_sync_log : He.DefD := ⟨("sync_log", none), "sync_log", "sync_log", defArgs s_sync_log, defBody s_sync_log, defScope s_sync_log, [], []⟩
def d_checkpoint_numbers : He.DefD := ⟨("checkpoint_numbers", none), "checkpoint_numbers", "checkpoint_numbers", defArgs s_checkpoint_numbers, defBody s_checkpoint_numbers, defScope s_checkpoint_numbers, [], []⟩
def d_read_numbers : He.DefD := ⟨("read_numbers", none), "read_numbers", "read_numbers", defArgs s_read_numbers, defBody s_read_numbers, defScope s_read_numbers, [], []⟩
def d_extended_queue : He.DefD := ⟨("extended_queue", none), "extended_queue", "extended_queue", defArgs s_extended_queue, defBody s_extended_queue, defScope s_extended_queue, [], []⟩
def d_write_checkpoint : He.DefD := ⟨("write_checkpoint", none), "write_checkpoint", "write_checkpoint", defArgs s_write_checkpoint, defBody s_write_checkpoint, defScope s_write_checkpoint, [], []⟩
def d_live_counts : He.DefD := ⟨("live_counts", none), "live_counts", "live_counts", defArgs s_live_counts, defBody s_live_counts, defScope s_live_counts, [], []⟩
def d_ages : He.DefD := ⟨("ages", none), "ages", "ages", defArgs s_ages, defBody s_ages, defScope s_ages, [], []⟩
def d_candidates : He.DefD := ⟨("candidates", none), "candidates", "candidates", defArgs s_candidates, defBody s_candidates, defScope s_candidates, [], []⟩
def d_victims : He.DefD := ⟨("victims", none), "victims", "victims", defArgs s_victims, defBody s_victims, defScope s_victims, [], []⟩
def d_cargo : He.DefD := ⟨("cargo", none), "cargo", "cargo", defArgs s_cargo, defBody s_cargo, defScope s_cargo, [], []⟩
def d_fill : He.DefD := ⟨("fill", none), "fill", "fill", defArgs s_fill, defBody s_fill, defScope s_fill, [], []⟩
def d_is_better : He.DefD := ⟨("is_better", none), "is_better", "is_better", defArgs s_is_better, defBody s_is_better, defScope s_is_better, [], []⟩
def d_order_candidates : He.DefD := ⟨("order_candidates", none), "order_candidates", "order_candidates", defArgs s_order_candidates, defBody s_order_candidates, defScope s_order_candidates, [], []⟩
def d_has_room : He.DefD := ⟨("has_room", none), "has_room", "has_room", defArgs s_has_room, defBody s_has_room, defScope s_has_room, [], []⟩
def d_make_room : He.DefD := ⟨("make_room", none), "make_room", "make_room", defArgs s_make_room, defBody s_make_room, defScope s_make_room, [], []⟩
def d_Device_init : He.DefD := ⟨("Device", some "__init__"), "__init__", "Device.__init__", defArgs s_Device_init, defBody s_Device_init, defScope s_Device_init, [.non], []⟩
def d_Device_read : He.DefD := ⟨("Device", some "read"), "read", "Device.read", defArgs s_Device_read, defBody s_Device_read, defScope s_Device_read, [], []⟩
def d_Device_write : He.DefD := ⟨("Device", some "write"), "write", "Device.write", defArgs s_Device_write, defBody s_Device_write, defScope s_Device_write, [], []⟩
def d_Device_barrier : He.DefD := ⟨("Device", some "barrier"), "barrier", "Device.barrier", defArgs s_Device_barrier, defBody s_Device_barrier, defScope s_Device_barrier, [], []⟩
def d_Device_pending : He.DefD := ⟨("Device", some "pending"), "pending", "Device.pending", defArgs s_Device_pending, defBody s_Device_pending, defScope s_Device_pending, [], []⟩
def d_Device_left : He.DefD := ⟨("Device", some "left"), "left", "Device.left", defArgs s_Device_left, defBody s_Device_left, defScope s_Device_left, [], []⟩
def d_Device_written_blocks : He.DefD := ⟨("Device", some "written_blocks"), "written_blocks", "Device.written_blocks", defArgs s_Device_written_blocks, defBody s_Device_written_blocks, defScope s_Device_written_blocks, [], []⟩
def d_Device_count_command : He.DefD := ⟨("Device", some "_count_command"), "_count_command", "Device._count_command", defArgs s_Device_count_command, defBody s_Device_count_command, defScope s_Device_count_command, [], []⟩
def d_new_log : He.DefD := ⟨("new_log", none), "new_log", "new_log", defArgs s_new_log, defBody s_new_log, defScope s_new_log, [], []⟩
def d_checkpoint_in : He.DefD := ⟨("checkpoint_in", none), "checkpoint_in", "checkpoint_in", defArgs s_checkpoint_in, defBody s_checkpoint_in, defScope s_checkpoint_in, [], []⟩
def d_batch_at : He.DefD := ⟨("batch_at", none), "batch_at", "batch_at", defArgs s_batch_at, defBody s_batch_at, defScope s_batch_at, [], []⟩
def d_take_next : He.DefD := ⟨("take_next", none), "take_next", "take_next", defArgs s_take_next, defBody s_take_next, defScope s_take_next, [], []⟩
def d_recover : He.DefD := ⟨("recover", none), "recover", "recover", defArgs s_recover, defBody s_recover, defScope s_recover, [], []⟩
def d_mount_log : He.DefD := ⟨("mount_log", none), "mount_log", "mount_log", defArgs s_mount_log, defBody s_mount_log, defScope s_mount_log, [], []⟩
def d_law_row : He.DefD := ⟨("_law_row", none), "_law_row", "_law_row", defArgs s_law_row, defBody s_law_row, defScope s_law_row, [], []⟩
def d_law_digits : He.DefD := ⟨("_law_digits", none), "_law_digits", "_law_digits", defArgs s_law_digits, defBody s_law_digits, defScope s_law_digits, [], []⟩
def d_law_layout : He.DefD := ⟨("_law_layout", none), "_law_layout", "_law_layout", defArgs s_law_layout, defBody s_law_layout, defScope s_law_layout, [], []⟩
def d_law_contents : He.DefD := ⟨("_law_contents", none), "_law_contents", "_law_contents", defArgs s_law_contents, defBody s_law_contents, defScope s_law_contents, [], []⟩
def d_law_after : He.DefD := ⟨("_law_after", none), "_law_after", "_law_after", defArgs s_law_after, defBody s_law_after, defScope s_law_after, [], []⟩
def d_law_payloads : He.DefD := ⟨("_law_payloads", none), "_law_payloads", "_law_payloads", defArgs s_law_payloads, defBody s_law_payloads, defScope s_law_payloads, [], []⟩
def d_law_ids : He.DefD := ⟨("_law_ids", none), "_law_ids", "_law_ids", defArgs s_law_ids, defBody s_law_ids, defScope s_law_ids, [], []⟩
def d_law_used : He.DefD := ⟨("_law_used", none), "_law_used", "_law_used", defArgs s_law_used, defBody s_law_used, defScope s_law_used, [], []⟩
def d_law_live : He.DefD := ⟨("_law_live", none), "_law_live", "_law_live", defArgs s_law_live, defBody s_law_live, defScope s_law_live, [], []⟩
def d_law_failure : He.DefD := ⟨("_law_failure", none), "_law_failure", "_law_failure", defArgs s_law_failure, defBody s_law_failure, defScope s_law_failure, [], []⟩
def d_law_behind : He.DefD := ⟨("_law_behind", none), "_law_behind", "_law_behind", defArgs s_law_behind, defBody s_law_behind, defScope s_law_behind, [], []⟩
def d_law_points : He.DefD := ⟨("_law_points", none), "_law_points", "_law_points", defArgs s_law_points, defBody s_law_points, defScope s_law_points, [], []⟩
def d_law_room_made : He.DefD := ⟨("_law_room_made", none), "_law_room_made", "_law_room_made", defArgs s_law_room_made, defBody s_law_room_made, defScope s_law_room_made, [], []⟩
def d_law : He.DefD := ⟨("law", none), "law", "law", defArgs s_law, defBody s_law, defScope s_law, [], []⟩
def fn0 : List He.DefD := [d_is_payload, d_payload_of, d_stamped, d_Layout_init, d_parts_of, d_address_at, d_segment_of, d_region_start, d_Counts_init, d_empty_table, d_commit_to_table, d_slots_after, d_move_in_table, d_Log_init, d_payload_at, d_live_addresses, d_next_sequence, d_enter_segment, d_take_batch, d_write_batch]
def fn1 : List He.DefD := [d_append_commit, d_append_move, d_sync_log, d_checkpoint_numbers, d_read_numbers, d_extended_queue, d_write_checkpoint, d_live_counts, d_ages, d_candidates, d_victims, d_cargo, d_fill, d_is_better, d_order_candidates, d_has_room, d_make_room, d_Device_init, d_Device_read, d_Device_write]
def fn2 : List He.DefD := [d_Device_barrier, d_Device_pending, d_Device_left, d_Device_written_blocks, d_Device_count_command, d_new_log, d_checkpoint_in, d_batch_at, d_take_next, d_recover, d_mount_log, d_law_row, d_law_digits, d_law_layout, d_law_contents, d_law_after, d_law_payloads, d_law_ids, d_law_used, d_law_live]
def fn3 : List He.DefD := [d_law_failure, d_law_behind, d_law_points, d_law_room_made, d_law]
def fn : List He.DefD := fn0 ++ fn1 ++ fn2 ++ fn3
def fa0 : List He.Fa := [.int "COMMIT" 1, .int "MOVE" 2, .int "DATA" 3, .int "NODE" 4, .int "PART" 5, .glo "is_payload", .glo "payload_of", .glo "stamped", .int "LEAST_SEGMENTS" 4, .int "MOST_SEGMENTS" 16, .int "LEAST_BLOCKS" 16, .int "MOST_BLOCKS" 32, .int "HEAD_OCTETS" 16, .int "SLOTS" 3, .glo "Layout", .cls "Layout", .mkr "Layout", .noat "Layout" "segments", .noat "Layout" "segment_blocks", .noat "Layout" "block_size"]
def fa1 : List He.Fa := [.noat "Layout" "payload", .noat "Layout" "limit", .noat "Layout" "last_id", .noat "Layout" "fan", .noat "Layout" "region_blocks", .noat "Layout" "device_blocks", .glo "parts_of", .glo "address_at", .glo "segment_of", .glo "region_start", .glo "Counts", .cls "Counts", .mkr "Counts", .noat "Counts" "commits", .noat "Counts" "commit_blocks", .noat "Counts" "moves", .noat "Counts" "move_blocks", .noat "Counts" "checkpoints", .noat "Counts" "checkpoint_blocks", .noat "Counts" "barriers"]
def fa2 : List He.Fa := [.glo "empty_table", .glo "commit_to_table", .glo "slots_after", .glo "move_in_table", .glo "Log", .cls "Log", .mkr "Log", .noat "Log" "device", .noat "Log" "layout", .noat "Log" "present", .noat "Log" "slots", .noat "Log" "head", .noat "Log" "place", .noat "Log" "queue", .noat "Log" "last_sequence", .noat "Log" "region", .noat "Log" "counts", .glo "payload_at", .glo "live_addresses", .glo "next_sequence"]
def fa3 : List He.Fa := [.glo "enter_segment", .glo "take_batch", .glo "write_batch", .glo "append_commit", .glo "append_move", .glo "sync_log", .glo "checkpoint_numbers", .glo "read_numbers", .glo "extended_queue", .glo "write_checkpoint", .glo "live_counts", .glo "ages", .glo "candidates", .glo "victims", .glo "cargo", .glo "fill", .glo "is_better", .glo "order_candidates", .glo "has_room", .glo "make_room"]
def fa4 : List He.Fa := [.glo "Device", .cls "Device", .mkr "Device", .noat "Device" "layout", .noat "Device" "sure", .noat "Device" "seen", .noat "Device" "waiting", .noat "Device" "fuse", .noat "Device" "dark", .meth "Device" "read", .meth "Device" "write", .meth "Device" "barrier", .meth "Device" "pending", .meth "Device" "left", .meth "Device" "written_blocks", .meth "Device" "_count_command", .glo "new_log", .glo "checkpoint_in", .glo "batch_at", .glo "take_next"]
def fa5 : List He.Fa := [.glo "recover", .glo "mount_log", .glo "_law_row", .glo "_law_digits", .glo "_law_layout", .glo "_law_contents", .glo "_law_after", .glo "_law_payloads", .glo "_law_ids", .glo "_law_used", .glo "_law_live", .glo "_law_failure", .glo "_law_behind", .glo "_law_points", .glo "_law_room_made", .glo "law", .free "range", .free "len", .free "list", .free "enumerate"]
def fa6 : List He.Fa := [.free "tuple", .free "sorted", .free "max", .free "int", .free "zip"]
def fa : List He.Fa := fa0 ++ fa1 ++ fa2 ++ fa3 ++ fa4 ++ fa5 ++ fa6
def loose0 : List Str := ["_wall", "__name__", "COMMIT", "MOVE", "DATA", "NODE", "PART", "is_payload", "payload_of", "stamped", "SegmentError", "InvalidFormat", "NoCheckpoint", "LEAST_SEGMENTS", "MOST_SEGMENTS", "LEAST_BLOCKS", "MOST_BLOCKS", "HEAD_OCTETS", "SLOTS", "Layout"]
def loose1 : List Str := ["parts_of", "address_at", "segment_of", "region_start", "Counts", "empty_table", "commit_to_table", "slots_after", "move_in_table", "Log", "payload_at", "live_addresses", "next_sequence", "enter_segment", "take_batch", "write_batch", "append_commit", "append_move", "sync_log", "checkpoint_numbers"]
def loose2 : List Str := ["read_numbers", "extended_queue", "write_checkpoint", "live_counts", "ages", "candidates", "victims", "cargo", "fill", "is_better", "order_candidates", "has_room", "make_room", "Device", "new_log", "checkpoint_in", "batch_at", "take_next", "recover", "mount_log"]
def loose3 : List Str := ["_law_row", "_law_digits", "_law_layout", "_law_contents", "_law_after", "_law_payloads", "_law_ids", "_law_used", "_law_live", "_law_failure", "_law_behind", "_law_points", "_law_room_made"]
def loose : List Str := loose0 ++ loose1 ++ loose2 ++ loose3
abbrev R : PySem.W.OpenRow := PySem.W.OpenLaw.row PySem.Challenge.rw_segmentfs_k31_whole_log_is_never_stuck
abbrev hk : PySem.W.Hook := He.hookD 5 fa fn
def ob (s : PySem.W.SharedT) : He.AlD := He.obsDG 5 fa fn (HandSHeadRun.getT s)
theorem ob_eq (s : PySem.W.SharedT) : ob s = hk.obs s.abs := He.obsDG_eq (HandSHeadRun.getT_eq s)
def lawAt : Nat := 86
theorem run (w : World) : HandSHeadRun.RunEq R (PySem.W.view R.prog [86]) hk ob 40000 loose w := by
  intro os
  kernel_rfl
end Sg

set_option maxHeartbeats 4000000
/-! what the walks take from the head, by names (printed by gen_ctx.py) -/
namespace Sg
open PySem PySem.Spec PyProof.Rows L2
structure Ctx (K : PySem.W.Frag) (mg : Str → Option Value) (base : Heap) : Prop where
  X : K.In base
  G : base.Ns mainGlobals mg
  c : He.SaysD fa fn K
/-- a def by its promise -/
def Okd (P : Program) (w : World) (K : PySem.W.Frag) (mg : Str → Option Value) (base : Heap) (k : Nat) (f : Addr) (ps : List Str) (sp : Sp) : Prop := ∃ fd, FnOk P w K mg base CX0 k f fd ps sp ∧ Binds K fd ps [] ∧ PySem.W.keepIn K (.ref f) = true
section
variable {K : PySem.W.Frag} {mg : Str → Option Value} {base : Heap}
theorem Ctx.int_COMMIT (T : Ctx K mg base) : ∃ t, mg "COMMIT" = some (.int 1 t) := He.int_ok T.X T.G (T.c.fact 0)
theorem Ctx.int_MOVE (T : Ctx K mg base) : ∃ t, mg "MOVE" = some (.int 2 t) := He.int_ok T.X T.G (T.c.fact 1)
theorem Ctx.int_DATA (T : Ctx K mg base) : ∃ t, mg "DATA" = some (.int 3 t) := He.int_ok T.X T.G (T.c.fact 2)
theorem Ctx.int_NODE (T : Ctx K mg base) : ∃ t, mg "NODE" = some (.int 4 t) := He.int_ok T.X T.G (T.c.fact 3)
theorem Ctx.int_PART (T : Ctx K mg base) : ∃ t, mg "PART" = some (.int 5 t) := He.int_ok T.X T.G (T.c.fact 4)
theorem Ctx.glo_is_payload (T : Ctx K mg base) : mg "is_payload" = some (.ref (He.ga K "is_payload")) := He.glo_ok T.X T.G (T.c.fact 5)
theorem Ctx.glo_payload_of (T : Ctx K mg base) : mg "payload_of" = some (.ref (He.ga K "payload_of")) := He.glo_ok T.X T.G (T.c.fact 6)
theorem Ctx.glo_stamped (T : Ctx K mg base) : mg "stamped" = some (.ref (He.ga K "stamped")) := He.glo_ok T.X T.G (T.c.fact 7)
theorem Ctx.int_LEAST_SEGMENTS (T : Ctx K mg base) : ∃ t, mg "LEAST_SEGMENTS" = some (.int 4 t) := He.int_ok T.X T.G (T.c.fact 8)
theorem Ctx.int_MOST_SEGMENTS (T : Ctx K mg base) : ∃ t, mg "MOST_SEGMENTS" = some (.int 16 t) := He.int_ok T.X T.G (T.c.fact 9)
theorem Ctx.int_LEAST_BLOCKS (T : Ctx K mg base) : ∃ t, mg "LEAST_BLOCKS" = some (.int 16 t) := He.int_ok T.X T.G (T.c.fact 10)
theorem Ctx.int_MOST_BLOCKS (T : Ctx K mg base) : ∃ t, mg "MOST_BLOCKS" = some (.int 32 t) := He.int_ok T.X T.G (T.c.fact 11)
theorem Ctx.int_HEAD_OCTETS (T : Ctx K mg base) : ∃ t, mg "HEAD_OCTETS" = some (.int 16 t) := He.int_ok T.X T.G (T.c.fact 12)
theorem Ctx.int_SLOTS (T : Ctx K mg base) : ∃ t, mg "SLOTS" = some (.int 3 t) := He.int_ok T.X T.G (T.c.fact 13)
theorem Ctx.glo_Layout (T : Ctx K mg base) : mg "Layout" = some (.ref (He.ga K "Layout")) := He.glo_ok T.X T.G (T.c.fact 14)
theorem Ctx.cls_Layout (T : Ctx K mg base) : Cls K (He.ga K "Layout") := He.cls_ok (T.c.fact 15)
theorem Ctx.mkr_Layout (T : Ctx K mg base) : Mk K (He.ga K "Layout") (He.ma K (He.ga K "Layout") "__init__") := He.mkr_ok (T.c.fact 16)
theorem Ctx.na_Layout_segments (T : Ctx K mg base) : NoAttr K (He.ga K "Layout") "segments" := He.noat_ok (T.c.fact 17)
theorem Ctx.na_Layout_segment_blocks (T : Ctx K mg base) : NoAttr K (He.ga K "Layout") "segment_blocks" := He.noat_ok (T.c.fact 18)
theorem Ctx.na_Layout_block_size (T : Ctx K mg base) : NoAttr K (He.ga K "Layout") "block_size" := He.noat_ok (T.c.fact 19)
theorem Ctx.na_Layout_payload (T : Ctx K mg base) : NoAttr K (He.ga K "Layout") "payload" := He.noat_ok (T.c.fact 20)
theorem Ctx.na_Layout_limit (T : Ctx K mg base) : NoAttr K (He.ga K "Layout") "limit" := He.noat_ok (T.c.fact 21)
theorem Ctx.na_Layout_last_id (T : Ctx K mg base) : NoAttr K (He.ga K "Layout") "last_id" := He.noat_ok (T.c.fact 22)
theorem Ctx.na_Layout_fan (T : Ctx K mg base) : NoAttr K (He.ga K "Layout") "fan" := He.noat_ok (T.c.fact 23)
theorem Ctx.na_Layout_region_blocks (T : Ctx K mg base) : NoAttr K (He.ga K "Layout") "region_blocks" := He.noat_ok (T.c.fact 24)
theorem Ctx.na_Layout_device_blocks (T : Ctx K mg base) : NoAttr K (He.ga K "Layout") "device_blocks" := He.noat_ok (T.c.fact 25)
theorem Ctx.glo_parts_of (T : Ctx K mg base) : mg "parts_of" = some (.ref (He.ga K "parts_of")) := He.glo_ok T.X T.G (T.c.fact 26)
theorem Ctx.glo_address_at (T : Ctx K mg base) : mg "address_at" = some (.ref (He.ga K "address_at")) := He.glo_ok T.X T.G (T.c.fact 27)
theorem Ctx.glo_segment_of (T : Ctx K mg base) : mg "segment_of" = some (.ref (He.ga K "segment_of")) := He.glo_ok T.X T.G (T.c.fact 28)
theorem Ctx.glo_region_start (T : Ctx K mg base) : mg "region_start" = some (.ref (He.ga K "region_start")) := He.glo_ok T.X T.G (T.c.fact 29)
theorem Ctx.glo_Counts (T : Ctx K mg base) : mg "Counts" = some (.ref (He.ga K "Counts")) := He.glo_ok T.X T.G (T.c.fact 30)
theorem Ctx.cls_Counts (T : Ctx K mg base) : Cls K (He.ga K "Counts") := He.cls_ok (T.c.fact 31)
theorem Ctx.mkr_Counts (T : Ctx K mg base) : Mk K (He.ga K "Counts") (He.ma K (He.ga K "Counts") "__init__") := He.mkr_ok (T.c.fact 32)
theorem Ctx.na_Counts_commits (T : Ctx K mg base) : NoAttr K (He.ga K "Counts") "commits" := He.noat_ok (T.c.fact 33)
theorem Ctx.na_Counts_commit_blocks (T : Ctx K mg base) : NoAttr K (He.ga K "Counts") "commit_blocks" := He.noat_ok (T.c.fact 34)
theorem Ctx.na_Counts_moves (T : Ctx K mg base) : NoAttr K (He.ga K "Counts") "moves" := He.noat_ok (T.c.fact 35)
theorem Ctx.na_Counts_move_blocks (T : Ctx K mg base) : NoAttr K (He.ga K "Counts") "move_blocks" := He.noat_ok (T.c.fact 36)
theorem Ctx.na_Counts_checkpoints (T : Ctx K mg base) : NoAttr K (He.ga K "Counts") "checkpoints" := He.noat_ok (T.c.fact 37)
theorem Ctx.na_Counts_checkpoint_blocks (T : Ctx K mg base) : NoAttr K (He.ga K "Counts") "checkpoint_blocks" := He.noat_ok (T.c.fact 38)
theorem Ctx.na_Counts_barriers (T : Ctx K mg base) : NoAttr K (He.ga K "Counts") "barriers" := He.noat_ok (T.c.fact 39)
theorem Ctx.glo_empty_table (T : Ctx K mg base) : mg "empty_table" = some (.ref (He.ga K "empty_table")) := He.glo_ok T.X T.G (T.c.fact 40)
theorem Ctx.glo_commit_to_table (T : Ctx K mg base) : mg "commit_to_table" = some (.ref (He.ga K "commit_to_table")) := He.glo_ok T.X T.G (T.c.fact 41)
theorem Ctx.glo_slots_after (T : Ctx K mg base) : mg "slots_after" = some (.ref (He.ga K "slots_after")) := He.glo_ok T.X T.G (T.c.fact 42)
theorem Ctx.glo_move_in_table (T : Ctx K mg base) : mg "move_in_table" = some (.ref (He.ga K "move_in_table")) := He.glo_ok T.X T.G (T.c.fact 43)
theorem Ctx.glo_Log (T : Ctx K mg base) : mg "Log" = some (.ref (He.ga K "Log")) := He.glo_ok T.X T.G (T.c.fact 44)
theorem Ctx.cls_Log (T : Ctx K mg base) : Cls K (He.ga K "Log") := He.cls_ok (T.c.fact 45)
theorem Ctx.mkr_Log (T : Ctx K mg base) : Mk K (He.ga K "Log") (He.ma K (He.ga K "Log") "__init__") := He.mkr_ok (T.c.fact 46)
theorem Ctx.na_Log_device (T : Ctx K mg base) : NoAttr K (He.ga K "Log") "device" := He.noat_ok (T.c.fact 47)
theorem Ctx.na_Log_layout (T : Ctx K mg base) : NoAttr K (He.ga K "Log") "layout" := He.noat_ok (T.c.fact 48)
theorem Ctx.na_Log_present (T : Ctx K mg base) : NoAttr K (He.ga K "Log") "present" := He.noat_ok (T.c.fact 49)
theorem Ctx.na_Log_slots (T : Ctx K mg base) : NoAttr K (He.ga K "Log") "slots" := He.noat_ok (T.c.fact 50)
theorem Ctx.na_Log_head (T : Ctx K mg base) : NoAttr K (He.ga K "Log") "head" := He.noat_ok (T.c.fact 51)
theorem Ctx.na_Log_place (T : Ctx K mg base) : NoAttr K (He.ga K "Log") "place" := He.noat_ok (T.c.fact 52)
theorem Ctx.na_Log_queue (T : Ctx K mg base) : NoAttr K (He.ga K "Log") "queue" := He.noat_ok (T.c.fact 53)
theorem Ctx.na_Log_last_sequence (T : Ctx K mg base) : NoAttr K (He.ga K "Log") "last_sequence" := He.noat_ok (T.c.fact 54)
theorem Ctx.na_Log_region (T : Ctx K mg base) : NoAttr K (He.ga K "Log") "region" := He.noat_ok (T.c.fact 55)
theorem Ctx.na_Log_counts (T : Ctx K mg base) : NoAttr K (He.ga K "Log") "counts" := He.noat_ok (T.c.fact 56)
theorem Ctx.glo_payload_at (T : Ctx K mg base) : mg "payload_at" = some (.ref (He.ga K "payload_at")) := He.glo_ok T.X T.G (T.c.fact 57)
theorem Ctx.glo_live_addresses (T : Ctx K mg base) : mg "live_addresses" = some (.ref (He.ga K "live_addresses")) := He.glo_ok T.X T.G (T.c.fact 58)
theorem Ctx.glo_next_sequence (T : Ctx K mg base) : mg "next_sequence" = some (.ref (He.ga K "next_sequence")) := He.glo_ok T.X T.G (T.c.fact 59)
theorem Ctx.glo_enter_segment (T : Ctx K mg base) : mg "enter_segment" = some (.ref (He.ga K "enter_segment")) := He.glo_ok T.X T.G (T.c.fact 60)
theorem Ctx.glo_take_batch (T : Ctx K mg base) : mg "take_batch" = some (.ref (He.ga K "take_batch")) := He.glo_ok T.X T.G (T.c.fact 61)
theorem Ctx.glo_write_batch (T : Ctx K mg base) : mg "write_batch" = some (.ref (He.ga K "write_batch")) := He.glo_ok T.X T.G (T.c.fact 62)
theorem Ctx.glo_append_commit (T : Ctx K mg base) : mg "append_commit" = some (.ref (He.ga K "append_commit")) := He.glo_ok T.X T.G (T.c.fact 63)
theorem Ctx.glo_append_move (T : Ctx K mg base) : mg "append_move" = some (.ref (He.ga K "append_move")) := He.glo_ok T.X T.G (T.c.fact 64)
theorem Ctx.glo_sync_log (T : Ctx K mg base) : mg "sync_log" = some (.ref (He.ga K "sync_log")) := He.glo_ok T.X T.G (T.c.fact 65)
theorem Ctx.glo_checkpoint_numbers (T : Ctx K mg base) : mg "checkpoint_numbers" = some (.ref (He.ga K "checkpoint_numbers")) := He.glo_ok T.X T.G (T.c.fact 66)
theorem Ctx.glo_read_numbers (T : Ctx K mg base) : mg "read_numbers" = some (.ref (He.ga K "read_numbers")) := He.glo_ok T.X T.G (T.c.fact 67)
theorem Ctx.glo_extended_queue (T : Ctx K mg base) : mg "extended_queue" = some (.ref (He.ga K "extended_queue")) := He.glo_ok T.X T.G (T.c.fact 68)
theorem Ctx.glo_write_checkpoint (T : Ctx K mg base) : mg "write_checkpoint" = some (.ref (He.ga K "write_checkpoint")) := He.glo_ok T.X T.G (T.c.fact 69)
theorem Ctx.glo_live_counts (T : Ctx K mg base) : mg "live_counts" = some (.ref (He.ga K "live_counts")) := He.glo_ok T.X T.G (T.c.fact 70)
theorem Ctx.glo_ages (T : Ctx K mg base) : mg "ages" = some (.ref (He.ga K "ages")) := He.glo_ok T.X T.G (T.c.fact 71)
theorem Ctx.glo_candidates (T : Ctx K mg base) : mg "candidates" = some (.ref (He.ga K "candidates")) := He.glo_ok T.X T.G (T.c.fact 72)
theorem Ctx.glo_victims (T : Ctx K mg base) : mg "victims" = some (.ref (He.ga K "victims")) := He.glo_ok T.X T.G (T.c.fact 73)
theorem Ctx.glo_cargo (T : Ctx K mg base) : mg "cargo" = some (.ref (He.ga K "cargo")) := He.glo_ok T.X T.G (T.c.fact 74)
theorem Ctx.glo_fill (T : Ctx K mg base) : mg "fill" = some (.ref (He.ga K "fill")) := He.glo_ok T.X T.G (T.c.fact 75)
theorem Ctx.glo_is_better (T : Ctx K mg base) : mg "is_better" = some (.ref (He.ga K "is_better")) := He.glo_ok T.X T.G (T.c.fact 76)
theorem Ctx.glo_order_candidates (T : Ctx K mg base) : mg "order_candidates" = some (.ref (He.ga K "order_candidates")) := He.glo_ok T.X T.G (T.c.fact 77)
theorem Ctx.glo_has_room (T : Ctx K mg base) : mg "has_room" = some (.ref (He.ga K "has_room")) := He.glo_ok T.X T.G (T.c.fact 78)
theorem Ctx.glo_make_room (T : Ctx K mg base) : mg "make_room" = some (.ref (He.ga K "make_room")) := He.glo_ok T.X T.G (T.c.fact 79)
theorem Ctx.glo_Device (T : Ctx K mg base) : mg "Device" = some (.ref (He.ga K "Device")) := He.glo_ok T.X T.G (T.c.fact 80)
theorem Ctx.cls_Device (T : Ctx K mg base) : Cls K (He.ga K "Device") := He.cls_ok (T.c.fact 81)
theorem Ctx.mkr_Device (T : Ctx K mg base) : Mk K (He.ga K "Device") (He.ma K (He.ga K "Device") "__init__") := He.mkr_ok (T.c.fact 82)
theorem Ctx.na_Device_layout (T : Ctx K mg base) : NoAttr K (He.ga K "Device") "layout" := He.noat_ok (T.c.fact 83)
theorem Ctx.na_Device_sure (T : Ctx K mg base) : NoAttr K (He.ga K "Device") "sure" := He.noat_ok (T.c.fact 84)
theorem Ctx.na_Device_seen (T : Ctx K mg base) : NoAttr K (He.ga K "Device") "seen" := He.noat_ok (T.c.fact 85)
theorem Ctx.na_Device_waiting (T : Ctx K mg base) : NoAttr K (He.ga K "Device") "waiting" := He.noat_ok (T.c.fact 86)
theorem Ctx.na_Device_fuse (T : Ctx K mg base) : NoAttr K (He.ga K "Device") "fuse" := He.noat_ok (T.c.fact 87)
theorem Ctx.na_Device_dark (T : Ctx K mg base) : NoAttr K (He.ga K "Device") "dark" := He.noat_ok (T.c.fact 88)
theorem Ctx.m_Device_read (T : Ctx K mg base) : Meth K (He.ga K "Device") "read" (He.ma K (He.ga K "Device") "read") := He.meth_ok (T.c.fact 89)
theorem Ctx.m_Device_write (T : Ctx K mg base) : Meth K (He.ga K "Device") "write" (He.ma K (He.ga K "Device") "write") := He.meth_ok (T.c.fact 90)
theorem Ctx.m_Device_barrier (T : Ctx K mg base) : Meth K (He.ga K "Device") "barrier" (He.ma K (He.ga K "Device") "barrier") := He.meth_ok (T.c.fact 91)
theorem Ctx.m_Device_pending (T : Ctx K mg base) : Meth K (He.ga K "Device") "pending" (He.ma K (He.ga K "Device") "pending") := He.meth_ok (T.c.fact 92)
theorem Ctx.m_Device_left (T : Ctx K mg base) : Meth K (He.ga K "Device") "left" (He.ma K (He.ga K "Device") "left") := He.meth_ok (T.c.fact 93)
theorem Ctx.m_Device_written_blocks (T : Ctx K mg base) : Meth K (He.ga K "Device") "written_blocks" (He.ma K (He.ga K "Device") "written_blocks") := He.meth_ok (T.c.fact 94)
theorem Ctx.m_Device_count_command (T : Ctx K mg base) : Meth K (He.ga K "Device") "_count_command" (He.ma K (He.ga K "Device") "_count_command") := He.meth_ok (T.c.fact 95)
theorem Ctx.glo_new_log (T : Ctx K mg base) : mg "new_log" = some (.ref (He.ga K "new_log")) := He.glo_ok T.X T.G (T.c.fact 96)
theorem Ctx.glo_checkpoint_in (T : Ctx K mg base) : mg "checkpoint_in" = some (.ref (He.ga K "checkpoint_in")) := He.glo_ok T.X T.G (T.c.fact 97)
theorem Ctx.glo_batch_at (T : Ctx K mg base) : mg "batch_at" = some (.ref (He.ga K "batch_at")) := He.glo_ok T.X T.G (T.c.fact 98)
theorem Ctx.glo_take_next (T : Ctx K mg base) : mg "take_next" = some (.ref (He.ga K "take_next")) := He.glo_ok T.X T.G (T.c.fact 99)
theorem Ctx.glo_recover (T : Ctx K mg base) : mg "recover" = some (.ref (He.ga K "recover")) := He.glo_ok T.X T.G (T.c.fact 100)
theorem Ctx.glo_mount_log (T : Ctx K mg base) : mg "mount_log" = some (.ref (He.ga K "mount_log")) := He.glo_ok T.X T.G (T.c.fact 101)
theorem Ctx.glo_law_row (T : Ctx K mg base) : mg "_law_row" = some (.ref (He.ga K "_law_row")) := He.glo_ok T.X T.G (T.c.fact 102)
theorem Ctx.glo_law_digits (T : Ctx K mg base) : mg "_law_digits" = some (.ref (He.ga K "_law_digits")) := He.glo_ok T.X T.G (T.c.fact 103)
theorem Ctx.glo_law_layout (T : Ctx K mg base) : mg "_law_layout" = some (.ref (He.ga K "_law_layout")) := He.glo_ok T.X T.G (T.c.fact 104)
theorem Ctx.glo_law_contents (T : Ctx K mg base) : mg "_law_contents" = some (.ref (He.ga K "_law_contents")) := He.glo_ok T.X T.G (T.c.fact 105)
theorem Ctx.glo_law_after (T : Ctx K mg base) : mg "_law_after" = some (.ref (He.ga K "_law_after")) := He.glo_ok T.X T.G (T.c.fact 106)
theorem Ctx.glo_law_payloads (T : Ctx K mg base) : mg "_law_payloads" = some (.ref (He.ga K "_law_payloads")) := He.glo_ok T.X T.G (T.c.fact 107)
theorem Ctx.glo_law_ids (T : Ctx K mg base) : mg "_law_ids" = some (.ref (He.ga K "_law_ids")) := He.glo_ok T.X T.G (T.c.fact 108)
theorem Ctx.glo_law_used (T : Ctx K mg base) : mg "_law_used" = some (.ref (He.ga K "_law_used")) := He.glo_ok T.X T.G (T.c.fact 109)
theorem Ctx.glo_law_live (T : Ctx K mg base) : mg "_law_live" = some (.ref (He.ga K "_law_live")) := He.glo_ok T.X T.G (T.c.fact 110)
theorem Ctx.glo_law_failure (T : Ctx K mg base) : mg "_law_failure" = some (.ref (He.ga K "_law_failure")) := He.glo_ok T.X T.G (T.c.fact 111)
theorem Ctx.glo_law_behind (T : Ctx K mg base) : mg "_law_behind" = some (.ref (He.ga K "_law_behind")) := He.glo_ok T.X T.G (T.c.fact 112)
theorem Ctx.glo_law_points (T : Ctx K mg base) : mg "_law_points" = some (.ref (He.ga K "_law_points")) := He.glo_ok T.X T.G (T.c.fact 113)
theorem Ctx.glo_law_room_made (T : Ctx K mg base) : mg "_law_room_made" = some (.ref (He.ga K "_law_room_made")) := He.glo_ok T.X T.G (T.c.fact 114)
theorem Ctx.glo_law (T : Ctx K mg base) : mg "law" = some (.ref (He.ga K "law")) := He.glo_ok T.X T.G (T.c.fact 115)
theorem Ctx.free_range (T : Ctx K mg base) : mg "range" = none := He.free_ok T.X T.G (T.c.fact 116)
theorem Ctx.free_len (T : Ctx K mg base) : mg "len" = none := He.free_ok T.X T.G (T.c.fact 117)
theorem Ctx.free_list (T : Ctx K mg base) : mg "list" = none := He.free_ok T.X T.G (T.c.fact 118)
theorem Ctx.free_enumerate (T : Ctx K mg base) : mg "enumerate" = none := He.free_ok T.X T.G (T.c.fact 119)
theorem Ctx.free_tuple (T : Ctx K mg base) : mg "tuple" = none := He.free_ok T.X T.G (T.c.fact 120)
theorem Ctx.free_sorted (T : Ctx K mg base) : mg "sorted" = none := He.free_ok T.X T.G (T.c.fact 121)
theorem Ctx.free_max (T : Ctx K mg base) : mg "max" = none := He.free_ok T.X T.G (T.c.fact 122)
theorem Ctx.free_int (T : Ctx K mg base) : mg "int" = none := He.free_ok T.X T.G (T.c.fact 123)
theorem Ctx.free_zip (T : Ctx K mg base) : mg "zip" = none := He.free_ok T.X T.G (T.c.fact 124)
theorem Ctx.def_is_payload (T : Ctx K mg base) : ∃ fd, FunD K d_is_payload.name d_is_payload.qual d_is_payload.params d_is_payload.body d_is_payload.scope (d_is_payload.dvs K) (d_is_payload.kws K) (He.fAd K d_is_payload.at_) fd := T.c.def_ 0
theorem Ctx.def_payload_of (T : Ctx K mg base) : ∃ fd, FunD K d_payload_of.name d_payload_of.qual d_payload_of.params d_payload_of.body d_payload_of.scope (d_payload_of.dvs K) (d_payload_of.kws K) (He.fAd K d_payload_of.at_) fd := T.c.def_ 1
theorem Ctx.def_stamped (T : Ctx K mg base) : ∃ fd, FunD K d_stamped.name d_stamped.qual d_stamped.params d_stamped.body d_stamped.scope (d_stamped.dvs K) (d_stamped.kws K) (He.fAd K d_stamped.at_) fd := T.c.def_ 2
theorem Ctx.def_Layout_init (T : Ctx K mg base) : ∃ fd, FunD K d_Layout_init.name d_Layout_init.qual d_Layout_init.params d_Layout_init.body d_Layout_init.scope (d_Layout_init.dvs K) (d_Layout_init.kws K) (He.fAd K d_Layout_init.at_) fd := T.c.def_ 3
theorem Ctx.def_parts_of (T : Ctx K mg base) : ∃ fd, FunD K d_parts_of.name d_parts_of.qual d_parts_of.params d_parts_of.body d_parts_of.scope (d_parts_of.dvs K) (d_parts_of.kws K) (He.fAd K d_parts_of.at_) fd := T.c.def_ 4
theorem Ctx.def_address_at (T : Ctx K mg base) : ∃ fd, FunD K d_address_at.name d_address_at.qual d_address_at.params d_address_at.body d_address_at.scope (d_address_at.dvs K) (d_address_at.kws K) (He.fAd K d_address_at.at_) fd := T.c.def_ 5
theorem Ctx.def_segment_of (T : Ctx K mg base) : ∃ fd, FunD K d_segment_of.name d_segment_of.qual d_segment_of.params d_segment_of.body d_segment_of.scope (d_segment_of.dvs K) (d_segment_of.kws K) (He.fAd K d_segment_of.at_) fd := T.c.def_ 6
theorem Ctx.def_region_start (T : Ctx K mg base) : ∃ fd, FunD K d_region_start.name d_region_start.qual d_region_start.params d_region_start.body d_region_start.scope (d_region_start.dvs K) (d_region_start.kws K) (He.fAd K d_region_start.at_) fd := T.c.def_ 7
theorem Ctx.def_Counts_init (T : Ctx K mg base) : ∃ fd, FunD K d_Counts_init.name d_Counts_init.qual d_Counts_init.params d_Counts_init.body d_Counts_init.scope (d_Counts_init.dvs K) (d_Counts_init.kws K) (He.fAd K d_Counts_init.at_) fd := T.c.def_ 8
theorem Ctx.def_empty_table (T : Ctx K mg base) : ∃ fd, FunD K d_empty_table.name d_empty_table.qual d_empty_table.params d_empty_table.body d_empty_table.scope (d_empty_table.dvs K) (d_empty_table.kws K) (He.fAd K d_empty_table.at_) fd := T.c.def_ 9
theorem Ctx.def_commit_to_table (T : Ctx K mg base) : ∃ fd, FunD K d_commit_to_table.name d_commit_to_table.qual d_commit_to_table.params d_commit_to_table.body d_commit_to_table.scope (d_commit_to_table.dvs K) (d_commit_to_table.kws K) (He.fAd K d_commit_to_table.at_) fd := T.c.def_ 10
theorem Ctx.def_slots_after (T : Ctx K mg base) : ∃ fd, FunD K d_slots_after.name d_slots_after.qual d_slots_after.params d_slots_after.body d_slots_after.scope (d_slots_after.dvs K) (d_slots_after.kws K) (He.fAd K d_slots_after.at_) fd := T.c.def_ 11
theorem Ctx.def_move_in_table (T : Ctx K mg base) : ∃ fd, FunD K d_move_in_table.name d_move_in_table.qual d_move_in_table.params d_move_in_table.body d_move_in_table.scope (d_move_in_table.dvs K) (d_move_in_table.kws K) (He.fAd K d_move_in_table.at_) fd := T.c.def_ 12
theorem Ctx.def_Log_init (T : Ctx K mg base) : ∃ fd, FunD K d_Log_init.name d_Log_init.qual d_Log_init.params d_Log_init.body d_Log_init.scope (d_Log_init.dvs K) (d_Log_init.kws K) (He.fAd K d_Log_init.at_) fd := T.c.def_ 13
theorem Ctx.def_payload_at (T : Ctx K mg base) : ∃ fd, FunD K d_payload_at.name d_payload_at.qual d_payload_at.params d_payload_at.body d_payload_at.scope (d_payload_at.dvs K) (d_payload_at.kws K) (He.fAd K d_payload_at.at_) fd := T.c.def_ 14
theorem Ctx.def_live_addresses (T : Ctx K mg base) : ∃ fd, FunD K d_live_addresses.name d_live_addresses.qual d_live_addresses.params d_live_addresses.body d_live_addresses.scope (d_live_addresses.dvs K) (d_live_addresses.kws K) (He.fAd K d_live_addresses.at_) fd := T.c.def_ 15
theorem Ctx.def_next_sequence (T : Ctx K mg base) : ∃ fd, FunD K d_next_sequence.name d_next_sequence.qual d_next_sequence.params d_next_sequence.body d_next_sequence.scope (d_next_sequence.dvs K) (d_next_sequence.kws K) (He.fAd K d_next_sequence.at_) fd := T.c.def_ 16
theorem Ctx.def_enter_segment (T : Ctx K mg base) : ∃ fd, FunD K d_enter_segment.name d_enter_segment.qual d_enter_segment.params d_enter_segment.body d_enter_segment.scope (d_enter_segment.dvs K) (d_enter_segment.kws K) (He.fAd K d_enter_segment.at_) fd := T.c.def_ 17
theorem Ctx.def_take_batch (T : Ctx K mg base) : ∃ fd, FunD K d_take_batch.name d_take_batch.qual d_take_batch.params d_take_batch.body d_take_batch.scope (d_take_batch.dvs K) (d_take_batch.kws K) (He.fAd K d_take_batch.at_) fd := T.c.def_ 18
theorem Ctx.def_write_batch (T : Ctx K mg base) : ∃ fd, FunD K d_write_batch.name d_write_batch.qual d_write_batch.params d_write_batch.body d_write_batch.scope (d_write_batch.dvs K) (d_write_batch.kws K) (He.fAd K d_write_batch.at_) fd := T.c.def_ 19
theorem Ctx.def_append_commit (T : Ctx K mg base) : ∃ fd, FunD K d_append_commit.name d_append_commit.qual d_append_commit.params d_append_commit.body d_append_commit.scope (d_append_commit.dvs K) (d_append_commit.kws K) (He.fAd K d_append_commit.at_) fd := T.c.def_ 20
theorem Ctx.def_append_move (T : Ctx K mg base) : ∃ fd, FunD K d_append_move.name d_append_move.qual d_append_move.params d_append_move.body d_append_move.scope (d_append_move.dvs K) (d_append_move.kws K) (He.fAd K d_append_move.at_) fd := T.c.def_ 21
theorem Ctx.def_sync_log (T : Ctx K mg base) : ∃ fd, FunD K d_sync_log.name d_sync_log.qual d_sync_log.params d_sync_log.body d_sync_log.scope (d_sync_log.dvs K) (d_sync_log.kws K) (He.fAd K d_sync_log.at_) fd := T.c.def_ 22
theorem Ctx.def_checkpoint_numbers (T : Ctx K mg base) : ∃ fd, FunD K d_checkpoint_numbers.name d_checkpoint_numbers.qual d_checkpoint_numbers.params d_checkpoint_numbers.body d_checkpoint_numbers.scope (d_checkpoint_numbers.dvs K) (d_checkpoint_numbers.kws K) (He.fAd K d_checkpoint_numbers.at_) fd := T.c.def_ 23
theorem Ctx.def_read_numbers (T : Ctx K mg base) : ∃ fd, FunD K d_read_numbers.name d_read_numbers.qual d_read_numbers.params d_read_numbers.body d_read_numbers.scope (d_read_numbers.dvs K) (d_read_numbers.kws K) (He.fAd K d_read_numbers.at_) fd := T.c.def_ 24
theorem Ctx.def_extended_queue (T : Ctx K mg base) : ∃ fd, FunD K d_extended_queue.name d_extended_queue.qual d_extended_queue.params d_extended_queue.body d_extended_queue.scope (d_extended_queue.dvs K) (d_extended_queue.kws K) (He.fAd K d_extended_queue.at_) fd := T.c.def_ 25
theorem Ctx.def_write_checkpoint (T : Ctx K mg base) : ∃ fd, FunD K d_write_checkpoint.name d_write_checkpoint.qual d_write_checkpoint.params d_write_checkpoint.body d_write_checkpoint.scope (d_write_checkpoint.dvs K) (d_write_checkpoint.kws K) (He.fAd K d_write_checkpoint.at_) fd := T.c.def_ 26
theorem Ctx.def_live_counts (T : Ctx K mg base) : ∃ fd, FunD K d_live_counts.name d_live_counts.qual d_live_counts.params d_live_counts.body d_live_counts.scope (d_live_counts.dvs K) (d_live_counts.kws K) (He.fAd K d_live_counts.at_) fd := T.c.def_ 27
theorem Ctx.def_ages (T : Ctx K mg base) : ∃ fd, FunD K d_ages.name d_ages.qual d_ages.params d_ages.body d_ages.scope (d_ages.dvs K) (d_ages.kws K) (He.fAd K d_ages.at_) fd := T.c.def_ 28
theorem Ctx.def_candidates (T : Ctx K mg base) : ∃ fd, FunD K d_candidates.name d_candidates.qual d_candidates.params d_candidates.body d_candidates.scope (d_candidates.dvs K) (d_candidates.kws K) (He.fAd K d_candidates.at_) fd := T.c.def_ 29
theorem Ctx.def_victims (T : Ctx K mg base) : ∃ fd, FunD K d_victims.name d_victims.qual d_victims.params d_victims.body d_victims.scope (d_victims.dvs K) (d_victims.kws K) (He.fAd K d_victims.at_) fd := T.c.def_ 30
theorem Ctx.def_cargo (T : Ctx K mg base) : ∃ fd, FunD K d_cargo.name d_cargo.qual d_cargo.params d_cargo.body d_cargo.scope (d_cargo.dvs K) (d_cargo.kws K) (He.fAd K d_cargo.at_) fd := T.c.def_ 31
theorem Ctx.def_fill (T : Ctx K mg base) : ∃ fd, FunD K d_fill.name d_fill.qual d_fill.params d_fill.body d_fill.scope (d_fill.dvs K) (d_fill.kws K) (He.fAd K d_fill.at_) fd := T.c.def_ 32
theorem Ctx.def_is_better (T : Ctx K mg base) : ∃ fd, FunD K d_is_better.name d_is_better.qual d_is_better.params d_is_better.body d_is_better.scope (d_is_better.dvs K) (d_is_better.kws K) (He.fAd K d_is_better.at_) fd := T.c.def_ 33
theorem Ctx.def_order_candidates (T : Ctx K mg base) : ∃ fd, FunD K d_order_candidates.name d_order_candidates.qual d_order_candidates.params d_order_candidates.body d_order_candidates.scope (d_order_candidates.dvs K) (d_order_candidates.kws K) (He.fAd K d_order_candidates.at_) fd := T.c.def_ 34
theorem Ctx.def_has_room (T : Ctx K mg base) : ∃ fd, FunD K d_has_room.name d_has_room.qual d_has_room.params d_has_room.body d_has_room.scope (d_has_room.dvs K) (d_has_room.kws K) (He.fAd K d_has_room.at_) fd := T.c.def_ 35
theorem Ctx.def_make_room (T : Ctx K mg base) : ∃ fd, FunD K d_make_room.name d_make_room.qual d_make_room.params d_make_room.body d_make_room.scope (d_make_room.dvs K) (d_make_room.kws K) (He.fAd K d_make_room.at_) fd := T.c.def_ 36
theorem Ctx.def_Device_init (T : Ctx K mg base) : ∃ fd, FunD K d_Device_init.name d_Device_init.qual d_Device_init.params d_Device_init.body d_Device_init.scope (d_Device_init.dvs K) (d_Device_init.kws K) (He.fAd K d_Device_init.at_) fd := T.c.def_ 37
theorem Ctx.def_Device_read (T : Ctx K mg base) : ∃ fd, FunD K d_Device_read.name d_Device_read.qual d_Device_read.params d_Device_read.body d_Device_read.scope (d_Device_read.dvs K) (d_Device_read.kws K) (He.fAd K d_Device_read.at_) fd := T.c.def_ 38
theorem Ctx.def_Device_write (T : Ctx K mg base) : ∃ fd, FunD K d_Device_write.name d_Device_write.qual d_Device_write.params d_Device_write.body d_Device_write.scope (d_Device_write.dvs K) (d_Device_write.kws K) (He.fAd K d_Device_write.at_) fd := T.c.def_ 39
theorem Ctx.def_Device_barrier (T : Ctx K mg base) : ∃ fd, FunD K d_Device_barrier.name d_Device_barrier.qual d_Device_barrier.params d_Device_barrier.body d_Device_barrier.scope (d_Device_barrier.dvs K) (d_Device_barrier.kws K) (He.fAd K d_Device_barrier.at_) fd := T.c.def_ 40
theorem Ctx.def_Device_pending (T : Ctx K mg base) : ∃ fd, FunD K d_Device_pending.name d_Device_pending.qual d_Device_pending.params d_Device_pending.body d_Device_pending.scope (d_Device_pending.dvs K) (d_Device_pending.kws K) (He.fAd K d_Device_pending.at_) fd := T.c.def_ 41
theorem Ctx.def_Device_left (T : Ctx K mg base) : ∃ fd, FunD K d_Device_left.name d_Device_left.qual d_Device_left.params d_Device_left.body d_Device_left.scope (d_Device_left.dvs K) (d_Device_left.kws K) (He.fAd K d_Device_left.at_) fd := T.c.def_ 42
theorem Ctx.def_Device_written_blocks (T : Ctx K mg base) : ∃ fd, FunD K d_Device_written_blocks.name d_Device_written_blocks.qual d_Device_written_blocks.params d_Device_written_blocks.body d_Device_written_blocks.scope (d_Device_written_blocks.dvs K) (d_Device_written_blocks.kws K) (He.fAd K d_Device_written_blocks.at_) fd := T.c.def_ 43
theorem Ctx.def_Device_count_command (T : Ctx K mg base) : ∃ fd, FunD K d_Device_count_command.name d_Device_count_command.qual d_Device_count_command.params d_Device_count_command.body d_Device_count_command.scope (d_Device_count_command.dvs K) (d_Device_count_command.kws K) (He.fAd K d_Device_count_command.at_) fd := T.c.def_ 44
theorem Ctx.def_new_log (T : Ctx K mg base) : ∃ fd, FunD K d_new_log.name d_new_log.qual d_new_log.params d_new_log.body d_new_log.scope (d_new_log.dvs K) (d_new_log.kws K) (He.fAd K d_new_log.at_) fd := T.c.def_ 45
theorem Ctx.def_checkpoint_in (T : Ctx K mg base) : ∃ fd, FunD K d_checkpoint_in.name d_checkpoint_in.qual d_checkpoint_in.params d_checkpoint_in.body d_checkpoint_in.scope (d_checkpoint_in.dvs K) (d_checkpoint_in.kws K) (He.fAd K d_checkpoint_in.at_) fd := T.c.def_ 46
theorem Ctx.def_batch_at (T : Ctx K mg base) : ∃ fd, FunD K d_batch_at.name d_batch_at.qual d_batch_at.params d_batch_at.body d_batch_at.scope (d_batch_at.dvs K) (d_batch_at.kws K) (He.fAd K d_batch_at.at_) fd := T.c.def_ 47
theorem Ctx.def_take_next (T : Ctx K mg base) : ∃ fd, FunD K d_take_next.name d_take_next.qual d_take_next.params d_take_next.body d_take_next.scope (d_take_next.dvs K) (d_take_next.kws K) (He.fAd K d_take_next.at_) fd := T.c.def_ 48
theorem Ctx.def_recover (T : Ctx K mg base) : ∃ fd, FunD K d_recover.name d_recover.qual d_recover.params d_recover.body d_recover.scope (d_recover.dvs K) (d_recover.kws K) (He.fAd K d_recover.at_) fd := T.c.def_ 49
theorem Ctx.def_mount_log (T : Ctx K mg base) : ∃ fd, FunD K d_mount_log.name d_mount_log.qual d_mount_log.params d_mount_log.body d_mount_log.scope (d_mount_log.dvs K) (d_mount_log.kws K) (He.fAd K d_mount_log.at_) fd := T.c.def_ 50
theorem Ctx.def_law_row (T : Ctx K mg base) : ∃ fd, FunD K d_law_row.name d_law_row.qual d_law_row.params d_law_row.body d_law_row.scope (d_law_row.dvs K) (d_law_row.kws K) (He.fAd K d_law_row.at_) fd := T.c.def_ 51
theorem Ctx.def_law_digits (T : Ctx K mg base) : ∃ fd, FunD K d_law_digits.name d_law_digits.qual d_law_digits.params d_law_digits.body d_law_digits.scope (d_law_digits.dvs K) (d_law_digits.kws K) (He.fAd K d_law_digits.at_) fd := T.c.def_ 52
theorem Ctx.def_law_layout (T : Ctx K mg base) : ∃ fd, FunD K d_law_layout.name d_law_layout.qual d_law_layout.params d_law_layout.body d_law_layout.scope (d_law_layout.dvs K) (d_law_layout.kws K) (He.fAd K d_law_layout.at_) fd := T.c.def_ 53
theorem Ctx.def_law_contents (T : Ctx K mg base) : ∃ fd, FunD K d_law_contents.name d_law_contents.qual d_law_contents.params d_law_contents.body d_law_contents.scope (d_law_contents.dvs K) (d_law_contents.kws K) (He.fAd K d_law_contents.at_) fd := T.c.def_ 54
theorem Ctx.def_law_after (T : Ctx K mg base) : ∃ fd, FunD K d_law_after.name d_law_after.qual d_law_after.params d_law_after.body d_law_after.scope (d_law_after.dvs K) (d_law_after.kws K) (He.fAd K d_law_after.at_) fd := T.c.def_ 55
theorem Ctx.def_law_payloads (T : Ctx K mg base) : ∃ fd, FunD K d_law_payloads.name d_law_payloads.qual d_law_payloads.params d_law_payloads.body d_law_payloads.scope (d_law_payloads.dvs K) (d_law_payloads.kws K) (He.fAd K d_law_payloads.at_) fd := T.c.def_ 56
theorem Ctx.def_law_ids (T : Ctx K mg base) : ∃ fd, FunD K d_law_ids.name d_law_ids.qual d_law_ids.params d_law_ids.body d_law_ids.scope (d_law_ids.dvs K) (d_law_ids.kws K) (He.fAd K d_law_ids.at_) fd := T.c.def_ 57
theorem Ctx.def_law_used (T : Ctx K mg base) : ∃ fd, FunD K d_law_used.name d_law_used.qual d_law_used.params d_law_used.body d_law_used.scope (d_law_used.dvs K) (d_law_used.kws K) (He.fAd K d_law_used.at_) fd := T.c.def_ 58
theorem Ctx.def_law_live (T : Ctx K mg base) : ∃ fd, FunD K d_law_live.name d_law_live.qual d_law_live.params d_law_live.body d_law_live.scope (d_law_live.dvs K) (d_law_live.kws K) (He.fAd K d_law_live.at_) fd := T.c.def_ 59
theorem Ctx.def_law_failure (T : Ctx K mg base) : ∃ fd, FunD K d_law_failure.name d_law_failure.qual d_law_failure.params d_law_failure.body d_law_failure.scope (d_law_failure.dvs K) (d_law_failure.kws K) (He.fAd K d_law_failure.at_) fd := T.c.def_ 60
theorem Ctx.def_law_behind (T : Ctx K mg base) : ∃ fd, FunD K d_law_behind.name d_law_behind.qual d_law_behind.params d_law_behind.body d_law_behind.scope (d_law_behind.dvs K) (d_law_behind.kws K) (He.fAd K d_law_behind.at_) fd := T.c.def_ 61
theorem Ctx.def_law_points (T : Ctx K mg base) : ∃ fd, FunD K d_law_points.name d_law_points.qual d_law_points.params d_law_points.body d_law_points.scope (d_law_points.dvs K) (d_law_points.kws K) (He.fAd K d_law_points.at_) fd := T.c.def_ 62
theorem Ctx.def_law_room_made (T : Ctx K mg base) : ∃ fd, FunD K d_law_room_made.name d_law_room_made.qual d_law_room_made.params d_law_room_made.body d_law_room_made.scope (d_law_room_made.dvs K) (d_law_room_made.kws K) (He.fAd K d_law_room_made.at_) fd := T.c.def_ 63
theorem Ctx.def_law (T : Ctx K mg base) : ∃ fd, FunD K d_law.name d_law.qual d_law.params d_law.body d_law.scope (d_law.dvs K) (d_law.kws K) (He.fAd K d_law.at_) fd := T.c.def_ 64
end
end Sg

set_option maxHeartbeats 4000000
/-! segmentfs, plain mathematics 1: layouts, addresses, tables and what batches do to them. -/
namespace Sg
structure Lay where
  seg : Nat
  sb : Nat
  bs : Nat
namespace Lay
def pay (l : Lay) : Nat := l.sb - 1
def lim (l : Lay) : Nat := (l.seg - 2) * l.pay
def last (l : Lay) : Nat := l.lim + l.pay
def fan (l : Lay) : Nat := l.bs / 2
def nums (l : Lay) : Nat := 4 * l.last + 6 + l.seg
def rb (l : Lay) : Nat := (2 * l.nums + l.bs - 1) / l.bs
def db (l : Lay) : Nat := 2 * l.rb + l.seg * l.sb
def adr (l : Lay) (s p : Nat) : Nat := 2 * l.rb + s * l.sb + p
def sg (l : Lay) (a : Nat) : Nat := (a - 2 * l.rb) / l.sb
def pc (l : Lay) (a : Nat) : Nat := (a - 2 * l.rb) % l.sb
structure Ok (l : Lay) : Prop where
  s1 : 4 ≤ l.seg
  s2 : l.seg ≤ 16
  b1 : 16 ≤ l.sb
  b2 : l.sb ≤ 32
  z : l.bs = 64 ∨ l.bs = 128 ∨ l.bs = 256
section
variable {l : Lay}
theorem Ok.pay1 (o : l.Ok) : 15 ≤ l.pay ∧ l.pay ≤ 31 ∧ l.sb = l.pay + 1 := by
  have := o.b1
  have := o.b2
  unfold pay
  omega
theorem Ok.lim1 (o : l.Ok) : 30 ≤ l.lim ∧ l.lim ≤ 434 := by
  have h1 := o.pay1
  have h2 := o.s1
  have h3 := o.s2
  unfold lim
  constructor
  · have := Nat.mul_le_mul (show 2 ≤ l.seg - 2 by omega) h1.1
    omega
  · have := Nat.mul_le_mul (show l.seg - 2 ≤ 14 by omega) h1.2.1
    omega
theorem Ok.last1 (o : l.Ok) : 45 ≤ l.last ∧ l.last ≤ 465 := by
  have h1 := o.pay1
  have h2 := o.lim1
  unfold last
  omega
theorem Ok.bs1 (o : l.Ok) : 64 ≤ l.bs ∧ l.bs ≤ 256 ∧ l.bs = 2 * l.fan ∧ 32 ≤ l.fan := by
  unfold fan
  rcases o.z with h | h | h <;> rw [h] <;> decide
theorem Ok.nums1 (o : l.Ok) : l.nums ≤ 1882 := by
  have := o.last1
  have := o.s2
  unfold nums
  omega
theorem Ok.rb_fan (o : l.Ok) : l.nums ≤ l.rb * l.fan := by
  have h := o.bs1
  have e : l.bs * l.rb = 2 * l.nums + l.bs - 1 - (2 * l.nums + l.bs - 1) % l.bs := by
    have := Nat.div_add_mod (2 * l.nums + l.bs - 1) l.bs
    unfold rb
    omega
  have m : (2 * l.nums + l.bs - 1) % l.bs < l.bs := Nat.mod_lt _ (by omega)
  have e2 : l.bs * l.rb = 2 * (l.rb * l.fan) := by
    rw [h.2.2.1, Nat.mul_comm l.rb l.fan, Nat.mul_assoc]
  omega
theorem Ok.rb1 (o : l.Ok) : 1 ≤ l.rb ∧ l.rb ≤ 59 := by
  have h := o.bs1
  have h2 := o.nums1
  have h3 : 100 ≤ l.nums := by
    have := o.last1
    unfold nums
    omega
  constructor
  · unfold rb
    exact Nat.div_pos (by omega) (by omega)
  · unfold rb
    rcases o.z with e | e | e <;> rw [e] <;> omega
theorem Ok.db1 (o : l.Ok) : l.db ≤ 630 := by
  have h1 := o.rb1
  have h2 := Nat.mul_le_mul o.s2 o.b2
  unfold db
  omega
theorem adr_sg (o : l.Ok) {s p : Nat} (hp : p < l.sb) : l.sg (l.adr s p) = s := by
  unfold sg adr
  have h1 := o.b1
  rw [show 2 * l.rb + s * l.sb + p - 2 * l.rb = p + l.sb * s by rw [Nat.mul_comm l.sb s]; omega, Nat.add_mul_div_left _ _ (by omega), Nat.div_eq_of_lt hp]
  omega
theorem adr_pc (o : l.Ok) {s p : Nat} (hp : p < l.sb) : l.pc (l.adr s p) = p := by
  unfold pc adr
  rw [show 2 * l.rb + s * l.sb + p - 2 * l.rb = p + l.sb * s by rw [Nat.mul_comm l.sb s]; omega, Nat.add_mul_mod_self_left, Nat.mod_eq_of_lt hp]
theorem adr_lt (o : l.Ok) {s p : Nat} (hs : s < l.seg) (hp : p < l.sb) : l.adr s p < l.db := by
  unfold adr db
  have h := Nat.mul_le_mul_right l.sb (show s + 1 ≤ l.seg by omega)
  rw [Nat.add_mul] at h
  omega
theorem adr_ge {s p : Nat} : 2 * l.rb ≤ l.adr s p := by
  unfold adr
  omega
theorem adr_of (o : l.Ok) {a : Nat} (h : 2 * l.rb ≤ a) : l.adr (l.sg a) (l.pc a) = a := by
  unfold adr sg pc
  have := Nat.div_add_mod (a - 2 * l.rb) l.sb
  rw [Nat.mul_comm] at this
  omega
theorem pc_lt (o : l.Ok) {a : Nat} : l.pc a < l.sb := by
  unfold pc
  exact Nat.mod_lt _ (by have := o.b1; omega)
theorem sg_lt (o : l.Ok) {a : Nat} (h : 2 * l.rb ≤ a) (h2 : a < l.db) : l.sg a < l.seg := by
  unfold sg db at *
  refine (Nat.div_lt_iff_lt_mul (by have := o.b1; omega)).mpr ?_
  omega
end
end Lay

/-! ### payloads, blocks, devices -/
/-- a payload: an index block (kind 4) or a data block (kind 3), and its body -/
structure PayD where
  node : Bool
  body : List Int
def PayD.kind (p : PayD) : Nat := if p.node then 4 else 3
inductive Blk where
  | com (seq : Nat) (ids used : List Nat) (act : Nat)
  | mov (seq : Nat) (adrs : List Nat)
  | pay (seq rank : Nat) (p : PayD)
  | part (seq rank : Nat) (nums : List Nat)
def Blk.seq : Blk → Nat
  | .com s _ _ _ => s
  | .mov s _ => s
  | .pay s _ _ => s
  | .part s _ _ => s
abbrev Dev := List (Option Blk)
def rd (d : Dev) (a : Nat) : Option Blk := (d[a]?).join
theorem rd_set {d : Dev} {a b : Nat} {x : Option Blk} (h : a < d.length) : rd (d.set a x) b = if b = a then x else rd d b := by
  unfold rd
  by_cases e : b = a
  · rw [if_pos e, e, List.getElem?_set_self h]
    rfl
  · rw [if_neg e, List.getElem?_set_ne (fun q => e q.symm)]
theorem rd_lt {d : Dev} {a : Nat} {b : Blk} (h : rd d a = some b) : a < d.length := by
  unfold rd at h
  cases e : d[a]? with
  | none =>
    rw [e] at h
    cases h
  | some x => exact (List.getElem?_eq_some_iff.mp e).1
def payOf : Option Blk → Option PayD
  | some (.pay _ _ p) => some p
  | _ => none
/-- what a table's id holds -/
def cont (d : Dev) (t : List Nat) (k : Nat) : Option PayD := if t.getD k 0 = 0 then none else payOf (rd d (t.getD k 0))
def applyW (d : Dev) (ws : List (Nat × Blk)) : Dev := ws.foldl (fun d w => d.set w.1 (some w.2)) d
theorem applyW_len (ws : List (Nat × Blk)) : ∀ d : Dev, (applyW d ws).length = d.length := by
  induction ws with
  | nil => intro d; rfl
  | cons w r ih =>
    intro d
    show (applyW (d.set w.1 (some w.2)) r).length = _
    rw [ih, List.length_set]
theorem applyW_app (d : Dev) (u v : List (Nat × Blk)) : applyW d (u ++ v) = applyW (applyW d u) v := by
  unfold applyW
  rw [List.foldl_append]
theorem applyW_out {a : Nat} (ws : List (Nat × Blk)) : ∀ d : Dev, (∀ w ∈ ws, w.1 ≠ a) → rd (applyW d ws) a = rd d a := by
  induction ws with
  | nil => intro d _; rfl
  | cons w r ih =>
    intro d h
    show rd (applyW (d.set w.1 (some w.2)) r) a = _
    rw [ih _ fun z hz => h z (List.mem_cons_of_mem _ hz)]
    unfold rd
    rw [List.getElem?_set_ne (h w List.mem_cons_self)]
/-- distinct addresses: each write stands -/
theorem applyW_in {a : Nat} {b : Blk} (ws : List (Nat × Blk)) : ∀ d : Dev, (a, b) ∈ ws → (ws.map (·.1)).Nodup → a < d.length → rd (applyW d ws) a = some b := by
  induction ws with
  | nil => intro d h; cases h
  | cons w r ih =>
    intro d h nd hl
    rw [List.map_cons, List.nodup_cons] at nd
    show rd (applyW (d.set w.1 (some w.2)) r) a = _
    rcases List.mem_cons.mp h with e | h
    · rw [← e] at nd ⊢
      rw [applyW_out r]
      · rw [rd_set hl, if_pos rfl]
      · intro z hz q
        exact nd.1 (List.mem_map.mpr ⟨z, hz, q⟩)
    · exact ih _ h nd.2 (by rw [List.length_set]; exact hl)
/-- either an old block or a written one -/
theorem applyW_cases {a : Nat} {b : Blk} (ws : List (Nat × Blk)) : ∀ d : Dev, rd (applyW d ws) a = some b → rd d a = some b ∨ (a, b) ∈ ws := by
  induction ws with
  | nil => intro d h; exact .inl h
  | cons w r ih =>
    intro d h
    have h : rd (applyW (d.set w.1 (some w.2)) r) a = some b := h
    rcases ih _ h with q | q
    · have hl := rd_lt q
      rw [List.length_set] at hl
      by_cases e : a = w.1
      · rw [e] at q hl
        rw [rd_set hl, if_pos rfl] at q
        cases q
        right
        rw [e]
        exact List.mem_cons_self
      · left
        unfold rd at q ⊢
        rw [List.getElem?_set_ne (fun z => e z.symm)] at q
        exact q
    · exact .inr (List.mem_cons_of_mem _ q)

/-! ### tables -/
/-- the table behind a commit -/
def placeIds (t : List Nat) (start : Nat) : List Nat → List Nat
  | [] => t
  | k :: r => placeIds (if 0 < k ∧ k < t.length then t.set k start else t) (start + 1) r
def commitTab (t : List Nat) (start : Nat) (ids used : List Nat) : List Nat :=
  let p := placeIds t start ids
  (List.range p.length).map fun k => if k ∈ used ∧ 0 < k then p.getD k 0 else 0
theorem placeIds_len (ids : List Nat) : ∀ (t : List Nat) (start : Nat), (placeIds t start ids).length = t.length := by
  induction ids with
  | nil => intro t s; rfl
  | cons k r ih =>
    intro t s
    show (placeIds (if 0 < k ∧ k < t.length then t.set k s else t) (s + 1) r).length = _
    rw [ih]
    split
    · rw [List.length_set]
    · rfl
theorem commitTab_len (t : List Nat) (start : Nat) (ids used : List Nat) : (commitTab t start ids used).length = t.length := by
  unfold commitTab
  simp [placeIds_len]
theorem getD_set (t : List Nat) (i j v : Nat) (h : i < t.length) : (t.set i v).getD j 0 = if j = i then v else t.getD j 0 := by
  rw [List.getD_eq_getElem?_getD, List.getD_eq_getElem?_getD]
  by_cases e : j = i
  · rw [if_pos e, e, List.getElem?_set_self h]
    rfl
  · rw [if_neg e, List.getElem?_set_ne (fun q => e q.symm)]
theorem placeIds_out {k : Nat} (ids : List Nat) : ∀ (t : List Nat) (start : Nat), k ∉ ids → (placeIds t start ids).getD k 0 = t.getD k 0 := by
  induction ids with
  | nil => intro t s _; rfl
  | cons j r ih =>
    intro t s h
    show (placeIds (if 0 < j ∧ j < t.length then t.set j s else t) (s + 1) r).getD k 0 = _
    rw [ih _ _ (fun q => h (List.mem_cons_of_mem _ q))]
    split
    · rename_i hj
      rw [getD_set _ _ _ _ hj.2, if_neg (fun q => h (by rw [q]; exact List.mem_cons_self))]
    · rfl
theorem placeIds_in {k : Nat} (ids : List Nat) : ∀ (t : List Nat) (start i : Nat), ids[i]? = some k → ids.Nodup → 0 < k → k < t.length → (placeIds t start ids).getD k 0 = start + i := by
  induction ids with
  | nil => intro t s i h; simp at h
  | cons j r ih =>
    intro t s i h nd h0 hk
    rw [List.nodup_cons] at nd
    show (placeIds (if 0 < j ∧ j < t.length then t.set j s else t) (s + 1) r).getD k 0 = _
    cases i with
    | zero =>
      have e : j = k := by simpa using h
      rw [e] at nd ⊢
      rw [placeIds_out _ _ _ nd.1, if_pos ⟨h0, hk⟩, getD_set _ _ _ _ hk, if_pos rfl]
      rfl
    | succ i =>
      rw [ih _ (s + 1) i (by simpa using h) nd.2 h0 (by split <;> simp [hk])]
      omega
theorem commitTab_get {t : List Nat} {start : Nat} {ids used : List Nat} {k : Nat} (hk : k < t.length) :
    (commitTab t start ids used).getD k 0 = if k ∈ used ∧ 0 < k then (placeIds t start ids).getD k 0 else 0 := by
  unfold commitTab
  rw [List.getD_eq_getElem?_getD]
  simp [placeIds_len, hk]
def slotsAfter (slots : List (Option (List Nat))) (t : List Nat) (act : Nat) : List (Option (List Nat)) :=
  if 1 ≤ act ∧ act ≤ 3 then slots.set (act - 1) (some t) else if 3 < act ∧ act ≤ 6 then slots.set (act - 4) none else slots
theorem slotsAfter_len (slots : List (Option (List Nat))) (t : List Nat) (act : Nat) : (slotsAfter slots t act).length = slots.length := by
  unfold slotsAfter
  split
  · exact List.length_set
  · split
    · exact List.length_set
    · rfl
/-- the table behind a move -/
def mvA (start : Nat) (adrs : List Nat) (a : Nat) : Nat := if a ≠ 0 ∧ a ∈ adrs then start + adrs.idxOf a else a
def moveTab (start : Nat) (adrs t : List Nat) : List Nat := t.map (mvA start adrs)

structure TS where
  pres : List Nat
  slots : List (Option (List Nat))
  head : Nat
  place : Nat
  queue : List Nat
def isLive (T : TS) (a : Nat) : Prop := a ≠ 0 ∧ (a ∈ T.pres ∨ ∃ t, some t ∈ T.slots ∧ a ∈ t)
open Classical in
noncomputable def live (l : Lay) (T : TS) : List Nat := (List.range l.db).filter fun a => decide (isLive T a)
theorem mem_live {l : Lay} {T : TS} {a : Nat} : a ∈ live l T ↔ a < l.db ∧ isLive T a := by
  simp [live]
theorem live_sorted (l : Lay) (T : TS) : (live l T).Pairwise (· < ·) := by
  unfold live
  exact List.Pairwise.filter _ (List.pairwise_lt_range)
theorem live_nodup (l : Lay) (T : TS) : (live l T).Nodup := (live_sorted l T).imp fun h => Nat.ne_of_lt h

structure GoodT (l : Lay) (T : TS) : Prop where
  lp : T.pres.length = l.last + 1
  p0 : T.pres[0]? = some 0
  ls : T.slots.length = 3
  lt : ∀ t, some t ∈ T.slots → t.length = l.last + 1 ∧ t[0]? = some 0
  hs : T.head < l.seg
  qs : ∀ s ∈ T.queue, s < l.seg
  nd : (T.head :: T.queue).Nodup
  pl : T.place ≤ l.sb
  lv : ∀ a, isLive T a → 2 * l.rb ≤ a ∧ a < l.db ∧ 1 ≤ l.pc a ∧ l.sg a ∉ T.queue ∧ (l.sg a = T.head → l.pc a < T.place)
  ct : (live l T).length ≤ l.lim
  fr : ∃ s, s < l.seg ∧ s ≠ T.head ∧ ∀ a, isLive T a → l.sg a ≠ s

/-- where the next batches may be written -/
def inFR (l : Lay) (T : TS) (a : Nat) : Prop := 2 * l.rb ≤ a ∧ a < l.db ∧ (l.sg a ∈ T.queue ∨ (l.sg a = T.head ∧ T.place ≤ l.pc a))
theorem live_fr {l : Lay} {T : TS} {a : Nat} (g : GoodT l T) (h : isLive T a) : ¬ inFR l T a := by
  intro ⟨_, _, q⟩
  obtain ⟨_, _, _, h4, h5⟩ := g.lv a h
  rcases q with q | ⟨q1, q2⟩
  · exact h4 q
  · have := h5 q1
    omega

/-! ### commits -/
structure Bat where
  ids : List Nat
  used : List Nat
  act : Nat
  pays : List PayD
structure BatOk (l : Lay) (b : Bat) : Prop where
  nd : b.ids.Nodup
  ir : ∀ k ∈ b.ids, 1 ≤ k ∧ k ≤ l.last
  ur : ∀ k ∈ b.used, 1 ≤ k ∧ k ≤ l.last
  ln : b.pays.length = b.ids.length
  le : b.ids.length ≤ l.pay
  ac : b.act ≤ 6
def enter (T : TS) : TS := { T with head := T.queue.headD 0, queue := T.queue.tail, place := 0 }
def Fit (l : Lay) (T : TS) (k : Nat) : Prop := T.place + 1 + k ≤ l.sb
instance {l : Lay} {T : TS} {k : Nat} : Decidable (Fit l T k) := inferInstanceAs (Decidable (_ ≤ _))
/-- where a commit of k blocks begins -/
def spot (l : Lay) (T : TS) (k : Nat) : TS := if Fit l T k then T else enter T
def takeC (l : Lay) (T : TS) (ids used : List Nat) (act : Nat) : TS :=
  let p := commitTab T.pres (l.adr T.head T.place + 1) ids used
  { T with pres := p, slots := slotsAfter T.slots p act, place := T.place + 1 + ids.length }
def takeM (l : Lay) (T : TS) (adrs : List Nat) : TS :=
  { T with pres := moveTab (l.adr T.head T.place + 1) adrs T.pres, slots := T.slots.map (Option.map (moveTab (l.adr T.head T.place + 1) adrs)), place := T.place + 1 + adrs.length }
def comT (l : Lay) (T : TS) (b : Bat) : TS := takeC l (spot l T b.ids.length) b.ids b.used b.act
/-- what it writes -/
def payW (start seq : Nat) : Nat → List PayD → List (Nat × Blk)
  | _, [] => []
  | r, p :: ps => (start + r, .pay seq r p) :: payW start seq (r + 1) ps
def comW (l : Lay) (T : TS) (seq : Nat) (b : Bat) : List (Nat × Blk) :=
  let U := spot l T b.ids.length
  (l.adr U.head U.place, .com seq b.ids b.used b.act) :: payW (l.adr U.head U.place) seq 1 b.pays
theorem mem_payW {start seq : Nat} {a : Nat} {b : Blk} (ps : List PayD) : ∀ r, (a, b) ∈ payW start seq r ps ↔ ∃ i p, ps[i]? = some p ∧ a = start + (r + i) ∧ b = .pay seq (r + i) p := by
  induction ps with
  | nil => intro r; simp [payW]
  | cons p ps ih =>
    intro r
    show (a, b) ∈ (start + r, Blk.pay seq r p) :: payW start seq (r + 1) ps ↔ _
    rw [List.mem_cons, ih]
    constructor
    · rintro (h | ⟨i, q, h1, h2, h3⟩)
      · cases h
        exact ⟨0, p, rfl, rfl, rfl⟩
      · exact ⟨i + 1, q, by simpa using h1, by omega, by rw [h3]; congr 1; omega⟩
    · rintro ⟨i, q, h1, h2, h3⟩
      cases i with
      | zero =>
        left
        have e : p = q := by simpa using h1
        rw [h2, h3, e]
        rfl
      | succ i => exact .inr ⟨i, q, by simpa using h1, by omega, by rw [h3]; congr 1; omega⟩
theorem payW_len (start seq : Nat) (ps : List PayD) : ∀ r, (payW start seq r ps).length = ps.length := by
  induction ps with
  | nil => intro r; rfl
  | cons p ps ih => intro r; simp [payW, ih]
/-- a commit finds a place -/
def Can (l : Lay) (T : TS) (k : Nat) : Prop := k ≤ l.pay ∧ (Fit l T k ∨ T.queue ≠ [])
section
variable {l : Lay} {T : TS}
theorem spot_head (o : l.Ok) (g : GoodT l T) {k : Nat} (c : Can l T k) : (spot l T k).head < l.seg ∧ (spot l T k).place + 1 + k ≤ l.sb ∧ (spot l T k).pres = T.pres ∧ (spot l T k).slots = T.slots := by
  obtain ⟨c1, c2⟩ := c
  unfold spot
  split
  · rename_i h
    exact ⟨g.hs, h, rfl, rfl⟩
  · rename_i h
    have hq := c2.resolve_left h
    cases e : T.queue with
    | nil => exact absurd e hq
    | cons s q =>
      refine ⟨?_, ?_, rfl, rfl⟩
      · show T.queue.headD 0 < _
        rw [e]
        exact g.qs s (by rw [e]; exact List.mem_cons_self)
      · show 0 + 1 + k ≤ _
        have := o.pay1
        omega
/-- what a commit writes lies where it may -/
theorem comW_fr (o : l.Ok) (g : GoodT l T) {b : Bat} {seq : Nat} (c : Can l T b.ids.length) (bo : BatOk l b) {w : Nat × Blk} (hw : w ∈ comW l T seq b) :
    inFR l T w.1 ∧ ¬ inFR l (comT l T b) w.1 ∧ w.2.seq = seq := by
  obtain ⟨h1, h2, _, _⟩ := spot_head o g c
  obtain ⟨i, hi, e1, e2⟩ : ∃ i, i ≤ b.ids.length ∧ w.1 = l.adr (spot l T b.ids.length).head ((spot l T b.ids.length).place + i) ∧ w.2.seq = seq := by
    rcases List.mem_cons.mp hw with e | hw
    · rw [e]
      exact ⟨0, Nat.zero_le _, rfl, rfl⟩
    · obtain ⟨a, q⟩ := w
      obtain ⟨i, p, h3, h4, h5⟩ := (mem_payW b.pays 1).mp hw
      have hl := (List.getElem?_eq_some_iff.mp h3).1
      rw [bo.ln] at hl
      refine ⟨1 + i, by omega, ?_, by rw [h5]; rfl⟩
      show a = _
      rw [h4]
      unfold Lay.adr
      omega
  have hp : (spot l T b.ids.length).place + i < l.sb := by omega
  have es := Lay.adr_sg o (s := (spot l T b.ids.length).head) hp
  have ep := Lay.adr_pc o (s := (spot l T b.ids.length).head) hp
  rw [← e1] at es ep
  refine ⟨⟨by rw [e1]; exact Lay.adr_ge, by rw [e1]; exact Lay.adr_lt o h1 hp, ?_⟩, ?_, e2⟩
  · rw [es, ep]
    unfold spot
    split
    · exact .inr ⟨rfl, Nat.le_add_right _ _⟩
    · rename_i h
      have hq := c.2.resolve_left h
      left
      cases e : T.queue with
      | nil => exact absurd e hq
      | cons s q =>
        show T.queue.headD 0 ∈ _
        rw [e]
        exact List.mem_cons_self
  · rintro ⟨_, _, q⟩
    have nh : (spot l T b.ids.length).head ∉ (spot l T b.ids.length).queue := by
      unfold spot
      split
      · exact (List.nodup_cons.mp g.nd).1
      · rename_i h
        have hq := c.2.resolve_left h
        cases e : T.queue with
        | nil => exact absurd e hq
        | cons s q =>
          show T.queue.headD 0 ∉ T.queue.tail
          have n := g.nd
          rw [e] at n ⊢
          exact (List.nodup_cons.mp (List.nodup_cons.mp n).2).1
    rcases q with q | ⟨q1, q2⟩
    · rw [es] at q
      exact nh q
    · have q3 : (spot l T b.ids.length).place + 1 + b.ids.length ≤ l.pc w.1 := q2
      rw [ep] at q3
      omega
/-- the free places shrink -/
theorem fr_step (o : l.Ok) (g : GoodT l T) {b : Bat} (c : Can l T b.ids.length) {a : Nat} (h : inFR l (comT l T b) a) : inFR l T a := by
  obtain ⟨h1, h2, h3⟩ := h
  refine ⟨h1, h2, ?_⟩
  have e1 : (comT l T b).queue = (spot l T b.ids.length).queue := rfl
  have e2 : (comT l T b).head = (spot l T b.ids.length).head := rfl
  have e3 : (comT l T b).place = (spot l T b.ids.length).place + 1 + b.ids.length := rfl
  rw [e1, e2, e3] at h3
  revert h3
  unfold spot
  split
  · intro h3
    rcases h3 with h3 | ⟨h3, h4⟩
    · exact .inl h3
    · exact .inr ⟨h3, by omega⟩
  · rename_i h
    have hq := c.2.resolve_left h
    intro h3
    left
    cases e : T.queue with
    | nil => exact absurd e hq
    | cons s q =>
      rcases h3 with h3 | ⟨h3, h4⟩
      · have h3 : l.sg a ∈ T.queue.tail := h3
        rw [e] at h3
        exact List.mem_cons_of_mem _ h3
      · have h3 : l.sg a = T.queue.headD 0 := h3
        rw [e] at h3
        rw [h3]
        exact List.mem_cons_self
end
end Sg

set_option maxHeartbeats 4000000
/-! segmentfs, plain mathematics 2: commits, moves and checkpoints keep what is asked of the tables. -/
namespace Sg
theorem nodup_len {α : Type} : ∀ (xs ys : List α), xs.Nodup → (∀ a ∈ xs, a ∈ ys) → xs.length ≤ ys.length
  | [], ys, _, _ => Nat.zero_le _
  | x :: xs, ys, nd, h => by
    rw [List.nodup_cons] at nd
    obtain ⟨u, v, e⟩ := List.append_of_mem (h x List.mem_cons_self)
    have q := nodup_len xs (u ++ v) nd.2 fun a ha => by
      have m := h a (List.mem_cons_of_mem _ ha)
      rw [e] at m
      rcases List.mem_append.mp m with m | m
      · exact List.mem_append_left _ m
      · rcases List.mem_cons.mp m with m | m
        · rw [m] at ha
          exact absurd ha nd.1
        · exact List.mem_append_right _ m
    rw [e]
    simp only [List.length_append, List.length_cons] at q ⊢
    omega
theorem mem_getD {t : List Nat} {a : Nat} (h : a ∈ t) : ∃ k, k < t.length ∧ t.getD k 0 = a := by
  obtain ⟨k, hk, e⟩ := List.mem_iff_getElem.mp h
  exact ⟨k, hk, by rw [List.getD_eq_getElem?_getD, List.getElem?_eq_getElem hk]; exact e⟩
theorem getD_mem {t : List Nat} {k : Nat} (h : t.getD k 0 ≠ 0) : t.getD k 0 ∈ t ∧ k < t.length := by
  rw [List.getD_eq_getElem?_getD] at h ⊢
  cases e : t[k]? with
  | none =>
    rw [e] at h
    exact absurd rfl h
  | some v =>
    obtain ⟨hk, q⟩ := List.getElem?_eq_some_iff.mp e
    exact ⟨by rw [← q]; exact List.getElem_mem hk, hk⟩
/-- there is room for a commit of k blocks -/
def HasRoom (l : Lay) (T : TS) (k : Nat) : Prop := Fit l T k ∨ 2 ≤ T.queue.length ∨ (T.queue.length = 1 ∧ ∀ a, isLive T a → l.sg a ≠ T.head)
theorem HasRoom.can {l : Lay} {T : TS} {k : Nat} (h : HasRoom l T k) (hk : k ≤ l.pay) : Can l T k := by
  refine ⟨hk, ?_⟩
  rcases h with h | h | h
  · exact .inl h
  · right
    intro e
    rw [e] at h
    exact absurd h (by simp)
  · right
    intro e
    rw [e] at h
    exact absurd h.1 (by simp)
/-- an address that a commit keeps -/
def keeps (T : TS) (b : Bat) (a : Nat) : Prop := a ≠ 0 ∧ ((∃ k, k ∈ b.used ∧ k ∉ b.ids ∧ T.pres.getD k 0 = a) ∨ ∃ (j : Nat) (t : List Nat), T.slots[j]? = some (some t) ∧ b.act ≠ 1 + j ∧ b.act ≠ 4 + j ∧ a ∈ t)
theorem mem_slots {slots : List (Option (List Nat))} {p t : List Nat} {act : Nat} (h3 : slots.length = 3) (h6 : act ≤ 6) (h : some t ∈ slotsAfter slots p act) : t = p ∨ ∃ j : Nat, slots[j]? = some (some t) ∧ act ≠ 1 + j ∧ act ≠ 4 + j := by
  obtain ⟨j, hj⟩ := List.mem_iff_getElem?.mp h
  unfold slotsAfter at hj
  split at hj
  · rename_i ha
    by_cases e : j = act - 1
    · left
      rw [e] at hj
      rw [List.getElem?_set] at hj
      split at hj
      · split at hj
        · injection hj with q
          injection q with q
          exact q.symm
        · cases hj
      · rename_i q; exact absurd rfl q
    · right
      rw [List.getElem?_set_ne (fun q => e q.symm)] at hj
      exact ⟨j, hj, by omega, by omega⟩
  · split at hj
    · rename_i ha
      by_cases e : j = act - 4
      · rw [e] at hj
        rw [List.getElem?_set] at hj
        split at hj
        · split at hj
          · injection hj with q
            cases q
          · cases hj
        · rename_i q; exact absurd rfl q
      · right
        rw [List.getElem?_set_ne (fun q => e q.symm)] at hj
        have hb := (List.getElem?_eq_some_iff.mp hj).1
        exact ⟨j, hj, by omega, by omega⟩
    · right
      have hb := (List.getElem?_eq_some_iff.mp hj).1
      exact ⟨j, hj, by omega, by omega⟩
theorem keeps_live {T : TS} {b : Bat} {a : Nat} (h : keeps T b a) : isLive T a := by
  obtain ⟨h0, h⟩ := h
  refine ⟨h0, ?_⟩
  rcases h with ⟨k, _, _, e⟩ | ⟨j, t, e, _, _, m⟩
  · left
    rw [← e] at h0 ⊢
    exact (getD_mem h0).1
  · exact .inr ⟨t, List.mem_of_getElem? e, m⟩
section
variable {l : Lay} {T : TS}
/-- what lives behind a commit -/
theorem com_live (o : l.Ok) (g : GoodT l T) {b : Bat} (c : Can l T b.ids.length) (bo : BatOk l b) {a : Nat} (h : isLive (comT l T b) a) :
    (∃ k, k ∈ b.used ∧ k ∈ b.ids ∧ a = l.adr (spot l T b.ids.length).head ((spot l T b.ids.length).place + 1 + b.ids.idxOf k)) ∨ keeps T b a := by
  obtain ⟨h0, h⟩ := h
  obtain ⟨_, _, e1, e2⟩ := spot_head o g c
  have pr : ∀ x, x ≠ 0 → x ∈ (comT l T b).pres → (∃ k, k ∈ b.used ∧ k ∈ b.ids ∧ x = l.adr (spot l T b.ids.length).head ((spot l T b.ids.length).place + 1 + b.ids.idxOf k)) ∨ keeps T b x := by
    intro x hx hm
    obtain ⟨k, hk, e⟩ := mem_getD hm
    have ep : (comT l T b).pres = commitTab T.pres (l.adr (spot l T b.ids.length).head (spot l T b.ids.length).place + 1) b.ids b.used := by
      show commitTab (spot l T b.ids.length).pres _ _ _ = _
      rw [e1]
    rw [ep] at hk e
    rw [commitTab_len] at hk
    rw [commitTab_get hk] at e
    split at e
    · rename_i hu
      by_cases hi : k ∈ b.ids
      · left
        refine ⟨k, hu.1, hi, ?_⟩
        have hlt := List.idxOf_lt_length_of_mem hi
        rw [placeIds_in b.ids _ _ (b.ids.idxOf k) (by rw [List.getElem?_eq_getElem hlt, List.getElem_idxOf]) bo.nd hu.2 hk] at e
        rw [← e]
        unfold Lay.adr
        omega
      · right
        rw [placeIds_out _ _ _ hi] at e
        exact ⟨hx, .inl ⟨k, hu.1, hi, e⟩⟩
    · exact absurd e.symm hx
  rcases h with h | ⟨t, ht, hm⟩
  · exact pr a h0 h
  · have ht : some t ∈ slotsAfter (spot l T b.ids.length).slots (comT l T b).pres b.act := ht
    rw [e2] at ht
    rcases mem_slots g.ls bo.ac ht with q | ⟨j, q1, q2, q3⟩
    · rw [q] at hm
      exact pr a h0 hm
    · exact .inr ⟨h0, .inr ⟨j, t, q1, q2, q3, hm⟩⟩
theorem com_pres (o : l.Ok) (g : GoodT l T) {b : Bat} (c : Can l T b.ids.length) : (comT l T b).pres = commitTab T.pres (l.adr (spot l T b.ids.length).head (spot l T b.ids.length).place + 1) b.ids b.used := by
  show commitTab (spot l T b.ids.length).pres _ _ _ = _
  rw [(spot_head o g c).2.2.1]
theorem com_slots (o : l.Ok) (g : GoodT l T) {b : Bat} (c : Can l T b.ids.length) : (comT l T b).slots = slotsAfter T.slots (comT l T b).pres b.act := by
  show slotsAfter (spot l T b.ids.length).slots (comT l T b).pres b.act = _
  rw [(spot_head o g c).2.2.2]
theorem com_good (o : l.Ok) (g : GoodT l T) {b : Bat} (bo : BatOk l b) (r : HasRoom l T b.ids.length) (F : List Nat) (hF : ∀ a, keeps T b a → a ∈ F) (hl : (b.used.filter (fun k => decide (k ∈ b.ids))).length + F.length ≤ l.lim) : GoodT l (comT l T b) := by
  have c := r.can bo.le
  obtain ⟨h1, h2, e1, e2⟩ := spot_head o g c
  have lp : (comT l T b).pres.length = l.last + 1 := by rw [com_pres o g c, commitTab_len, g.lp]
  have p0 : (comT l T b).pres[0]? = some 0 := by
    have q := commitTab_get (t := T.pres) (start := l.adr (spot l T b.ids.length).head (spot l T b.ids.length).place + 1) (ids := b.ids) (used := b.used) (k := 0) (by rw [g.lp]; omega)
    rw [if_neg (by omega), ← com_pres o g c] at q
    rw [List.getD_eq_getElem?_getD] at q
    cases e : (comT l T b).pres[0]? with
    | none =>
      have := List.getElem?_eq_none_iff.mp e
      omega
    | some v =>
      rw [e] at q
      have : v = 0 := q
      rw [this]
  have hd : (comT l T b).head = (spot l T b.ids.length).head := rfl
  have hq : (comT l T b).queue = (spot l T b.ids.length).queue := rfl
  have hp : (comT l T b).place = (spot l T b.ids.length).place + 1 + b.ids.length := rfl
  -- the queue of the spot
  have sq : (spot l T b.ids.length = T ∧ Fit l T b.ids.length) ∨ (¬ Fit l T b.ids.length ∧ ∃ s q, T.queue = s :: q ∧ (spot l T b.ids.length).head = s ∧ (spot l T b.ids.length).queue = q ∧ (spot l T b.ids.length).place = 0) := by
    unfold spot
    split
    · rename_i h; exact .inl ⟨rfl, h⟩
    · rename_i h
      right
      have hne := c.2.resolve_left h
      cases e : T.queue with
      | nil => exact absurd e hne
      | cons s q =>
        refine ⟨h, s, q, rfl, ?_, ?_, rfl⟩
        · show T.queue.headD 0 = s
          rw [e]; rfl
        · show T.queue.tail = q
          rw [e]; rfl
  have newIn : ∀ k, k ∈ b.ids → (spot l T b.ids.length).place + 1 + b.ids.idxOf k < l.sb := fun k hk => by
    have := List.idxOf_lt_length_of_mem hk
    omega
  refine ⟨lp, p0, ?_, ?_, ?_, ?_, ?_, ?_, ?_, ?_, ?_⟩
  · rw [com_slots o g c, slotsAfter_len, g.ls]
  · intro t ht
    rw [com_slots o g c] at ht
    rcases mem_slots g.ls bo.ac ht with q | ⟨j, q1, _, _⟩
    · rw [q]
      exact ⟨lp, p0⟩
    · exact g.lt t (List.mem_of_getElem? q1)
  · rw [hd]; exact h1
  · intro s hs
    rw [hq] at hs
    rcases sq with ⟨e, _⟩ | ⟨_, s', q, e3, _, e5, _⟩
    · rw [e] at hs; exact g.qs s hs
    · rw [e5] at hs
      exact g.qs s (by rw [e3]; exact List.mem_cons_of_mem _ hs)
  · rw [hd, hq]
    rcases sq with ⟨e, _⟩ | ⟨_, s', q, e3, e4, e5, _⟩
    · rw [e]; exact g.nd
    · rw [e4, e5]
      have n := g.nd
      rw [e3] at n
      exact (List.nodup_cons.mp n).2
  · rw [hp]; exact h2
  · intro a ha
    rcases com_live o g c bo ha with ⟨k, hu, hi, e⟩ | hk
    · have hlt := newIn k hi
      have es := Lay.adr_sg o (s := (spot l T b.ids.length).head) hlt
      have epc := Lay.adr_pc o (s := (spot l T b.ids.length).head) hlt
      rw [← e] at es epc
      refine ⟨by rw [e]; exact Lay.adr_ge, by rw [e]; exact Lay.adr_lt o h1 hlt, by rw [epc]; omega, ?_, fun _ => ?_⟩
      · rw [es, hq]
        rcases sq with ⟨e', _⟩ | ⟨_, s', q, e3, e4, e5, _⟩
        · rw [e']; exact (List.nodup_cons.mp g.nd).1
        · rw [e4, e5]
          have n := g.nd
          rw [e3] at n
          exact (List.nodup_cons.mp (List.nodup_cons.mp n).2).1
      · rw [epc, hp]
        have := List.idxOf_lt_length_of_mem hi
        omega
    · obtain ⟨l1, l2, l3, l4, l5⟩ := g.lv a (keeps_live hk)
      refine ⟨l1, l2, l3, ?_, ?_⟩
      · rw [hq]
        rcases sq with ⟨e', _⟩ | ⟨_, s', q, e3, e4, e5, _⟩
        · rw [e']; exact l4
        · rw [e5]
          rw [e3] at l4
          exact fun z => l4 (List.mem_cons_of_mem _ z)
      · intro hh
        rw [hd] at hh
        rw [hp]
        rcases sq with ⟨e', _⟩ | ⟨_, s', q, e3, e4, e5, _⟩
        · rw [e'] at hh ⊢
          have := l5 hh
          omega
        · rw [e4] at hh
          rw [e3, hh] at l4
          exact absurd List.mem_cons_self l4
  · refine Nat.le_trans ?_ hl
    have q := nodup_len (live l (comT l T b)) ((b.used.filter (fun k => decide (k ∈ b.ids))).map (fun k => l.adr (spot l T b.ids.length).head ((spot l T b.ids.length).place + 1 + b.ids.idxOf k)) ++ F) (live_nodup _ _) fun a ha => by
      rcases com_live o g c bo (mem_live.mp ha).2 with ⟨k, hu, hi, e⟩ | hk
      · refine List.mem_append_left _ (List.mem_map.mpr ⟨k, List.mem_filter.mpr ⟨hu, decide_eq_true hi⟩, e.symm⟩)
      · exact List.mem_append_right _ (hF a hk)
    rw [List.length_append, List.length_map] at q
    exact q
  · -- a free segment stays
    have new : ∀ s a, s ≠ (comT l T b).head → (∀ x, isLive T x → l.sg x ≠ s) → isLive (comT l T b) a → l.sg a ≠ s := fun s a hs hn ha => by
      rcases com_live o g c bo ha with ⟨k, hu, hi, e⟩ | hk
      · rw [e, Lay.adr_sg o (newIn k hi)]
        exact fun z => hs z.symm
      · exact hn a (keeps_live hk)
    rcases sq with ⟨e', _⟩ | ⟨nf, s', q, e3, e4, e5, _⟩
    · obtain ⟨s, s1, s2, s3⟩ := g.fr
      refine ⟨s, s1, ?_, fun a ha => new s a ?_ s3 ha⟩ <;> rw [hd, e'] <;> exact s2
    · rcases r with r | r | ⟨r1, r2⟩
      · exact absurd r nf
      · rw [e3] at r
        cases q with
        | nil => simp at r
        | cons s2 q =>
          have n := g.nd
          rw [e3] at n
          have n2 : s2 ≠ s' := fun z => (List.nodup_cons.mp (List.nodup_cons.mp n).2).1 (by rw [z]; exact List.mem_cons_self)
          refine ⟨s2, g.qs s2 (by rw [e3]; simp), by rw [hd, e4]; exact n2, fun a ha => new s2 a (by rw [hd, e4]; exact n2) (fun x hx z => ?_) ha⟩
          have := (g.lv x hx).2.2.2.1
          rw [e3, z] at this
          exact this (by simp)
      · have n := g.nd
        rw [e3] at n
        have n2 : T.head ≠ s' := fun z => (List.nodup_cons.mp n).1 (by rw [z]; exact List.mem_cons_self)
        exact ⟨T.head, g.hs, by rw [hd, e4]; exact n2, fun a ha => new _ a (by rw [hd, e4]; exact n2) r2 ha⟩
end

/-! ### what the tables hold -/
abbrev Map := Nat → Option PayD
def stOf (d : Dev) (T : TS) : List (Option Map) := some (cont d T.pres) :: T.slots.map (Option.map (cont d))
def mapAfter (f : Map) (b : Bat) : Map := fun k => if k ∈ b.used then (if k ∈ b.ids then b.pays[b.ids.idxOf k]? else f k) else none
def stAfter (st : List (Option Map)) (b : Bat) : List (Option Map) :=
  let f := mapAfter ((st.headD none).getD fun _ => none) b
  let s := some f :: st.tail
  if 1 ≤ b.act ∧ b.act ≤ 3 then s.set b.act (some f) else if 4 ≤ b.act then s.set (b.act - 3) none else s
/-- all that lives is payload -/
def Paid (d : Dev) (T : TS) : Prop := ∀ a, isLive T a → ∃ s r p, rd d a = some (.pay s r p)
theorem cont_congr {d d' : Dev} {t : List Nat} (h : ∀ a ∈ t, a ≠ 0 → rd d' a = rd d a) : cont d' t = cont d t := by
  funext k
  unfold cont
  split
  · rfl
  · rename_i e
    rw [h _ (getD_mem e).1 e]
section
variable {l : Lay} {T : TS}
theorem comW_nodup (o : l.Ok) (g : GoodT l T) {b : Bat} {seq : Nat} : ((comW l T seq b).map (fun w => w.1)).Nodup := by
  have key : ∀ (ps : List PayD) (st r : Nat), ((payW st seq r ps).map (fun w => w.1)).Nodup ∧ (∀ x ∈ (payW st seq r ps).map (fun w => w.1), st + r ≤ x) := by
    intro ps
    induction ps with
    | nil => intro st r; exact ⟨List.nodup_nil, fun x hx => nomatch hx⟩
    | cons p ps ih =>
      intro st r
      obtain ⟨h1, h2⟩ := ih st (r + 1)
      refine ⟨?_, fun x hx => ?_⟩
      · show ((st + r) :: (payW st seq (r + 1) ps).map (fun w => w.1)).Nodup
        rw [List.nodup_cons]
        exact ⟨fun z => by have := h2 _ z; omega, h1⟩
      · have hx : x ∈ (st + r) :: (payW st seq (r + 1) ps).map (fun w => w.1) := hx
        rcases List.mem_cons.mp hx with e | hx
        · omega
        · have := h2 x hx; omega
  obtain ⟨h1, h2⟩ := key b.pays (l.adr (spot l T b.ids.length).head (spot l T b.ids.length).place) 1
  show (l.adr (spot l T b.ids.length).head (spot l T b.ids.length).place :: (payW _ seq 1 b.pays).map (fun w => w.1)).Nodup
  rw [List.nodup_cons]
  exact ⟨fun z => by have := h2 _ z; omega, h1⟩
theorem com_old (o : l.Ok) (g : GoodT l T) {b : Bat} {seq : Nat} (c : Can l T b.ids.length) (bo : BatOk l b) {d : Dev} {a : Nat} (h : isLive T a) : rd (applyW d (comW l T seq b)) a = rd d a :=
  applyW_out _ _ fun w hw e => live_fr g h (by rw [← e]; exact (comW_fr o g c bo hw).1)
theorem com_new (o : l.Ok) (g : GoodT l T) {b : Bat} {seq : Nat} (c : Can l T b.ids.length) (bo : BatOk l b) {d : Dev} (hd : d.length = l.db) {k : Nat} (hk : k ∈ b.ids) :
    ∃ p, b.pays[b.ids.idxOf k]? = some p ∧ rd (applyW d (comW l T seq b)) (l.adr (spot l T b.ids.length).head ((spot l T b.ids.length).place + 1 + b.ids.idxOf k)) = some (.pay seq (b.ids.idxOf k + 1) p) := by
  obtain ⟨h1, h2, _, _⟩ := spot_head o g c
  have hlt := List.idxOf_lt_length_of_mem hk
  have hl2 : b.ids.idxOf k < b.pays.length := by rw [bo.ln]; exact hlt
  refine ⟨b.pays[b.ids.idxOf k], List.getElem?_eq_getElem hl2, ?_⟩
  refine applyW_in _ _ (List.mem_cons_of_mem _ ?_) (comW_nodup o g) (by rw [hd]; exact Lay.adr_lt o h1 (by omega))
  refine (mem_payW b.pays 1).mpr ⟨b.ids.idxOf k, _, List.getElem?_eq_getElem hl2, ?_, ?_⟩
  · unfold Lay.adr
    omega
  · rw [Nat.add_comm]
theorem com_paid (o : l.Ok) (g : GoodT l T) {b : Bat} {seq : Nat} (c : Can l T b.ids.length) (bo : BatOk l b) {d : Dev} (hd : d.length = l.db) (hp : Paid d T) : Paid (applyW d (comW l T seq b)) (comT l T b) := by
  intro a ha
  rcases com_live o g c bo ha with ⟨k, hu, hi, e⟩ | hk
  · obtain ⟨p, _, q⟩ := com_new o g (seq := seq) c bo hd hi
    rw [e]
    exact ⟨_, _, _, q⟩
  · rw [com_old o g c bo (keeps_live hk)]
    exact hp a (keeps_live hk)
theorem com_cont (o : l.Ok) (g : GoodT l T) {b : Bat} {seq : Nat} (c : Can l T b.ids.length) (bo : BatOk l b) {d : Dev} (hd : d.length = l.db) :
    cont (applyW d (comW l T seq b)) (comT l T b).pres = mapAfter (cont d T.pres) b := by
  funext k
  unfold mapAfter
  rw [com_pres o g c]
  by_cases hk : k < T.pres.length
  · unfold cont
    rw [commitTab_get hk]
    by_cases hu : k ∈ b.used
    · have h0 := (bo.ur k hu).1
      rw [if_pos (show k ∈ b.used ∧ 0 < k from ⟨hu, h0⟩), if_pos hu]
      by_cases hi : k ∈ b.ids
      · rw [if_pos hi]
        have hlt := List.idxOf_lt_length_of_mem hi
        rw [placeIds_in b.ids _ _ (b.ids.idxOf k) (by rw [List.getElem?_eq_getElem hlt, List.getElem_idxOf]) bo.nd h0 hk]
        obtain ⟨p, q1, q2⟩ := com_new o g (seq := seq) c bo hd hi
        have e : l.adr (spot l T b.ids.length).head (spot l T b.ids.length).place + 1 + b.ids.idxOf k = l.adr (spot l T b.ids.length).head ((spot l T b.ids.length).place + 1 + b.ids.idxOf k) := by
          unfold Lay.adr
          omega
        rw [e, q2, q1, if_neg]
        · rfl
        · have := @Lay.adr_ge l (spot l T b.ids.length).head ((spot l T b.ids.length).place + 1 + b.ids.idxOf k)
          have := (Lay.Ok.rb1 o).1
          omega
      · rw [if_neg hi, placeIds_out _ _ _ hi]
        split
        · rfl
        · rename_i e
          rw [com_old o g c bo ⟨e, .inl (getD_mem e).1⟩]
    · have hz : ¬ (k ∈ b.used ∧ 0 < k) := fun z => hu z.1
      rw [if_neg hz, if_neg hu]
      rfl
  · have hu : k ∉ b.used := fun z => by
      have := (bo.ur k z).2
      rw [g.lp] at hk
      omega
    rw [if_neg hu]
    unfold cont
    rw [List.getD_eq_getElem?_getD, List.getElem?_eq_none (by rw [commitTab_len]; omega)]
    rfl
theorem com_st (o : l.Ok) (g : GoodT l T) {b : Bat} {seq : Nat} (c : Can l T b.ids.length) (bo : BatOk l b) {d : Dev} (hd : d.length = l.db) :
    stOf (applyW d (comW l T seq b)) (comT l T b) = stAfter (stOf d T) b := by
  have e0 := com_cont o g (seq := seq) c bo hd
  have es : T.slots.map (Option.map (cont (applyW d (comW l T seq b)))) = T.slots.map (Option.map (cont d)) := by
    refine List.map_congr_left fun t ht => ?_
    cases t with
    | none => rfl
    | some t =>
      show some _ = some _
      rw [cont_congr fun a ha h0 => com_old o g c bo ⟨h0, .inr ⟨t, ht, ha⟩⟩]
  unfold stOf stAfter
  rw [com_slots o g c]
  simp only [List.headD_cons, Option.getD_some, List.tail_cons]
  rw [e0]
  unfold slotsAfter
  by_cases h1 : 1 ≤ b.act ∧ b.act ≤ 3
  · rw [if_pos h1, if_pos h1, List.map_set, es]
    obtain ⟨n, hn⟩ : ∃ n, b.act = n + 1 := ⟨b.act - 1, by omega⟩
    rw [hn]
    show _ :: List.set _ _ (some (cont _ (comT l T b).pres)) = _
    rw [e0]
    rfl
  · rw [if_neg h1, if_neg h1]
    have ac := bo.ac
    by_cases h2 : 4 ≤ b.act
    · rw [if_pos (by omega), if_pos h2, List.map_set, es]
      obtain ⟨n, hn⟩ : ∃ n, b.act = n + 4 := ⟨b.act - 4, by omega⟩
      rw [hn]
      rfl
    · rw [if_neg (by omega), if_neg h2, es]
end

/-! ### checkpoints -/
open Classical in
noncomputable def extQ (l : Lay) (T : TS) : List Nat := T.queue ++ (List.range l.seg).filter fun s => decide (s ≠ T.head ∧ s ∉ T.queue ∧ ∀ a, isLive T a → l.sg a ≠ s)
noncomputable def ckT (l : Lay) (T : TS) : TS := { T with queue := extQ l T }
/-- each segment that is neither the head nor free holds a live block -/
def Full (l : Lay) (T : TS) : Prop := ∀ s, s < l.seg → s ≠ T.head → s ∉ T.queue → ∃ a, isLive T a ∧ l.sg a = s
theorem mem_extQ {l : Lay} {T : TS} {s : Nat} : s ∈ extQ l T ↔ s ∈ T.queue ∨ (s < l.seg ∧ s ≠ T.head ∧ s ∉ T.queue ∧ ∀ a, isLive T a → l.sg a ≠ s) := by
  simp [extQ]
theorem ck_live {l : Lay} {T : TS} {a : Nat} : isLive (ckT l T) a ↔ isLive T a := Iff.rfl
theorem ck_good {l : Lay} {T : TS} (g : GoodT l T) : GoodT l (ckT l T) := by
  refine ⟨g.lp, g.p0, g.ls, g.lt, g.hs, fun s hs => ?_, ?_, g.pl, fun a ha => ?_, ?_, g.fr⟩
  · rcases mem_extQ.mp hs with h | h
    · exact g.qs s h
    · exact h.1
  · show (T.head :: extQ l T).Nodup
    rw [List.nodup_cons]
    have n := List.nodup_cons.mp g.nd
    refine ⟨fun z => ?_, ?_⟩
    · rcases mem_extQ.mp z with h | h
      · exact n.1 h
      · exact h.2.1 rfl
    · unfold extQ
      rw [List.nodup_append]
      refine ⟨n.2, List.nodup_range.filter _, fun a ha b hb e => ?_⟩
      simp at hb
      rw [e] at ha
      exact hb.2.2.1 ha
  · obtain ⟨l1, l2, l3, l4, l5⟩ := g.lv a ha
    refine ⟨l1, l2, l3, fun z => ?_, l5⟩
    rcases mem_extQ.mp z with h | h
    · exact l4 h
    · exact h.2.2.2 a ha rfl
  · exact g.ct
theorem ck_full {l : Lay} {T : TS} : Full l (ckT l T) := by
  intro s h1 h2 h3
  have h3 : s ∉ extQ l T := h3
  rw [mem_extQ] at h3
  apply Classical.byContradiction
  intro h
  exact h3 (.inr ⟨h1, h2, fun z => h3 (.inl z), fun a ha e => h ⟨a, ha, e⟩⟩)
theorem ck_queue {l : Lay} {T : TS} (g : GoodT l T) : (ckT l T).queue ≠ [] := by
  intro e
  obtain ⟨s, h1, h2, h3⟩ := g.fr
  have m : s ∈ extQ l T := mem_extQ.mpr (by
    by_cases h : s ∈ T.queue
    · exact .inl h
    · exact .inr ⟨h1, h2, h, h3⟩)
  have e : extQ l T = [] := e
  rw [e] at m
  cases m
theorem ck_st {l : Lay} {T : TS} {d : Dev} : stOf d (ckT l T) = stOf d T := rfl
end Sg

set_option maxHeartbeats 4000000
/-! segmentfs, plain mathematics 3: moves, and why filling always makes room. -/
namespace Sg
/-! ### moves -/
def movT (l : Lay) (T : TS) (adrs : List Nat) : TS := takeM l (enter T) adrs
def movW (l : Lay) (T : TS) (seq : Nat) (adrs : List Nat) (ps : List PayD) : List (Nat × Blk) :=
  (l.adr (enter T).head 0, .mov seq adrs) :: payW (l.adr (enter T).head 0) seq 1 ps
structure MovOk (l : Lay) (T : TS) (adrs : List Nat) : Prop where
  q : T.queue ≠ []
  lv : ∀ a ∈ adrs, isLive T a
  nd : adrs.Nodup
  le : adrs.length ≤ l.pay
section
variable {l : Lay} {T : TS} {adrs : List Nat}
theorem enter_q (h : T.queue ≠ []) : ∃ s q, T.queue = s :: q ∧ (enter T).head = s ∧ (enter T).queue = q := by
  cases e : T.queue with
  | nil => exact absurd e h
  | cons s q =>
    refine ⟨s, q, rfl, ?_, ?_⟩
    · show T.queue.headD 0 = s
      rw [e]; rfl
    · show T.queue.tail = q
      rw [e]; rfl
/-- the start of the moved blocks -/
def mst (l : Lay) (T : TS) : Nat := l.adr (enter T).head 0 + 1
theorem mvA_new {a : Nat} (h0 : a ≠ 0) (h : a ∈ adrs) : mvA (mst l T) adrs a = l.adr (enter T).head (1 + adrs.idxOf a) := by
  unfold mvA mst Lay.adr
  rw [if_pos ⟨h0, h⟩]
  omega
theorem mvA_old {st a : Nat} (h : a ∉ adrs) : mvA st adrs a = a := by
  unfold mvA
  rw [if_neg (fun z => h z.2)]
theorem mvA_zero {st : Nat} : mvA st adrs 0 = 0 := by
  unfold mvA
  rw [if_neg (fun z => z.1 rfl)]
theorem mov_live {a : Nat} (h : isLive (movT l T adrs) a) : ∃ b, isLive T b ∧ a = mvA (mst l T) adrs b := by
  obtain ⟨h0, h⟩ := h
  have mp : ∀ t, a ∈ moveTab (mst l T) adrs t → ∃ b ∈ t, b ≠ 0 ∧ a = mvA (mst l T) adrs b := fun t ht => by
    obtain ⟨b, hb, e⟩ := List.mem_map.mp ht
    refine ⟨b, hb, fun z => ?_, e.symm⟩
    rw [z, mvA_zero] at e
    exact h0 e.symm
  rcases h with h | ⟨t, ht, hm⟩
  · obtain ⟨b, hb, b0, e⟩ := mp T.pres h
    exact ⟨b, ⟨b0, .inl hb⟩, e⟩
  · have ht : some t ∈ T.slots.map (Option.map (moveTab (mst l T) adrs)) := ht
    obtain ⟨o, ho, e⟩ := List.mem_map.mp ht
    cases o with
    | none => cases e
    | some u =>
      have e : moveTab (mst l T) adrs u = t := Option.some.inj e
      rw [← e] at hm
      obtain ⟨b, hb, b0, e⟩ := mp u hm
      exact ⟨b, ⟨b0, .inr ⟨u, ho, hb⟩⟩, e⟩
theorem mov_live' {b : Nat} (o : l.Ok) (h : isLive T b) : isLive (movT l T adrs) (mvA (mst l T) adrs b) := by
  obtain ⟨h0, h⟩ := h
  refine ⟨?_, ?_⟩
  · unfold mvA
    split
    · unfold mst
      omega
    · exact h0
  · rcases h with h | ⟨t, ht, hm⟩
    · exact .inl (List.mem_map.mpr ⟨b, h, rfl⟩)
    · exact .inr ⟨moveTab (mst l T) adrs t, List.mem_map.mpr ⟨some t, ht, rfl⟩, List.mem_map.mpr ⟨b, hm, rfl⟩⟩
theorem idx_lt (o : l.Ok) (m : MovOk l T adrs) {a : Nat} (h : a ∈ adrs) : 1 + adrs.idxOf a < l.sb := by
  have h1 := List.idxOf_lt_length_of_mem h
  have h2 := m.le
  have h3 := o.pay1
  omega
theorem mov_good (o : l.Ok) (g : GoodT l T) (m : MovOk l T adrs) (hf : ∃ s, s < l.seg ∧ s ≠ (enter T).head ∧ ∀ a, isLive T a → l.sg a = s → a ∈ adrs) : GoodT l (movT l T adrs) := by
  obtain ⟨s0, q, e3, e4, e5⟩ := enter_q m.q
  have hs0 := g.qs s0 (by rw [e3]; exact List.mem_cons_self)
  have nn := g.nd
  rw [e3] at nn
  have n2 := (List.nodup_cons.mp nn).2
  have pl := o.pay1
  refine ⟨?_, ?_, ?_, ?_, ?_, ?_, ?_, ?_, ?_, ?_, ?_⟩
  · show (moveTab (mst l T) adrs T.pres).length = _
    unfold moveTab
    rw [List.length_map, g.lp]
  · show (moveTab (mst l T) adrs T.pres)[0]? = _
    unfold moveTab
    rw [List.getElem?_map, g.p0]
    show some (mvA _ _ 0) = _
    rw [mvA_zero]
  · show (T.slots.map _).length = 3
    rw [List.length_map, g.ls]
  · intro t ht
    have ht : some t ∈ T.slots.map (Option.map (moveTab (mst l T) adrs)) := ht
    obtain ⟨u, hu, e⟩ := List.mem_map.mp ht
    cases u with
    | none => cases e
    | some u =>
      have e : moveTab (mst l T) adrs u = t := Option.some.inj e
      obtain ⟨g1, g2⟩ := g.lt u hu
      rw [← e]
      unfold moveTab
      rw [List.length_map, List.getElem?_map, g2]
      refine ⟨g1, ?_⟩
      show some (mvA _ _ 0) = _
      rw [mvA_zero]
  · show (enter T).head < _
    rw [e4]; exact hs0
  · intro s hs
    have hs : s ∈ (enter T).queue := hs
    rw [e5] at hs
    exact g.qs s (by rw [e3]; exact List.mem_cons_of_mem _ hs)
  · show ((enter T).head :: (enter T).queue).Nodup
    rw [e4, e5]
    exact n2
  · show 0 + 1 + adrs.length ≤ _
    have := m.le
    omega
  · intro a ha
    obtain ⟨b, hb, e⟩ := mov_live ha
    by_cases hm : b ∈ adrs
    · rw [mvA_new hb.1 hm] at e
      have hlt := idx_lt o m hm
      have es := Lay.adr_sg o (s := (enter T).head) hlt
      have ep := Lay.adr_pc o (s := (enter T).head) hlt
      rw [← e] at es ep
      refine ⟨by rw [e]; exact Lay.adr_ge, by rw [e]; exact Lay.adr_lt o (by rw [e4]; exact hs0) hlt, by omega, ?_, fun _ => ?_⟩
      · rw [es]
        show _ ∉ (enter T).queue
        rw [e4, e5]
        exact (List.nodup_cons.mp n2).1
      · rw [ep]
        show _ < 0 + 1 + adrs.length
        have := List.idxOf_lt_length_of_mem hm
        omega
    · rw [mvA_old hm] at e
      rw [e]
      obtain ⟨l1, l2, l3, l4, l5⟩ := g.lv b hb
      refine ⟨l1, l2, l3, ?_, fun hh => ?_⟩
      · show _ ∉ (enter T).queue
        rw [e5]
        rw [e3] at l4
        exact fun z => l4 (List.mem_cons_of_mem _ z)
      · have hh : l.sg b = (enter T).head := hh
        rw [e4] at hh
        rw [e3, hh] at l4
        exact absurd List.mem_cons_self l4
  · refine Nat.le_trans ?_ g.ct
    have q := nodup_len (live l (movT l T adrs)) ((live l T).map (mvA (mst l T) adrs)) (live_nodup _ _) fun a ha => by
      obtain ⟨b, hb, e⟩ := mov_live (mem_live.mp ha).2
      exact List.mem_map.mpr ⟨b, mem_live.mpr ⟨(g.lv b hb).2.1, hb⟩, e.symm⟩
    rw [List.length_map] at q
    exact q
  · obtain ⟨s, h1, h2, h3⟩ := hf
    refine ⟨s, h1, h2, fun a ha z => ?_⟩
    obtain ⟨b, hb, e⟩ := mov_live ha
    by_cases hm : b ∈ adrs
    · rw [mvA_new hb.1 hm] at e
      rw [e, Lay.adr_sg o (idx_lt o m hm)] at z
      exact h2 z.symm
    · rw [mvA_old hm] at e
      rw [e] at z
      exact hm (h3 b hb z)
/-- what a move writes -/
theorem movW_fr (o : l.Ok) (g : GoodT l T) (m : MovOk l T adrs) {ps : List PayD} (hl : ps.length = adrs.length) {seq : Nat} {w : Nat × Blk} (hw : w ∈ movW l T seq adrs ps) : inFR l T w.1 ∧ w.2.seq = seq := by
  obtain ⟨s0, q, e3, e4, e5⟩ := enter_q m.q
  have hs0 := g.qs s0 (by rw [e3]; exact List.mem_cons_self)
  have pl := o.pay1
  have ml := m.le
  obtain ⟨i, hi, e1, e2⟩ : ∃ i, i ≤ adrs.length ∧ w.1 = l.adr (enter T).head i ∧ w.2.seq = seq := by
    rcases List.mem_cons.mp hw with e | hw
    · rw [e]
      exact ⟨0, Nat.zero_le _, rfl, rfl⟩
    · obtain ⟨a, q⟩ := w
      obtain ⟨i, p, h3, h4, h5⟩ := (mem_payW ps 1).mp hw
      have hl2 := (List.getElem?_eq_some_iff.mp h3).1
      refine ⟨1 + i, by omega, ?_, by rw [h5]; rfl⟩
      show a = _
      rw [h4]
      unfold Lay.adr
      omega
  have hp : i < l.sb := by omega
  refine ⟨⟨by rw [e1]; exact Lay.adr_ge, by rw [e1]; exact Lay.adr_lt o (by rw [e4]; exact hs0) hp, .inl ?_⟩, e2⟩
  rw [e1, Lay.adr_sg o hp, e4, e3]
  exact List.mem_cons_self
theorem payW_nodup (ps : List PayD) (seq : Nat) : ∀ (st r : Nat), ((payW st seq r ps).map (fun w => w.1)).Nodup ∧ (∀ x ∈ (payW st seq r ps).map (fun w => w.1), st + r ≤ x) := by
  induction ps with
  | nil => intro st r; exact ⟨List.nodup_nil, fun x hx => nomatch hx⟩
  | cons p ps ih =>
    intro st r
    obtain ⟨h1, h2⟩ := ih st (r + 1)
    refine ⟨?_, fun x hx => ?_⟩
    · show ((st + r) :: (payW st seq (r + 1) ps).map (fun w => w.1)).Nodup
      rw [List.nodup_cons]
      exact ⟨fun z => by have := h2 _ z; omega, h1⟩
    · have hx : x ∈ (st + r) :: (payW st seq (r + 1) ps).map (fun w => w.1) := hx
      rcases List.mem_cons.mp hx with e | hx
      · omega
      · have := h2 x hx; omega
theorem movW_nodup {ps : List PayD} {seq : Nat} : ((movW l T seq adrs ps).map (fun w => w.1)).Nodup := by
  obtain ⟨h1, h2⟩ := payW_nodup ps seq (l.adr (enter T).head 0) 1
  show (l.adr (enter T).head 0 :: (payW _ seq 1 ps).map (fun w => w.1)).Nodup
  rw [List.nodup_cons]
  exact ⟨fun z => by have := h2 _ z; omega, h1⟩
theorem mov_old (o : l.Ok) (g : GoodT l T) (m : MovOk l T adrs) {ps : List PayD} (hl : ps.length = adrs.length) {seq : Nat} {d : Dev} {a : Nat} (h : isLive T a) : rd (applyW d (movW l T seq adrs ps)) a = rd d a :=
  applyW_out _ _ fun w hw e => live_fr g h (by rw [← e]; exact (movW_fr o g m hl hw).1)
/-- the payloads that a move carries: those read at its addresses -/
def Carried (d : Dev) (adrs : List Nat) (ps : List PayD) : Prop := ps.length = adrs.length ∧ ∀ (i a : Nat), adrs[i]? = some a → payOf (rd d a) = ps[i]?
theorem mov_new (o : l.Ok) (g : GoodT l T) (m : MovOk l T adrs) {d : Dev} {ps : List PayD} (hc : Carried d adrs ps) {seq : Nat} (hd : d.length = l.db) {a : Nat} (h : a ∈ adrs) :
    ∃ p r, payOf (rd d a) = some p ∧ rd (applyW d (movW l T seq adrs ps)) (mvA (mst l T) adrs a) = some (.pay seq r p) := by
  obtain ⟨s0, q, e3, e4, e5⟩ := enter_q m.q
  have hs0 := g.qs s0 (by rw [e3]; exact List.mem_cons_self)
  have hi := List.idxOf_lt_length_of_mem h
  have hi2 : adrs.idxOf a < ps.length := by rw [hc.1]; exact hi
  refine ⟨ps[adrs.idxOf a], 1 + adrs.idxOf a, ?_, ?_⟩
  · rw [hc.2 (adrs.idxOf a) a (by rw [List.getElem?_eq_getElem hi, List.getElem_idxOf])]
    exact List.getElem?_eq_getElem hi2
  · rw [mvA_new (m.lv a h).1 h]
    refine applyW_in _ _ (List.mem_cons_of_mem _ ?_) movW_nodup (by rw [hd]; exact Lay.adr_lt o (by rw [e4]; exact hs0) (idx_lt o m h))
    refine (mem_payW ps 1).mpr ⟨adrs.idxOf a, _, List.getElem?_eq_getElem hi2, ?_, rfl⟩
    unfold Lay.adr
    omega
theorem mov_rd (o : l.Ok) (g : GoodT l T) (m : MovOk l T adrs) {d : Dev} {ps : List PayD} (hc : Carried d adrs ps) {seq : Nat} (hd : d.length = l.db) {a : Nat} (h : isLive T a) :
    payOf (rd (applyW d (movW l T seq adrs ps)) (mvA (mst l T) adrs a)) = payOf (rd d a) := by
  by_cases hm : a ∈ adrs
  · obtain ⟨p, r, e1, e2⟩ := mov_new o g m hc (seq := seq) hd hm
    rw [e1, e2]
    rfl
  · rw [mvA_old hm, mov_old o g m hc.1 h]
theorem mov_paid (o : l.Ok) (g : GoodT l T) (m : MovOk l T adrs) {d : Dev} {ps : List PayD} (hc : Carried d adrs ps) {seq : Nat} (hd : d.length = l.db) (hp : Paid d T) : Paid (applyW d (movW l T seq adrs ps)) (movT l T adrs) := by
  intro a ha
  obtain ⟨b, hb, e⟩ := mov_live ha
  by_cases hm : b ∈ adrs
  · obtain ⟨p, r, e1, e2⟩ := mov_new o g m hc (seq := seq) hd hm
    rw [e]
    exact ⟨_, _, _, e2⟩
  · rw [e, mvA_old hm, mov_old o g m hc.1 hb]
    exact hp b hb
theorem mov_cont (o : l.Ok) (g : GoodT l T) (m : MovOk l T adrs) {d : Dev} {ps : List PayD} (hc : Carried d adrs ps) {seq : Nat} (hd : d.length = l.db) {t : List Nat} (ht : ∀ a ∈ t, a ≠ 0 → isLive T a) :
    cont (applyW d (movW l T seq adrs ps)) (moveTab (mst l T) adrs t) = cont d t := by
  funext k
  unfold cont
  have e : (moveTab (mst l T) adrs t).getD k 0 = mvA (mst l T) adrs (t.getD k 0) := by
    unfold moveTab
    rw [List.getD_eq_getElem?_getD, List.getD_eq_getElem?_getD, List.getElem?_map]
    cases t[k]? with
    | none => exact mvA_zero.symm
    | some v => rfl
  rw [e]
  by_cases h0 : t.getD k 0 = 0
  · rw [h0, mvA_zero]
    rfl
  · have hl := ht _ (getD_mem h0).1 h0
    rw [if_neg h0, if_neg (mov_live' o hl (adrs := adrs) (l := l)).1, mov_rd o g m hc hd hl]
theorem mov_st (o : l.Ok) (g : GoodT l T) (m : MovOk l T adrs) {d : Dev} {ps : List PayD} (hc : Carried d adrs ps) {seq : Nat} (hd : d.length = l.db) :
    stOf (applyW d (movW l T seq adrs ps)) (movT l T adrs) = stOf d T := by
  show some (cont _ (moveTab (mst l T) adrs T.pres)) :: (T.slots.map (Option.map (moveTab (mst l T) adrs))).map (Option.map (cont _)) = _
  rw [mov_cont o g m hc hd (fun a ha h0 => ⟨h0, .inl ha⟩), List.map_map]
  unfold stOf
  congr 1
  refine List.map_congr_left fun t ht => ?_
  cases t with
  | none => rfl
  | some t =>
    show some _ = some _
    rw [mov_cont o g m hc hd (fun a ha h0 => ⟨h0, .inr ⟨t, ht, ha⟩⟩)]
end

/-! ### cleaning -/
noncomputable def liveIn (l : Lay) (T : TS) (s : Nat) : List Nat := (live l T).filter fun a => decide (l.sg a = s)
noncomputable def cnt (l : Lay) (T : TS) (s : Nat) : Nat := (liveIn l T s).length
noncomputable def cands (l : Lay) (T : TS) : List Nat := (List.range l.seg).filter fun s => decide (s ∉ T.queue ∧ 1 ≤ cnt l T s ∧ cnt l T s ≤ l.pay - 1)
theorem mem_cands {l : Lay} {T : TS} {s : Nat} : s ∈ cands l T ↔ s < l.seg ∧ s ∉ T.queue ∧ 1 ≤ cnt l T s ∧ cnt l T s ≤ l.pay - 1 := by simp [cands]
theorem mem_liveIn {l : Lay} {T : TS} {s a : Nat} : a ∈ liveIn l T s ↔ a < l.db ∧ isLive T a ∧ l.sg a = s := by simp [liveIn, mem_live, and_assoc]
/-- the victims of an order: all candidates, each once, the head last -/
structure Victims (l : Lay) (T : TS) (V : List Nat) : Prop where
  nd : V.Nodup
  mem : ∀ s, s ∈ V ↔ s ∈ cands l T
  hd : ∀ i, V[i]? = some T.head → i + 1 = V.length
noncomputable def cargoOf (l : Lay) (T : TS) (V : List Nat) : List Nat := (V.flatMap (liveIn l T)).take l.pay
section
variable {l : Lay} {T : TS}
theorem liveIn_nodup (s : Nat) : (liveIn l T s).Nodup := (live_nodup l T).filter _
theorem cnt_le (o : l.Ok) (g : GoodT l T) (s : Nat) : cnt l T s ≤ l.pay := by
  have q := nodup_len (liveIn l T s) ((List.range l.pay).map fun i => l.adr s (1 + i)) (liveIn_nodup s) fun a ha => by
    obtain ⟨h1, h2, h3⟩ := mem_liveIn.mp ha
    obtain ⟨l1, l2, l3, _, _⟩ := g.lv a h2
    have hp := Lay.pc_lt o (a := a)
    have := o.pay1
    refine List.mem_map.mpr ⟨l.pc a - 1, List.mem_range.mpr (by omega), ?_⟩
    rw [← h3, show 1 + (l.pc a - 1) = l.pc a by omega]
    exact Lay.adr_of o l1
  rw [List.length_map, List.length_range] at q
  exact q
theorem sum_cnt {α : Type} (f : α → Nat) (n : Nat) : ∀ xs : List α, (∀ a ∈ xs, f a < n) → xs.length = ((List.range n).map fun s => (xs.filter fun a => decide (f a = s)).length).sum
  | [], _ => by
    have : ∀ m, ((List.range m).map fun s => (([] : List α).filter fun a => decide (f a = s)).length).sum = 0 := fun m => by
      induction m with
      | zero => rfl
      | succ m ih => rw [List.range_succ, List.map_append, List.sum_append, ih]; rfl
    rw [this]; rfl
  | x :: xs, h => by
    have ih := sum_cnt f n xs fun a ha => h a (List.mem_cons_of_mem _ ha)
    have hx := h x List.mem_cons_self
    have step : ∀ m, ((List.range m).map fun s => ((x :: xs).filter fun a => decide (f a = s)).length).sum = ((List.range m).map fun s => (xs.filter fun a => decide (f a = s)).length).sum + if f x < m then 1 else 0 := fun m => by
      induction m with
      | zero => rfl
      | succ m im =>
        rw [List.range_succ, List.map_append, List.sum_append, im, List.map_append, List.sum_append]
        simp only [List.map_cons, List.map_nil, List.sum_cons, List.sum_nil, Nat.add_zero]
        by_cases e : f x = m
        · rw [List.filter_cons, if_pos (decide_eq_true e), List.length_cons, if_neg (by omega), if_pos (by omega)]
          omega
        · rw [List.filter_cons_of_neg (by simpa using e)]
          by_cases e2 : f x < m
          · rw [if_pos e2, if_pos (by omega)]
            omega
          · rw [if_neg e2, if_neg (by omega)]
            omega
    rw [step, if_pos hx, ← ih]
    rfl
theorem total (o : l.Ok) (g : GoodT l T) : (live l T).length = ((List.range l.seg).map (cnt l T)).sum :=
  sum_cnt l.sg l.seg (live l T) fun a ha => by
    have h := (mem_live.mp ha).2
    obtain ⟨l1, l2, _⟩ := g.lv a h
    exact Lay.sg_lt o l1 l2
theorem low_sum (p : Nat) (hp : 1 ≤ p) (c : Nat → Nat) (qs cs : Nat → Bool) : ∀ R : List Nat, (∀ s ∈ R, qs s = true ∨ (cs s = true ∧ 1 ≤ c s) ∨ p ≤ c s) → p * R.length ≤ (R.map c).sum + p * (R.filter qs).length + (p - 1) * (R.filter cs).length
  | [], _ => by simp
  | s :: R, h => by
    have ih := low_sum p hp c qs cs R fun x hx => h x (List.mem_cons_of_mem _ hx)
    have hs := h s List.mem_cons_self
    have e1 : p * (R.length + 1) = p * R.length + p := Nat.mul_succ _ _
    have e2 : p * ((R.filter qs).length + 1) = p * (R.filter qs).length + p := Nat.mul_succ _ _
    have e3 : (p - 1) * ((R.filter cs).length + 1) = (p - 1) * (R.filter cs).length + (p - 1) := Nat.mul_succ _ _
    rw [List.length_cons, List.map_cons, List.sum_cons, e1]
    cases hq : qs s with
    | true =>
      rw [List.filter_cons_of_pos hq, List.length_cons, e2]
      cases hc : cs s with
      | true =>
        rw [List.filter_cons_of_pos hc, List.length_cons, e3]
        omega
      | false =>
        rw [List.filter_cons_of_neg (by rw [hc]; decide)]
        omega
    | false =>
      rw [List.filter_cons_of_neg (by rw [hq]; decide)]
      rw [hq] at hs
      cases hc : cs s with
      | true =>
        rw [List.filter_cons_of_pos hc, List.length_cons, e3]
        rcases hs with hs | hs | hs
        · cases hs
        · omega
        · omega
      | false =>
        rw [List.filter_cons_of_neg (by rw [hc]; decide)]
        rw [hc] at hs
        rcases hs with hs | hs | hs
        · cases hs
        · cases hs.1
        · omega
/-- where there is no room behind a checkpoint, one segment is free, the head holds a live block, and there are two candidates -/
theorem noroom (o : l.Ok) (g : GoodT l T) (f : Full l T) (hq : T.queue ≠ []) {k : Nat} (h : ¬ HasRoom l T k) : T.queue.length = 1 ∧ (∃ a, isLive T a ∧ l.sg a = T.head) ∧ 2 ≤ (cands l T).length := by
  have q1 : T.queue.length = 1 := by
    cases e : T.queue with
    | nil => exact absurd e hq
    | cons s q =>
      cases q with
      | nil => rfl
      | cons s2 q => exact absurd (.inr (.inl (by rw [e]; simp))) h
  have hl : ∃ a, isLive T a ∧ l.sg a = T.head := by
    apply Classical.byContradiction
    intro z
    exact h (.inr (.inr ⟨q1, fun a ha e => z ⟨a, ha, e⟩⟩))
  refine ⟨q1, hl, ?_⟩
  apply Classical.byContradiction
  intro hc
  have pp := o.pay1
  have hsg : ∀ s, s < l.seg → s ∉ T.queue → 1 ≤ cnt l T s := fun s h1 h2 => by
    have : ∃ a, isLive T a ∧ l.sg a = s := by
      by_cases e : s = T.head
      · rw [e]; exact hl
      · exact f s h1 e h2
    obtain ⟨a, ha, e⟩ := this
    have m : a ∈ liveIn l T s := mem_liveIn.mpr ⟨(g.lv a ha).2.1, ha, e⟩
    exact List.length_pos_of_mem m
  have low := low_sum l.pay (by omega) (cnt l T) (fun s => decide (s ∈ T.queue)) (fun s => decide (s ∈ cands l T)) (List.range l.seg) fun s hs => by
    have hs := List.mem_range.mp hs
    by_cases h1 : s ∈ T.queue
    · exact .inl (decide_eq_true h1)
    · have h2 := hsg s hs h1
      by_cases h3 : cnt l T s ≤ l.pay - 1
      · exact .inr (.inl ⟨decide_eq_true (mem_cands.mpr ⟨hs, h1, h2, h3⟩), h2⟩)
      · exact .inr (.inr (by omega))
  have e1 : ((List.range l.seg).filter fun s => decide (s ∈ T.queue)).length ≤ 1 := by
    rw [← q1]
    exact nodup_len _ _ (List.nodup_range.filter _) fun a ha => by simpa using (List.mem_filter.mp ha).2
  have e2 : ((List.range l.seg).filter fun s => decide (s ∈ cands l T)).length ≤ 1 := by
    have : ((List.range l.seg).filter fun s => decide (s ∈ cands l T)).length ≤ (cands l T).length := nodup_len _ _ (List.nodup_range.filter _) fun a ha => by simpa using (List.mem_filter.mp ha).2
    omega
  have ct := g.ct
  rw [total o g] at ct
  rw [List.length_range] at low
  have m1 := Nat.mul_le_mul_left l.pay e1
  have m2 := Nat.mul_le_mul_left (l.pay - 1) e2
  have e3 : l.pay * l.seg = l.lim + 2 * l.pay := by
    unfold Lay.lim
    have := o.s1
    rw [← Nat.add_mul, show l.seg - 2 + 2 = l.seg by omega, Nat.mul_comm]
  omega
theorem take_mem {α : Type} {x : α} {n : Nat} {xs : List α} (h : x ∈ xs.take n) : x ∈ xs := List.mem_of_mem_take h
/-- a filling, where there is no room -/
theorem fill_ok (o : l.Ok) (g : GoodT l T) (f : Full l T) (hq : T.queue ≠ []) {k : Nat} (h : ¬ HasRoom l T k) {V : List Nat} (hV : Victims l T V) :
    cargoOf l T V ≠ [] ∧ MovOk l T (cargoOf l T V) ∧ GoodT l (movT l T (cargoOf l T V)) ∧ (cands l (ckT l (movT l T (cargoOf l T V)))).length < (cands l T).length := by
  obtain ⟨q1, hl, c2⟩ := noroom o g f hq h
  have pp := o.pay1
  have hVl : (cands l T).length ≤ V.length := nodup_len _ _ (by unfold cands; exact List.nodup_range.filter _) fun a ha => (hV.mem a).mpr ha
  have hVl2 : V.length ≤ (cands l T).length := nodup_len _ _ hV.nd fun a ha => (hV.mem a).mp ha
  -- the first victim
  obtain ⟨v, V', eV⟩ : ∃ v V', V = v :: V' := by
    cases e : V with
    | nil =>
      rw [e, List.length_nil] at hVl
      omega
    | cons v V' => exact ⟨v, V', rfl⟩
  have hv : v ∈ cands l T := (hV.mem v).mp (by rw [eV]; exact List.mem_cons_self)
  have hvh : v ≠ T.head := fun z => by
    have := hV.hd 0 (by rw [eV, ← z]; rfl)
    omega
  obtain ⟨v1, v2, v3, v4⟩ := mem_cands.mp hv
  have eC : cargoOf l T V = liveIn l T v ++ (V'.flatMap (liveIn l T)).take (l.pay - (liveIn l T v).length) := by
    unfold cargoOf
    rw [eV, List.flatMap_cons, List.take_append]
    congr 1
    exact List.take_of_length_le (by unfold cnt at v4; omega)
  have subV : ∀ a, a ∈ cargoOf l T V → isLive T a ∧ l.sg a ∈ cands l T := fun a ha => by
    unfold cargoOf at ha
    obtain ⟨s, hs, hm⟩ := List.mem_flatMap.mp (take_mem ha)
    obtain ⟨h1, h2, h3⟩ := mem_liveIn.mp hm
    exact ⟨h2, by rw [h3]; exact (hV.mem s).mp hs⟩
  have fnd : (V.flatMap (liveIn l T)).Nodup := by
    have : ∀ W : List Nat, W.Nodup → (W.flatMap (liveIn l T)).Nodup := fun W => by
      induction W with
      | nil => intro _; exact List.nodup_nil
      | cons w W ih =>
        intro nd
        rw [List.nodup_cons] at nd
        rw [List.flatMap_cons, List.nodup_append]
        refine ⟨liveIn_nodup w, ih nd.2, fun a ha b hb e => ?_⟩
        obtain ⟨s, hs, hm⟩ := List.mem_flatMap.mp hb
        rw [e] at ha
        have e1 := (mem_liveIn.mp ha).2.2
        have e2 := (mem_liveIn.mp hm).2.2
        rw [e1] at e2
        rw [e2] at nd
        exact nd.1 hs
    exact this V hV.nd
  have mok : MovOk l T (cargoOf l T V) := ⟨hq, fun a ha => (subV a ha).1, by unfold cargoOf; exact fnd.sublist (List.take_sublist _ _), by unfold cargoOf; rw [List.length_take]; omega⟩
  obtain ⟨s0, q, e3, e4, e5⟩ := enter_q hq
  have eq0 : q = [] := by
    rw [e3] at q1
    cases q with
    | nil => rfl
    | cons _ _ => simp at q1
  have hs0v : v ≠ (enter T).head := fun z => by
    rw [e4] at z
    rw [e3, z] at v2
    exact v2 List.mem_cons_self
  have g1 : GoodT l (movT l T (cargoOf l T V)) := mov_good o g mok ⟨v, v1, hs0v, fun a ha e => by
    rw [eC]
    exact List.mem_append_left _ (mem_liveIn.mpr ⟨(g.lv a ha).2.1, ha, e⟩)⟩
  have hne : cargoOf l T V ≠ [] := fun z => by
    rw [eC] at z
    have : liveIn l T v = [] := (List.append_eq_nil_iff.mp z).1
    unfold cnt at v3
    rw [this] at v3
    simp at v3
  refine ⟨hne, mok, g1, ?_⟩
  -- counts behind the move
  have g2 := ck_good g1
  have oldIn : ∀ s a, s ≠ s0 → a ∈ liveIn l (ckT l (movT l T (cargoOf l T V))) s → a ∈ liveIn l T s ∧ a ∉ cargoOf l T V := fun s a hs ha => by
    obtain ⟨h1, h2, h3⟩ := mem_liveIn.mp ha
    obtain ⟨b, hb, e⟩ := mov_live (ck_live.mp h2)
    by_cases hm : b ∈ cargoOf l T V
    · rw [mvA_new hb.1 hm] at e
      rw [e, Lay.adr_sg o (idx_lt o mok hm), e4] at h3
      exact absurd h3.symm hs
    · rw [mvA_old hm] at e
      rw [e] at h3 ⊢
      exact ⟨mem_liveIn.mpr ⟨(g.lv b hb).2.1, hb, h3⟩, hm⟩
  have oldIn' : ∀ s a, a ∈ liveIn l T s → a ∉ cargoOf l T V → a ∈ liveIn l (ckT l (movT l T (cargoOf l T V))) s := fun s a ha hm => by
    obtain ⟨h1, h2, h3⟩ := mem_liveIn.mp ha
    refine mem_liveIn.mpr ⟨h1, ck_live.mpr ?_, h3⟩
    have := mov_live' (l := l) (T := T) (adrs := cargoOf l T V) o h2
    rw [mvA_old hm] at this
    exact this
  have newCnt : (cargoOf l T V).length ≤ cnt l (ckT l (movT l T (cargoOf l T V))) s0 := by
    unfold cnt
    have q := nodup_len ((cargoOf l T V).map fun a => mvA (mst l T) (cargoOf l T V) a) (liveIn l (ckT l (movT l T (cargoOf l T V))) s0) ?_ fun x hx => ?_
    · rw [List.length_map] at q
      exact q
    · have inj : ∀ a ∈ cargoOf l T V, ∀ b ∈ cargoOf l T V, mvA (mst l T) (cargoOf l T V) a = mvA (mst l T) (cargoOf l T V) b → a = b := fun a ha b hb e => by
        rw [mvA_new (subV a ha).1.1 ha, mvA_new (subV b hb).1.1 hb] at e
        have e : (cargoOf l T V).idxOf a = (cargoOf l T V).idxOf b := by
          unfold Lay.adr at e
          omega
        have ha' := List.idxOf_lt_length_of_mem ha
        have hb' := List.idxOf_lt_length_of_mem hb
        have x1 : (cargoOf l T V)[(cargoOf l T V).idxOf a]? = some a := by rw [List.getElem?_eq_getElem ha', List.getElem_idxOf]
        have x2 : (cargoOf l T V)[(cargoOf l T V).idxOf b]? = some b := by rw [List.getElem?_eq_getElem hb', List.getElem_idxOf]
        rw [e, x2] at x1
        exact (Option.some.inj x1).symm
      have : ∀ xs : List Nat, xs.Nodup → (∀ a ∈ xs, a ∈ cargoOf l T V) → (xs.map fun a => mvA (mst l T) (cargoOf l T V) a).Nodup := fun xs => by
        induction xs with
        | nil => intro _ _; exact List.nodup_nil
        | cons x xs ih =>
          intro nd hs
          rw [List.nodup_cons] at nd
          rw [List.map_cons, List.nodup_cons]
          refine ⟨fun z => ?_, ih nd.2 fun a ha => hs a (List.mem_cons_of_mem _ ha)⟩
          obtain ⟨y, hy, e⟩ := List.mem_map.mp z
          have := inj y (hs y (List.mem_cons_of_mem _ hy)) x (hs x List.mem_cons_self) e
          rw [this] at hy
          exact nd.1 hy
      exact this _ mok.nd fun a ha => ha
    · obtain ⟨a, ha, e⟩ := List.mem_map.mp hx
      have e : mvA (mst l T) (cargoOf l T V) a = x := e
      have hl2 := mov_live' (l := l) (T := T) (adrs := cargoOf l T V) o (subV a ha).1
      rw [e] at hl2
      refine mem_liveIn.mpr ⟨(g1.lv x hl2).2.1, ck_live.mpr hl2, ?_⟩
      rw [← e, mvA_new (subV a ha).1.1 ha, Lay.adr_sg o (idx_lt o mok ha), e4]
  have hq' : ∀ s, s ∉ (ckT l (movT l T (cargoOf l T V))).queue → s ≠ s0 → s < l.seg → s ∉ T.queue := fun s _ hs _ z => by
    rw [e3, eq0] at z
    exact hs (by simpa using z)
  -- who is a candidate behind it was one before
  have was : ∀ s, s ≠ s0 → s ∈ cands l (ckT l (movT l T (cargoOf l T V))) → s ∈ cands l T ∧ ∃ a, a ∈ liveIn l T s ∧ a ∉ cargoOf l T V := fun s hs hc => by
    obtain ⟨c1, c2, c3, c4⟩ := mem_cands.mp hc
    have hq2 := hq' s c2 hs c1
    unfold cnt at c3
    obtain ⟨a, ha⟩ := List.exists_mem_of_length_pos c3
    obtain ⟨a1, a2⟩ := oldIn s a hs ha
    refine ⟨mem_cands.mpr ⟨c1, hq2, List.length_pos_of_mem a1, ?_⟩, a, a1, a2⟩
    apply Classical.byContradiction
    intro z
    have hnc : s ∉ cands l T := fun y => z (mem_cands.mp y).2.2.2
    have ge := nodup_len (liveIn l T s) (liveIn l (ckT l (movT l T (cargoOf l T V))) s) (liveIn_nodup s) fun b hb => oldIn' s b hb fun y => hnc (by
      have := (subV b y).2
      rw [(mem_liveIn.mp hb).2.2] at this
      exact this)
    unfold cnt at z c4
    omega
  have nvc : v ∉ cands l (ckT l (movT l T (cargoOf l T V))) := fun z => by
    obtain ⟨_, a, a1, a2⟩ := was v (by rw [← e4]; exact hs0v) z
    rw [eC] at a2
    exact a2 (List.mem_append_left _ a1)
  by_cases hfull : (cargoOf l T V).length = l.pay
  · have nq : s0 ∉ cands l (ckT l (movT l T (cargoOf l T V))) := fun z => by
      have := (mem_cands.mp z).2.2.2
      omega
    have sub : ∀ s ∈ cands l (ckT l (movT l T (cargoOf l T V))), s ∈ V' := fun s hs => by
      have h1 := (was s (fun z => nq (by rw [← z]; exact hs)) hs).1
      have h2 := (hV.mem s).mpr h1
      rw [eV] at h2
      rcases List.mem_cons.mp h2 with e | h2
      · rw [e] at hs
        exact absurd hs nvc
      · exact h2
    have := nodup_len _ V' (show (cands l (ckT l (movT l T (cargoOf l T V)))).Nodup by unfold cands; exact List.nodup_range.filter _) sub
    rw [eV, List.length_cons] at hVl2
    omega
  · have all : ∀ s ∈ cands l T, ∀ a ∈ liveIn l T s, a ∈ cargoOf l T V := fun s hs a ha => by
      have : cargoOf l T V = V.flatMap (liveIn l T) := by
        unfold cargoOf at hfull ⊢
        rw [List.length_take] at hfull
        exact List.take_of_length_le (by omega)
      rw [this]
      exact List.mem_flatMap.mpr ⟨s, (hV.mem s).mpr hs, ha⟩
    have sub : ∀ s ∈ cands l (ckT l (movT l T (cargoOf l T V))), s ∈ [s0] := fun s hs => by
      apply Classical.byContradiction
      intro z
      obtain ⟨h1, a, a1, a2⟩ := was s (fun y => z (by rw [y]; simp)) hs
      exact a2 (all s h1 a a1)
    have := nodup_len _ [s0] (show (cands l (ckT l (movT l T (cargoOf l T V)))).Nodup by unfold cands; exact List.nodup_range.filter _) sub
    have h1 : [s0].length = 1 := rfl
    omega
theorem cands_le (g : GoodT l T) (hq : T.queue ≠ []) : (cands l T).length + 1 ≤ l.seg := by
  obtain ⟨s0, q, e3, _, _⟩ := enter_q hq
  have hs := g.qs s0 (by rw [e3]; exact List.mem_cons_self)
  have := nodup_len (s0 :: cands l T) (List.range l.seg) (by
    rw [List.nodup_cons]
    refine ⟨fun z => (mem_cands.mp z).2.1 (by rw [e3]; exact List.mem_cons_self), ?_⟩
    unfold cands
    exact List.nodup_range.filter _) fun a ha => by
      rcases List.mem_cons.mp ha with e | ha
      · rw [e]; exact List.mem_range.mpr hs
      · exact List.mem_range.mpr (mem_cands.mp ha).1
  rw [List.length_cons, List.length_range] at this
  exact this
end
end Sg

set_option maxHeartbeats 4000000
/-! segmentfs, plain mathematics 4: chains of commits behind a checkpoint, power failures, recovery. -/
namespace Sg
/-! ### checkpoints' numbers -/
def slotNums (l : Lay) : Option (List Nat) → List Nat
  | none => List.replicate (l.last + 1) 0
  | some t => 1 :: t.tail
def ckHead (l : Lay) (T : TS) : List Nat := (T.slots.foldl (fun n s => n ++ slotNums l s) T.pres.tail) ++ [T.head, T.place, T.queue.length] ++ T.queue
def ckNums (l : Lay) (T : TS) : List Nat := ckHead l T ++ List.replicate (l.rb * l.fan - (ckHead l T).length) 0
def ckB (l : Lay) (T : TS) (seq r : Nat) : Blk := .part seq r (((ckNums l T).drop (r * l.fan)).take l.fan)
def ckW (l : Lay) (T : TS) (reg seq : Nat) : List (Nat × Blk) := (List.range l.rb).map fun r => (reg * l.rb + r, ckB l T seq r)

/-! ### following batches -/
def paysAt (d : Dev) (start seq n : Nat) : Bool := (List.range n).all fun i => match rd d (start + (i + 1)) with
  | some (.pay q r _) => decide (q = seq) && decide (r = i + 1)
  | _ => false
def cntOf : Blk → Nat
  | .com _ ids _ _ => ids.length
  | .mov _ adrs => adrs.length
  | _ => 0
def isSum : Blk → Bool
  | .com _ _ _ _ => true
  | .mov _ _ => true
  | _ => false
def batchAt (l : Lay) (d : Dev) (s p seq : Nat) : Option Blk :=
  if l.seg ≤ s ∨ l.sb ≤ p then none else
  match rd d (l.adr s p) with
  | some x => if isSum x = true ∧ x.seq = seq ∧ p + cntOf x < l.sb ∧ paysAt d (l.adr s p) seq (cntOf x) = true then some x else none
  | none => none
def takeB (l : Lay) (T : TS) : Blk → TS
  | .com _ ids used act => takeC l T ids used act
  | .mov _ adrs => takeM l T adrs
  | _ => T
def isCom : Option Blk → Bool
  | some (.com _ _ _ _) => true
  | _ => false
def takeNext (l : Lay) (d : Dev) (T : TS) (seq : Nat) : Option TS :=
  match batchAt l d T.head T.place seq with
  | some (.com q ids used act) => some (takeC l T ids used act)
  | _ => match T.queue with
    | [] => none
    | s :: _ => match batchAt l d s 0 seq with
      | some x => some (takeB l (enter T) x)
      | none => none
theorem batchAt_some {l : Lay} {d : Dev} {s p seq : Nat} {x : Blk} (h : batchAt l d s p seq = some x) : s < l.seg ∧ p < l.sb ∧ rd d (l.adr s p) = some x ∧ isSum x = true ∧ x.seq = seq ∧ p + cntOf x < l.sb ∧ paysAt d (l.adr s p) seq (cntOf x) = true := by
  unfold batchAt at h
  split at h
  · cases h
  · rename_i hn
    cases e : rd d (l.adr s p) with
    | none =>
      rw [e] at h
      cases h
    | some y =>
      rw [e] at h
      have h : (if isSum y = true ∧ y.seq = seq ∧ p + cntOf y < l.sb ∧ paysAt d (l.adr s p) seq (cntOf y) = true then some y else none) = some x := h
      split at h
      · rename_i hc
        have e2 : y = x := Option.some.inj h
        rw [e2] at hc
        exact ⟨by omega, by omega, by rw [e2], hc⟩
      · cases h
theorem batchAt_of {l : Lay} {d : Dev} {s p seq : Nat} {x : Blk} (h1 : s < l.seg) (h2 : p < l.sb) (h3 : rd d (l.adr s p) = some x) (h4 : isSum x = true) (h5 : x.seq = seq) (h6 : p + cntOf x < l.sb) (h7 : paysAt d (l.adr s p) seq (cntOf x) = true) : batchAt l d s p seq = some x := by
  unfold batchAt
  rw [if_neg (by omega), h3]
  show (if _ then some x else none) = _
  rw [if_pos ⟨h4, h5, h6, h7⟩]

/-! ### chains -/
def ChainOk (l : Lay) : TS → List Bat → Prop
  | _, [] => True
  | T, b :: bs => BatOk l b ∧ Can l T b.ids.length ∧ GoodT l (comT l T b) ∧ ChainOk l (comT l T b) bs
def runT (l : Lay) (T : TS) (bs : List Bat) : TS := bs.foldl (comT l) T
def chW (l : Lay) : TS → Nat → List Bat → List (Nat × Blk)
  | _, _, [] => []
  | T, s, b :: bs => comW l T (s + 1) b ++ chW l (comT l T b) (s + 1) bs
section
variable {l : Lay}
theorem runT_app (T : TS) (us vs : List Bat) : runT l T (us ++ vs) = runT l (runT l T us) vs := List.foldl_append ..
theorem chW_app : ∀ (us vs : List Bat) (T : TS) (s : Nat), chW l T s (us ++ vs) = chW l T s us ++ chW l (runT l T us) (s + us.length) vs
  | [], vs, T, s => rfl
  | u :: us, vs, T, s => by
    show comW l T (s + 1) u ++ chW l (comT l T u) (s + 1) (us ++ vs) = (comW l T (s + 1) u ++ chW l (comT l T u) (s + 1) us) ++ _
    rw [chW_app us vs, List.append_assoc, show s + 1 + us.length = s + (u :: us).length by rw [List.length_cons]; omega]
    rfl
theorem chain_app : ∀ (us vs : List Bat) (T : TS), ChainOk l T (us ++ vs) ↔ ChainOk l T us ∧ ChainOk l (runT l T us) vs
  | [], vs, T => ⟨fun h => ⟨trivial, h⟩, fun h => h.2⟩
  | u :: us, vs, T => by
    show (BatOk l u ∧ Can l T u.ids.length ∧ GoodT l (comT l T u) ∧ ChainOk l (comT l T u) (us ++ vs)) ↔ (BatOk l u ∧ Can l T u.ids.length ∧ GoodT l (comT l T u) ∧ ChainOk l (comT l T u) us) ∧ _
    rw [chain_app us vs]
    exact ⟨fun ⟨a, b, c, d, e⟩ => ⟨⟨a, b, c, d⟩, e⟩, fun ⟨⟨a, b, c, d⟩, e⟩ => ⟨a, b, c, d, e⟩⟩
theorem chain_good : ∀ (bs : List Bat) (T : TS), GoodT l T → ChainOk l T bs → GoodT l (runT l T bs)
  | [], T, g, _ => g
  | b :: bs, T, g, h => chain_good bs _ h.2.2.1 h.2.2.2
theorem chW_fr (o : l.Ok) : ∀ (bs : List Bat) (T : TS) (s : Nat), GoodT l T → ChainOk l T bs → ∀ w ∈ chW l T s bs, inFR l T w.1 ∧ ¬ inFR l (runT l T bs) w.1 ∧ s < w.2.seq ∧ w.2.seq ≤ s + bs.length
  | [], T, s, _, _, w, hw => nomatch hw
  | b :: bs, T, s, g, h, w, hw => by
    obtain ⟨h1, h2, h3, h4⟩ := h
    rcases List.mem_append.mp hw with hw | hw
    · obtain ⟨q1, q2, q3⟩ := comW_fr o g h2 h1 hw
      refine ⟨q1, fun z => q2 ?_, by omega, by rw [List.length_cons]; omega⟩
      have : ∀ (bs : List Bat) (T : TS), GoodT l T → ChainOk l T bs → ∀ a, inFR l (runT l T bs) a → inFR l T a := fun bs => by
        induction bs with
        | nil => intro T _ _ a h; exact h
        | cons b bs ih => intro T g h a hf; exact fr_step o g h.2.1 (ih _ h.2.2.1 h.2.2.2 a hf)
      exact this bs _ h3 h4 _ z
    · obtain ⟨q1, q2, q3, q4⟩ := chW_fr o bs _ (s + 1) h3 h4 w hw
      exact ⟨fr_step o g h2 q1, q2, by omega, by rw [List.length_cons]; omega⟩
theorem chW_nodup (o : l.Ok) : ∀ (bs : List Bat) (T : TS) (s : Nat), GoodT l T → ChainOk l T bs → ((chW l T s bs).map fun w => w.1).Nodup
  | [], T, s, _, _ => List.nodup_nil
  | b :: bs, T, s, g, h => by
    obtain ⟨h1, h2, h3, h4⟩ := h
    show ((comW l T (s + 1) b ++ chW l (comT l T b) (s + 1) bs).map fun w => w.1).Nodup
    rw [List.map_append, List.nodup_append]
    refine ⟨comW_nodup o g, chW_nodup o bs _ _ h3 h4, fun x hx y hy e => ?_⟩
    obtain ⟨u, hu, e1⟩ := List.mem_map.mp hx
    obtain ⟨v, hv, e2⟩ := List.mem_map.mp hy
    have q1 := (comW_fr o g h2 h1 hu).2.1
    have q2 := (chW_fr o bs _ _ h3 h4 v hv).1
    rw [e2, ← e, ← e1] at q2
    exact q1 q2
theorem ch_old (o : l.Ok) {bs : List Bat} {T : TS} {s : Nat} (g : GoodT l T) (h : ChainOk l T bs) {d : Dev} {a : Nat} (ha : isLive T a) : rd (applyW d (chW l T s bs)) a = rd d a :=
  applyW_out _ _ fun w hw e => live_fr g ha (by rw [← e]; exact (chW_fr o bs T s g h w hw).1)
theorem ch_paid (o : l.Ok) : ∀ (bs : List Bat) (T : TS) (s : Nat) (d : Dev), GoodT l T → ChainOk l T bs → d.length = l.db → Paid d T → Paid (applyW d (chW l T s bs)) (runT l T bs)
  | [], T, s, d, _, _, _, hp => hp
  | b :: bs, T, s, d, g, h, hd, hp => by
    show Paid (applyW d (comW l T (s + 1) b ++ chW l (comT l T b) (s + 1) bs)) (runT l (comT l T b) bs)
    rw [applyW_app]
    exact ch_paid o bs _ _ _ h.2.2.1 h.2.2.2 (by rw [applyW_len]; exact hd) (com_paid o g h.2.1 h.1 hd hp)
theorem st_congr {d d' : Dev} {T : TS} (h : ∀ a, isLive T a → rd d' a = rd d a) : stOf d' T = stOf d T := by
  unfold stOf
  rw [cont_congr fun a ha h0 => h a ⟨h0, .inl ha⟩]
  congr 1
  refine List.map_congr_left fun t ht => ?_
  cases t with
  | none => rfl
  | some t =>
    show some _ = some _
    rw [cont_congr fun a ha h0 => h a ⟨h0, .inr ⟨t, ht, ha⟩⟩]
theorem paid_congr {d d' : Dev} {T : TS} (h : ∀ a, isLive T a → rd d' a = rd d a) (p : Paid d T) : Paid d' T := fun a ha => by
  rw [h a ha]
  exact p a ha

/-! ### recovery follows exactly the whole batches -/
def Whole (d : Dev) (ws : List (Nat × Blk)) : Prop := ∀ w ∈ ws, rd d w.1 = some w.2
/-- what D holds beyond s are blocks of these batches -/
def Beyond (l : Lay) (D : Dev) (T : TS) (s : Nat) (bs : List Bat) : Prop := ∀ a x, rd D a = some x → s < x.seq → (a, x) ∈ chW l T s bs
theorem comW_at {T : TS} {b : Bat} {seq : Nat} {a : Nat} {x : Blk} (h : (a, x) ∈ comW l T seq b) : ∃ i, a = l.adr (spot l T b.ids.length).head ((spot l T b.ids.length).place + i) ∧ i ≤ b.pays.length ∧
    ((i = 0 ∧ x = .com seq b.ids b.used b.act) ∨ ∃ p, 1 ≤ i ∧ x = .pay seq i p ∧ b.pays[i - 1]? = some p) := by
  rcases List.mem_cons.mp h with e | h
  · cases e
    exact ⟨0, rfl, Nat.zero_le _, .inl ⟨rfl, rfl⟩⟩
  · obtain ⟨i, p, h1, h2, h3⟩ := (mem_payW b.pays 1).mp h
    have := (List.getElem?_eq_some_iff.mp h1).1
    refine ⟨1 + i, ?_, by omega, .inr ⟨p, by omega, h3, by rw [show 1 + i - 1 = i by omega]; exact h1⟩⟩
    rw [h2]
    unfold Lay.adr
    omega
theorem whole_pays {D : Dev} {T : TS} {b : Bat} {seq : Nat} (bo : BatOk l b) (h : Whole D (comW l T seq b)) : paysAt D (l.adr (spot l T b.ids.length).head (spot l T b.ids.length).place) seq b.ids.length = true := by
  unfold paysAt
  refine List.all_eq_true.mpr fun i hi => ?_
  have hi := List.mem_range.mp hi
  have hl : i < b.pays.length := by rw [bo.ln]; exact hi
  have q := h (l.adr (spot l T b.ids.length).head (spot l T b.ids.length).place + (1 + i), .pay seq (1 + i) b.pays[i]) (List.mem_cons_of_mem _ ((mem_payW b.pays 1).mpr ⟨i, _, List.getElem?_eq_getElem hl, rfl, rfl⟩))
  have q : rd D (l.adr (spot l T b.ids.length).head (spot l T b.ids.length).place + (1 + i)) = some (.pay seq (1 + i) b.pays[i]) := q
  rw [Nat.add_comm 1 i] at q
  rw [q]
  simp
theorem follow_step (o : l.Ok) {D : Dev} {T : TS} {s : Nat} {b : Bat} {bs : List Bat} (g : GoodT l T) (h : ChainOk l T (b :: bs)) (hb : Beyond l D T s (b :: bs)) :
    (takeNext l D T (s + 1) = some (comT l T b) ∧ Whole D (comW l T (s + 1) b)) ∨ (takeNext l D T (s + 1) = none ∧ ¬ Whole D (comW l T (s + 1) b)) := by
  obtain ⟨bo, c, g2, h2⟩ := h
  obtain ⟨sh1, sh2, sh3, sh4⟩ := spot_head o g c
  -- a block of the sequence number s + 1 is one of the batch
  have only : ∀ a x, rd D a = some x → x.seq = s + 1 → (a, x) ∈ comW l T (s + 1) b := fun a x e1 e2 => by
    rcases List.mem_append.mp (hb a x e1 (by omega)) with q | q
    · exact q
    · have := (chW_fr o bs _ (s + 1) g2 h2 _ q).2.2.1
      have : s + 1 < x.seq := this
      omega
  have atSpot : ∀ a x, rd D a = some x → x.seq = s + 1 → l.sg a = (spot l T b.ids.length).head := fun a x e1 e2 => by
    obtain ⟨i, q1, q2, _⟩ := comW_at (only a x e1 e2)
    rw [bo.ln] at q2
    rw [q1]
    exact Lay.adr_sg o (by omega)
  -- the batch at the spot
  have here : (Whole D (comW l T (s + 1) b) → batchAt l D (spot l T b.ids.length).head (spot l T b.ids.length).place (s + 1) = some (.com (s + 1) b.ids b.used b.act)) ∧ (¬ Whole D (comW l T (s + 1) b) → batchAt l D (spot l T b.ids.length).head (spot l T b.ids.length).place (s + 1) = none) := by
    constructor
    · intro w
      refine batchAt_of sh1 (by omega) (w _ List.mem_cons_self) rfl rfl ?_ (whole_pays bo w)
      show _ + b.ids.length < _
      omega
    · intro w
      cases e : batchAt l D (spot l T b.ids.length).head (spot l T b.ids.length).place (s + 1) with
      | none => rfl
      | some x =>
        exfalso
        obtain ⟨_, _, e3, e4, e5, e6, e7⟩ := batchAt_some e
        obtain ⟨i, q1, q2, q3⟩ := comW_at (only _ _ e3 e5)
        have i0 : i = 0 := by
          unfold Lay.adr at q1
          omega
        have ex : x = .com (s + 1) b.ids b.used b.act := by
          rcases q3 with q3 | ⟨p, q3, _⟩
          · exact q3.2
          · omega
        rw [ex] at e3 e7
        apply w
        intro w' hw
        rcases List.mem_cons.mp hw with e | hw
        · rw [e]
          exact e3
        · obtain ⟨a, y⟩ := w'
          obtain ⟨j, p, h1, h2', h3⟩ := (mem_payW b.pays 1).mp hw
          have hj := (List.getElem?_eq_some_iff.mp h1).1
          rw [bo.ln] at hj
          have e7 : paysAt D (l.adr (spot l T b.ids.length).head (spot l T b.ids.length).place) (s + 1) b.ids.length = true := e7
          unfold paysAt at e7
          have q := List.all_eq_true.mp e7 j (List.mem_range.mpr hj)
          show rd D a = some y
          rw [h2', h3, Nat.add_comm 1 j]
          cases r : rd D (l.adr (spot l T b.ids.length).head (spot l T b.ids.length).place + (j + 1)) with
          | none =>
            rw [r] at q
            cases q
          | some z =>
            rw [r] at q
            cases z with
            | pay q1' r1 p1 =>
              have q : (decide (q1' = s + 1) && decide (r1 = j + 1)) = true := q
              simp at q
              obtain ⟨i2, u1, u2, u3⟩ := comW_at (only _ _ r q.1)
              rcases u3 with u3 | ⟨p2, u3, u4, u5⟩
              · cases u3.2
              · injection u4 with v1 v2 v3
                have : i2 = j + 1 := by
                  unfold Lay.adr at u1
                  omega
                rw [this] at u5
                rw [show j + 1 - 1 = j by omega, h1] at u5
                rw [v1, v2, v3, this, ← Option.some.inj u5]
            | _ => cases q
  -- elsewhere nothing stands
  have other : ∀ s' p', s' ≠ (spot l T b.ids.length).head → p' < l.sb → batchAt l D s' p' (s + 1) = none := fun s' p' hs hp => by
    cases e : batchAt l D s' p' (s + 1) with
    | none => rfl
    | some x =>
      obtain ⟨_, _, e3, _, e5, _⟩ := batchAt_some e
      have := atSpot _ _ e3 e5
      rw [Lay.adr_sg o hp] at this
      exact absurd this hs
  by_cases w : Whole D (comW l T (s + 1) b)
  · left
    refine ⟨?_, w⟩
    have hh := here.1 w
    unfold takeNext
    by_cases hf : Fit l T b.ids.length
    · have es : spot l T b.ids.length = T := by unfold spot; rw [if_pos hf]
      rw [es] at hh
      rw [hh]
      show some (takeC l T b.ids b.used b.act) = some (takeC l (spot l T b.ids.length) b.ids b.used b.act)
      rw [es]
    · have es : spot l T b.ids.length = enter T := by unfold spot; rw [if_neg hf]
      obtain ⟨s0, q, e3, e4, e5⟩ := enter_q (c.2.resolve_left hf)
      have nn := g.nd
      rw [e3] at nn
      have hne : T.head ≠ (spot l T b.ids.length).head := fun z => by
        rw [es, e4] at z
        exact (List.nodup_cons.mp nn).1 (by rw [z]; exact List.mem_cons_self)
      have h1 : batchAt l D T.head T.place (s + 1) = none := by
        by_cases hp : T.place < l.sb
        · exact other _ _ hne hp
        · unfold batchAt
          rw [if_pos (by omega)]
      rw [h1, e3]
      show (match batchAt l D s0 0 (s + 1) with
        | some x => some (takeB l (enter T) x)
        | none => none) = _
      rw [es, e4] at hh
      have hh : batchAt l D s0 0 (s + 1) = some (.com (s + 1) b.ids b.used b.act) := hh
      rw [hh]
      show some (takeC l (enter T) b.ids b.used b.act) = some (takeC l (spot l T b.ids.length) b.ids b.used b.act)
      rw [es]
  · right
    refine ⟨?_, w⟩
    have hh := here.2 w
    unfold takeNext
    by_cases hf : Fit l T b.ids.length
    · have es : spot l T b.ids.length = T := by unfold spot; rw [if_pos hf]
      rw [es] at hh
      rw [hh]
      cases e3 : T.queue with
      | nil => rfl
      | cons s0 q =>
        show (match batchAt l D s0 0 (s + 1) with
          | some x => some (takeB l (enter T) x)
          | none => none) = _
        have nn := g.nd
        rw [e3] at nn
        rw [other s0 0 (fun z => by rw [es] at z; exact (List.nodup_cons.mp nn).1 (by rw [← z]; exact List.mem_cons_self)) (by have := o.b1; omega)]
    · have es : spot l T b.ids.length = enter T := by unfold spot; rw [if_neg hf]
      obtain ⟨s0, q, e3, e4, e5⟩ := enter_q (c.2.resolve_left hf)
      have nn := g.nd
      rw [e3] at nn
      have hne : T.head ≠ (spot l T b.ids.length).head := fun z => by
        rw [es, e4] at z
        exact (List.nodup_cons.mp nn).1 (by rw [z]; exact List.mem_cons_self)
      have h1 : batchAt l D T.head T.place (s + 1) = none := by
        by_cases hp : T.place < l.sb
        · exact other _ _ hne hp
        · unfold batchAt
          rw [if_pos (by omega)]
      rw [h1, e3]
      show (match batchAt l D s0 0 (s + 1) with
        | some x => some (takeB l (enter T) x)
        | none => none) = _
      rw [es, e4] at hh
      have hh : batchAt l D s0 0 (s + 1) = none := hh
      rw [hh]
theorem follow_end {D : Dev} {T : TS} {s : Nat} (hb : Beyond l D T s []) : takeNext l D T (s + 1) = none := by
  have no : ∀ s' p', batchAt l D s' p' (s + 1) = none := fun s' p' => by
    cases e : batchAt l D s' p' (s + 1) with
    | none => rfl
    | some x =>
      obtain ⟨_, _, e3, _, e5, _⟩ := batchAt_some e
      have : _ ∈ chW l T s [] := hb _ _ e3 (by omega)
      cases this
  unfold takeNext
  rw [no]
  cases T.queue with
  | nil => rfl
  | cons s0 q =>
    show (match batchAt l D s0 0 (s + 1) with
      | some x => some (takeB l (enter T) x)
      | none => none) = _
    rw [no]
/-- recovery's loop: from T, behind the sequence number s, n batches are taken and it ends at T' -/
def Follows (l : Lay) (D : Dev) : Nat → TS → Nat → TS → Prop
  | 0, T, s, T' => takeNext l D T (s + 1) = none ∧ T' = T
  | n + 1, T, s, T' => ∃ U, takeNext l D T (s + 1) = some U ∧ Follows l D n U (s + 1) T'
theorem follow_all (o : l.Ok) {D : Dev} : ∀ (bs : List Bat) (T : TS) (s : Nat), GoodT l T → ChainOk l T bs → Beyond l D T s bs →
    ∃ j, j ≤ bs.length ∧ Follows l D j T s (runT l T (bs.take j)) ∧ Whole D (chW l T s (bs.take j)) ∧ (∀ us v vs, bs = us ++ v :: vs → us.length = j → ¬ Whole D (comW l (runT l T us) (s + us.length + 1) v))
  | [], T, s, g, h, hb => ⟨0, Nat.le_refl _, ⟨follow_end hb, rfl⟩, fun w hw => (nomatch hw), fun us v vs e _ => by simp at e⟩
  | b :: bs, T, s, g, h, hb => by
    rcases follow_step o g h hb with ⟨e, w⟩ | ⟨e, w⟩
    · obtain ⟨bo, c, g2, h2⟩ := h
      have hb2 : Beyond l D (comT l T b) (s + 1) bs := fun a x e1 e2 => by
        rcases List.mem_append.mp (hb a x e1 (by omega)) with q | q
        · have : x.seq = s + 1 := (comW_fr o g c bo q).2.2
          omega
        · exact q
      obtain ⟨j, j1, j2, j3, j4⟩ := follow_all o bs _ (s + 1) g2 h2 hb2
      refine ⟨j + 1, by rw [List.length_cons]; omega, ⟨_, e, j2⟩, fun x hx => ?_, fun us v vs e2 e3 => ?_⟩
      · rcases List.mem_append.mp (show x ∈ comW l T (s + 1) b ++ chW l (comT l T b) (s + 1) (bs.take j) from hx) with q | q
        · exact w x q
        · exact j3 x q
      · cases us with
        | nil => simp at e3
        | cons u us =>
          injection e2 with e4 e5
          rw [← e4]
          have q := j4 us v vs e5 (by rw [List.length_cons] at e3; omega)
          rw [show s + (b :: us).length + 1 = s + 1 + us.length + 1 by rw [List.length_cons]; omega]
          exact q
    · refine ⟨0, Nat.zero_le _, ⟨e, rfl⟩, fun x hx => (nomatch hx), fun us v vs e2 e3 => ?_⟩
      cases us with
      | nil =>
        injection e2 with e4 e5
        rw [← e4]
        exact w
      | cons u us => simp at e3
end

/-! ### the log -/
structure Lg where
  sure : Dev
  seen : Dev
  wait : List (Nat × Blk)
  T : TS
  lseq : Nat
  reg : Nat
/-- a region: blank, or a whole checkpoint -/
def RegOk (l : Lay) (d : Dev) (reg : Nat) (c : Nat) : Prop := rd d (reg * l.rb) = none ∨ ∃ T c', GoodT l T ∧ c' < c ∧ ∀ r, r < l.rb → rd d (reg * l.rb + r) = some (ckB l T c' r)
structure HistOk (l : Lay) (L : Lg) (sts : List (List (Option Map))) (c : Nat) (T0 : TS) (D0 : Dev) (B1 B2 : List Bat) : Prop where
  o : l.Ok
  dl : D0.length = l.db
  g0 : GoodT l T0
  pd : Paid D0 T0
  sq : ∀ a x, rd D0 a = some x → x.seq ≤ c
  rg : L.reg ≤ 1
  ck : ∀ r, r < l.rb → rd D0 (L.reg * l.rb + r) = some (ckB l T0 c r)
  ot : RegOk l D0 (1 - L.reg) c
  ch : ChainOk l T0 (B1 ++ B2)
  su : L.sure = applyW D0 (chW l T0 c B1)
  se : L.seen = applyW D0 (chW l T0 c (B1 ++ B2))
  wa : L.wait = chW l (runT l T0 B1) (c + B1.length) B2
  tt : L.T = runT l T0 (B1 ++ B2)
  ls : L.lseq = c + (B1 ++ B2).length
  st : ∀ i, B1.length ≤ i → i ≤ (B1 ++ B2).length → stOf L.seen (runT l T0 ((B1 ++ B2).take i)) ∈ sts
def LogOk (l : Lay) (L : Lg) (sts : List (List (Option Map))) : Prop := ∃ c T0 D0 B1 B2, HistOk l L sts c T0 D0 B1 B2
/-- what a checkpoint leans on -/
structure SeenOk (l : Lay) (L : Lg) : Prop where
  o : l.Ok
  dl : L.seen.length = l.db
  g : GoodT l L.T
  pd : Paid L.seen L.T
  sq : ∀ a x, rd L.seen a = some x → x.seq ≤ L.lseq
  rg : L.reg ≤ 1
  ck : RegOk l L.seen L.reg (L.lseq + 1)
  sw : L.seen = applyW L.sure L.wait
section
variable {l : Lay} {L : Lg} {sts : List (List (Option Map))}
theorem reg_fr {T : TS} {reg r a : Nat} (hr : reg ≤ 1) (h : r < l.rb) (e : a = reg * l.rb + r) : ¬ inFR l T a := by
  intro ⟨h1, _⟩
  have : reg * l.rb ≤ 1 * l.rb := Nat.mul_le_mul_right _ hr
  omega
theorem reg_out (o : l.Ok) {bs : List Bat} {T : TS} {s : Nat} (g : GoodT l T) (h : ChainOk l T bs) {d : Dev} {reg r : Nat} (hr : reg ≤ 1) (hlt : r < l.rb) : rd (applyW d (chW l T s bs)) (reg * l.rb + r) = rd d (reg * l.rb + r) :=
  applyW_out _ _ fun w hw e => reg_fr hr hlt e (chW_fr o bs T s g h w hw).1
theorem RegOk.congr {d d' : Dev} {reg c c' : Nat} (o : l.Ok) (h : RegOk l d reg c) (hc : c ≤ c') (e : ∀ r, r < l.rb → rd d' (reg * l.rb + r) = rd d (reg * l.rb + r)) : RegOk l d' reg c' := by
  rcases h with h | ⟨T, c0, g, h1, h2⟩
  · left
    have := e 0 (by have := o.rb1; omega)
    rw [Nat.add_zero] at this
    rw [this]; exact h
  · exact .inr ⟨T, c0, g, by omega, fun r hr => by rw [e r hr]; exact h2 r hr⟩
theorem HistOk.seen {c : Nat} {T0 : TS} {D0 : Dev} {B1 B2 : List Bat} (h : HistOk l L sts c T0 D0 B1 B2) : SeenOk l L := by
  refine ⟨h.o, by rw [h.se, applyW_len, h.dl], by rw [h.tt]; exact chain_good _ _ h.g0 h.ch, ?_, fun a x e => ?_, h.rg, .inr ⟨T0, c, h.g0, by rw [h.ls]; omega, fun r hr => ?_⟩, ?_⟩
  · rw [h.se, h.tt]
    exact ch_paid h.o _ _ _ _ h.g0 h.ch h.dl h.pd
  · rw [h.se] at e
    rcases applyW_cases _ _ e with q | q
    · have := h.sq a x q
      rw [h.ls]
      omega
    · have := (chW_fr h.o _ _ c h.g0 h.ch _ q).2.2.2
      rw [h.ls]
      exact this
  · rw [h.se, reg_out h.o h.g0 h.ch h.rg hr]
    exact h.ck r hr
  · rw [h.se, h.su, h.wa, chW_app, applyW_app]
/-- every state of the chain is as it was -/
theorem HistOk.mid {c : Nat} {T0 : TS} {D0 : Dev} {B1 B2 : List Bat} (h : HistOk l L sts c T0 D0 B1 B2) {us vs : List Bat} (e : B1 ++ B2 = us ++ vs) : GoodT l (runT l T0 us) ∧ ChainOk l T0 us ∧ ChainOk l (runT l T0 us) vs := by
  have q := h.ch
  rw [e] at q
  obtain ⟨q1, q2⟩ := (chain_app us vs T0).mp q
  exact ⟨chain_good _ _ h.g0 q1, q1, q2⟩

/-! ### the deeds -/
noncomputable def comL (l : Lay) (L : Lg) (b : Bat) : Lg := { L with seen := applyW L.seen (comW l L.T (L.lseq + 1) b), wait := L.wait ++ comW l L.T (L.lseq + 1) b, T := comT l L.T b, lseq := L.lseq + 1 }
def movL (l : Lay) (L : Lg) (adrs : List Nat) (ps : List PayD) : Lg := { L with seen := applyW L.seen (movW l L.T (L.lseq + 1) adrs ps), wait := L.wait ++ movW l L.T (L.lseq + 1) adrs ps, T := movT l L.T adrs, lseq := L.lseq + 1 }
def syncL (L : Lg) : Lg := { L with sure := L.seen, wait := [] }
noncomputable def ckL (l : Lay) (L : Lg) : Lg :=
  let d := applyW L.seen (ckW l (ckT l L.T) (1 - L.reg) (L.lseq + 1))
  { sure := d, seen := d, wait := [], T := ckT l L.T, lseq := L.lseq + 1, reg := 1 - L.reg }
theorem LogOk.seen (h : LogOk l L sts) : SeenOk l L := let ⟨_, _, _, _, _, q⟩ := h; q.seen
theorem LogOk.here (h : LogOk l L sts) : stOf L.seen L.T ∈ sts := by
  obtain ⟨c, T0, D0, B1, B2, q⟩ := h
  have := q.st (B1 ++ B2).length (by simp) (Nat.le_refl _)
  rw [List.take_length, ← q.tt] at this
  exact this
theorem LogOk.mono {sts' : List (List (Option Map))} (h : LogOk l L sts) (m : ∀ x ∈ sts, x ∈ sts') : LogOk l L sts' := by
  obtain ⟨c, T0, D0, B1, B2, q⟩ := h
  exact ⟨c, T0, D0, B1, B2, ⟨q.o, q.dl, q.g0, q.pd, q.sq, q.rg, q.ck, q.ot, q.ch, q.su, q.se, q.wa, q.tt, q.ls, fun i h1 h2 => m _ (q.st i h1 h2)⟩⟩
theorem LogOk.com (h : LogOk l L sts) {b : Bat} (bo : BatOk l b) (r : HasRoom l L.T b.ids.length) (F : List Nat) (hF : ∀ a, keeps L.T b a → a ∈ F) (hl : (b.used.filter (fun k => decide (k ∈ b.ids))).length + F.length ≤ l.lim) :
    LogOk l (comL l L b) (sts ++ [stAfter (stOf L.seen L.T) b]) ∧ stOf (comL l L b).seen (comL l L b).T = stAfter (stOf L.seen L.T) b := by
  obtain ⟨c, T0, D0, B1, B2, q⟩ := h
  have s := q.seen
  have gT := s.g
  have cn := r.can bo.le
  have g2 := com_good s.o gT bo r F hF hl
  have e2 : stOf (comL l L b).seen (comL l L b).T = stAfter (stOf L.seen L.T) b := com_st s.o gT cn bo s.dl
  refine ⟨⟨c, T0, D0, B1, B2 ++ [b], ⟨q.o, q.dl, q.g0, q.pd, q.sq, q.rg, q.ck, q.ot, ?_, q.su, ?_, ?_, ?_, ?_, fun i h1 h2 => ?_⟩⟩, e2⟩
  · rw [← List.append_assoc, chain_app]
    refine ⟨q.ch, ?_⟩
    rw [← q.tt]
    exact ⟨bo, cn, g2, trivial⟩
  · show applyW L.seen _ = _
    rw [← List.append_assoc, chW_app, applyW_app, ← q.se, ← q.tt, ← q.ls]
    show _ = applyW L.seen (comW l L.T (L.lseq + 1) b ++ [])
    rw [List.append_nil]
  · show L.wait ++ _ = _
    rw [chW_app, ← q.wa, ← runT_app, ← q.tt]
    show _ = L.wait ++ (comW l L.T (c + B1.length + B2.length + 1) b ++ [])
    have e3 : L.lseq + 1 = c + B1.length + B2.length + 1 := by
      rw [q.ls, List.length_append]
      omega
    rw [List.append_nil, e3]
  · show comT l L.T b = _
    rw [← List.append_assoc, runT_app, ← q.tt]
    rfl
  · show L.lseq + 1 = _
    rw [q.ls, ← List.append_assoc, List.length_append (as := B1 ++ B2)]
    rfl
  · rw [← List.append_assoc] at h2 ⊢
    by_cases hi : i ≤ (B1 ++ B2).length
    · refine List.mem_append_left _ ?_
      rw [List.take_append_of_le_length hi]
      obtain ⟨m1, m2, m3⟩ := q.mid (List.take_append_drop i (B1 ++ B2)).symm
      have := q.st i h1 hi
      rw [← st_congr (d := L.seen) (d' := (comL l L b).seen)] at this
      · exact this
      · intro a ha
        show rd (applyW L.seen (comW l L.T (L.lseq + 1) b)) a = _
        refine applyW_out _ _ fun w hw e => ?_
        have f1 := (comW_fr s.o gT cn bo hw).1
        rw [q.tt, show runT l T0 (B1 ++ B2) = runT l (runT l T0 ((B1 ++ B2).take i)) ((B1 ++ B2).drop i) by rw [← runT_app, List.take_append_drop]] at f1
        have down : ∀ (bs : List Bat) (T : TS), GoodT l T → ChainOk l T bs → ∀ a, inFR l (runT l T bs) a → inFR l T a := fun bs => by
          induction bs with
          | nil => intro T _ _ a h; exact h
          | cons b bs ih => intro T g h a hf; exact fr_step s.o g h.2.1 (ih _ h.2.2.1 h.2.2.2 a hf)
        rw [e] at f1
        exact live_fr m1 ha (down _ _ m1 m3 a f1)
    · have hi2 : i = (B1 ++ B2 ++ [b]).length := by
        rw [List.length_append (as := B1 ++ B2)] at h2 ⊢
        simp at h2 hi ⊢
        omega
      refine List.mem_append_right _ ?_
      rw [hi2, List.take_length, runT_app, ← q.tt]
      rw [← e2]
      exact List.mem_singleton.mpr rfl
theorem LogOk.sync (h : LogOk l L sts) : LogOk l (syncL L) [stOf L.seen L.T] := by
  obtain ⟨c, T0, D0, B1, B2, q⟩ := h
  have e : B1 ++ B2 ++ [] = B1 ++ B2 := List.append_nil _
  refine ⟨c, T0, D0, B1 ++ B2, [], ⟨q.o, q.dl, q.g0, q.pd, q.sq, q.rg, q.ck, q.ot, by rw [e]; exact q.ch, q.se, by rw [e]; exact q.se, rfl, by rw [e]; exact q.tt, by rw [e]; exact q.ls, fun i h1 h2 => ?_⟩⟩
  rw [e] at h2 ⊢
  have : i = (B1 ++ B2).length := by omega
  rw [this, List.take_length, ← q.tt]
  exact List.mem_singleton.mpr rfl
theorem ckW_reg {T : TS} {reg seq a : Nat} {x : Blk} (h : (a, x) ∈ ckW l T reg seq) : ∃ r, r < l.rb ∧ a = reg * l.rb + r ∧ x = ckB l T seq r := by
  obtain ⟨r, hr, e⟩ := List.mem_map.mp h
  cases e
  exact ⟨r, List.mem_range.mp hr, rfl, rfl⟩
theorem ckW_nodup (T : TS) (reg seq : Nat) : ((ckW l T reg seq).map fun w => w.1).Nodup := by
  unfold ckW
  rw [List.map_map]
  have : ∀ n, ((List.range n).map ((fun w : Nat × Blk => w.1) ∘ fun r => (reg * l.rb + r, ckB l T seq r))).Nodup := fun n => by
    induction n with
    | zero => exact List.nodup_nil
    | succ n ih =>
      rw [List.range_succ, List.map_append, List.nodup_append]
      refine ⟨ih, by simp, fun x hx y hy e => ?_⟩
      obtain ⟨r, hr, e1⟩ := List.mem_map.mp hx
      have hr := List.mem_range.mp hr
      simp at hy
      have e1 : reg * l.rb + r = x := e1
      omega
  exact this _
theorem SeenOk.ck_ (s : SeenOk l L) : LogOk l (ckL l L) [stOf L.seen L.T] ∧ stOf (ckL l L).seen (ckL l L).T = stOf L.seen L.T := by
  have g := ck_good s.g
  have rbp := s.o.rb1
  have rg := s.rg
  have hreg : (1 - L.reg) * l.rb ≤ 1 * l.rb := Nat.mul_le_mul_right _ (by omega)
  have old : ∀ a, isLive L.T a → rd (applyW L.seen (ckW l (ckT l L.T) (1 - L.reg) (L.lseq + 1))) a = rd L.seen a := fun a ha => applyW_out _ _ fun w hw e => by
    obtain ⟨r, h1, h2, _⟩ := ckW_reg (a := w.1) (x := w.2) hw
    have := (s.g.lv a ha).1
    omega
  have e2 : stOf (ckL l L).seen (ckL l L).T = stOf L.seen L.T := by
    show stOf (applyW L.seen _) (ckT l L.T) = _
    rw [ck_st]
    exact st_congr old
  refine ⟨⟨L.lseq + 1, ckT l L.T, (ckL l L).seen, [], [], ⟨s.o, ?_, g, ?_, fun a x e => ?_, ?_, fun r hr => ?_, ?_, trivial, rfl, rfl, rfl, rfl, rfl, fun i h1 h2 => ?_⟩⟩, e2⟩
  · show (applyW _ _).length = _
    rw [applyW_len, s.dl]
  · exact paid_congr (T := L.T) old s.pd
  · rcases applyW_cases _ _ e with q | q
    · have := s.sq a x q
      omega
    · obtain ⟨r, _, _, e3⟩ := ckW_reg q
      rw [e3]
      exact Nat.le_refl _
  · show 1 - L.reg ≤ 1
    omega
  · refine applyW_in _ _ (List.mem_map.mpr ⟨r, List.mem_range.mpr hr, rfl⟩) (ckW_nodup _ _ _) ?_
    show (1 - L.reg) * l.rb + r < _
    rw [s.dl]
    unfold Lay.db
    omega
  · show RegOk l _ (1 - (1 - L.reg)) _
    rw [show 1 - (1 - L.reg) = L.reg by omega]
    refine RegOk.congr s.o s.ck (Nat.le_refl _) fun r hr => applyW_out _ _ fun w hw e => ?_
    obtain ⟨r', h1, h2, _⟩ := ckW_reg (a := w.1) (x := w.2) hw
    have e01 : L.reg = 0 ∨ L.reg = 1 := by omega
    rcases e01 with z | z <;> rw [z] at h2 e <;> simp at h2 e <;> omega
  · have : i = 0 := by simpa using h2
    rw [this]
    show stOf (ckL l L).seen (ckT l L.T) ∈ _
    exact List.mem_singleton.mpr e2
theorem SeenOk.mov (s : SeenOk l L) {adrs : List Nat} {ps : List PayD} (m : MovOk l L.T adrs) (hc : Carried L.seen adrs ps) (g : GoodT l (movT l L.T adrs)) : SeenOk l (movL l L adrs ps) ∧ stOf (movL l L adrs ps).seen (movL l L adrs ps).T = stOf L.seen L.T := by
  refine ⟨⟨s.o, ?_, g, mov_paid s.o s.g m hc s.dl s.pd, fun a x e => ?_, s.rg, ?_, ?_⟩, mov_st s.o s.g m hc s.dl⟩
  · show (applyW _ _).length = _
    rw [applyW_len, s.dl]
  · show _ ≤ L.lseq + 1
    rcases applyW_cases _ _ e with q | q
    · have := s.sq a x q
      omega
    · have := (movW_fr s.o s.g m hc.1 q).2
      have : x.seq = L.lseq + 1 := this
      omega
  · refine RegOk.congr s.o s.ck (Nat.le_succ _) fun r hr => applyW_out _ _ fun w hw e => ?_
    exact reg_fr s.rg hr e (movW_fr s.o s.g m hc.1 hw).1
  · show applyW L.seen _ = applyW L.sure (L.wait ++ _)
    rw [applyW_app, ← s.sw]

/-! ### a power failure -/
/-- what a failure leaves -/
def LeftOf (sure : Dev) (wait : List (Nat × Blk)) (D : Dev) : Prop := D.length = sure.length ∧ ∀ a, rd D a = rd sure a ∨ ∃ b, (a, b) ∈ wait ∧ (rd D a = none ∨ rd D a = some b)
theorem LogOk.fail (h : LogOk l L sts) {D : Dev} (hD : LeftOf L.sure L.wait D) :
    ∃ (c n : Nat) (T0 T' : TS), GoodT l T0 ∧ (∀ r, r < l.rb → rd D (L.reg * l.rb + r) = some (ckB l T0 c r)) ∧ RegOk l D (1 - L.reg) c ∧ Follows l D n T0 c T' ∧ stOf D T' ∈ sts ∧
      ∀ m, (∀ a x, rd D a = some x → x.seq ≤ m) → SeenOk l ⟨D, D, [], T', m, L.reg⟩ := by
  obtain ⟨c, T0, D0, B1, B2, q⟩ := h
  have o := q.o
  obtain ⟨hl, hD⟩ := hD
  obtain ⟨g1, ch1, ch2⟩ := q.mid rfl
  have rbp := o.rb1
  -- addresses that wait lie where the batches behind B1 may be written
  have waitFr : ∀ a b, (a, b) ∈ L.wait → inFR l (runT l T0 B1) a := fun a b hw => by
    rw [q.wa] at hw
    exact (chW_fr o _ _ _ g1 ch2 _ hw).1
  have noWait : ∀ a, (∀ b, (a, b) ∉ L.wait) → rd D a = rd L.sure a := fun a h => by
    rcases hD a with e | ⟨b, hb, _⟩
    · exact e
    · exact absurd hb (h b)
  have region : ∀ reg r, reg ≤ 1 → r < l.rb → rd D (reg * l.rb + r) = rd D0 (reg * l.rb + r) := fun reg r h1 h2 => by
    rw [noWait _ fun b hb => reg_fr h1 h2 rfl (waitFr _ _ hb), q.su, reg_out o q.g0 ch1 h1 h2]
  have beyond : Beyond l D T0 c (B1 ++ B2) := fun a x e1 e2 => by
    rw [chW_app]
    rcases hD a with e | ⟨b, hb, e⟩
    · rw [e, q.su] at e1
      rcases applyW_cases _ _ e1 with z | z
      · have := q.sq a x z
        omega
      · exact List.mem_append_left _ z
    · rcases e with e | e
      · rw [e] at e1
        cases e1
      · rw [e] at e1
        cases e1
        rw [q.wa] at hb
        exact List.mem_append_right _ hb
  obtain ⟨j, j1, j2, j3, j4⟩ := follow_all o (B1 ++ B2) T0 c q.g0 q.ch beyond
  have whole1 : Whole D (chW l T0 c B1) := fun w hw => by
    have f := (chW_fr o B1 T0 c q.g0 ch1 w hw).2.1
    rw [noWait _ fun b hb => f (waitFr _ _ hb), q.su]
    have hx : w.1 < D0.length := by
      rw [q.dl]
      exact (chW_fr o B1 T0 c q.g0 ch1 w hw).1.2.1
    exact applyW_in _ _ hw (chW_nodup o B1 T0 c q.g0 ch1) hx
  have jB : B1.length ≤ j := by
    apply Classical.byContradiction
    intro hj
    have hj : j < B1.length := by omega
    have e : B1 = B1.take j ++ B1[j] :: B1.drop (j + 1) := by
      rw [← List.drop_eq_getElem_cons hj, List.take_append_drop]
    have := j4 (B1.take j) B1[j] (B1.drop (j + 1) ++ B2) (by
      conv => lhs; rw [e]
      rw [List.append_assoc, List.cons_append]) (by rw [List.length_take]; omega)
    apply this
    intro w hw
    apply whole1
    rw [e, chW_app]
    refine List.mem_append_right _ ?_
    exact List.mem_append_left _ hw
  obtain ⟨gj, cj1, cj2⟩ := q.mid (List.take_append_drop j (B1 ++ B2)).symm
  have dlen : D.length = l.db := by
    rw [hl, q.su, applyW_len, q.dl]
  -- what lives there reads as before
  have same : ∀ a, isLive (runT l T0 ((B1 ++ B2).take j)) a → rd D a = rd L.seen a := fun a ha => by
    by_cases hw : ∃ b, (a, b) ∈ chW l T0 c ((B1 ++ B2).take j)
    · obtain ⟨b, hb⟩ := hw
      have e1 := j3 _ hb
      have e1 : rd D a = some b := e1
      rw [e1, q.se]
      refine (applyW_in (a := a) (b := b) _ _ ?_ (chW_nodup o _ T0 c q.g0 q.ch) ?_).symm
      · have := chW_app (l := l) ((B1 ++ B2).take j) ((B1 ++ B2).drop j) T0 c
        rw [List.take_append_drop] at this
        rw [this]
        exact List.mem_append_left _ hb
      · rw [q.dl, ← dlen]
        exact rd_lt e1
    · have none1 : ∀ b, (a, b) ∉ chW l T0 c (B1 ++ B2) := fun b hb => by
        have := chW_app (l := l) ((B1 ++ B2).take j) ((B1 ++ B2).drop j) T0 c
        rw [List.take_append_drop] at this
        rw [this] at hb
        rcases List.mem_append.mp hb with z | z
        · exact hw ⟨b, z⟩
        · exact live_fr gj ha (chW_fr o _ _ _ gj cj2 _ z).1
      have e1 : rd L.seen a = rd D0 a := by
        rw [q.se]
        exact applyW_out _ _ fun w hw' e => none1 w.2 (by rw [← e]; exact hw')
      have e2 : rd D a = rd L.sure a := noWait a fun b hb => none1 b (by
        rw [chW_app]
        rw [q.wa] at hb
        exact List.mem_append_right _ hb)
      rw [e1, e2, q.su]
      exact applyW_out _ _ fun w hw' e => none1 w.2 (by
        rw [chW_app, ← e]
        exact List.mem_append_left _ hw')
  have stj : stOf D (runT l T0 ((B1 ++ B2).take j)) ∈ sts := by
    rw [st_congr same]
    exact q.st j jB j1
  have pj : Paid D (runT l T0 ((B1 ++ B2).take j)) := by
    refine paid_congr same ?_
    have e := q.se
    have ap := chW_app (l := l) ((B1 ++ B2).take j) ((B1 ++ B2).drop j) T0 c
    rw [List.take_append_drop] at ap
    rw [ap, applyW_app] at e
    rw [e]
    exact paid_congr (fun a ha => ch_old o gj cj2 ha) (ch_paid o _ _ _ _ q.g0 cj1 q.dl q.pd)
  have ckj : ∀ r, r < l.rb → rd D (L.reg * l.rb + r) = some (ckB l T0 c r) := fun r hr => by
    rw [region _ _ q.rg hr]
    exact q.ck r hr
  refine ⟨c, j, T0, _, q.g0, ckj, RegOk.congr o q.ot (Nat.le_refl _) fun r hr => region _ _ (by omega) hr, j2, stj, fun m hm => ⟨o, dlen, gj, pj, hm, q.rg, .inr ⟨T0, c, q.g0, ?_, ckj⟩, rfl⟩⟩
  have := hm _ _ (ckj 0 (by omega))
  have : c ≤ m := this
  show c < m + 1
  omega

/-! ### a new log -/
def newT (l : Lay) : TS := ⟨List.replicate (l.last + 1) 0, [none, none, none], 0, 0, (List.range (l.seg - 1)).map (· + 1)⟩
def newLg (l : Lay) : Lg := ⟨List.replicate l.db none, List.replicate l.db none, [], newT l, 0, 1⟩
theorem new_dead {a : Nat} : ¬ isLive (newT l) a := by
  intro ⟨h0, h⟩
  rcases h with h | ⟨t, h, _⟩
  · exact h0 (List.mem_replicate.mp h).2
  · have h : some t ∈ [none, none, none] := h
    simp at h
theorem new_seen (o : l.Ok) : SeenOk l (newLg l) := by
  have s1 := o.s1
  have blank : ∀ a, rd (newLg l).seen a = none := fun a => by
    show rd (List.replicate l.db none) a = none
    unfold rd
    rw [List.getElem?_replicate]
    split <;> rfl
  refine ⟨o, List.length_replicate, ⟨List.length_replicate, ?_, rfl, fun t h => ?_, by show 0 < l.seg; omega, fun s hs => ?_, ?_, Nat.zero_le _, fun a ha => absurd ha new_dead, ?_, ?_⟩, fun a ha => absurd ha new_dead, fun a x e => ?_, Nat.le_refl _, .inl (blank _), rfl⟩
  · show (List.replicate (l.last + 1) 0)[0]? = some 0
    rw [List.getElem?_replicate, if_pos (by omega)]
  · have h : some t ∈ [none, none, none] := h
    simp at h
  · obtain ⟨i, hi, e⟩ := List.mem_map.mp hs
    have := List.mem_range.mp hi
    have e : i + 1 = s := e
    omega
  · show (0 :: (List.range (l.seg - 1)).map (· + 1)).Nodup
    have : ∀ n, (0 :: (List.range n).map (· + 1)).Nodup := fun n => by
      have e : 0 :: (List.range n).map (· + 1) = List.range (n + 1) := by rw [List.range_succ_eq_map]
      rw [e]
      exact List.nodup_range
    exact this _
  · have e : live l (newT l) = [] := by
      rw [List.eq_nil_iff_forall_not_mem]
      intro a ha
      exact new_dead (mem_live.mp ha).2
    show (live l (newT l)).length ≤ _
    rw [e]
    exact Nat.zero_le _
  · exact ⟨1, by omega, by show 1 ≠ 0; decide, fun a ha => absurd ha new_dead⟩
  · rw [blank] at e
    cases e
end
end Sg

set_option maxHeartbeats 4000000
/-! how the data stand in the heap -/
namespace Sg
open PySem PySem.Spec PyProof.Rows L2 Evl

/-! ### rows of values -/
def Rl {α : Type} (R : V → α → Prop) (vs : List V) (xs : List α) : Prop := vs.length = xs.length ∧ ∀ (i : Nat) v x, vs[i]? = some v → xs[i]? = some x → R v x
section
variable {α : Type} {R S : V → α → Prop} {vs us : List V} {xs ys : List α}
theorem Rl.mono (h : Rl R vs xs) (m : ∀ v x, R v x → S v x) : Rl S vs xs := ⟨h.1, fun i v x a b => m v x (h.2 i v x a b)⟩
theorem Rl.nil : Rl R [] ([] : List α) := ⟨rfl, fun i v x a _ => by simp at a⟩
theorem Rl.get (h : Rl R vs xs) {i : Nat} {x : α} (e : xs[i]? = some x) : ∃ v, vs[i]? = some v ∧ R v x := by
  have hl := (List.getElem?_eq_some_iff.mp e).1
  rw [← h.1] at hl
  exact ⟨vs[i], List.getElem?_eq_getElem hl, h.2 i _ _ (List.getElem?_eq_getElem hl) e⟩
theorem Rl.get' (h : Rl R vs xs) {i : Nat} {v : V} (e : vs[i]? = some v) : ∃ x, xs[i]? = some x ∧ R v x := by
  have hl := (List.getElem?_eq_some_iff.mp e).1
  rw [h.1] at hl
  exact ⟨xs[i], List.getElem?_eq_getElem hl, h.2 i _ _ e (List.getElem?_eq_getElem hl)⟩
theorem Rl.set (h : Rl R vs xs) (i : Nat) {v : V} {x : α} (r : R v x) : Rl R (vs.set i v) (xs.set i x) := by
  refine ⟨by rw [List.length_set, List.length_set, h.1], fun j u y a b => ?_⟩
  by_cases e : j = i
  · rw [e] at a b
    rw [List.getElem?_set] at a b
    rw [if_pos rfl] at a b
    split at a
    · split at b
      · injection a with a
        injection b with b
        rw [← a, ← b]
        exact r
      · cases b
    · cases a
  · rw [List.getElem?_set_ne (fun q => e q.symm)] at a b
    exact h.2 j u y a b
theorem Rl.app (h : Rl R vs xs) (k : Rl R us ys) : Rl R (vs ++ us) (xs ++ ys) := by
  refine ⟨by rw [List.length_append, List.length_append, h.1, k.1], fun i v x a b => ?_⟩
  by_cases hi : i < vs.length
  · rw [List.getElem?_append_left hi] at a
    rw [List.getElem?_append_left (by rw [← h.1]; exact hi)] at b
    exact h.2 i v x a b
  · rw [List.getElem?_append_right (by omega)] at a
    rw [List.getElem?_append_right (by rw [← h.1]; omega), ← h.1] at b
    exact k.2 _ v x a b
theorem Rl.one {v : V} {x : α} (r : R v x) : Rl R [v] [x] := ⟨rfl, fun i u y a b => by
  cases i with
  | zero =>
    injection a with a
    injection b with b
    rw [← a, ← b]
    exact r
  | succ i => simp at a⟩
theorem Rl.of_map {β : Type} {f : β → V} {zs : List β} {g : β → α} (h : ∀ z ∈ zs, R (f z) (g z)) : Rl R (zs.map f) (zs.map g) := by
  refine ⟨by rw [List.length_map, List.length_map], fun i v x a b => ?_⟩
  rw [List.getElem?_map] at a b
  cases e : zs[i]? with
  | none =>
    rw [e] at a
    cases a
  | some z =>
    rw [e] at a b
    injection a with a
    injection b with b
    rw [← a, ← b]
    exact h z (List.mem_of_getElem? e)
end

/-! ### numbers, layouts -/
abbrev nV (n : Nat) : V := .int (n : Int)
abbrev nL (t : List Nat) : List V := t.map nV
def layF (l : Lay) : List (Str × V) := [("segments", nV l.seg), ("segment_blocks", nV l.sb), ("block_size", nV l.bs), ("payload", nV l.pay), ("limit", nV l.lim), ("last_id", nV l.last), ("fan", nV l.fan), ("region_blocks", nV l.rb), ("device_blocks", nV l.db)]
theorem lay_seg (l : Lay) : (layF l).lookup ("segments" : Str) = some (nV l.seg) := by rfl
theorem lay_sb (l : Lay) : (layF l).lookup ("segment_blocks" : Str) = some (nV l.sb) := by rfl
theorem lay_bs (l : Lay) : (layF l).lookup ("block_size" : Str) = some (nV l.bs) := by rfl
theorem lay_pay (l : Lay) : (layF l).lookup ("payload" : Str) = some (nV l.pay) := by rfl
theorem lay_lim (l : Lay) : (layF l).lookup ("limit" : Str) = some (nV l.lim) := by rfl
theorem lay_last (l : Lay) : (layF l).lookup ("last_id" : Str) = some (nV l.last) := by rfl
theorem lay_fan (l : Lay) : (layF l).lookup ("fan" : Str) = some (nV l.fan) := by rfl
theorem lay_rb (l : Lay) : (layF l).lookup ("region_blocks" : Str) = some (nV l.rb) := by rfl
theorem lay_db (l : Lay) : (layF l).lookup ("device_blocks" : Str) = some (nV l.db) := by rfl
def LayAt (K : PySem.W.Frag) (H : Hp) (a : Addr) (l : Lay) : Prop := l.Ok ∧ ∃ dx, H a = some (.ins (He.ga K "Layout") dx (layF l))
theorem LayAt.mono {K : PySem.W.Frag} {H H' : Hp} {a : Addr} {l : Lay} (h : LayAt K H a l) (e : Ex H H') : LayAt K H' a l := ⟨h.1, let ⟨dx, q⟩ := h.2; ⟨dx, e _ _ q⟩⟩

/-! ### blocks: made of tuples, which never change -/
/-- tuples stay -/
def Tx (H H' : Hp) : Prop := ∀ b xs, H b = some (.tup xs) → H' b = some (.tup xs)
theorem Ex.tx {H H' : Hp} (e : Ex H H') : Tx H H' := fun b xs h => e b _ h
theorem Tx.refl (H : Hp) : Tx H H := fun _ _ h => h
theorem Tx.trans {H H1 H2 : Hp} (a : Tx H H1) (b : Tx H1 H2) : Tx H H2 := fun x xs h => b x xs (a x xs h)
theorem Tx.upd {H H' : Hp} {a : Addr} {o : HO} (e : Tx H H') (h : ∀ xs, H a ≠ some (.tup xs)) : Tx H (upd H' a o) := fun b xs hb => by
  rw [upd_ne (fun z => by rw [z] at hb; exact h xs hb)]
  exact e b xs hb
def PayAt (H : Hp) (v : V) (p : PayD) : Prop := ∃ a b, v = .ref a ∧ H a = some (.tup [nV p.kind, .ref b]) ∧ H b = some (.tup (p.body.map V.int))
/-- a batch's body -/
def ComAt (H : Hp) (v : V) (ids used : List Nat) (act : Nat) : Prop := ∃ c i u, v = .ref c ∧ H c = some (.tup [.ref i, .ref u, nV act]) ∧ H i = some (.tup (nL ids)) ∧ H u = some (.tup (nL used))
def BlkAt (H : Hp) (v : V) : Blk → Prop
  | .com seq ids used act => ∃ a b, v = .ref a ∧ H a = some (.tup [.int 1, nV seq, .int 0, b]) ∧ ComAt H b ids used act
  | .mov seq adrs => ∃ a b, v = .ref a ∧ H a = some (.tup [.int 2, nV seq, .int 0, .ref b]) ∧ H b = some (.tup (nL adrs))
  | .pay seq rank p => ∃ a b, v = .ref a ∧ H a = some (.tup [nV p.kind, nV seq, nV rank, .ref b]) ∧ H b = some (.tup (p.body.map V.int))
  | .part seq rank nums => ∃ a b, v = .ref a ∧ H a = some (.tup [.int 5, nV seq, nV rank, .ref b]) ∧ H b = some (.tup (nL nums))
def OBlk (H : Hp) (v : V) : Option Blk → Prop
  | none => v = .non
  | some b => BlkAt H v b
def OPay (H : Hp) (v : V) : Option PayD → Prop
  | none => v = .non
  | some p => PayAt H v p
def WAt (H : Hp) (v : V) (w : Nat × Blk) : Prop := ∃ t u, v = .ref t ∧ H t = some (.tup [nV w.1, u]) ∧ BlkAt H u w.2
section
variable {H H' : Hp} {v : V}
theorem PayAt.mono {p : PayD} (h : PayAt H v p) (e : Tx H H') : PayAt H' v p := let ⟨a, b, q1, q2, q3⟩ := h; ⟨a, b, q1, e _ _ q2, e _ _ q3⟩
theorem ComAt.mono {ids used : List Nat} {act : Nat} (h : ComAt H v ids used act) (e : Tx H H') : ComAt H' v ids used act := let ⟨c, i, u, q1, q2, q3, q4⟩ := h; ⟨c, i, u, q1, e _ _ q2, e _ _ q3, e _ _ q4⟩
theorem BlkAt.mono {b : Blk} (h : BlkAt H v b) (e : Tx H H') : BlkAt H' v b := by
  cases b with
  | com s i u a => obtain ⟨x, y, q1, q2, q3⟩ := h; exact ⟨x, y, q1, e _ _ q2, q3.mono e⟩
  | mov s a => obtain ⟨x, y, q1, q2, q3⟩ := h; exact ⟨x, y, q1, e _ _ q2, e _ _ q3⟩
  | pay s r p => obtain ⟨x, y, q1, q2, q3⟩ := h; exact ⟨x, y, q1, e _ _ q2, e _ _ q3⟩
  | part s r p => obtain ⟨x, y, q1, q2, q3⟩ := h; exact ⟨x, y, q1, e _ _ q2, e _ _ q3⟩
theorem OBlk.mono {b : Option Blk} (h : OBlk H v b) (e : Tx H H') : OBlk H' v b := by
  cases b with
  | none => exact h
  | some b => exact BlkAt.mono h e
theorem OPay.mono {b : Option PayD} (h : OPay H v b) (e : Tx H H') : OPay H' v b := by
  cases b with
  | none => exact h
  | some b => exact PayAt.mono h e
theorem WAt.mono {w : Nat × Blk} (h : WAt H v w) (e : Tx H H') : WAt H' v w := let ⟨t, u, q1, q2, q3⟩ := h; ⟨t, u, q1, e _ _ q2, q3.mono e⟩
/-- a block is a tuple of four: kind, sequence, rank, body -/
theorem BlkAt.four {b : Blk} (h : BlkAt H v b) : ∃ a k r y, v = .ref a ∧ H a = some (.tup [.int k, nV b.seq, r, y]) := by
  cases b with
  | com s i u a => obtain ⟨x, y, q1, q2, q3⟩ := h; exact ⟨x, _, _, _, q1, q2⟩
  | mov s a => obtain ⟨x, y, q1, q2, q3⟩ := h; exact ⟨x, _, _, _, q1, q2⟩
  | pay s r p => obtain ⟨x, y, q1, q2, q3⟩ := h; exact ⟨x, _, _, _, q1, q2⟩
  | part s r p => obtain ⟨x, y, q1, q2, q3⟩ := h; exact ⟨x, _, _, _, q1, q2⟩
end

/-! ### devices and logs -/
structure Ad where
  lg : Addr
  dv : Addr
  sn : Addr
  su : Addr
  wt : Addr
  ct : Addr
  la : Addr
  pr : Addr
  sl : Addr
  qu : Addr
def devF (A : Ad) : List (Str × V) := [("layout", .ref A.la), ("sure", .ref A.su), ("seen", .ref A.sn), ("waiting", .ref A.wt), ("fuse", .non), ("dark", .bl false)]
theorem dev_layout (A : Ad) : (devF A).lookup ("layout" : Str) = some (.ref A.la) := by rfl
theorem dev_sure (A : Ad) : (devF A).lookup ("sure" : Str) = some (.ref A.su) := by rfl
theorem dev_seen (A : Ad) : (devF A).lookup ("seen" : Str) = some (.ref A.sn) := by rfl
theorem dev_waiting (A : Ad) : (devF A).lookup ("waiting" : Str) = some (.ref A.wt) := by rfl
theorem dev_fuse (A : Ad) : (devF A).lookup ("fuse" : Str) = some .non := by rfl
theorem dev_dark (A : Ad) : (devF A).lookup ("dark" : Str) = some (.bl false) := by rfl
theorem put_waiting (A : Ad) (t : Addr) : putF "waiting" (.ref t) (devF A) = devF { A with wt := t } := by rfl
def logF (A : Ad) (head place lseq reg : Nat) : List (Str × V) := [("device", .ref A.dv), ("layout", .ref A.la), ("present", .ref A.pr), ("slots", .ref A.sl), ("head", nV head), ("place", nV place), ("queue", .ref A.qu), ("last_sequence", nV lseq), ("region", nV reg), ("counts", .ref A.ct)]
section
variable (A : Ad) (h p q r x : Nat) (t : Addr)
theorem log_device : (logF A h p q r).lookup ("device" : Str) = some (.ref A.dv) := by rfl
theorem log_layout : (logF A h p q r).lookup ("layout" : Str) = some (.ref A.la) := by rfl
theorem log_present : (logF A h p q r).lookup ("present" : Str) = some (.ref A.pr) := by rfl
theorem log_slots : (logF A h p q r).lookup ("slots" : Str) = some (.ref A.sl) := by rfl
theorem log_head : (logF A h p q r).lookup ("head" : Str) = some (nV h) := by rfl
theorem log_place : (logF A h p q r).lookup ("place" : Str) = some (nV p) := by rfl
theorem log_queue : (logF A h p q r).lookup ("queue" : Str) = some (.ref A.qu) := by rfl
theorem log_lseq : (logF A h p q r).lookup ("last_sequence" : Str) = some (nV q) := by rfl
theorem log_region : (logF A h p q r).lookup ("region" : Str) = some (nV r) := by rfl
theorem log_counts : (logF A h p q r).lookup ("counts" : Str) = some (.ref A.ct) := by rfl
theorem put_present : putF "present" (.ref t) (logF A h p q r) = logF { A with pr := t } h p q r := by rfl
theorem put_slots : putF "slots" (.ref t) (logF A h p q r) = logF { A with sl := t } h p q r := by rfl
theorem put_queue : putF "queue" (.ref t) (logF A h p q r) = logF { A with qu := t } h p q r := by rfl
theorem put_head : putF "head" (nV x) (logF A h p q r) = logF A x p q r := by rfl
theorem put_place : putF "place" (nV x) (logF A h p q r) = logF A h x q r := by rfl
theorem put_lseq : putF "last_sequence" (nV x) (logF A h p q r) = logF A h p x r := by rfl
theorem put_region : putF "region" (nV x) (logF A h p q r) = logF A h p q x := by rfl
end
def cntF (n1 n2 n3 n4 n5 n6 n7 : Int) : List (Str × V) := [("commits", .int n1), ("commit_blocks", .int n2), ("moves", .int n3), ("move_blocks", .int n4), ("checkpoints", .int n5), ("checkpoint_blocks", .int n6), ("barriers", .int n7)]
def CntAt (K : PySem.W.Frag) (H : Hp) (a : Addr) : Prop := ∃ dx n1 n2 n3 n4 n5 n6 n7, H a = some (.ins (He.ga K "Counts") dx (cntF n1 n2 n3 n4 n5 n6 n7))
def Ad.own (A : Ad) : List Addr := [A.lg, A.dv, A.sn, A.su, A.wt, A.ct]
/-- a device, its addresses in A (lg, ct, pr, sl, qu do not matter) -/
structure DevAt (K : PySem.W.Frag) (H : Hp) (A : Ad) (l : Lay) (sure seen : Dev) (wait : List (Nat × Blk)) : Prop where
  dv : ∃ dx, H A.dv = some (.ins (He.ga K "Device") dx (devF A))
  la : LayAt K H A.la l
  su : ∃ vs, H A.su = some (.lst vs) ∧ Rl (OBlk H) vs sure
  sn : ∃ vs, H A.sn = some (.lst vs) ∧ Rl (OBlk H) vs seen
  wt : ∃ vs, H A.wt = some (.lst vs) ∧ Rl (WAt H) vs wait
  n1 : A.su ≠ A.sn
  n2 : A.su ≠ A.wt
  n3 : A.sn ≠ A.wt
  l1 : sure.length = l.db
  l2 : seen.length = l.db
def SlotAt (H : Hp) (S : List Addr) (v : V) : Option (List Nat) → Prop
  | none => v = .non
  | some t => ∃ a, v = .ref a ∧ H a = some (.lst (nL t)) ∧ a ∉ S
structure LogAt (K : PySem.W.Frag) (H : Hp) (A : Ad) (l : Lay) (L : Lg) : Prop where
  lg : ∃ dx, H A.lg = some (.ins (He.ga K "Log") dx (logF A L.T.head L.T.place L.lseq L.reg))
  dev : DevAt K H A l L.sure L.seen L.wait
  ct : CntAt K H A.ct
  pr : H A.pr = some (.lst (nL L.T.pres)) ∧ A.pr ∉ A.own
  sl : ∃ vs, H A.sl = some (.lst vs) ∧ Rl (SlotAt H A.own) vs L.T.slots ∧ A.sl ∉ A.own
  qu : H A.qu = some (.lst (nL L.T.queue)) ∧ A.qu ∉ A.own
  nd : A.own.Nodup
  la : A.la ∉ A.own
theorem DevAt.mono {K : PySem.W.Frag} {H H' : Hp} {A : Ad} {l : Lay} {su se : Dev} {wa : List (Nat × Blk)} (h : DevAt K H A l su se wa) (e : Ex H H') : DevAt K H' A l su se wa := by
  obtain ⟨⟨dx, d⟩, la, ⟨v1, a1, a2⟩, ⟨v2, b1, b2⟩, ⟨v3, c1, c2⟩, n1, n2, n3, l1, l2⟩ := h
  exact ⟨⟨dx, e _ _ d⟩, la.mono e, ⟨v1, e _ _ a1, a2.mono fun _ _ q => q.mono (Ex.tx e)⟩, ⟨v2, e _ _ b1, b2.mono fun _ _ q => q.mono (Ex.tx e)⟩, ⟨v3, e _ _ c1, c2.mono fun _ _ q => q.mono (Ex.tx e)⟩, n1, n2, n3, l1, l2⟩
theorem SlotAt.mono {H H' : Hp} {S : List Addr} {v : V} {o : Option (List Nat)} (h : SlotAt H S v o) (e : ∀ b o, H b = some o → b ∉ S → H' b = some o) : SlotAt H' S v o := by
  cases o with
  | none => exact h
  | some t => obtain ⟨a, q1, q2, q3⟩ := h; exact ⟨a, q1, e _ _ q2 q3, q3⟩
theorem LogAt.mono {K : PySem.W.Frag} {H H' : Hp} {A : Ad} {l : Lay} {L : Lg} (h : LogAt K H A l L) (e : Ex H H') : LogAt K H' A l L := by
  obtain ⟨⟨dx, d⟩, dv, ⟨dc, n1, n2, n3, n4, n5, n6, n7, c⟩, ⟨p1, p2⟩, ⟨vs, s1, s2, s3⟩, ⟨q1, q2⟩, nd, la⟩ := h
  exact ⟨⟨dx, e _ _ d⟩, dv.mono e, ⟨dc, n1, n2, n3, n4, n5, n6, n7, e _ _ c⟩, ⟨e _ _ p1, p2⟩, ⟨vs, e _ _ s1, s2.mono fun _ _ q => q.mono fun b o z _ => e b o z, s3⟩, ⟨e _ _ q1, q2⟩, nd, la⟩
/-- what is not of the log stays; its addresses but the waiting list's, the tables' and the queue's stay -/
structure Evo (H : Hp) (A : Ad) (H' : Hp) (A' : Ad) : Prop where
  lg : A'.lg = A.lg
  dv : A'.dv = A.dv
  la : A'.la = A.la
  ni : ∀ b o, H b = some o → b ∉ A.own → b ∉ A'.own
  kp : ∀ b o, H b = some o → b ∉ A.own → H' b = some o
  tx : Tx H H'
theorem Evo.trans {H H1 H2 : Hp} {A A1 A2 : Ad} (a : Evo H A H1 A1) (b : Evo H1 A1 H2 A2) : Evo H A H2 A2 :=
  ⟨b.lg.trans a.lg, b.dv.trans a.dv, b.la.trans a.la, fun c o h n => b.ni c o (a.kp c o h n) (a.ni c o h n), fun c o h n => b.kp c o (a.kp c o h n) (a.ni c o h n), a.tx.trans b.tx⟩
theorem Evo.ex {H H1 : Hp} {A : Ad} (e : Ex H H1) : Evo H A H1 A := ⟨rfl, rfl, rfl, fun _ _ _ n => n, fun b o h _ => e b o h, Ex.tx e⟩
theorem LogAt.wtL {K : PySem.W.Frag} {H : Hp} {A : Ad} {l : Lay} {L : Lg} (h : LogAt K H A l L) : ∀ b ∈ A.own, ∃ o, H b = some o := by
  intro b hb
  obtain ⟨⟨dx, d⟩, ⟨⟨dx2, d2⟩, _, ⟨v1, a1, _⟩, ⟨v2, b1, _⟩, ⟨v3, c1, _⟩, _, _, _, _, _⟩, ⟨dc, n1, n2, n3, n4, n5, n6, n7, c⟩, _, _, _, _, _⟩ := h
  unfold Ad.own at hb
  simp only [List.mem_cons, List.not_mem_nil, or_false] at hb
  rcases hb with z | z | z | z | z | z <;> rw [z] <;> exact ⟨_, by assumption⟩
/-- a new thing is not of the log -/
theorem LogAt.new {K : PySem.W.Frag} {H : Hp} {A : Ad} {l : Lay} {L : Lg} (h : LogAt K H A l L) {p : Addr} (n : H p = none) : p ∉ A.own := fun z => by
  obtain ⟨o, e⟩ := h.wtL p z
  rw [n] at e
  cases e
end Sg

set_option maxHeartbeats 4000000
/-! readings: what evaluates to something told, the heap grown; words behind Evl's -/
namespace Sg
open PySem PySem.Spec PyProof.Rows L2 Evl
/-- a promise's end: something told, the heap grown -/
def RetP (P : V → Hp → Prop) (H : Hp) (Q : VK) : Prop := ∀ v H2, Ex H H2 → P v H2 → Q v H2
theorem RetP.at {P : V → Hp → Prop} {H H' : Hp} {Q : VK} (k : RetP P H Q) (e : Ex H H') : RetP P H' Q := fun v H2 e2 p => k v H2 (e.trans e2) p
theorem RetV.at {v : V} {H H' : Hp} {Q : VK} (k : RetV v H Q) (e : Ex H H') : RetV v H' Q := fun H2 e2 => k H2 (e.trans e2)
def EvP (te : TE) (σ : L2.St) (H : Hp) (P : V → Hp → Prop) : Prop := ∀ H1, Ex H H1 → ∀ Q : VK, RetP P H1 Q → te σ H1 Q
/-- arguments -/
def EvAP (ta : TA) (σ : L2.St) (H : Hp) (P : List V → Hp → Prop) : Prop := ∀ H1, Ex H H1 → ∀ Q : List V → Hp → Prop, (∀ vs H2, Ex H1 H2 → P vs H2 → Q vs H2) → ta σ H1 Q
section
variable {K : PySem.W.Frag} {σ : L2.St} {H H' : Hp} {ta tb te tx : TE} {t u : TT} {x y z v : V} {r : R2} {P P' : V → Hp → Prop} {D : Ends} {tu tw tz : L2.TS} {tA : TA} {vs : List V}
theorem ev_fld {a C dx : Addr} {fs : List (Str × V)} {f : Str} (h : Ev ta σ H (.ref a)) (ho : H a = some (.ins C dx fs)) (hc : Cls K C) (hn : NoAttr K C f) (hl : fs.lookup f = some v) : Ev (tFld K ta f) σ H v := fun H1 e Q q =>
  h H1 e _ fun H2 e2 => ⟨a, C, dx, fs, v, rfl, e2 _ _ (e _ _ ho), hc, hn, hl, q H2 e2⟩
theorem ev_notN (h : Ev ta σ H x) : Ev (tNotN ta) σ H (.bl (!decide (x = .non))) := fun H1 e Q q => h H1 e _ fun H2 e2 => q H2 e2
theorem ev_isN (h : Ev ta σ H x) : Ev (tIsN ta) σ H (.bl (decide (x = .non))) := fun H1 e Q q => h H1 e _ fun H2 e2 => q H2 e2
theorem EvP.mono (h : EvP te σ H P) (m : ∀ v H, P v H → P' v H) : EvP te σ H P' := fun H1 e Q q => h H1 e Q fun v H2 e2 p => q v H2 e2 (m v H2 p)
theorem EvP.up (e : Ex H H') (h : EvP te σ H P) : EvP te σ H' P := fun H1 e1 Q q => h H1 (e.trans e1) Q q
theorem Ev.p (h : Ev te σ H v) (m : ∀ H2, Ex H H2 → P v H2) : EvP te σ H P := fun H1 e Q q => h H1 e Q fun H2 e2 => q v H2 e2 (m H2 (e.trans e2))
theorem EvP.ev (h : EvP te σ H fun u _ => u = v) : Ev te σ H v := fun H1 e Q q => h H1 e Q fun u H2 e2 p => by
  rw [p]
  exact q H2 e2
theorem EvL.p {xs : List V} (h : EvL te σ H xs) (m : ∀ p H2, H p = none → Ex H H2 → H2 p = some (.lst xs) → P (.ref p) H2) : EvP te σ H P := fun H1 e Q q => h H1 e Q fun p H2 hp e2 h2 => q _ H2 e2 (m p H2 (fresh_back e hp) (e.trans e2) h2)
theorem EvU.p {xs : List V} (h : EvU te σ H xs) (m : ∀ p H2, H p = none → Ex H H2 → H2 p = some (.tup xs) → P (.ref p) H2) : EvP te σ H P := fun H1 e Q q => h H1 e Q fun p H2 hp e2 h2 => q _ H2 e2 (m p H2 (fresh_back e hp) (e.trans e2) h2)
theorem evp_call {sp : Sp} {dvs : List V} {E : XK} (h : EvA tA σ H vs) (hs : ∀ H1, Ex H H1 → ∀ (Q : VK) (E : XK), RetP P H1 Q → sp (vs ++ dvs) H1 Q E) : EvP (tCall sp dvs E tA) σ H P := fun H1 e Q q =>
  h H1 e _ fun H2 e2 => hs H2 (e.trans e2) Q E (RetP.at q e2)
theorem ev_callV {sp : Sp} {dvs : List V} {E : XK} (h : EvA tA σ H vs) (hs : ∀ H1, Ex H H1 → ∀ (Q : VK) (E : XK), RetV v H1 Q → sp (vs ++ dvs) H1 Q E) : Ev (tCall sp dvs E tA) σ H v := fun H1 e Q q =>
  h H1 e _ fun H2 e2 => hs H2 (e.trans e2) Q E fun H3 e3 => q H3 (e2.trans e3)
/-- a method's call -/
theorem evp_meth {C a dx : Addr} {m : Str} {fs : List (Str × V)} {sp : Sp} {dvs : List V} {E : XK} (ho : Ev ta σ H (.ref a)) (hi : H a = some (.ins C dx fs)) (hl : fs.lookup m = none) (h : EvA tA σ H vs)
    (hs : ∀ H1, Ex H H1 → ∀ (Q : VK) (E : XK), RetP P H1 Q → sp (.ref a :: (vs ++ dvs)) H1 Q E) : EvP (tMeth C m sp dvs E ta tA) σ H P := fun H1 e Q q =>
  ho H1 e _ fun H2 e2 => ⟨a, dx, fs, rfl, e2 _ _ (e _ _ hi), hl, h H2 (e.trans e2) _ fun H3 e3 => hs H3 ((e.trans e2).trans e3) Q E (RetP.at q (e2.trans e3))⟩
theorem ev_methV {C a dx : Addr} {m : Str} {fs : List (Str × V)} {sp : Sp} {dvs : List V} {E : XK} (ho : Ev ta σ H (.ref a)) (hi : H a = some (.ins C dx fs)) (hl : fs.lookup m = none) (h : EvA tA σ H vs)
    (hs : ∀ H1, Ex H H1 → ∀ (Q : VK) (E : XK), RetV v H1 Q → sp (.ref a :: (vs ++ dvs)) H1 Q E) : Ev (tMeth C m sp dvs E ta tA) σ H v := fun H1 e Q q =>
  ho H1 e _ fun H2 e2 => ⟨a, dx, fs, rfl, e2 _ _ (e _ _ hi), hl, h H2 (e.trans e2) _ fun H3 e3 => hs H3 ((e.trans e2).trans e3) Q E fun H4 e4 => q H4 ((e2.trans e3).trans e4)⟩
theorem q_asgP {i : Nat} (h : EvP te σ H P) (k : ∀ v H1, Ex H H1 → P v H1 → tz D (σ.set i (some v)) H1) : tSeq (tAsg te (gName i)) tz D σ H := h H (Ex.refl H) _ fun v H1 e p => k v H1 e p
theorem s_asgP {i : Nat} (h : EvP te σ H P) (k : ∀ v H1, Ex H H1 → P v H1 → D.nx (σ.set i (some v)) H1) : tAsg te (gName i) D σ H := h H (Ex.refl H) _ fun v H1 e p => k v H1 e p
theorem s_retP (h : EvP te σ H P) (k : RetP P H D.rt) : tRet te D σ H := h H (Ex.refl H) _ fun v H1 e p => k v H1 e p
theorem q_dropP (h : EvP te σ H P) (k : ∀ v H1, Ex H H1 → P v H1 → tz D σ H1) : tSeq (tDrop te) tz D σ H := h H (Ex.refl H) _ fun v H1 e p => k v H1 e p
/-- an if whose first branch ends -/
theorem q_if2 {b : Bool} (h : EvT t σ H b) (h1 : b = true → ∀ H1, Ex H H1 → tu { D with nx := tz D } σ H1) (h2 : b = false → ∀ H1, Ex H H1 → tw { D with nx := tz D } σ H1) : tSeq (tIfS t tu tw) tz D σ H := q_if h h1 h2
theorem et_val {b : Bool} (h : Ev te σ H (.bl b)) : EvT (tB te) σ H b := et_B h
/-- a chain of two comparisons -/
theorem et_chain {r' : R2} {tc : TE} {a b : Bool} {w : V} (ha : Ev ta σ H x) (hb : Ev tb σ H y) (h1 : RV r x y H (.bl a)) (hc : a = true → Ev tc σ H w) (h2 : a = true → RV r' y w H (.bl b)) : EvT (tTest (tChain r r' ta tb tc)) σ H (a && b) := fun H1 e Q q =>
  ha H1 e _ fun H2 e2 => hb H2 (e.trans e2) _ fun H3 e3 => h1 H3 ((e.trans e2).trans e3) _ fun H4 e4 => ⟨a, rfl, by
    cases a with
    | true =>
      refine iteT ?_
      exact hc rfl H4 (((e.trans e2).trans e3).trans e4) _ fun H5 e5 => h2 rfl H5 ((((e.trans e2).trans e3).trans e4).trans e5) _ fun H6 e6 => ⟨b, rfl, q H6 ((((e2.trans e3).trans e4).trans e5).trans e6)⟩
    | false =>
      refine iteF ?_
      exact ⟨false, rfl, q H4 ((e2.trans e3).trans e4)⟩⟩
theorem et_cmp {b : Bool} (ha : Ev ta σ H x) (hb : Ev tb σ H y) (h : RV r x y H (.bl b)) : EvT (tTest (tOp r ta tb)) σ H b := et_test (ev_op ha hb h)
theorem et_notN (h : Ev ta σ H x) : EvT (tB (tNotN ta)) σ H (!decide (x = .non)) := et_B (ev_notN h)
theorem et_isN (h : Ev ta σ H x) : EvT (tB (tIsN ta)) σ H (decide (x = .non)) := et_B (ev_isN h)
/-- a list of so many equal items -/
theorem flat_one (n : Nat) (x : V) : (List.replicate n [x]).flatten = List.replicate n x := by
  induction n with
  | zero => rfl
  | succ n ih => rw [List.replicate_succ, List.flatten_cons, ih]; rfl
theorem el_rep {n : Nat} (h : EvL ta σ H [x]) (hb : ∀ H1, Ex H H1 → Ev tb σ H1 (nV n)) (hn : n ≤ 100000) : EvL (tOp rRep ta tb) σ H (List.replicate n x) := fun H1 e Q q =>
  h H1 e _ fun p H2 hp e2 h2 => hb H2 (e.trans e2) H2 (Ex.refl H2) _ fun H3 e3 => ⟨p, (n : Int), [x], rfl, rfl, e3 _ _ h2, by omega, by omega, by
    rw [Int.toNat_natCast]
    exact sz_of (by simpa using hn), fun l hl => by
    rw [Int.toNat_natCast, flat_one]
    exact q l _ (fresh_back (e2.trans e3) hl) ((e2.trans e3).trans (Ex.new hl)) upd_same⟩
end
end Sg

set_option maxHeartbeats 4000000
/-! rules of our own: enumerate over a tuple -/
namespace Sg
open PySem PySem.Spec PyProof.Rows L2 Evl
set_option maxHeartbeats 1000000 in
theorem enum_newT (t0 : Addr) (items : Array Value) :
    Meets (Builtin.«enumerate.__new__» ⟨[.type "enumerate", .ref t0], []⟩) (fun _ R s => s.heap.IsTuple t0 items ∧
      R (.ok (.ret (.ref (s.heap.push { cls := .type "tuple_iterator", data := .fields #[.ref t0, .int 0 0] }).objs.size)))
        { s with heap := (s.heap.push { cls := .type "tuple_iterator", data := .fields #[.ref t0, .int 0 0] }).push { cls := .type "enumerate", data := .fields #[.none, .bool false, .ref s.heap.objs.size, rawInt 0, .none, .none] } }) :=
  .of_wp fun prog w A R s h => by
    obtain ⟨hp, g, d, tk, os⟩ := s
    obtain ⟨hT, h⟩ := h
    have hT : hp.IsTuple t0 items := hT
    have hsub := sub_enumerate
    have it1 : ∀ {A' : Around} {E : Value → Shared → Prop} {Q : Value → Shared → Prop}, Q (.ref hp.objs.size) ⟨hp.push { cls := .type "tuple_iterator", data := .fields #[.ref t0, .int 0 0] }, g, d, tk, os⟩ → wpAny (model prog w) A' (pyIter (.ref t0)) Q E ⟨hp, g, d, tk, os⟩ :=
      fun q => wpAny_pyIter_tuple (s := ⟨hp, g, d, tk, os⟩) hT q
    obtain ⟨⟨oc, od, odt, osl⟩, e1, e2, n, e3⟩ := id hT
    simp only at e2 e3
    subst e2 e3
    wp_walk using it1
    refine wpAny_stack_any fun st => wpAny_pure ?_
    split
    · rename_i c _ _ _ _ _
      cases (c == Value.type "enumerate") <;> (wp_walk using it1; exact ⟨_, rfl, h⟩)
    · wp_walk using it1
      exact ⟨_, rfl, h⟩
theorem call_enumT {prog : Program} {w : World} {A : Around} {E : Value → Shared → Prop} {s : Shared} {l : Addr} {items : Array Value} {Q : Value → Shared → Prop} (hL : s.heap.IsTuple l items)
    (h : ∀ h', IsEnum h' (s.heap.objs.size + 1) s.heap.objs.size 0 .none → h'.IsTupleIter s.heap.objs.size l 0 → (∀ b o, s.heap.get? b = some o → h'.get? b = some o) → Q (.ref (s.heap.objs.size + 1)) { s with heap := h' }) :
    wpAny (model prog w) A (call (.type "enumerate") [.ref l]) Q E s := by
  refine callType_new F.called_enumerate (by decide) (F.typeCall_enumerate_1 _) (F.newCall_enumerate_1 _) (fun obj => F.args_object_init_2 obj _) F.entry_enumerate_new (enum_newT l items) ⟨hL, ?_⟩
  have e1 : (s.heap.push { cls := .type "tuple_iterator", data := .fields #[.ref l, .int 0 0] }).objs.size = s.heap.objs.size + 1 := Heap.size_push ..
  show _ ∧ _
  rw [e1]
  have e2 := Heap.get?_push_size (s.heap.push { cls := .type "tuple_iterator", data := .fields #[.ref l, .int 0 0] }) (o := { cls := .type "enumerate", data := .fields #[.none, .bool false, .ref s.heap.objs.size, rawInt 0, .none, .none] }) rfl
  rw [e1] at e2
  exact ⟨⟨_, e2, rfl⟩, h _ e2 ⟨_, Heap.get?_push_of_some _ (Heap.get?_push_size _ rfl), rfl, rfl⟩ fun b o x => Heap.get?_push_of_some _ (Heap.get?_push_of_some _ x)⟩
/-- the items of the tuple at a, each in a new pair with its place -/
def Itet (K : PySem.W.Frag) (a : Addr) : It :=
  ⟨fun i H => ∃ (xs : List V) (x : V), SqT K H a xs ∧ xs[i]? = some x, fun i H v H' => ∃ q x, v = .ref q ∧ H q = none ∧ H' = upd H q (.tup [.int (i : Nat), x]) ∧ ∀ xs, SqT K H a xs → xs[i]? = some x, fun i H => ∃ xs : List V, SqT K H a xs ∧ xs.length = i⟩
theorem turn_enumT {P : Program} {w : World} {K : PySem.W.Frag} {elts : List Expr} {kk : Nat} {tpos : Pos} (a e it : Addr) (hai : a ≠ it) (hae : e ≠ a) :
    Turn P w K (.Tuple elts kk tpos) (Itet K a) [e, it] e (fun i h => (∃ old, IsEnum h e it ((i : Nat) : Int) old) ∧ h.IsTupleIter it a i ∧ e ≠ it) where
  mem := List.mem_cons_self
  obj := fun i h st b hb => by
    obtain ⟨⟨old, x1⟩, ⟨o, x2, x3, x4⟩, _⟩ := st
    simp only [List.mem_cons, List.not_mem_nil, or_false] at hb
    rcases hb with z | z <;> rw [z]
    · exact ⟨_, x1, fun v q => nomatch q⟩
    · exact ⟨o, x2, fun v q => by rw [x4] at q; cases q⟩
  keep := fun i h h' st k => let ⟨⟨old, x1⟩, x2, x3⟩ := st; ⟨⟨old, k e List.mem_cons_self _ x1⟩, x2.at fun o q => k it (List.mem_cons_of_mem _ List.mem_cons_self) o q, x3⟩
  item := by
    intro X hP hw hK hc i pins s σ H E I hf st hg
    subst hP hw hK
    obtain ⟨⟨old, x1⟩, x2, x3⟩ := st
    obtain ⟨xs, x, hq, hx⟩ := hg
    obtain ⟨its, rv, tp, sz⟩ := I.tuple hq
    obtain ⟨u, hu, ru⟩ := rv.get hx
    have hel : e < s.heap.objs.size := Heap.lt_size x1
    have hil : it < s.heap.objs.size := by
      obtain ⟨_, q, _⟩ := x2
      exact Heap.lt_size q
    have hlt : i < its.toArray.size := by
      rw [List.size_toArray]
      exact (List.getElem?_eq_some_iff.mp hu).1
    refine wpAny_pyNext_enum_itemC (Draws.tuple (A := X.A.in1) (show X.A.in1.handled = none from I.ok.hd hc) it a hai its.toArray) x1 ⟨x2, tp⟩ hlt x3 (by simp only [List.mem_cons, List.not_mem_nil, or_false, not_or]; exact ⟨x3, hae⟩) fun y h' tk hy ho hst hT hsz hk => ?_
    have ey : y = u := by
      have hy : its.toArray[i]? = some y := hy
      rw [List.getElem?_toArray, hu] at hy
      exact (Option.some.inj hy).symm
    subst ey
    refine ⟨_, rfl, wpAny_letOwnedTupleGo_enum (s := { s with heap := h', toks := tk + 1 }) ho fun h2 he' sb => ?_⟩
    have hT2 : h2.get? s.heap.objs.size = some { cls := .type "tuple", data := .seq #[.int (i : Nat) tk, y] } := (sb.2 _ (Nat.ne_of_gt hel)).trans hT
    have new : ObjOk X.prog X.w (upd H s.heap.objs.size (.tup [.int (i : Nat), x])) h2 s.heap.objs.size (.tup [.int (i : Nat), x]) :=
      ⟨Nat.le_of_ble_eq_true rfl, [.int (i : Nat) tk, y], .cons ⟨_, rfl⟩ (.cons ru .nil), ⟨_, hT2, rfl, _, rfl⟩⟩
    have I1 : Inv X pins σ (upd H s.heap.objs.size (.tup [.int (i : Nat), x])) { s with heap := h2, toks := tk + 1 } :=
      I.turnedNew (ch := [e, it]) (fun b ob hb q => (sb.2 b (fun z => hb (by rw [z]; exact List.mem_cons_self))).trans (hk b ob (fun z => hb (by rw [z]; exact List.mem_cons_self)) (fun z => hb (by rw [z]; simp)) q)) hf (Nat.le_refl _) new
    refine ⟨.ref s.heap.objs.size, _, I1, rfl, ⟨_, x, rfl, I.hok.fresh (Nat.le_refl _), rfl, fun ys hy => by rw [I.tuple_inj hy hq]; exact hx⟩, ⟨⟨y, ?_⟩, hst.1.at fun o q => (sb.2 it (Ne.symm x3)).trans q, x3⟩, fun b hb => ?_⟩
    · rw [show ((i + 1 : Nat) : Int) = (i : Int) + 1 by omega]
      exact he'
    · have hlb : b < s.heap.objs.size := by
        simp only [List.mem_cons, List.not_mem_nil, or_false] at hb
        rcases hb with z | z <;> rw [z]
        · exact hel
        · exact hil
      rw [upd_ne (Nat.ne_of_lt hlb)]
      exact (hf b hb).1
  done := by
    intro X hP hw hK hc i pins s σ H E I hf st hg
    subst hP hw hK
    obtain ⟨⟨old, x1⟩, x2, x3⟩ := st
    obtain ⟨xs, hq, hx⟩ := hg
    obtain ⟨its, rv, tp, sz⟩ := I.tuple hq
    obtain ⟨f0, f1, f2, f3, f4, f5⟩ := hf it (List.mem_cons_of_mem _ List.mem_cons_self)
    have en : its.toArray.size = i := by rw [List.size_toArray, ← rv.length, hx]
    refine wpAny_pyNext_enum_endD (Draws.tuple (A := X.A.in1) (show X.A.in1.handled = none from I.ok.hd hc) it a hai its.toArray) x1 ⟨by rw [en]; exact x2, tp⟩ fun h' eb => ⟨rfl, I.turned (t' := s.toks) (fun b o hb q => eb b o hb q) f0 f1 f3 f4 f5⟩
  self := fun A i s Q E st h => let ⟨⟨_, x1⟩, _⟩ := st; wpAny_pyIter_enum x1 h
def iEnumT (K : PySem.W.Frag) (ta : TA) : TI := fun σ H R => ta σ H fun vs H1 => ∃ a xs, vs = [.ref a] ∧ SqT K H1 a xs ∧ R (Itet K a) H1
theorem pi_enumT {X : Cx} {e : Expr} {ta : TA} {p pos tpos : Pos} {elts : List Expr} {kk : Nat} (hg : Gl X "enumerate") (hm : X.mg "enumerate" = none) (ha : PA X [e] ta) (hs : starEach [e] X.env = [(false, eval e X.env)] := by rfl) :
    PI X (.Tuple elts kk tpos) (.Call (.Name "enumerate" p) [e] [] pos) (iEnumT X.K ta) := by
  refine ⟨fun pins s σ H R I h => ?_⟩
  refine Call_ (ld_blt I hg hm boot_enumerate (PyProof.Rows.callWith_type1 (thn (ha.run pos pins s σ H _ I h) fun us s1 ⟨vs, H1, I1, r1, a, xs, ex, hq, q⟩ => ?_) hs rfl))
  subst ex
  obtain ⟨u, rfl, ru⟩ := vals1 r1
  cases ru
  obtain ⟨its, rv, tp, sz⟩ := I1.tuple hq
  have hal : a < s1.heap.objs.size := by
    obtain ⟨o, e1, _⟩ := tp
    exact Heap.lt_size e1
  refine call_enumT tp fun h' x1 x2 hk => wpAny_pyIter_enum x1 ?_
  have I2 : Inv X pins σ H1 { s1 with heap := h' } := I1.kept (t' := s1.toks) hk
  refine ⟨s1.heap.objs.size + 1, [s1.heap.objs.size + 1, s1.heap.objs.size], _, _, H1, rfl, I2, turn_enumT a (s1.heap.objs.size + 1) s1.heap.objs.size (Nat.ne_of_lt hal) (Nat.ne_of_gt (Nat.lt_succ_of_lt hal)), ⟨⟨.none, x1⟩, x2, Nat.succ_ne_self _⟩, fun b hb => ?_, q⟩
  have hle : s1.heap.objs.size ≤ b := by
    simp only [List.mem_cons, List.not_mem_nil, or_false] at hb
    rcases hb with z | z <;> rw [z]
    · exact Nat.le_add_right _ _
    · exact Nat.le_refl _
  exact I1.fpOk hle (I1.hok.fresh hle)
/-- a for over enumerate(a tuple), by one word a turn: the place and the item go to two names -/
theorem for_enumT {K : PySem.W.Frag} {a : Addr} {xs : List V} {g : TG} {tb : L2.TS} {D : Ends} {σ : L2.St} {H : Hp} (Pv : Nat → L2.St → Hp → Prop) (h0 : Pv 0 σ H) (hl : ∀ i σ H, i ≤ xs.length → Pv i σ H → SqT K H a xs)
    (hs : ∀ (i : Nat) x σ H q, xs[i]? = some x → Pv i σ H → H q = none → g (.ref q) σ (upd H q (.tup [.int (i : Nat), x])) fun σ2 H2 => tb { D with nx := Pv (i + 1), ct := Pv (i + 1), bk := D.nx } σ2 H2) (hd : ∀ σ H, Pv xs.length σ H → D.nx σ H) :
    ∃ W : Nat → Nat → L2.St → Hp → Prop, (∃ m, W 0 m σ H) ∧ ∀ i m σ H, W i m σ H →
      ((Itet K a).stop i H ∧ D.nx σ H) ∨ ((Itet K a).go i H ∧ ∃ N : L2.St → Hp → Prop, (∀ σ' H', N σ' H' → ∃ m', m' < m ∧ W (i + 1) m' σ' H') ∧ ∀ x H', (Itet K a).yld i H x H' → g x σ H' fun σ2 H2 => tb { D with nx := N, ct := N, bk := D.nx } σ2 H2) := by
  refine ⟨fun i m σ H => m = xs.length - i ∧ i ≤ xs.length ∧ Pv i σ H, ⟨xs.length, by simp, Nat.zero_le _, h0⟩, ?_⟩
  rintro i m σ H ⟨rfl, hi, p⟩
  have q := hl i σ H hi p
  by_cases hlt : i < xs.length
  · refine .inr ⟨⟨xs, xs[i], q, List.getElem?_eq_getElem hlt⟩, Pv (i + 1), fun σ' H' p' => ⟨xs.length - (i + 1), by omega, rfl, hlt, p'⟩, ?_⟩
    rintro x H' ⟨r, y, rfl, hr, rfl, hy⟩
    exact hs i y σ H r (hy xs q) p hr
  · have e : i = xs.length := by omega
    refine .inl ⟨⟨xs, q, e.symm⟩, hd σ H ?_⟩
    rw [← e]
    exact p
/-- the same over enumerate(a list) -/
theorem for_enumL {K : PySem.W.Frag} {a : Addr} {xs : List V} {g : TG} {tb : L2.TS} {D : Ends} {σ : L2.St} {H : Hp} (Pv : Nat → L2.St → Hp → Prop) (h0 : Pv 0 σ H) (hl : ∀ i σ H, i ≤ xs.length → Pv i σ H → SqL K H a xs)
    (hs : ∀ (i : Nat) x σ H q, xs[i]? = some x → Pv i σ H → H q = none → g (.ref q) σ (upd H q (.tup [.int (i : Nat), x])) fun σ2 H2 => tb { D with nx := Pv (i + 1), ct := Pv (i + 1), bk := D.nx } σ2 H2) (hd : ∀ σ H, Pv xs.length σ H → D.nx σ H) :
    ∃ W : Nat → Nat → L2.St → Hp → Prop, (∃ m, W 0 m σ H) ∧ ∀ i m σ H, W i m σ H →
      ((Ite K a).stop i H ∧ D.nx σ H) ∨ ((Ite K a).go i H ∧ ∃ N : L2.St → Hp → Prop, (∀ σ' H', N σ' H' → ∃ m', m' < m ∧ W (i + 1) m' σ' H') ∧ ∀ x H', (Ite K a).yld i H x H' → g x σ H' fun σ2 H2 => tb { D with nx := N, ct := N, bk := D.nx } σ2 H2) := by
  refine ⟨fun i m σ H => m = xs.length - i ∧ i ≤ xs.length ∧ Pv i σ H, ⟨xs.length, by simp, Nat.zero_le _, h0⟩, ?_⟩
  rintro i m σ H ⟨rfl, hi, p⟩
  have q := hl i σ H hi p
  by_cases hlt : i < xs.length
  · refine .inr ⟨⟨xs, xs[i], q, List.getElem?_eq_getElem hlt⟩, Pv (i + 1), fun σ' H' p' => ⟨xs.length - (i + 1), by omega, rfl, hlt, p'⟩, ?_⟩
    rintro x H' ⟨r, y, rfl, hr, rfl, hy⟩
    exact hs i y σ H r (hy xs q) p hr
  · have e : i = xs.length := by omega
    refine .inl ⟨⟨xs, q, by omega⟩, hd σ H ?_⟩
    rw [← e]
    exact p
end Sg

set_option maxHeartbeats 4000000
/-! readings of loops and comprehensions over enumerate -/
namespace Sg
open PySem PySem.Spec PyProof.Rows L2 Evl
section
variable {K : PySem.W.Frag} {σ : L2.St} {H H' : Hp} {ta tb te tx : TE} {t u : TT} {x y z v : V} {r : R2} {D : Ends} {tu tw tz : L2.TS} {tA : TA} {vs : List V} {g : TG}
theorem g_pair {i j : Nat} {q : Addr} {Q : L2.St → Hp → Prop} (h : H q = some (.tup [x, y])) (k : Q ((σ.set i (some x)).set j (some y)) H) : gTup K 2 (gCons (gName i) (gCons (gName j) gNil)) (.ref q) σ H Q :=
  ⟨q, _, rfl, SqT.of h, rfl, x, _, rfl, y, _, rfl, rfl, k⟩
theorem q_forET {a : Addr} {xs : List V} (h : EvA tA σ H [.ref a]) (hx : SqT K H a xs) (Pv : Nat → L2.St → Hp → Prop) (h0 : ∀ H1, Ex H H1 → Pv 0 σ H1) (hl : ∀ i σ' H', i ≤ xs.length → Pv i σ' H' → SqT K H' a xs)
    (hs : ∀ (i : Nat) x σ' H' q, xs[i]? = some x → Pv i σ' H' → H' q = none → g (.ref q) σ' (upd H' q (.tup [.int (i : Nat), x])) fun σ2 H2 => tu { D with nx := Pv (i + 1), ct := Pv (i + 1), bk := tz D } σ2 H2) (hd : ∀ σ' H', Pv xs.length σ' H' → tz D σ' H') : tSeq (tFor (iEnumT K tA) g tu) tz D σ H :=
  h H (Ex.refl H) _ fun H1 e => ⟨a, xs, rfl, ex_t e hx, for_enumT (D := { D with nx := tz D }) Pv (h0 H1 e) hl hs hd⟩
theorem q_forEL {a : Addr} {xs : List V} (h : EvA tA σ H [.ref a]) (hx : SqL K H a xs) (Pv : Nat → L2.St → Hp → Prop) (h0 : ∀ H1, Ex H H1 → Pv 0 σ H1) (hl : ∀ i σ' H', i ≤ xs.length → Pv i σ' H' → SqL K H' a xs)
    (hs : ∀ (i : Nat) x σ' H' q, xs[i]? = some x → Pv i σ' H' → H' q = none → g (.ref q) σ' (upd H' q (.tup [.int (i : Nat), x])) fun σ2 H2 => tu { D with nx := Pv (i + 1), ct := Pv (i + 1), bk := tz D } σ2 H2) (hd : ∀ σ' H', Pv xs.length σ' H' → tz D σ' H') : tSeq (tFor (iEnum K tA) g tu) tz D σ H :=
  h H (Ex.refl H) _ fun H1 e => ⟨a, xs, rfl, ex_l e hx, for_enumL (D := { D with nx := tz D }) Pv (h0 H1 e) hl hs hd⟩
theorem lc_enumL {a : Addr} {xs : List V} {ws : List Nat} {H1 : Hp} {Dl : Addr} {Qd : Hp → Prop} (Pv : Nat → Hp → Prop) (h0 : Pv 0 (upd H1 Dl (.lst []))) (hl : ∀ i H, i ≤ xs.length → Pv i H → SqL K H a xs)
    (hs : ∀ (i : Nat) x H q, xs[i]? = some x → Pv i H → H q = none → g (.ref q) (wipe σ ws) (upd H q (.tup [.int (i : Nat), x])) fun σ2 H2 => wipe σ2 ws = wipe σ ws ∧ t σ2 H2 fun b H3 =>
      if b = true then te σ2 H3 fun y H4 => ∃ acc, H4 Dl = some (.lst acc) ∧ acc.length < sizeLine ∧ Pv (i + 1) (upd H4 Dl (.lst (acc ++ [y]))) else Pv (i + 1) H3) (hd : ∀ H, Pv xs.length H → Qd H) :
    ∃ W : Nat → Nat → Hp → Prop, (∃ m, W 0 m (upd H1 Dl (.lst []))) ∧ ∀ i m H, W i m H →
      ((Ite K a).stop i H ∧ Qd H) ∨ ((Ite K a).go i H ∧ ∃ Nx : Hp → Prop, (∀ H', Nx H' → ∃ m', m' < m ∧ W (i + 1) m' H') ∧ ∀ x H', (Ite K a).yld i H x H' → g x (wipe σ ws) H' fun σ2 H2 => wipe σ2 ws = wipe σ ws ∧ t σ2 H2 fun b H3 =>
        if b = true then te σ2 H3 fun y H4 => ∃ acc, H4 Dl = some (.lst acc) ∧ acc.length < sizeLine ∧ Nx (upd H4 Dl (.lst (acc ++ [y]))) else Nx H3) := by
  refine ⟨fun i m H => m = xs.length - i ∧ i ≤ xs.length ∧ Pv i H, ⟨xs.length, by simp, Nat.zero_le _, h0⟩, ?_⟩
  rintro i m H ⟨rfl, hi, p⟩
  have q := hl i H hi p
  by_cases hlt : i < xs.length
  · refine .inr ⟨⟨xs, xs[i], q, List.getElem?_eq_getElem hlt⟩, Pv (i + 1), fun H' p' => ⟨xs.length - (i + 1), by omega, rfl, hlt, p'⟩, ?_⟩
    rintro x H' ⟨r, y, rfl, hr, rfl, hy⟩
    exact hs i y H r (hy xs q) p hr
  · have e : i = xs.length := by omega
    refine .inl ⟨⟨xs, q, by omega⟩, hd H ?_⟩
    rw [← e]
    exact p
/-- [e for i, x in enumerate(xs) (if t)] -/
theorem el_lcE {a : Addr} {xs : List V} {i j : Nat} {ws : List Nat} (f : Nat → Bool) (fv : Nat → V) (h : EvA tA σ H [.ref a]) (hx : SqL K H a xs) (hz : xs.length ≤ 40000) (hw : ∀ x y, wipe (((wipe σ ws).set i (some x)).set j (some y)) ws = wipe σ ws)
    (ht : ∀ (k : Nat) (x : V) H1, Ex H H1 → xs[k]? = some x → EvT t (((wipe σ ws).set i (some (V.int (k : Int)))).set j (some x)) H1 (f k)) (he : ∀ (k : Nat) (x : V) H1, Ex H H1 → xs[k]? = some x → f k = true → Ev te (((wipe σ ws).set i (some (V.int (k : Int)))).set j (some x)) H1 (fv k)) :
    EvL (tLc (iEnum K tA) (gTup K 2 (gCons (gName i) (gCons (gName j) gNil))) t te ws) σ H (given xs.length f fv) := fun H0 e Q q => h H0 e _ fun H1 e1 => ⟨a, xs, rfl, ex_l (e.trans e1) hx, fun Dl hD =>
  lc_enumL (xs := xs) (Cw H1 f fv Dl) ⟨hD, Ex.new hD, upd_same⟩ (fun k H' _ p => ex_l ((e.trans e1).trans p.2.1) hx) (fun k x H' q2 hk p hq => g_pair upd_same ⟨hw _ _, cw_turn (p := ⟨p.1, p.2.1.trans (Ex.new hq), by
      rw [upd_ne (ne_of_none p.2.2 hq)]
      exact p.2.2⟩) (by have := (List.getElem?_eq_some_iff.mp hk).1; omega) (ht k x H1 (e.trans e1) hk) (fun hf => he k x H1 (e.trans e1) hk hf)⟩)
    (fun H' p => q Dl H' (fresh_back e1 p.1) (e1.trans p.2.1) p.2.2)⟩
theorem et_yes : EvT tYes σ H true := fun H1 _ _ q => q H1 (Ex.refl H1)
theorem given_all {n : Nat} {fv : Nat → V} : given n (fun _ => true) fv = (List.range n).map fv := by
  unfold given
  rw [List.filter_eq_self.mpr fun _ _ => rfl]
end
end Sg

set_option maxHeartbeats 4000000
namespace Sg
open PySem PySem.Spec PyProof.Rows L2 Evl
section
variable {P : Program} {w : World} {K : PySem.W.Frag} {mg : Str → Option Value} {base : Heap}
/-! ### is_payload -/
def spIsPay : Sp := fun vs H Q _ => ∃ x, vs = [x] ∧ ((x = .non ∧ RetV (.bl false) H Q) ∨ ∃ a k s r b, x = .ref a ∧ H a = some (.tup [.int k, s, r, b]) ∧ RetV (.bl (inV (.int k) [.int 3, .int 4])) H Q)
theorem sc_is_payload : FnScope ["block"] ["block"] (defScope s_is_payload) := ⟨rfl, rfl, rfl, by decide +kernel, rfl, by decide +kernel, by decide +kernel⟩
theorem ok_is_payload (T : Ctx K mg base) : Okd P w K mg base 1 (He.ga K "is_payload") ["block"] spIsPay := by
  obtain ⟨fd, F⟩ := T.def_is_payload
  have b : Binds K fd ["block"] [] := FunD.bindsN F fun _ _ _ _ _ _ us hl => match us, hl with | [_], _ => rfl
  refine ⟨fd, FunD.ok F sc_is_payload (fun vs H Q E h => ?_) (fun cdv A outer s H vs Q E hr h => ?_), b, F.kp⟩
  · obtain ⟨x, rfl, _⟩ := h
    rfl
  · obtain ⟨x, rfl, h⟩ := h
    obtain ⟨t3, h3⟩ := T.int_DATA
    obtain ⟨t4, h4⟩ := T.int_NODE
    refine ⟨_, pss_one (ps_ret (pe_and (pe_cmp (pc_notN (pv 0)) rfl) (pe_one (pe_cmpR op_in_seq (pe_ix ix_tup (pv 0) pe_int (fun _ _ => rfl)) (pe_tup (pa_cons (pe_glob (v := .int 3) rfl h3 ⟨_, rfl⟩) (pa_cons (pe_glob (v := .int 4) rfl h4 ⟨_, rfl⟩) pa_nil))) rfl)))), ?_⟩
    rcases h with ⟨rfl, k⟩ | ⟨a, n, s', r, b', rfl, ha, k⟩
    · refine s_ret (ev_andV (a := false) (b := false) (ev_is (ev_notN (ev_var rfl)) rfl) (fun z => absurd z (by decide))) k
    · refine s_ret (ev_is (ev_andV (a := true) (ev_is (ev_notN (ev_var rfl)) rfl) (fun _ => ev_inU (ev_op (ev_var rfl) ev_c (rv_ixT (Or.inl (Or.inl ha)) rfl)) (eu_tup (ea_cons ev_c (ea_cons ev_c ea_nil)) (by decide)) rfl rfl)) rfl) k
def isPay : Option Blk → Bool
  | some (.pay _ _ _) => true
  | _ => false
theorem spIsPay_of {H : Hp} {v : V} {ob : Option Blk} {Q : VK} {E : XK} (h : OBlk H v ob) (k : RetV (.bl (isPay ob)) H Q) : spIsPay [v] H Q E := by
  cases ob with
  | none => exact ⟨v, rfl, .inl ⟨h, k⟩⟩
  | some b =>
    cases b with
    | com s i u a => obtain ⟨x, y, q1, q2, q3⟩ := h; exact ⟨v, rfl, .inr ⟨x, _, _, _, _, q1, q2, k⟩⟩
    | mov s a => obtain ⟨x, y, q1, q2, q3⟩ := h; exact ⟨v, rfl, .inr ⟨x, _, _, _, _, q1, q2, k⟩⟩
    | part s r p => obtain ⟨x, y, q1, q2, q3⟩ := h; exact ⟨v, rfl, .inr ⟨x, _, _, _, _, q1, q2, k⟩⟩
    | pay s r p =>
      obtain ⟨x, y, q1, q2, q3⟩ := h
      refine ⟨v, rfl, .inr ⟨x, _, _, _, _, q1, q2, ?_⟩⟩
      have : inV (.int (p.kind : Int)) [.int 3, .int 4] = true := by
        unfold PayD.kind
        split <;> rfl
      rw [this]
      exact k
/-! ### payload_of -/
def spPayOf : Sp := fun vs H Q _ => ∃ x ob, vs = [x] ∧ OBlk H x ob ∧ RetP (fun v H2 => OPay H2 v (payOf ob)) H Q
abbrev nm_payload_of : List Str := ["block"]
theorem sc_payload_of : FnScope nm_payload_of ["block"] (defScope s_payload_of) := ⟨rfl, rfl, rfl, by decide +kernel, rfl, by decide +kernel, by decide +kernel⟩
theorem ok_payload_of (T : Ctx K mg base) : Okd P w K mg base 2 (He.ga K "payload_of") ["block"] spPayOf := by
  obtain ⟨fd, F⟩ := T.def_payload_of
  have b : Binds K fd ["block"] [] := FunD.bindsN F fun _ _ _ _ _ _ us hl => match us, hl with | [_], _ => rfl
  obtain ⟨fd1, G_is_payload, b_is_payload, k_is_payload⟩ := ok_is_payload (P := P) (w := w) T
  refine ⟨fd, FunD.ok F sc_payload_of (fun vs H Q E h => ?_) (fun cdv A outer s H vs Q E hr h => ?_), b, F.kp⟩
  · obtain ⟨x, ob, rfl, _⟩ := h
    rfl
  · obtain ⟨x, ob, rfl, ho, k⟩ := h
    refine ⟨_, (pss_cons (ps_if (pt_val (pe_call G_is_payload (hr.mono (by decide)) rfl T.glo_is_payload k_is_payload b_is_payload .nil pass0 (pa_cons (pv 0) pa_nil))) (pss_one (ps_ret (pe_tup (pa_cons (pe_ix ix_tup (pv 0) pe_int (fun _ _ => rfl)) (pa_cons (pe_ix ix_tup (pv 0) pe_int (fun _ _ => rfl)) pa_nil))))) pss_nil)
      (pss_one (ps_ret pe_non))), ?_⟩
    have ht : Ev (tCall spIsPay [] E0 (tCons (tVar 0) tNil)) (start nm_payload_of [x]) H (.bl (isPay ob)) := ev_callV (ea_cons (ev_var rfl) ea_nil) fun H1 e1 Q1 E1 q => spIsPay_of (ho.mono (Ex.tx e1)) q
    refine q_when (et_val ht) (fun hb H1 e1 => ?_) (fun hb H1 e1 => ?_)
    · cases ob with
      | none => cases hb
      | some bl =>
        cases bl with
        | pay sq r p =>
          obtain ⟨a, bd, rfl, h1, h2⟩ := ho
          refine s_retP (EvU.p (P := fun v H2 => OPay H2 v (payOf (some (.pay sq r p)))) (eu_tup (ea_cons (ev_op (ev_var rfl) ev_c (rv_ixT (Or.inl (Or.inl (e1 _ _ h1))) rfl)) (ea_cons (ev_op (ev_var rfl) ev_c (rv_ixT (Or.inl (Or.inl (e1 _ _ h1))) rfl)) ea_nil)) (Nat.le_of_ble_eq_true rfl)) fun q H2 _ e2 h3 => ?_) (RetP.at k e1)
          exact ⟨q, bd, rfl, h3, e2 _ _ (e1 _ _ h2)⟩
        | _ => cases hb
    · refine s_retP (Ev.p (P := fun v H2 => OPay H2 v (payOf ob)) ev_c fun H2 e2 => ?_) (RetP.at k e1)
      cases ob with
      | none => rfl
      | some bl =>
        cases bl with
        | pay sq r p => cases hb
        | _ => rfl
/-! ### stamped -/
def spStamped : Sp := fun vs H Q _ => ∃ (x : V) (p : PayD) (sq r : Nat), vs = [x, nV sq, nV r] ∧ PayAt H x p ∧ RetP (fun v H2 => BlkAt H2 v (.pay sq r p)) H Q
abbrev nm_stamped : List Str := ["payload", "sequence", "rank"]
theorem sc_stamped : FnScope nm_stamped ["payload", "sequence", "rank"] (defScope s_stamped) := ⟨rfl, rfl, rfl, by decide +kernel, rfl, by decide +kernel, by decide +kernel⟩
theorem ok_stamped (T : Ctx K mg base) : Okd P w K mg base 1 (He.ga K "stamped") ["payload", "sequence", "rank"] spStamped := by
  obtain ⟨fd, F⟩ := T.def_stamped
  have b : Binds K fd ["payload", "sequence", "rank"] [] := FunD.bindsN F fun _ _ _ _ _ _ us hl => match us, hl with | [_, _, _], _ => rfl
  refine ⟨fd, FunD.ok F sc_stamped (fun vs H Q E h => ?_) (fun cdv A outer s H vs Q E hr h => ?_), b, F.kp⟩
  · obtain ⟨x, p, sq, r, rfl, _⟩ := h
    rfl
  · obtain ⟨x, p, sq, r, rfl, ⟨a, bd, rfl, h1, h2⟩, k⟩ := h
    refine ⟨_, (pss_one (ps_ret (pe_tup (pa_cons (pe_ix ix_tup (pv 0) pe_int (fun _ _ => rfl)) (pa_cons (pv 1) (pa_cons (pv 2) (pa_cons (pe_ix ix_tup (pv 0) pe_int (fun _ _ => rfl)) pa_nil))))))), ?_⟩
    refine s_retP (EvU.p (P := fun v H2 => BlkAt H2 v (.pay sq r p)) (eu_tup (ea_cons (ev_op (ev_var rfl) ev_c (rv_ixT (Or.inl (Or.inl h1)) rfl)) (ea_cons (ev_var rfl) (ea_cons (ev_var rfl) (ea_cons (ev_op (ev_var rfl) ev_c (rv_ixT (Or.inl (Or.inl h1)) rfl)) ea_nil)))) (Nat.le_of_ble_eq_true rfl)) fun q H2 _ e2 h3 => ?_) k
    exact ⟨q, bd, rfl, h3, e2 _ _ h2⟩
/-! ### parts_of -/
def spParts : Sp := fun vs H Q _ => ∃ n s : Nat, vs = [nV n, nV s] ∧ 0 < s ∧ s < 1000000 ∧ RetV (nV ((n + s - 1) / s)) H Q
abbrev nm_parts_of : List Str := ["number", "size"]
theorem sc_parts_of : FnScope nm_parts_of ["number", "size"] (defScope s_parts_of) := ⟨rfl, rfl, rfl, by decide +kernel, rfl, by decide +kernel, by decide +kernel⟩
theorem ok_parts_of (T : Ctx K mg base) : Okd P w K mg base 1 (He.ga K "parts_of") ["number", "size"] spParts := by
  obtain ⟨fd, F⟩ := T.def_parts_of
  have b : Binds K fd ["number", "size"] [] := FunD.bindsN F fun _ _ _ _ _ _ us hl => match us, hl with | [_, _], _ => rfl
  refine ⟨fd, FunD.ok F sc_parts_of (fun vs H Q E h => ?_) (fun cdv A outer s H vs Q E hr h => ?_), b, F.kp⟩
  · obtain ⟨n, s, rfl, _⟩ := h
    rfl
  · obtain ⟨n, s', rfl, h0, h1, k⟩ := h
    refine ⟨_, (pss_one (ps_ret (pe_op op_fdiv (pe_op op_sub (pe_op op_add (pv 0) (pv 1)) pe_int) (pv 1)))), ?_⟩
    refine s_ret (v := nV ((n + s' - 1) / s')) (ev_is (ev_op (ev_op (ev_op (ev_var rfl) (ev_var rfl) rv_I0) ev_c rv_I0) (ev_var rfl) (rv_I ⟨by omega, by omega⟩)) ?_) k
    show V.int (((n : Int) + (s' : Int) - 1) / (s' : Int)) = V.int (((n + s' - 1) / s' : Nat) : Int)
    rw [Int.natCast_ediv]
    congr 2
    omega
/-! ### address_at -/
theorem nv_eq {a : Int} {n : Nat} (h : a = (n : Int)) : V.int a = nV n := by rw [h]
def spAddr (K : PySem.W.Frag) : Sp := fun vs H Q _ => ∃ (a : Addr) (l : Lay) (s p : Nat), vs = [.ref a, nV s, nV p] ∧ LayAt K H a l ∧ s ≤ 100 ∧ RetV (nV (l.adr s p)) H Q
abbrev nm_address_at : List Str := ["layout", "segment", "place"]
theorem sc_address_at : FnScope nm_address_at ["layout", "segment", "place"] (defScope s_address_at) := ⟨rfl, rfl, rfl, by decide +kernel, rfl, by decide +kernel, by decide +kernel⟩
theorem ok_address_at (T : Ctx K mg base) : Okd P w K mg base 1 (He.ga K "address_at") ["layout", "segment", "place"] (spAddr K) := by
  obtain ⟨fd, F⟩ := T.def_address_at
  have b : Binds K fd ["layout", "segment", "place"] [] := FunD.bindsN F fun _ _ _ _ _ _ us hl => match us, hl with | [_, _, _], _ => rfl
  refine ⟨fd, FunD.ok F sc_address_at (fun vs H Q E h => ?_) (fun cdv A outer s H vs Q E hr h => ?_), b, F.kp⟩
  · obtain ⟨a, l, s, p, rfl, _⟩ := h
    rfl
  · obtain ⟨a, l, s', p, rfl, ⟨lo, dx, ha⟩, hs, k⟩ := h
    refine ⟨_, (pss_one (ps_ret (pe_op op_add (pe_op op_add (pe_op op_mul pe_int (pe_fld (pv 0) rfl)) (pe_op op_mul (pv 1) (pe_fld (pv 0) rfl))) (pv 2)))), ?_⟩
    have hrb := ev_fld (K := K) (ta := tVar 0) (σ := start nm_address_at [.ref a, nV s', nV p]) (ev_var rfl) ha T.cls_Layout T.na_Layout_region_blocks (lay_rb l)
    have hsb := ev_fld (K := K) (ta := tVar 0) (σ := start nm_address_at [.ref a, nV s', nV p]) (ev_var rfl) ha T.cls_Layout T.na_Layout_segment_blocks (lay_sb l)
    refine s_ret (v := nV (l.adr s' p)) (ev_is (ev_op (ev_op (ev_op ev_c hrb (rv_I (.inl (by decide)))) (ev_op (ev_var rfl) hsb (rv_I (.inl (by omega)))) rv_I0) (ev_var rfl) rv_I0) (nv_eq ?_)) k
    unfold Lay.adr
    rw [Int.natCast_add, Int.natCast_add, Int.natCast_mul, Int.natCast_mul]
    rfl
/-! ### segment_of -/
def segV (l : Lay) (a : Nat) : V := if a < 2 * l.rb ∨ l.db ≤ a then .non else nV (l.sg a)
def spSeg (K : PySem.W.Frag) : Sp := fun vs H Q _ => ∃ (b : Addr) (l : Lay) (a : Nat), vs = [.ref b, nV a] ∧ LayAt K H b l ∧ RetV (segV l a) H Q
abbrev nm_segment_of : List Str := ["layout", "address", "first"]
theorem sc_segment_of : FnScope nm_segment_of ["layout", "address"] (defScope s_segment_of) := ⟨rfl, rfl, rfl, by decide +kernel, rfl, by decide +kernel, by decide +kernel⟩
theorem ok_segment_of (T : Ctx K mg base) : Okd P w K mg base 1 (He.ga K "segment_of") ["layout", "address"] (spSeg K) := by
  obtain ⟨fd, F⟩ := T.def_segment_of
  have b : Binds K fd ["layout", "address"] [] := FunD.bindsN F fun _ _ _ _ _ _ us hl => match us, hl with | [_, _], _ => rfl
  refine ⟨fd, FunD.ok F sc_segment_of (fun vs H Q E h => ?_) (fun cdv A outer s H vs Q E hr h => ?_), b, F.kp⟩
  · obtain ⟨a, l, n, rfl, _⟩ := h
    rfl
  · obtain ⟨a, l, n, rfl, ⟨lo, dx, ha⟩, k⟩ := h
    refine ⟨_, (pss_cons (ps_set (i := 2) sc_segment_of.nd rfl (Or.inl rfl) (pe_op op_mul pe_int (pe_fld (pv 0) rfl)))
      (pss_cons (ps_if (PW.pt (pw_or (pt_cmpR op_lt (pv 1) (pv 2) (nomark _)) (pw_or1 (pt_cmpR op_ge (pv 1) (pe_fld (pv 0) rfl) (nomark _))))) (pss_one (ps_ret pe_non)) pss_nil)
      (pss_one (ps_ret (pe_op op_fdiv (pe_op op_sub (pv 1) (pv 2)) (pe_fld (pv 0) rfl)))))), ?_⟩
    have f1 := ev_fld (K := K) (ta := tVar 0) (σ := start nm_segment_of [.ref a, nV n]) (ev_var rfl) ha T.cls_Layout T.na_Layout_region_blocks (lay_rb l)
    refine q_asg (ev_op ev_c f1 (rv_I (.inl (by decide)))) fun H1 e1 => ?_
    refine q_when (b := decide (n < 2 * l.rb ∨ l.db ≤ n)) (et_is (et_or (et_cmp (ev_var rfl) (ev_var rfl) rv_I0) fun _ => et_cmp (ev_var rfl) (ev_fld (ev_var rfl) (e1 _ _ ha) T.cls_Layout T.na_Layout_device_blocks (lay_db l)) rv_I0) ?_) (fun hb H2 e2 => ?_) (fun hb H2 e2 => ?_)
    · rw [Bool.eq_iff_iff]
      simp only [Bool.or_eq_true, decide_eq_true_eq]
      omega
    · have hb := of_decide_eq_true hb
      refine s_ret ev_c (RetV.at (v := .non) ?_ (e1.trans e2))
      unfold segV at k
      rw [if_pos hb] at k
      exact k
    · have hb := of_decide_eq_false hb
      have hsb := lo.b1
      have hsb2 := lo.b2
      unfold segV at k
      rw [if_neg hb] at k
      refine s_ret (v := nV (l.sg n)) (ev_is (ev_op (ev_op (ev_var rfl) (ev_var rfl) rv_I0) (ev_fld (ev_var rfl) ((e1.trans e2) _ _ ha) T.cls_Layout T.na_Layout_segment_blocks (lay_sb l)) (rv_I ⟨by omega, by omega⟩)) (nv_eq ?_)) (RetV.at k (e1.trans e2))
      unfold Lay.sg
      rw [Int.natCast_ediv]
      congr 1
      omega
/-! ### region_start -/
def spReg (K : PySem.W.Frag) : Sp := fun vs H Q _ => ∃ (b : Addr) (l : Lay) (r : Nat), vs = [.ref b, nV r] ∧ LayAt K H b l ∧ r ≤ 100 ∧ RetV (nV (r * l.rb)) H Q
abbrev nm_region_start : List Str := ["layout", "region"]
theorem sc_region_start : FnScope nm_region_start ["layout", "region"] (defScope s_region_start) := ⟨rfl, rfl, rfl, by decide +kernel, rfl, by decide +kernel, by decide +kernel⟩
theorem ok_region_start (T : Ctx K mg base) : Okd P w K mg base 1 (He.ga K "region_start") ["layout", "region"] (spReg K) := by
  obtain ⟨fd, F⟩ := T.def_region_start
  have b : Binds K fd ["layout", "region"] [] := FunD.bindsN F fun _ _ _ _ _ _ us hl => match us, hl with | [_, _], _ => rfl
  refine ⟨fd, FunD.ok F sc_region_start (fun vs H Q E h => ?_) (fun cdv A outer s H vs Q E hr h => ?_), b, F.kp⟩
  · obtain ⟨a, l, n, rfl, _⟩ := h
    rfl
  · obtain ⟨a, l, n, rfl, ⟨lo, dx, ha⟩, hn, k⟩ := h
    refine ⟨_, (pss_one (ps_ret (pe_op op_mul (pv 1) (pe_fld (pv 0) rfl)))), ?_⟩
    refine s_ret (v := nV (n * l.rb)) (ev_is (ev_op (ev_var rfl) (ev_fld (ev_var rfl) ha T.cls_Layout T.na_Layout_region_blocks (lay_rb l)) (rv_I (.inl (by omega)))) (nv_eq (Int.natCast_mul _ _).symm)) k
/-! ### empty_table -/
def spEmpty (K : PySem.W.Frag) : Sp := fun vs H Q _ => ∃ b l, vs = [.ref b] ∧ LayAt K H b l ∧ RetL (nL (List.replicate (l.last + 1) 0)) H Q
abbrev nm_empty_table : List Str := ["layout"]
theorem sc_empty_table : FnScope nm_empty_table ["layout"] (defScope s_empty_table) := ⟨rfl, rfl, rfl, by decide +kernel, rfl, by decide +kernel, by decide +kernel⟩
theorem ok_empty_table (T : Ctx K mg base) : Okd P w K mg base 1 (He.ga K "empty_table") ["layout"] (spEmpty K) := by
  obtain ⟨fd, F⟩ := T.def_empty_table
  have b : Binds K fd ["layout"] [] := FunD.bindsN F fun _ _ _ _ _ _ us hl => match us, hl with | [_], _ => rfl
  refine ⟨fd, FunD.ok F sc_empty_table (fun vs H Q E h => ?_) (fun cdv A outer s H vs Q E hr h => ?_), b, F.kp⟩
  · obtain ⟨a, l, rfl, _⟩ := h
    rfl
  · obtain ⟨a, l, rfl, ⟨lo, dx, ha⟩, k⟩ := h
    refine ⟨_, (pss_one (ps_ret (pe_op op_rep (pe_lst (pa_cons pe_int pa_nil)) (pe_op op_add (pe_fld (pv 0) rfl) pe_int)))), ?_⟩
    have hl := lo.last1
    refine s_retL (el_rep (n := l.last + 1) (x := .int 0) (el_lst (ea_cons ev_c ea_nil) (by decide)) (fun H1 e1 => ev_op (ev_fld (ev_var rfl) (e1 _ _ ha) T.cls_Layout T.na_Layout_last_id (lay_last l)) ev_c rv_I0) (by omega)) ?_
    have e : nL (List.replicate (l.last + 1) 0) = List.replicate (l.last + 1) (V.int 0) := List.map_replicate ..
    rw [e] at k
    exact k
end
end Sg

set_option maxHeartbeats 4000000
namespace Sg
open PySem PySem.Spec PyProof.Rows L2 Evl
theorem placeIds_snoc (us : List Nat) (k : Nat) : ∀ (t : List Nat) (s : Nat), placeIds t s (us ++ [k]) = if 0 < k ∧ k < t.length then (placeIds t s us).set k (s + us.length) else placeIds t s us := by
  induction us with
  | nil => intro t s; rfl
  | cons u us ih =>
    intro t s
    show placeIds (if 0 < u ∧ u < t.length then t.set u s else t) (s + 1) (us ++ [k]) = _
    rw [ih]
    have hl : (if 0 < u ∧ u < t.length then t.set u s else t).length = t.length := by
      split
      · exact List.length_set
      · rfl
    rw [hl, List.length_cons, show s + 1 + us.length = s + (us.length + 1) by omega]
    rfl
theorem commitTab_eq (t : List Nat) (start : Nat) (ids used : List Nat) : commitTab t start ids used = (List.range t.length).map fun k => if k ∈ used ∧ 0 < k then (placeIds t start ids).getD k 0 else 0 := by
  simp [commitTab, placeIds_len]
theorem nL_set (t : List Nat) (i v : Nat) : nL (t.set i v) = (nL t).set i (nV v) := List.map_set ..
theorem take_snoc {α : Type} {xs : List α} {i : Nat} {x : α} (h : xs[i]? = some x) : xs.take (i + 1) = xs.take i ++ [x] := by
  rw [List.take_add_one, h]
  rfl
theorem nL_get {t : List Nat} {i : Nat} {x : V} (h : (nL t)[i]? = some x) : ∃ k, t[i]? = some k ∧ x = nV k := by
  rw [List.getElem?_map] at h
  cases e : t[i]? with
  | none =>
    rw [e] at h
    cases h
  | some k =>
    rw [e] at h
    exact ⟨k, rfl, (Option.some.inj h).symm⟩
theorem atI_of {α : Type} {xs : List α} {k : Nat} {x : α} (h : xs[k]? = some x) : atI xs (k : Int) = some x := by
  have hk := (List.getElem?_eq_some_iff.mp h).1
  unfold atI
  rw [ixN_nat hk]
  exact h
section
variable {P : Program} {w : World} {K : PySem.W.Frag} {mg : Str → Option Value} {base : Heap}
/-! ### commit_to_table -/
def spComTab (K : PySem.W.Frag) : Sp := fun vs H Q _ => ∃ (a i u : Addr) (t ids used : List Nat) (start : Nat), vs = [.ref a, nV start, .ref i, .ref u] ∧ H a = some (.lst (nL t)) ∧ t.length ≤ 1000 ∧ SqT K H i (nL ids) ∧ SqT K H u (nL used) ∧ RetL (nL (commitTab t start ids used)) H Q
def inUse (n : Nat) (us : List Nat) : List Bool := (List.range n).map fun k => decide (k ∈ us ∧ 0 < k)
theorem inUse_get {n k : Nat} (us : List Nat) (h : k < n) : (inUse n us)[k]? = some (decide (k ∈ us ∧ 0 < k)) := by
  unfold inUse
  rw [List.getElem?_map, List.getElem?_range h]
  rfl
theorem inUse_snoc (n k : Nat) (us : List Nat) : inUse n (us ++ [k]) = if 0 < k ∧ k < n then (inUse n us).set k true else inUse n us := by
  refine List.ext_getElem? fun j => ?_
  by_cases hj : j < n
  · rw [inUse_get _ hj]
    split
    · rename_i hk
      by_cases e : j = k
      · rw [e, List.getElem?_set_self (by unfold inUse; simp; exact hk.2)]
        congr 1
        exact decide_eq_true ⟨by simp, hk.1⟩
      · rw [List.getElem?_set_ne (fun q => e q.symm), inUse_get _ hj]
        congr 1
        simp [e]
    · rename_i hk
      rw [inUse_get _ hj]
      congr 1
      by_cases e : j = k
      · rw [e] at hj ⊢
        have : ¬ 0 < k := fun q => hk ⟨q, hj⟩
        simp [this]
      · simp [e]
  · rw [List.getElem?_eq_none (by unfold inUse; simp; omega)]
    split
    · rw [List.getElem?_eq_none (by rw [List.length_set]; unfold inUse; simp; omega)]
    · rw [List.getElem?_eq_none (by unfold inUse; simp; omega)]
abbrev nm_commit_to_table : List Str := ["table", "start", "ids", "used", "placed", "number", "key", "in_use", "address"]
theorem sc_commit_to_table : FnScope nm_commit_to_table ["table", "start", "ids", "used"] (defScope s_commit_to_table) := ⟨rfl, rfl, rfl, by decide +kernel, rfl, by decide +kernel, by decide +kernel⟩
theorem ok_commit_to_table (T : Ctx K mg base) : Okd P w K mg base 1 (He.ga K "commit_to_table") ["table", "start", "ids", "used"] (spComTab K) := by
  obtain ⟨fd, F⟩ := T.def_commit_to_table
  have b : Binds K fd ["table", "start", "ids", "used"] [] := FunD.bindsN F fun _ _ _ _ _ _ us hl => match us, hl with | [_, _, _, _], _ => rfl
  refine ⟨fd, FunD.ok F sc_commit_to_table (fun vs H Q E h => ?_) (fun cdv A outer s H vs Q E hr h => ?_), b, F.kp⟩
  · obtain ⟨a, i, u, t, ids, used, start, rfl, _⟩ := h
    rfl
  · obtain ⟨a, i, u, t, ids, used, start, rfl, ha, hz, hi, hu, k⟩ := h
    refine ⟨_, PSs.nox (pss_cons (ps_set (i := 4) sc_commit_to_table.nd rfl (Or.inl rfl) (pe_callTy call_list_of (by rfl) T.free_list (by decide +kernel) (pa_cons (pv 0) pa_nil)))
      (pss_cons (ps_for PassesOwn.never rfl (pi_enumT rfl T.free_enumerate (pa_cons (pv 2) pa_nil)) (pg_tup rfl (pgs_cons (pg_name (i := 5) sc_commit_to_table.nd rfl (Or.inl rfl)) (pgs_cons (pg_name (i := 6) sc_commit_to_table.nd rfl (Or.inl rfl)) pgs_nil))) (pss_one (ps_if (pt_chain op_lt op_lt pe_int (pv 6) (pe_callB call_len_seq (by rfl) T.free_len PySem.boot_len (pa_cons (pv 4) pa_nil))) (pss_one (ps_asg (pe_op op_add (pv 1) (pv 5)) (pg_sub (pv 4) (pv 6) set_list))) pss_nil)))
      (pss_cons (ps_set (i := 7) sc_commit_to_table.nd rfl (Or.inr rfl) (pe_op op_rep (pe_lst (pa_cons pe_bl pa_nil)) (pe_callB call_len_seq (by rfl) T.free_len PySem.boot_len (pa_cons (pv 4) pa_nil))))
      (pss_cons (ps_for PassesOwn.never rfl (pi_tup (pv 3)) (pg_name (i := 6) sc_commit_to_table.nd rfl (Or.inl rfl)) (pss_one (ps_if (pt_chain op_lt op_lt pe_int (pv 6) (pe_callB call_len_seq (by rfl) T.free_len PySem.boot_len (pa_cons (pv 4) pa_nil))) (pss_one (ps_asg pe_bl (pg_sub (pv 7) (pv 6) set_list))) pss_nil)))
      (pss_one (ps_ret (pe_lc (own := [("key", 6), ("address", 8)]) rfl sc_commit_to_table.nd (pi_enum rfl T.free_enumerate (pa_cons (pv 4) pa_nil)) (blkOk_by (own := [("key", 6), ("address", 8)]) (N := nm_commit_to_table) (sc := defScope s_commit_to_table) (by decide +kernel)) (fun _ _ _ _ _ => (show PG _ _ (gTup K 2 _) from pg_tup rfl (pgs_cons (pg_name (i := 6) sc_commit_to_table.nd rfl (Or.inl rfl) (hf := .inr rfl)) (pgs_cons (pg_name (i := 8) sc_commit_to_table.nd rfl (Or.inl rfl) (hf := .inr rfl)) pgs_nil)))) (fun _ _ _ _ _ => pts_nil) (fun _ _ _ _ _ => (pe_ifExp (pt_val (pe_ix (r := rIxL K) ix_list (pv 7) (pv 6) (fun _ _ => rfl))) (pv 8) pe_int))))))))), ?_⟩
    -- placed = list(table)
    refine q_asgL (el_list (ev_var rfl) (Or.inl (Or.inl ha))) fun p H1 hp e1 h1 => ?_
    -- for number, key in enumerate(ids)
    refine q_forET (a := i) (xs := nL ids) (ea_cons (ev_var rfl) ea_nil) (ex_t e1 hi) (fun j σ' H' => ∃ x y, σ' = [some (.ref a), some (nV start), some (.ref i), some (.ref u), some (.ref p), x, y, none, none] ∧ Ex H H' ∧ H' p = some (.lst (nL (placeIds t start (ids.take j)))))
      (fun H2 e2 => ⟨none, none, rfl, e1.trans e2, e2 _ _ h1⟩) (fun j σ' H' _ ⟨_, _, _, e, _⟩ => ex_t e hi) ?_ ?_
    · rintro j x σ' H' q hj ⟨x1, y1, rfl, e, hp'⟩ hq
      obtain ⟨key, hk, rfl⟩ := nL_get hj
      have jl := (List.getElem?_eq_some_iff.mp hk).1
      have hpq : p ≠ q := ne_of_none hp' hq
      have hp2 : (upd H' q (.tup [.int (j : Int), nV key])) p = some (.lst (nL (placeIds t start (ids.take j)))) := by
        rw [upd_ne hpq]
        exact hp'
      refine g_pair upd_same ?_
      have lp : ((nL (placeIds t start (ids.take j))).length : Int) = (t.length : Int) := by rw [List.length_map, placeIds_len]
      have tk := take_snoc hk
      refine s_when (b := decide (0 < key ∧ key < t.length)) (et_is (et_chain ev_c (ev_var rfl) rv_I0 (fun _ => ev_len (ev_var rfl) (sq_of hp2)) (fun _ => rv_I0)) ?_) (fun hb H3 e3 => ?_) (fun hb H3 e3 => ?_)
      · rw [lp, Bool.eq_iff_iff]
        simp only [Bool.and_eq_true, decide_eq_true_eq]
        omega
      · have hb := of_decide_eq_true hb
        refine s_setL (e3 _ _ hp2) (ev_op (ev_var rfl) (ev_var rfl) rv_I0) (ev_var rfl) (ev_var rfl) (by rw [List.length_map, placeIds_len]; exact hb.2) fun H4 e4 => ?_
        refine ⟨_, _, rfl, Ex.mut ((e.trans (Ex.new hq)).trans (e3.trans e4)) hp, ?_⟩
        rw [upd_same, tk, placeIds_snoc, if_pos hb, nL_set, List.length_take, Nat.min_eq_left (Nat.le_of_lt jl)]
        rfl
      · have hb := of_decide_eq_false hb
        refine ⟨_, _, rfl, (e.trans (Ex.new hq)).trans e3, ?_⟩
        rw [tk, placeIds_snoc, if_neg hb]
        exact e3 _ _ hp2
    · rintro σ' H' ⟨x1, y1, rfl, e, hp'⟩
      rw [List.length_map, List.take_length] at hp'
      have lp : (nL (placeIds t start ids)).length = t.length := by rw [List.length_map, placeIds_len]
      -- in_use = [False] * len(placed)
      refine q_asgL (el_rep (n := t.length) (el_lst (ea_cons ev_c ea_nil) (Nat.le_of_ble_eq_true rfl)) (fun H2 e2 => ev_is (ev_len (ev_var rfl) (sq_of (e2 _ _ hp'))) (by rw [lp])) (by omega)) fun m H2 hm e2 h2 => ?_
      have pm : p ≠ m := ne_of_none hp' hm
      have hmH : H m = none := fresh_back e hm
      have hpH := hp
      -- for key in used
      refine q_forT (a := u) (xs := nL used) (ev_var rfl) (ex_t (e.trans e2) hu) (fun j σ' H' => ∃ y, σ' = [some (.ref a), some (nV start), some (.ref i), some (.ref u), some (.ref p), x1, y, some (.ref m), none] ∧ Ex H H' ∧ H' p = some (.lst (nL (placeIds t start ids))) ∧ H' m = some (.lst ((inUse t.length (used.take j)).map V.bl)))
        (fun H3 e3 => ⟨y1, rfl, (e.trans e2).trans e3, e3 _ _ (e2 _ _ hp'), ?_⟩) (fun j σ' H' _ ⟨_, _, e, _, _⟩ => ex_t e hu) ?_ ?_
      · rw [e3 _ _ h2]
        congr 2
        unfold inUse
        rw [List.map_map]
        have : ∀ n, List.replicate n (V.bl false) = (List.range n).map (V.bl ∘ fun k => decide (k ∈ used.take 0 ∧ 0 < k)) := fun n => by
          refine List.ext_getElem? fun j => ?_
          rw [List.getElem?_replicate, List.getElem?_map]
          by_cases hj : j < n
          · rw [if_pos hj, List.getElem?_range hj]
            simp
          · rw [if_neg hj, List.getElem?_eq_none (by simp; omega)]
            rfl
        exact this _
      · rintro j x σ' H' hj ⟨y2, rfl, e3, hp3, hm3⟩
        obtain ⟨key, hk, rfl⟩ := nL_get hj
        have tk := take_snoc hk
        refine s_when (b := decide (0 < key ∧ key < t.length)) (et_is (et_chain ev_c (ev_var rfl) rv_I0 (fun _ => ev_len (ev_var rfl) (sq_of hp3)) (fun _ => rv_I0)) ?_) (fun hb H4 e4 => ?_) (fun hb H4 e4 => ?_)
        · rw [lp, Bool.eq_iff_iff]
          simp only [Bool.and_eq_true, decide_eq_true_eq]
          omega
        · have hb := of_decide_eq_true hb
          refine s_setL (e4 _ _ hm3) ev_c (ev_var rfl) (ev_var rfl) (by unfold inUse; simp; exact hb.2) fun H5 e5 => ?_
          refine ⟨_, rfl, Ex.mut (e3.trans (e4.trans e5)) hmH, ?_, ?_⟩
          · rw [upd_ne pm]
            exact e5 _ _ (e4 _ _ hp3)
          · rw [upd_same, tk, inUse_snoc, if_pos hb, List.map_set]
        · have hb := of_decide_eq_false hb
          refine ⟨_, rfl, e3.trans e4, e4 _ _ hp3, ?_⟩
          rw [tk, inUse_snoc, if_neg hb]
          exact e4 _ _ hm3
      · rintro σ' H' ⟨y2, rfl, e3, hp3, hm3⟩
        rw [List.length_map, List.take_length] at hm3
        -- return [..]
        have key := el_lcE (K := K) (σ := [some (V.ref a), some (nV start), some (.ref i), some (.ref u), some (.ref p), x1, y2, some (.ref m), none]) (H := H') (te := tIf (tB (tOp (rIxL K) (tVar 7) (tVar 6))) (tVar 8) (tC (.int 0))) (tA := tCons (tVar 4) tNil) (a := p) (i := 6) (j := 8) (ws := [6, 8]) (t := tYes)
          (fun _ => true) (fun k => if k ∈ used ∧ 0 < k then nV ((placeIds t start ids).getD k 0) else .int 0) (ea_cons (ev_var rfl) ea_nil) (sq_of hp3) (by rw [lp]; omega) (fun _ _ => rfl) (fun _ _ _ _ _ => et_yes) (fun n x H1 e4 hx _ => ?_)
        · refine s_retL key fun q H2 hq e4 h4 => k q H2 (fresh_back e3 hq) (e3.trans e4) ?_
          rw [h4, given_all, lp]
          rw [commitTab_eq, nL, List.map_map]
          congr 2
          refine List.map_congr_left fun n _ => ?_
          show (if n ∈ used ∧ 0 < n then nV ((placeIds t start ids).getD n 0) else V.int 0) = nV (if n ∈ used ∧ 0 < n then (placeIds t start ids).getD n 0 else 0)
          split <;> rfl
        · obtain ⟨v, hv, rfl⟩ := nL_get hx
          have hn : n < t.length := by
            have := (List.getElem?_eq_some_iff.mp hx).1
            rw [lp] at this
            exact this
          refine ev_if (b := decide (n ∈ used ∧ 0 < n)) (et_val (ev_op (ev_var rfl) (ev_var rfl) (rv_ixL (sq_of (e4 _ _ hm3)) (atI_of (by rw [List.getElem?_map, inUse_get _ hn]; rfl))))) (fun hb => ?_) (fun hb => ?_)
          · rw [if_pos (of_decide_eq_true hb)]
            refine ev_is (ev_var rfl) ?_
            rw [List.getD_eq_getElem?_getD, hv]
            rfl
          · rw [if_neg (of_decide_eq_false hb)]
            exact ev_c
end
end Sg

set_option maxHeartbeats 4000000
/-! more readings: dicts of numbers, calls for their effect, attributes set, rows of tables -/
namespace Sg
open PySem PySem.Spec PyProof.Rows L2 Evl
/-! ### dicts whose keys are numbers -/
def dN (m : List (Nat × V)) : List (Key × V) := m.map fun p => (.inl (p.1 : Int), p.2)
theorem dN_val (m : List (Nat × V)) (k : Nat) : valV (dN m) (.inl (k : Int)) = valV m k := by
  induction m with
  | nil => rfl
  | cons p r ih =>
    by_cases e : p.1 = k
    · rw [valV_pos e]
      show valV ((.inl (p.1 : Int), p.2) :: dN r) _ = _
      rw [valV_pos (by rw [e])]
    · rw [valV_neg e]
      show valV ((.inl (p.1 : Int), p.2) :: dN r) _ = _
      rw [valV_neg (fun q => e (by have := Sum.inl.inj q; omega)), ih]
theorem dN_put (m : List (Nat × V)) (k : Nat) (v : V) : putK (dN m) (.inl (k : Int)) v = dN (putK m k v) := by
  have ha : ((dN m).any fun kv => decide (kv.1 = (.inl (k : Int)))) = m.any fun kv => decide (kv.1 = k) := by
    rw [valV_any, valV_any, dN_val]
  unfold putK
  rw [ha]
  split
  · unfold dN
    rw [List.map_map, List.map_map]
    refine List.map_congr_left fun p _ => ?_
    by_cases e : p.1 = k
    · simp [e]
    · have : ¬ ((p.1 : Int) = (k : Int)) := fun q => e (by omega)
      simp [e, this]
  · unfold dN
    rw [List.map_append]
    rfl
theorem dN_len (m : List (Nat × V)) : (dN m).length = m.length := by unfold dN; rw [List.length_map]
theorem dn_get {H : Hp} {a : Addr} {m : List (Nat × V)} {k : Nat} (h : H a = some (.dK (dN m))) : DGet H a (nV k) (valV m k) := by
  rw [← dN_val]
  exact DGet.k (k := .inl (k : Int)) h
theorem dn_put {H : Hp} {a : Addr} {m : List (Nat × V)} {k : Nat} {v : V} (h : H a = some (.dK (dN m))) (hz : m.length < 100000) : DPut H a (nV k) v (upd H a (.dK (dN (putK m k v)))) := by
  rw [← dN_put]
  exact DPut.k (k := .inl (k : Int)) h (by rw [dN_len]; exact sz_lt hz)
section
variable {K : PySem.W.Frag} {σ : L2.St} {H H' : Hp} {ta tb te tx ty td tv : TE} {t u : TT} {x y z v : V} {r : R2} {P P' : V → Hp → Prop} {D : Ends} {tu tw tz : L2.TS} {tA : TA} {vs : List V}
theorem ev_din {a : Addr} {m : List (Nat × V)} {k : Nat} (hy : Ev ty σ H (nV k)) (hd : Ev td σ H (.ref a)) (h : H a = some (.dK (dN m))) : Ev (tDIn ty td) σ H (.bl (valV m k).isSome) := fun H1 e Q q =>
  hy H1 e _ fun H2 e2 => hd H2 (e.trans e2) _ fun H3 e3 => ⟨a, _, rfl, dn_get (e3 _ _ (e2 _ _ (e _ _ h))), q H3 (e2.trans e3)⟩
theorem ev_dnotin {a : Addr} {m : List (Nat × V)} {k : Nat} (hy : Ev ty σ H (nV k)) (hd : Ev td σ H (.ref a)) (h : H a = some (.dK (dN m))) : Ev (tDNotIn ty td) σ H (.bl (!(valV m k).isSome)) := fun H1 e Q q =>
  hy H1 e _ fun H2 e2 => hd H2 (e.trans e2) _ fun H3 e3 => ⟨a, _, rfl, dn_get (e3 _ _ (e2 _ _ (e _ _ h))), q H3 (e2.trans e3)⟩
theorem ev_dget {a : Addr} {m : List (Nat × V)} {k : Nat} (hd : Ev td σ H (.ref a)) (hy : Ev ty σ H (nV k)) (h : H a = some (.dK (dN m))) (hv : valV m k = some v) : Ev (tDGet td ty) σ H v := fun H1 e Q q =>
  hd H1 e _ fun H2 e2 => hy H2 (e.trans e2) _ fun H3 e3 => ⟨a, v, rfl, by
    rw [← hv]
    exact dn_get (e3 _ _ (e2 _ _ (e _ _ h))), q H3 (e2.trans e3)⟩
theorem ev_dget2 {a : Addr} {m : List (Nat × V)} {k : Nat} (hd : Ev td σ H (.ref a)) (hy : Ev ty σ H (nV k)) (hx : Ev tx σ H z) (h : H a = some (.dK (dN m))) : Ev (tDGet2 td ty tx) σ H ((valV m k).getD z) := fun H1 e Q q =>
  hd H1 e _ fun H2 e2 => ⟨a, rfl, .inl ⟨_, .inl (e2 _ _ (e _ _ h))⟩, hy H2 (e.trans e2) _ fun H3 e3 => hx H3 ((e.trans e2).trans e3) _ fun H4 e4 => ⟨_, dn_get (e4 _ _ (e3 _ _ (e2 _ _ (e _ _ h)))), q H4 ((e2.trans e3).trans e4)⟩⟩
theorem s_dput {a : Addr} {m : List (Nat × V)} {k : Nat} (h : H a = some (.dK (dN m))) (hv : Ev tv σ H v) (hd : Ev td σ H (.ref a)) (hy : Ev ty σ H (nV k)) (hz : m.length < 100000) (c : ∀ H1, Ex H H1 → D.nx σ (upd H1 a (.dK (dN (putK m k v))))) : sDPut td ty tv D σ H :=
  hv H (Ex.refl H) _ fun H1 e1 => hd H1 e1 _ fun H2 e2 => hy H2 (e1.trans e2) _ fun H3 e3 => ⟨a, _, rfl, dn_put (e3 _ _ (e2 _ _ (e1 _ _ h))) hz, c H3 ((e1.trans e2).trans e3)⟩
theorem q_dput {a : Addr} {m : List (Nat × V)} {k : Nat} (h : H a = some (.dK (dN m))) (hv : Ev tv σ H v) (hd : Ev td σ H (.ref a)) (hy : Ev ty σ H (nV k)) (hz : m.length < 100000) (c : ∀ H1, Ex H H1 → tz D σ (upd H1 a (.dK (dN (putK m k v))))) : tSeq (sDPut td ty tv) tz D σ H := s_dput (D := { D with nx := tz D }) h hv hd hy hz c
theorem q_dnew {i : Nat} (c : ∀ p, H p = none → tz D (σ.set i (some (.ref p))) (upd H p (.dK (dN [])))) : tSeq (tAsg tDNewK (gName i)) tz D σ H := fun p hp => c p hp
/-! ### calls -/
theorem q_call {sp : Sp} {dvs : List V} {E : XK} (h : EvA tA σ H vs) (k : ∀ H1, Ex H H1 → sp (vs ++ dvs) H1 (fun _ H2 => tz D σ H2) E) : tSeq (tDrop (tCall sp dvs E tA)) tz D σ H := h H (Ex.refl H) _ k
theorem s_call {sp : Sp} {dvs : List V} {E : XK} (h : EvA tA σ H vs) (k : ∀ H1, Ex H H1 → sp (vs ++ dvs) H1 (fun _ H2 => D.nx σ H2) E) : tDrop (tCall sp dvs E tA) D σ H := h H (Ex.refl H) _ k
theorem q_asgC {sp : Sp} {dvs : List V} {E : XK} {i : Nat} (h : EvA tA σ H vs) (k : ∀ H1, Ex H H1 → sp (vs ++ dvs) H1 (fun v H2 => tz D (σ.set i (some v)) H2) E) : tSeq (tAsg (tCall sp dvs E tA) (gName i)) tz D σ H := h H (Ex.refl H) _ k
theorem s_retC {sp : Sp} {dvs : List V} {E : XK} (h : EvA tA σ H vs) (k : ∀ H1, Ex H H1 → sp (vs ++ dvs) H1 D.rt E) : tRet (tCall sp dvs E tA) D σ H := h H (Ex.refl H) _ k
theorem q_callP {sp : Sp} {dvs : List V} {E : XK} {R : List V → Hp → Prop} (h : EvAP tA σ H R) (k : ∀ us H1, Ex H H1 → R us H1 → sp (us ++ dvs) H1 (fun _ H2 => tz D σ H2) E) : tSeq (tDrop (tCall sp dvs E tA)) tz D σ H := h H (Ex.refl H) _ k
theorem s_callP {sp : Sp} {dvs : List V} {E : XK} {R : List V → Hp → Prop} (h : EvAP tA σ H R) (k : ∀ us H1, Ex H H1 → R us H1 → sp (us ++ dvs) H1 (fun _ H2 => D.nx σ H2) E) : tDrop (tCall sp dvs E tA) D σ H := h H (Ex.refl H) _ k
theorem q_meth {C a dx : Addr} {m : Str} {fs : List (Str × V)} {sp : Sp} {dvs : List V} {E : XK} (ho : Ev ta σ H (.ref a)) (hi : H a = some (.ins C dx fs)) (hl : fs.lookup m = none) (h : EvA tA σ H vs)
    (k : ∀ H1, Ex H H1 → sp (.ref a :: (vs ++ dvs)) H1 (fun _ H2 => tz D σ H2) E) : tSeq (tDrop (tMeth C m sp dvs E ta tA)) tz D σ H :=
  ho H (Ex.refl H) _ fun H1 e1 => ⟨a, dx, fs, rfl, e1 _ _ hi, hl, h H1 e1 _ fun H2 e2 => k H2 (e1.trans e2)⟩
theorem s_meth {C a dx : Addr} {m : Str} {fs : List (Str × V)} {sp : Sp} {dvs : List V} {E : XK} (ho : Ev ta σ H (.ref a)) (hi : H a = some (.ins C dx fs)) (hl : fs.lookup m = none) (h : EvA tA σ H vs)
    (k : ∀ H1, Ex H H1 → sp (.ref a :: (vs ++ dvs)) H1 (fun _ H2 => D.nx σ H2) E) : tDrop (tMeth C m sp dvs E ta tA) D σ H := q_meth (tz := fun D => D.nx) ho hi hl h k
theorem q_methP {C a dx : Addr} {m : Str} {fs : List (Str × V)} {sp : Sp} {dvs : List V} {E : XK} {R : List V → Hp → Prop} (ho : Ev ta σ H (.ref a)) (hi : H a = some (.ins C dx fs)) (hl : fs.lookup m = none) (h : EvAP tA σ H R)
    (k : ∀ us H1, Ex H H1 → R us H1 → sp (.ref a :: (us ++ dvs)) H1 (fun _ H2 => tz D σ H2) E) : tSeq (tDrop (tMeth C m sp dvs E ta tA)) tz D σ H :=
  ho H (Ex.refl H) _ fun H1 e1 => ⟨a, dx, fs, rfl, e1 _ _ hi, hl, h H1 e1 _ fun us H2 e2 r => k us H2 (e1.trans e2) r⟩
theorem s_methP {C a dx : Addr} {m : Str} {fs : List (Str × V)} {sp : Sp} {dvs : List V} {E : XK} {R : List V → Hp → Prop} (ho : Ev ta σ H (.ref a)) (hi : H a = some (.ins C dx fs)) (hl : fs.lookup m = none) (h : EvAP tA σ H R)
    (k : ∀ us H1, Ex H H1 → R us H1 → sp (.ref a :: (us ++ dvs)) H1 (fun _ H2 => D.nx σ H2) E) : tDrop (tMeth C m sp dvs E ta tA) D σ H := q_methP (tz := fun D => D.nx) ho hi hl h k
theorem ep_nil : EvAP tNil σ H fun us _ => us = [] := fun H1 _ Q q => q [] H1 (Ex.refl H1) rfl
theorem ep_ev (h : EvA tA σ H vs) : EvAP tA σ H fun us _ => us = vs := fun H1 e Q q => h H1 e _ fun H2 e2 => q vs H2 e2 rfl
/-- an argument that makes something, then the rest -/
theorem ep_cons {R : V → List V → Hp → Prop} (h : EvP ta σ H P) (hr : ∀ v H1, Ex H H1 → P v H1 → EvAP tA σ H1 (R v)) : EvAP (tCons ta tA) σ H fun us H2 => ∃ v us', us = v :: us' ∧ R v us' H2 := fun H1 e Q q =>
  h H1 e _ fun v H2 e2 p => hr v H2 (e.trans e2) p H2 (Ex.refl H2) _ fun us H3 e3 r => q _ H3 (e2.trans e3) ⟨v, us, rfl, r⟩
theorem EvAP.mono {R R' : List V → Hp → Prop} (h : EvAP tA σ H R) (m : ∀ us H2, Ex H H2 → R us H2 → R' us H2) : EvAP tA σ H R' := fun H1 e Q q => h H1 e _ fun us H2 e2 r => q us H2 e2 (m us H2 (e.trans e2) r)
/-! ### attributes set -/
theorem q_fld {C a dx : Addr} {f : Str} {fs : List (Str × V)} (hv : Ev tv σ H v) (ha : Ev ta σ H (.ref a)) (ho : H a = some (.ins C dx fs)) (hc : Cls K C) (hn : NoAttr K C f) (hl : fs.length < 1000) (k : ∀ H1, Ex H H1 → tz D σ (upd H1 a (.ins C dx (putF f v fs)))) : tSeq (sFld K ta tv f) tz D σ H :=
  hv H (Ex.refl H) _ fun H1 e1 => ha H1 e1 _ fun H2 e2 => ⟨a, C, dx, fs, rfl, e2 _ _ (e1 _ _ ho), hc, hn, hl, k H2 (e1.trans e2)⟩
theorem s_fld {C a dx : Addr} {f : Str} {fs : List (Str × V)} (hv : Ev tv σ H v) (ha : Ev ta σ H (.ref a)) (ho : H a = some (.ins C dx fs)) (hc : Cls K C) (hn : NoAttr K C f) (hl : fs.length < 1000) (k : ∀ H1, Ex H H1 → D.nx σ (upd H1 a (.ins C dx (putF f v fs)))) : sFld K ta tv f D σ H := q_fld (tz := fun D => D.nx) hv ha ho hc hn hl k
theorem q_fldL {C a dx : Addr} {f : Str} {fs : List (Str × V)} {xs : List V} (hv : EvL tv σ H xs) (ha : Ev ta σ H (.ref a)) (ho : H a = some (.ins C dx fs)) (hc : Cls K C) (hn : NoAttr K C f) (hl : fs.length < 1000)
    (k : ∀ p H1, H p = none → Ex H H1 → H1 p = some (.lst xs) → tz D σ (upd H1 a (.ins C dx (putF f (.ref p) fs)))) : tSeq (sFld K ta tv f) tz D σ H :=
  hv H (Ex.refl H) _ fun p H1 hp e1 h1 => ha H1 e1 _ fun H2 e2 => ⟨a, C, dx, fs, rfl, e2 _ _ (e1 _ _ ho), hc, hn, hl, k p H2 hp (e1.trans e2) (e2 _ _ h1)⟩
theorem s_fldL {C a dx : Addr} {f : Str} {fs : List (Str × V)} {xs : List V} (hv : EvL tv σ H xs) (ha : Ev ta σ H (.ref a)) (ho : H a = some (.ins C dx fs)) (hc : Cls K C) (hn : NoAttr K C f) (hl : fs.length < 1000)
    (k : ∀ p H1, H p = none → Ex H H1 → H1 p = some (.lst xs) → D.nx σ (upd H1 a (.ins C dx (putF f (.ref p) fs)))) : sFld K ta tv f D σ H := q_fldL (tz := fun D => D.nx) hv ha ho hc hn hl k
theorem q_fldP {C a dx : Addr} {f : Str} {fs : List (Str × V)} (hv : EvP tv σ H P) (ha : ∀ H1, Ex H H1 → Ev ta σ H1 (.ref a)) (ho : H a = some (.ins C dx fs)) (hc : Cls K C) (hn : NoAttr K C f) (hl : fs.length < 1000)
    (k : ∀ v H1 H2, Ex H H1 → P v H1 → Ex H1 H2 → tz D σ (upd H2 a (.ins C dx (putF f v fs)))) : tSeq (sFld K ta tv f) tz D σ H :=
  hv H (Ex.refl H) _ fun v H1 e1 p => ha H1 e1 H1 (Ex.refl H1) _ fun H2 e2 => ⟨a, C, dx, fs, rfl, e2 _ _ (e1 _ _ ho), hc, hn, hl, k v H1 H2 e1 p e2⟩
theorem s_fldP {C a dx : Addr} {f : Str} {fs : List (Str × V)} (hv : EvP tv σ H P) (ha : ∀ H1, Ex H H1 → Ev ta σ H1 (.ref a)) (ho : H a = some (.ins C dx fs)) (hc : Cls K C) (hn : NoAttr K C f) (hl : fs.length < 1000)
    (k : ∀ v H1 H2, Ex H H1 → P v H1 → Ex H1 H2 → D.nx σ (upd H2 a (.ins C dx (putF f v fs)))) : sFld K ta tv f D σ H := q_fldP (tz := fun D => D.nx) hv ha ho hc hn hl k
theorem el_call2 {sp : Sp} {dvs xs : List V} {E : XK} (h : EvA tA σ H vs) (hs : ∀ H1, Ex H H1 → ∀ (Q : VK) (E : XK), RetL xs H1 Q → sp (vs ++ dvs) H1 Q E) : EvL (tCall sp dvs E tA) σ H xs := fun H1 e Q q =>
  h H1 e _ fun H2 e2 => hs H2 (e.trans e2) Q E fun p H3 hp e3 h3 => q p H3 (fresh_back e2 hp) (e2.trans e3) h3
theorem s_setV {l : Addr} {xs : List V} {j : Nat} (hl : H l = some (.lst xs)) (h : EvP te σ H P) (ho : ∀ H1, Ex H H1 → Ev ta σ H1 (.ref l)) (hi : ∀ H1, Ex H H1 → Ev tb σ H1 (.int (j : Int))) (hj : j < xs.length)
    (k : ∀ v H1 H2, Ex H H1 → P v H1 → Ex H1 H2 → D.nx σ (upd H2 l (.lst (xs.set j v)))) : tAsg te (gSub ta tb rSetL) D σ H :=
  h H (Ex.refl H) _ fun v H1 e1 p => ho H1 e1 H1 (Ex.refl H1) _ fun H2 e2 => hi H2 (e1.trans e2) H2 (Ex.refl H2) _ fun H3 e3 => ⟨l, xs, _, j, rfl, rfl, e3 _ _ (e2 _ _ (e1 _ _ hl)), ixN_nat hj, k v H1 H3 e1 p (e2.trans e3)⟩
/-! ### rows of tables: new lists or None -/
def SlotF (H H2 : Hp) (v : V) : Option (List Nat) → Prop
  | none => v = .non
  | some t => ∃ a, v = .ref a ∧ H a = none ∧ H2 a = some (.lst (nL t))
theorem SlotF.up {H H2 H3 : Hp} {v : V} {o : Option (List Nat)} (h : SlotF H H2 v o) (e : Ex H2 H3) : SlotF H H3 v o := by
  cases o with
  | none => exact h
  | some t => obtain ⟨a, q1, q2, q3⟩ := h; exact ⟨a, q1, q2, e _ _ q3⟩
theorem SlotF.dn {H0 H H2 : Hp} {v : V} {o : Option (List Nat)} (h : SlotF H H2 v o) (e : Ex H0 H) : SlotF H0 H2 v o := by
  cases o with
  | none => exact h
  | some t => obtain ⟨a, q1, q2, q3⟩ := h; exact ⟨a, q1, fresh_back e q2, q3⟩
def RowsF (H : Hp) (os : List (Option (List Nat))) (v : V) (H2 : Hp) : Prop := ∃ p vs, v = .ref p ∧ H p = none ∧ H2 p = some (.lst vs) ∧ Rl (fun v o => SlotF H H2 v o ∧ v ≠ .ref p) vs os
theorem RowsF.up {os : List (Option (List Nat))} {H2 H3 : Hp} (h : RowsF H os v H2) (e : Ex H2 H3) : RowsF H os v H3 := by
  obtain ⟨p, vs, q1, q2, q3, q4⟩ := h
  exact ⟨p, vs, q1, q2, e _ _ q3, q4.mono fun _ _ q => ⟨q.1.up e, q.2⟩⟩
theorem RowsF.dn {os : List (Option (List Nat))} {H0 H2 : Hp} (h : RowsF H os v H2) (e : Ex H0 H) : RowsF H0 os v H2 := by
  obtain ⟨p, vs, q1, q2, q3, q4⟩ := h
  exact ⟨p, vs, q1, fresh_back e q2, q3, q4.mono fun _ _ q => ⟨q.1.dn e, q.2⟩⟩
/-- a comprehension whose items are made, each by itself -/
theorem ep_lcL {a : Addr} {xs : List V} {tl : TE} {j : Nat} {ws : List Nat} (R : Nat → V → Hp → Hp → Prop) (hR : ∀ i v Ha Hb Hc, R i v Ha Hb → (∀ b o, Hb b = some o → (Ha b = none ∨ ∃ ys, o = .tup ys) → Hc b = some o) → R i v Ha Hc)
    (h : Ev tl σ H (.ref a)) (hx : SqL K H a xs) (hz : xs.length ≤ 40000) (hw : ∀ x, wipe ((wipe σ ws).set j (some x)) ws = wipe σ ws)
    (he : ∀ (i : Nat) (x : V) H1, Ex H H1 → xs[i]? = some x → EvP te ((wipe σ ws).set j (some x)) H1 fun v H2 => R i v H1 H2) :
    EvP (tLc (iList K tl) (gName j) tYes te ws) σ H fun v H2 => ∃ p vs, v = .ref p ∧ H p = none ∧ H2 p = some (.lst vs) ∧ vs.length = xs.length ∧ ∀ i v, vs[i]? = some v → ∃ Ha, Ex H Ha ∧ Ha p ≠ none ∧ R i v Ha H2 := fun H0 e Q q => h H0 e _ fun H1 e1 => ⟨a, rfl, ⟨xs, ex_l (e.trans e1) hx⟩, fun Dl hD =>
  lc_list (xs := xs) (fun i H' => Ex H1 H' ∧ ∃ vs, H' Dl = some (.lst vs) ∧ vs.length = i ∧ ∀ i v, vs[i]? = some v → ∃ Ha, Ex H1 Ha ∧ Ha Dl ≠ none ∧ R i v Ha H') ⟨Ex.new hD, [], upd_same, rfl, fun i v h => by simp at h⟩
    (fun i H' _ p => ex_l ((e.trans e1).trans p.1) hx)
    (fun i x H' hi p => ⟨hw x, by
      obtain ⟨e2, vs, h1, h2, h3⟩ := p
      refine et_yes H' (Ex.refl H') _ fun H3 e3 => ?_
      show te _ H3 _
      have il := (List.getElem?_eq_some_iff.mp hi).1
      refine he i x H3 (((e.trans e1).trans e2).trans e3) hi H3 (Ex.refl H3) _ fun y H4 e4 r => ⟨vs, e4 _ _ (e3 _ _ h1), sz_lt (by omega), Ex.mut ((e2.trans e3).trans e4) hD, vs ++ [y], upd_same, by simp [h2], ?_⟩
      have h3D : H3 Dl = some (.lst vs) := e3 _ _ h1
      have h4D : H4 Dl = some (.lst vs) := e4 _ _ h3D
      intro k v hk
      by_cases hv : k < vs.length
      · rw [List.getElem?_append_left hv] at hk
        obtain ⟨Ha, ea, na, ra⟩ := h3 k v hk
        refine ⟨Ha, ea, na, hR k v Ha H' _ ra fun b o hb ho => ?_⟩
        have hne : b ≠ Dl := fun z => by
          rw [z] at hb ho
          rcases ho with ho | ⟨ys, ho⟩
          · exact na ho
          · rw [h1, ho] at hb
            cases hb
        rw [upd_ne hne]
        exact e4 _ _ (e3 _ _ hb)
      · have : k = vs.length := by
          have := (List.getElem?_eq_some_iff.mp hk).1
          rw [List.length_append] at this
          simp at this
          omega
        rw [this, List.getElem?_append_right (Nat.le_refl _), Nat.sub_self] at hk
        injection hk with hk
        rw [this, h2, ← hk]
        refine ⟨H3, e2.trans e3, (fun z => by rw [h3D] at z; cases z), hR i y H3 H4 _ r fun b o hb ho => ?_⟩
        have hne : b ≠ Dl := fun z => by
          rw [z] at hb ho
          rcases ho with ho | ⟨ys, ho⟩
          · rw [h3D] at ho
            cases ho
          · rw [h4D, ho] at hb
            cases hb
        rw [upd_ne hne]
        exact hb⟩)
    (fun H' p => by
      obtain ⟨e2, vs, h1, h2, h3⟩ := p
      refine q _ H' (e1.trans e2) ⟨Dl, vs, rfl, fresh_back (e.trans e1) hD, h1, h2, fun i v hv => ?_⟩
      obtain ⟨Ha, ea, na, ra⟩ := h3 i v hv
      exact ⟨Ha, (e.trans e1).trans ea, na, ra⟩)⟩
theorem SlotF.re {Ha Hb Hc : Hp} {v : V} {o : Option (List Nat)} (h : SlotF Ha Hb v o) (e : ∀ b o, Hb b = some o → (Ha b = none ∨ ∃ ys, o = .tup ys) → Hc b = some o) : SlotF Ha Hc v o := by
  cases o with
  | none => exact h
  | some t => obtain ⟨a, q1, q2, q3⟩ := h; exact ⟨a, q1, q2, e _ _ q3 (.inl q2)⟩
/-- [f(slot) for slot in slots], f making tables -/
theorem ep_lcSl {a : Addr} {xs : List V} {tl : TE} {j : Nat} {ws : List Nat} {os : List (Option (List Nat))} {f : List Nat → List Nat} {S : V → Option (List Nat) → Prop} (h : Ev tl σ H (.ref a)) (hx : SqL K H a xs) (hr : Rl S xs os) (hz : os.length ≤ 40000) (hw : ∀ x, wipe ((wipe σ ws).set j (some x)) ws = wipe σ ws)
    (he : ∀ (x : V) (o : Option (List Nat)) H1, Ex H H1 → S x o → EvP te ((wipe σ ws).set j (some x)) H1 fun v H2 => SlotF H1 H2 v (o.map f)) :
    EvP (tLc (iList K tl) (gName j) tYes te ws) σ H (RowsF H (os.map (Option.map f))) := by
  refine EvP.mono (ep_lcL (fun i v Ha Hb => SlotF Ha Hb v ((os[i]?).join.map f)) (fun i v Ha Hb Hc h e => h.re e) h hx (by rw [hr.1]; exact hz) hw fun i x H1 e1 hi => ?_) fun v H2 p => ?_
  · obtain ⟨o, ho, hs⟩ := hr.get' hi
    rw [ho]
    exact he x o H1 e1 hs
  · obtain ⟨p, vs, q1, q2, q3, q4, q5⟩ := p
    refine ⟨p, vs, q1, q2, q3, by rw [q4, List.length_map, hr.1], fun i v o hv ho => ?_⟩
    obtain ⟨Ha, ea, na, this⟩ := q5 i v hv
    rw [List.getElem?_map] at ho
    cases e : os[i]? with
    | none =>
      rw [e] at ho
      cases ho
    | some o' =>
      rw [e] at ho this
      injection ho with ho
      rw [← ho]
      refine ⟨SlotF.dn this ea, fun z => ?_⟩
      cases o' with
      | none =>
        rw [z] at this
        cases this
      | some t =>
        obtain ⟨b, b1, b2, b3⟩ := this
        rw [z] at b1
        injection b1 with b1
        rw [b1] at na
        exact na b2
end
end Sg

set_option maxHeartbeats 4000000
namespace Sg
open PySem PySem.Spec PyProof.Rows L2 Evl
section
variable {P : Program} {w : World} {K : PySem.W.Frag} {mg : Str → Option Value} {base : Heap}
theorem rows_keep {H H1 H4 : Hp} {us : List V} {os : List (Option (List Nat))} {r : Addr} (rl : Rl (fun v o => SlotF H H1 v o ∧ v ≠ .ref r) us os) (e : Ex H1 H4) (u : HO) : Rl (fun v o => SlotF H (upd H4 r u) v o ∧ v ≠ .ref r) us os :=
  rl.mono fun v o hvo => ⟨by
    cases o with
    | none => exact hvo.1
    | some t' =>
      obtain ⟨⟨a', z1, z2, z3⟩, z4⟩ := hvo
      refine ⟨a', z1, z2, ?_⟩
      rw [upd_ne (fun z => z4 (by rw [z1, z]))]
      exact e _ _ z3, hvo.2⟩
/-! ### slots_after -/
def sp_slots_after (K : PySem.W.Frag) : Sp := fun vs H Q _ => ∃ (p q : Addr) (xs : List V) (os : List (Option (List Nat))) (t : List Nat) (act : Nat), vs = [.ref p, .ref q, nV act] ∧ SqL K H p xs ∧ Rl (SlotAt H []) xs os ∧ os.length = 3 ∧ H q = some (.lst (nL t)) ∧ RetP (RowsF H (slotsAfter os t act)) H Q
-- slots_after: 0:slots 1:table 2:action 3:result 4:slot
abbrev nm_slots_after : List Str := ["slots", "table", "action", "result", "slot"]
theorem sc_slots_after : FnScope nm_slots_after ["slots", "table", "action"] (defScope s_slots_after) := ⟨rfl, rfl, rfl, by decide +kernel, rfl, by decide +kernel, by decide +kernel⟩
theorem ok_slots_after (T : Ctx K mg base) : Okd P w K mg base 1 (He.ga K "slots_after") ["slots", "table", "action"] (sp_slots_after K) := by
  obtain ⟨fd, F⟩ := T.def_slots_after
  have b : Binds K fd ["slots", "table", "action"] [] := FunD.bindsN F fun _ _ _ _ _ _ us hl => match us, hl with | [_, _, _], _ => rfl
  obtain ⟨tSLOTS, hSLOTS⟩ := T.int_SLOTS
  refine ⟨fd, FunD.ok F sc_slots_after (fun vs H Q E h => ?_) (fun cdv A outer s H vs Q E hr h => ?_), b, F.kp⟩
  · obtain ⟨p, q, xs, os, t, act, rfl, _⟩ := h
    rfl
  · obtain ⟨p, q, xs, os, t, act, rfl, hp, hrow, hl, hq, k⟩ := h
    refine ⟨_, PSs.nox (pss_cons (ps_setLc (i := 3) (own := [("slot", 4)]) rfl sc_slots_after.nd rfl rfl (sw_true rfl rfl rfl (by decide +kernel)) (pi_list (pv 0)) (blkOk_by (own := [("slot", 4)]) (N := nm_slots_after) (sc := defScope s_slots_after) (by decide +kernel)) (fun _ _ _ _ _ => (pg_name (i := 4) sc_slots_after.nd rfl (Or.inl rfl) (hf := .inr rfl))) (fun _ _ _ _ _ => pts_nil) (fun _ _ _ _ _ => (pe_ifExp (pt_cmp (pc_isN (pv 4)) rfl) pe_non (pe_callTy (r := rListS K) call_list_of (by rfl) T.free_list (by decide +kernel) (pa_cons (pv 4) pa_nil)))))
      (pss_cons (ps_if (pt_chain op_le op_le pe_int (pv 2) (pe_glob (v := .int 3) rfl hSLOTS ⟨_, rfl⟩)) (pss_one (ps_asg (pe_callTy call_list_of (by rfl) T.free_list (by decide +kernel) (pa_cons (pv 1) pa_nil)) (pg_sub (pv 3) (pe_op op_sub (pv 2) pe_int) set_list))) (pss_one (ps_if (pt_chain op_lt op_le (pe_glob (v := .int 3) rfl hSLOTS ⟨_, rfl⟩) (pv 2) (pe_op op_mul pe_int (pe_glob (v := .int 3) rfl hSLOTS ⟨_, rfl⟩))) (pss_one (ps_asg pe_non (pg_sub (pv 3) (pe_op op_sub (pe_op op_sub (pv 2) (pe_glob (v := .int 3) rfl hSLOTS ⟨_, rfl⟩)) pe_int) set_list))) pss_nil)))
      (pss_one (ps_ret (pv 3))))), ?_⟩
    have key := ep_lcSl (K := K) (σ := start nm_slots_after [V.ref p, V.ref q, nV act]) (H := H) (te := tIf (tB (tIsN (tVar 4))) (tC .non) (tCB (rListS K) (tCons (tVar 4) tNil))) (tl := tVar 0) (j := 4) (ws := [4]) (f := id) (S := SlotAt H [])
      (ev_var rfl) hp hrow (by omega) (fun _ => rfl) (fun x o H1 e1 hs => ?_)
    · refine q_asgP key fun v H1 e1 hv => ?_
      obtain ⟨r, us, rfl, hr0, h1, rl⟩ := hv
      have hid : os.map (Option.map id) = os := by
        rw [show (Option.map (id : List Nat → List Nat)) = id by funext o; cases o <;> rfl, List.map_id]
      rw [hid] at rl
      have hlu : us.length = 3 := by rw [rl.1, hl]
      refine q_if2 (b := decide (1 ≤ act ∧ act ≤ 3)) (et_is (et_chain ev_c (ev_var rfl) rv_I0 (fun _ => ev_c) (fun _ => rv_I0)) (by rw [Bool.eq_iff_iff]; simp only [Bool.and_eq_true, decide_eq_true_eq]; omega)) (fun hb H2 e2 => ?_) (fun hb H2 e2 => ?_)
      · have hb := of_decide_eq_true hb
        refine s_setV (P := fun v H3 => ∃ a, v = .ref a ∧ H2 a = none ∧ H3 a = some (.lst (nL t))) (j := act - 1) (e2 _ _ h1) (EvL.p (el_list (ev_var rfl) (sq_of (e2 _ _ (e1 _ _ hq)))) fun a H3 ha e3 h3 => ⟨a, rfl, ha, h3⟩) (fun _ _ => ev_var rfl) (fun H3 e3 => ev_is (ev_op (ev_var rfl) ev_c rv_I0) (by show V.int _ = V.int _; congr 1; omega)) (by omega) fun v H3 H4 e3 hv e4 => ?_
        obtain ⟨a, rfl, ha, h3⟩ := hv
        have hra : r ≠ a := ne_of_none (e2 _ _ h1) ha
        have E4 : Ex H H4 := ((e1.trans e2).trans e3).trans e4
        refine s_ret (ev_var rfl) fun H5 e5 => k _ _ ((E4.mut hr0).trans e5) (RowsF.up (H2 := upd H4 r (.lst (us.set (act - 1) (.ref a)))) ?_ e5)
        refine ⟨r, _, rfl, hr0, upd_same, ?_⟩
        unfold slotsAfter
        rw [if_pos hb]
        refine Rl.set (rows_keep rl ((e2.trans e3).trans e4) _) _ ⟨⟨a, rfl, fresh_back (e1.trans e2) ha, ?_⟩, fun z => by injection z with z; exact hra z.symm⟩
        rw [upd_ne (fun z => hra z.symm)]
        exact e4 _ _ h3
      · have hb := of_decide_eq_false hb
        refine s_when (b := decide (3 < act ∧ act ≤ 6)) (et_is (et_chain ev_c (ev_var rfl) rv_I0 (fun _ => ev_op ev_c ev_c (rv_I (Or.inl ⟨by decide, by decide⟩))) (fun _ => rv_I0)) (by rw [Bool.eq_iff_iff]; simp only [Bool.and_eq_true, decide_eq_true_eq]; omega)) (fun hc H3 e3 => ?_) (fun hc H3 e3 => ?_)
        · have hc := of_decide_eq_true hc
          refine s_setL (j := act - 4) (e3 _ _ (e2 _ _ h1)) ev_c (ev_var rfl) (ev_is (ev_op (ev_op (ev_var rfl) ev_c rv_I0) ev_c rv_I0) (by show V.int _ = V.int _; congr 1; omega)) (by omega) fun H4 e4 => ?_
          have E4 : Ex H H4 := ((e1.trans e2).trans e3).trans e4
          refine s_ret (ev_var rfl) fun H5 e5 => k _ _ ((E4.mut hr0).trans e5) (RowsF.up (H2 := upd H4 r (.lst (us.set (act - 4) .non))) ?_ e5)
          refine ⟨r, _, rfl, hr0, upd_same, ?_⟩
          unfold slotsAfter
          rw [if_neg hb, if_pos hc]
          exact Rl.set (rows_keep rl ((e2.trans e3).trans e4) _) _ ⟨rfl, fun z => by cases z⟩
        · have hc := of_decide_eq_false hc
          refine s_ret (ev_var rfl) fun H5 e5 => k _ _ (((e1.trans e2).trans e3).trans e5) (RowsF.up (H2 := H1) ?_ ((e2.trans e3).trans e5))
          unfold slotsAfter
          rw [if_neg hb, if_neg hc]
          exact ⟨r, _, rfl, hr0, h1, rl⟩
    · cases o with
      | none =>
        obtain rfl : x = .non := hs
        exact EvP.mono (Ev.p (P := fun v _ => v = .non) (ev_if (b := true) (et_is (et_isN (ev_var rfl)) rfl) (fun _ => ev_c) (fun z => by cases z)) fun _ _ => rfl) fun v _ q => q
      | some t' =>
        obtain ⟨a, rfl, ha, _⟩ := hs
        refine fun H2 e2 Q q => et_isN (ev_var rfl) H2 e2 _ fun H3 e3 => ?_
        refine iteF ?_
        refine (EvL.p (P := fun v H4 => SlotF H1 H4 v (some t')) (el_list (ev_var rfl) (sq_of (e1 _ _ ha))) fun a' H4 ha' e4 h4 => ⟨a', rfl, ha', h4⟩) H3 (e2.trans e3) _ fun v H4 e4 p => q v H4 (e3.trans e4) p
/-! ### move_in_table -/
def sp_move_in_table (K : PySem.W.Frag) : Sp := fun vs H Q _ => ∃ (p q : Addr) (t adrs : List Nat) (start : Nat), vs = [.ref p, nV start, .ref q] ∧ SqL K H p (nL t) ∧ t.length ≤ 1000 ∧ SqT K H q (nL adrs) ∧ adrs.length ≤ 1000 ∧ RetL (nL (moveTab start adrs t)) H Q
/-- the dict behind so many addresses -/
def Moved (start : Nat) (adrs : List Nat) (j : Nat) (m : List (Nat × V)) : Prop := m.length ≤ j ∧ ∀ a, valV m a = if a ≠ 0 ∧ a ∈ adrs.take j then some (nV (start + adrs.idxOf a)) else none
theorem idxOf_at {adrs : List Nat} {j a : Nat} (h : adrs[j]? = some a) (n : a ∉ adrs.take j) : adrs.idxOf a = j := by
  have hj := (List.getElem?_eq_some_iff.mp h).1
  have e : adrs = adrs.take j ++ a :: adrs.drop (j + 1) := by
    have := (List.getElem?_eq_some_iff.mp h).2
    rw [← this]
    simp
  rw [e, List.idxOf_append, if_neg n]
  simp
  omega
theorem Moved.step {start : Nat} {adrs : List Nat} {j a : Nat} {m : List (Nat × V)} (h : Moved start adrs j m) (ha : adrs[j]? = some a) (n : a ≠ 0) (v : valV m a = none) : Moved start adrs (j + 1) (putK m a (nV (start + j))) := by
  have hn : a ∉ adrs.take j := fun z => by
    rw [h.2 a, if_pos ⟨n, z⟩] at v
    cases v
  refine ⟨Nat.le_trans (length_putK ..) (Nat.succ_le_succ h.1), fun b => ?_⟩
  rw [valV_put, take_snoc ha]
  by_cases e : b = a
  · rw [if_pos e, e, if_pos ⟨n, by simp⟩, idxOf_at ha hn]
  · rw [if_neg e, h.2 b]
    simp [e]
theorem Moved.skip {start : Nat} {adrs : List Nat} {j a : Nat} {m : List (Nat × V)} (h : Moved start adrs j m) (ha : adrs[j]? = some a) (n : a = 0 ∨ (valV m a).isSome = true) : Moved start adrs (j + 1) m := by
  refine ⟨Nat.le_succ_of_le h.1, fun b => ?_⟩
  rw [h.2 b, take_snoc ha]
  by_cases e : b = a
  · rw [e]
    rcases n with n | n
    · simp [n]
    · rw [h.2 a] at n
      by_cases q : a ≠ 0 ∧ a ∈ adrs.take j
      · rw [if_pos q, if_pos ⟨q.1, by simp⟩]
      · rw [if_neg q] at n
        cases n
  · simp [e]
-- move_in_table: 0:table 1:start 2:addresses 3:moved 4:number 5:address
abbrev nm_move_in_table : List Str := ["table", "start", "addresses", "moved", "number", "address"]
theorem sc_move_in_table : FnScope nm_move_in_table ["table", "start", "addresses"] (defScope s_move_in_table) := ⟨rfl, rfl, rfl, by decide +kernel, rfl, by decide +kernel, by decide +kernel⟩
theorem ok_move_in_table (T : Ctx K mg base) : Okd P w K mg base 1 (He.ga K "move_in_table") ["table", "start", "addresses"] (sp_move_in_table K) := by
  obtain ⟨fd, F⟩ := T.def_move_in_table
  have b : Binds K fd ["table", "start", "addresses"] [] := FunD.bindsN F fun _ _ _ _ _ _ us hl => match us, hl with | [_, _, _], _ => rfl
  refine ⟨fd, FunD.ok F sc_move_in_table (fun vs H Q E h => ?_) (fun cdv A outer s H vs Q E hr h => ?_), b, F.kp⟩
  · obtain ⟨p, q, t, adrs, start, rfl, _⟩ := h
    rfl
  · obtain ⟨p, q, t, adrs, start, rfl, hp, hlt, hq, hla, k⟩ := h
    have hu := hu_of hr
    refine ⟨_, PSs.nox (pss_cons (ps_set (i := 3) sc_move_in_table.nd rfl (Or.inr rfl) pe_dnewK)
      (pss_cons (ps_for PassesOwn.never rfl (pi_enumT rfl T.free_enumerate (pa_cons (pv 2) pa_nil)) (pg_tup rfl (pgs_cons (pg_name (i := 4) sc_move_in_table.nd rfl (Or.inl rfl)) (pgs_cons (pg_name (i := 5) sc_move_in_table.nd rfl (Or.inl rfl)) pgs_nil))) (pss_one (ps_if (PW.pt (pw_and (pt_cmpR op_ne (pv 5) pe_int (nomark _)) (pw_and1 (pt_cmp (pc_dnotin hu (pv 5) (pv 3)))))) (pss_one (ps_dput hu (pv 3) (pv 5) (pe_op op_add (pv 1) (pv 4)) rfl)) pss_nil)))
      (pss_one (ps_ret (pe_lc (own := [("address", 5)]) rfl sc_move_in_table.nd (pi_list (pv 0)) (blkOk_by (own := [("address", 5)]) (N := nm_move_in_table) (sc := defScope s_move_in_table) (by decide +kernel)) (fun _ _ _ _ _ => (pg_name (i := 5) sc_move_in_table.nd rfl (Or.inl rfl) (hf := .inr rfl))) (fun _ _ _ _ _ => pts_nil) (fun _ _ _ _ _ => (pe_dget2 hu (pv 3) (pv 5) (pv 5) ⟨rfl, rfl, rfl, rfl⟩))))))), ?_⟩
    refine q_dnew fun d hd => ?_
    refine q_forET (a := q) (xs := nL adrs) (ea_cons (ev_var rfl) ea_nil) (ex_t (Ex.new hd) hq) (fun j σ' H' => ∃ x y m, σ' = [some (.ref p), some (nV start), some (.ref q), some (.ref d), x, y] ∧ Ex H H' ∧ H' d = some (.dK (dN m)) ∧ Moved start adrs j m)
      (fun H1 e1 => ⟨none, none, [], rfl, (Ex.new hd).trans e1, e1 _ _ upd_same, Nat.le_refl _, fun a => by simp; rfl⟩) (fun j σ' H' _ ⟨_, _, _, _, e, _⟩ => ex_t e hq) ?_ ?_
    · rintro j x σ' H' r hj ⟨x1, y1, m, rfl, e, hd', hm⟩ hr
      obtain ⟨a, ha, rfl⟩ := nL_get hj
      have jl := (List.getElem?_eq_some_iff.mp ha).1
      have hdr : d ≠ r := ne_of_none hd' hr
      have hd2 : (upd H' r (.tup [.int (j : Int), nV a])) d = some (.dK (dN m)) := by
        rw [upd_ne hdr]
        exact hd'
      refine g_pair upd_same ?_
      refine s_when (b := !decide (V.int (a : Int) = V.int 0) && !(valV m a).isSome) (et_and (et_cmp (ev_var rfl) ev_c (rv_ne rfl)) (fun _ => et_val (ev_dnotin (ev_var rfl) (ev_var rfl) hd2))) (fun hb H3 e3 => ?_) (fun hb H3 e3 => ?_)
      · have hb1 : a ≠ 0 := fun z => by simp [z] at hb
        have hb2 : valV m a = none := by
          cases hv : valV m a with
          | none => rfl
          | some v => rw [hv] at hb; simp at hb
        refine s_dput (v := nV (start + j)) (e3 _ _ hd2) (ev_is (ev_op (ev_var rfl) (ev_var rfl) rv_I0) (by show V.int _ = V.int _; congr 1)) (ev_var rfl) (ev_var rfl) (by have := hm.1; omega) fun H4 e4 => ?_
        exact ⟨_, _, _, rfl, Ex.mut ((e.trans (Ex.new hr)).trans (e3.trans e4)) hd, upd_same, hm.step ha hb1 hb2⟩
      · refine ⟨_, _, m, rfl, (e.trans (Ex.new hr)).trans e3, e3 _ _ hd2, hm.skip ha ?_⟩
        by_cases z : a = 0
        · exact .inl z
        · right
          cases hv : (valV m a).isSome with
          | true => rfl
          | false =>
            rw [hv] at hb
            simp at hb
            omega
    · rintro σ' H' ⟨x1, y1, m, rfl, e, hd', hm⟩
      rw [List.length_map] at hm
      have key := el_lcL (K := K) (σ := [some (V.ref p), some (nV start), some (.ref q), some (.ref d), x1, y1]) (H := H') (te := tDGet2 (tVar 3) (tVar 5) (tVar 5)) (tl := tVar 0) (a := p) (xs := nL t) (j := 5) (vs := [5]) (t := tYes)
        (fun _ => true) (fun i => nV (mvA start adrs (t.getD i 0))) (ev_var rfl) (ex_l e hp) (by rw [List.length_map]; omega) (fun _ => rfl) (fun _ _ _ _ _ => et_yes) (fun i x H1 e1 hx _ => ?_)
      · refine s_retL key fun r H2 hr e2 h2 => k r H2 (fresh_back e hr) (e.trans e2) ?_
        rw [h2, given_all]
        congr 2
        unfold moveTab nL
        rw [List.map_map, List.length_map]
        refine List.ext_getElem? fun i => ?_
        rw [List.getElem?_map, List.getElem?_map]
        by_cases hi : i < t.length
        · rw [List.getElem?_range hi, List.getElem?_eq_getElem hi]
          simp [hi]
        · rw [List.getElem?_eq_none (by simp; omega), List.getElem?_eq_none (by omega)]
          rfl
      · obtain ⟨a, ha, rfl⟩ := nL_get hx
        refine ev_is (ev_dget2 (ev_var rfl) (ev_var rfl) (ev_var rfl) (e1 _ _ hd')) ?_
        rw [List.getD_eq_getElem?_getD, ha, hm.2 a, List.take_length]
        unfold mvA
        show Option.getD _ (nV a) = nV (if a ≠ 0 ∧ a ∈ adrs then start + adrs.idxOf a else a)
        split <;> rfl
end
end Sg

set_option maxHeartbeats 4000000
/-! logs, devices, layouts: their attributes read and set -/
namespace Sg
open PySem PySem.Spec PyProof.Rows L2 Evl
section
variable {K : PySem.W.Frag} {mg : Str → Option Value} {base : Heap} {σ : L2.St} {H H' H2 : Hp} {ta : TE} {A : Ad} {l : Lay} {L : Lg} {su se : Dev} {wa : List (Nat × Blk)} {a : Addr}
theorem lv_device (T : Ctx K mg base) (h : LogAt K H A l L) (e : Ev ta σ H (.ref A.lg)) : Ev (tFld K ta "device") σ H (.ref A.dv) := by
  obtain ⟨dx, q⟩ := h.lg
  exact ev_fld e q T.cls_Log T.na_Log_device (log_device ..)
theorem lv_layout (T : Ctx K mg base) (h : LogAt K H A l L) (e : Ev ta σ H (.ref A.lg)) : Ev (tFld K ta "layout") σ H (.ref A.la) := by
  obtain ⟨dx, q⟩ := h.lg
  exact ev_fld e q T.cls_Log T.na_Log_layout (log_layout ..)
theorem lv_present (T : Ctx K mg base) (h : LogAt K H A l L) (e : Ev ta σ H (.ref A.lg)) : Ev (tFld K ta "present") σ H (.ref A.pr) := by
  obtain ⟨dx, q⟩ := h.lg
  exact ev_fld e q T.cls_Log T.na_Log_present (log_present ..)
theorem lv_slots (T : Ctx K mg base) (h : LogAt K H A l L) (e : Ev ta σ H (.ref A.lg)) : Ev (tFld K ta "slots") σ H (.ref A.sl) := by
  obtain ⟨dx, q⟩ := h.lg
  exact ev_fld e q T.cls_Log T.na_Log_slots (log_slots ..)
theorem lv_head (T : Ctx K mg base) (h : LogAt K H A l L) (e : Ev ta σ H (.ref A.lg)) : Ev (tFld K ta "head") σ H (nV L.T.head) := by
  obtain ⟨dx, q⟩ := h.lg
  exact ev_fld e q T.cls_Log T.na_Log_head (log_head ..)
theorem lv_place (T : Ctx K mg base) (h : LogAt K H A l L) (e : Ev ta σ H (.ref A.lg)) : Ev (tFld K ta "place") σ H (nV L.T.place) := by
  obtain ⟨dx, q⟩ := h.lg
  exact ev_fld e q T.cls_Log T.na_Log_place (log_place ..)
theorem lv_queue (T : Ctx K mg base) (h : LogAt K H A l L) (e : Ev ta σ H (.ref A.lg)) : Ev (tFld K ta "queue") σ H (.ref A.qu) := by
  obtain ⟨dx, q⟩ := h.lg
  exact ev_fld e q T.cls_Log T.na_Log_queue (log_queue ..)
theorem lv_last_sequence (T : Ctx K mg base) (h : LogAt K H A l L) (e : Ev ta σ H (.ref A.lg)) : Ev (tFld K ta "last_sequence") σ H (nV L.lseq) := by
  obtain ⟨dx, q⟩ := h.lg
  exact ev_fld e q T.cls_Log T.na_Log_last_sequence (log_lseq ..)
theorem lv_region (T : Ctx K mg base) (h : LogAt K H A l L) (e : Ev ta σ H (.ref A.lg)) : Ev (tFld K ta "region") σ H (nV L.reg) := by
  obtain ⟨dx, q⟩ := h.lg
  exact ev_fld e q T.cls_Log T.na_Log_region (log_region ..)
theorem lv_counts (T : Ctx K mg base) (h : LogAt K H A l L) (e : Ev ta σ H (.ref A.lg)) : Ev (tFld K ta "counts") σ H (.ref A.ct) := by
  obtain ⟨dx, q⟩ := h.lg
  exact ev_fld e q T.cls_Log T.na_Log_counts (log_counts ..)
theorem yv_segments (T : Ctx K mg base) (h : LayAt K H a l) (e : Ev ta σ H (.ref a)) : Ev (tFld K ta "segments") σ H (nV l.seg) := by
  obtain ⟨_, dx, q⟩ := h
  exact ev_fld e q T.cls_Layout T.na_Layout_segments (lay_seg l)
theorem yv_segment_blocks (T : Ctx K mg base) (h : LayAt K H a l) (e : Ev ta σ H (.ref a)) : Ev (tFld K ta "segment_blocks") σ H (nV l.sb) := by
  obtain ⟨_, dx, q⟩ := h
  exact ev_fld e q T.cls_Layout T.na_Layout_segment_blocks (lay_sb l)
theorem yv_block_size (T : Ctx K mg base) (h : LayAt K H a l) (e : Ev ta σ H (.ref a)) : Ev (tFld K ta "block_size") σ H (nV l.bs) := by
  obtain ⟨_, dx, q⟩ := h
  exact ev_fld e q T.cls_Layout T.na_Layout_block_size (lay_bs l)
theorem yv_payload (T : Ctx K mg base) (h : LayAt K H a l) (e : Ev ta σ H (.ref a)) : Ev (tFld K ta "payload") σ H (nV l.pay) := by
  obtain ⟨_, dx, q⟩ := h
  exact ev_fld e q T.cls_Layout T.na_Layout_payload (lay_pay l)
theorem yv_limit (T : Ctx K mg base) (h : LayAt K H a l) (e : Ev ta σ H (.ref a)) : Ev (tFld K ta "limit") σ H (nV l.lim) := by
  obtain ⟨_, dx, q⟩ := h
  exact ev_fld e q T.cls_Layout T.na_Layout_limit (lay_lim l)
theorem yv_last_id (T : Ctx K mg base) (h : LayAt K H a l) (e : Ev ta σ H (.ref a)) : Ev (tFld K ta "last_id") σ H (nV l.last) := by
  obtain ⟨_, dx, q⟩ := h
  exact ev_fld e q T.cls_Layout T.na_Layout_last_id (lay_last l)
theorem yv_fan (T : Ctx K mg base) (h : LayAt K H a l) (e : Ev ta σ H (.ref a)) : Ev (tFld K ta "fan") σ H (nV l.fan) := by
  obtain ⟨_, dx, q⟩ := h
  exact ev_fld e q T.cls_Layout T.na_Layout_fan (lay_fan l)
theorem yv_region_blocks (T : Ctx K mg base) (h : LayAt K H a l) (e : Ev ta σ H (.ref a)) : Ev (tFld K ta "region_blocks") σ H (nV l.rb) := by
  obtain ⟨_, dx, q⟩ := h
  exact ev_fld e q T.cls_Layout T.na_Layout_region_blocks (lay_rb l)
theorem yv_device_blocks (T : Ctx K mg base) (h : LayAt K H a l) (e : Ev ta σ H (.ref a)) : Ev (tFld K ta "device_blocks") σ H (nV l.db) := by
  obtain ⟨_, dx, q⟩ := h
  exact ev_fld e q T.cls_Layout T.na_Layout_device_blocks (lay_db l)
theorem dv_layout (T : Ctx K mg base) (h : DevAt K H A l su se wa) (e : Ev ta σ H (.ref A.dv)) : Ev (tFld K ta "layout") σ H (.ref A.la) := by
  obtain ⟨dx, q⟩ := h.dv
  exact ev_fld e q T.cls_Device T.na_Device_layout (dev_layout A)
theorem dv_sure (T : Ctx K mg base) (h : DevAt K H A l su se wa) (e : Ev ta σ H (.ref A.dv)) : Ev (tFld K ta "sure") σ H (.ref A.su) := by
  obtain ⟨dx, q⟩ := h.dv
  exact ev_fld e q T.cls_Device T.na_Device_sure (dev_sure A)
theorem dv_seen (T : Ctx K mg base) (h : DevAt K H A l su se wa) (e : Ev ta σ H (.ref A.dv)) : Ev (tFld K ta "seen") σ H (.ref A.sn) := by
  obtain ⟨dx, q⟩ := h.dv
  exact ev_fld e q T.cls_Device T.na_Device_seen (dev_seen A)
theorem dv_waiting (T : Ctx K mg base) (h : DevAt K H A l su se wa) (e : Ev ta σ H (.ref A.dv)) : Ev (tFld K ta "waiting") σ H (.ref A.wt) := by
  obtain ⟨dx, q⟩ := h.dv
  exact ev_fld e q T.cls_Device T.na_Device_waiting (dev_waiting A)
theorem dv_fuse (T : Ctx K mg base) (h : DevAt K H A l su se wa) (e : Ev ta σ H (.ref A.dv)) : Ev (tFld K ta "fuse") σ H (.non) := by
  obtain ⟨dx, q⟩ := h.dv
  exact ev_fld e q T.cls_Device T.na_Device_fuse (dev_fuse A)
theorem dv_dark (T : Ctx K mg base) (h : DevAt K H A l su se wa) (e : Ev ta σ H (.ref A.dv)) : Ev (tFld K ta "dark") σ H (.bl false) := by
  obtain ⟨dx, q⟩ := h.dv
  exact ev_fld e q T.cls_Device T.na_Device_dark (dev_dark A)
/-- what is not at x stays -/
def ExB (x : Addr) (H H2 : Hp) : Prop := ∀ b o, H b = some o → b ≠ x → H2 b = some o
theorem ExB.put {x : Addr} {o : HO} (e : ExB x H H') (e2 : Ex H' H2) : ExB x H (upd H2 x o) := fun b u h n => by
  rw [upd_ne n]
  exact e2 _ _ (e b u h n)
theorem ExB.refl {x : Addr} : ExB x H H := fun b o h _ => h
theorem ExB.ex {x : Addr} (e : ExB x H H') (e2 : Ex H' H2) : ExB x H H2 := fun b u h n => e2 _ _ (e b u h n)
theorem ExB.new {x b : Addr} {o : HO} (e : ExB x H H') (hx : H x = some o) (h : H' b = none) (hn : H' x ≠ none) : H b = none := by
  cases q : H b with
  | none => rfl
  | some u =>
    by_cases z : b = x
    · rw [z] at h
      exact absurd h hn
    · rw [e b u q z] at h
      cases h
theorem ExB.made {x dx C : Addr} {H1 : Hp} (hx : H1 x = none) (hd : H1 dx = none) (e : ExB x (upd (upd H1 dx (.own x)) x (.ins C dx [])) H2) : Ex H1 H2 := fun b o h => by
  have n1 : b ≠ x := fun z => by rw [z, hx] at h; cases h
  have n2 : b ≠ dx := fun z => by rw [z, hd] at h; cases h
  refine e b o ?_ n1
  rw [upd_ne n1, upd_ne n2]
  exact h
theorem evp_make {C : Addr} {sp : Sp} {dvs vs : List V} {E : XK} {tA : TA} {P : V → Hp → Prop} (h : EvA tA σ H vs)
    (hs : ∀ H1, Ex H H1 → ∀ x dx, H1 x = none → H1 dx = none → dx ≠ x → ∀ (Q : VK) (E : XK), (∀ H2, Ex H1 H2 → P (.ref x) H2 → Q .non H2) → sp (.ref x :: (vs ++ dvs)) (upd (upd H1 dx (.own x)) x (.ins C dx [])) Q E) : EvP (tMake C sp dvs E tA) σ H P := fun H1 e Q q =>
  h H1 e _ fun H2 e2 x dx hx hd hn => hs H2 (e.trans e2) x dx hx hd hn _ _ fun H3 e3 p => ⟨rfl, q _ H3 (e2.trans e3) p⟩
/-! ### the log's own attributes -/
theorem LogAt.setL (h : LogAt K H A l L) {dx : Addr} {H1 : Hp} (e : Ex H H1) (hx : H1 A.lg = some (.ins (He.ga K "Log") dx (logF A L.T.head L.T.place L.lseq L.reg))) (p s q : Addr) (T' : TS) (ls rg : Nat) (hp : H1 p = some (.lst (nL T'.pres)) ∧ p ∉ A.own)
    (hs : ∃ vs, H1 s = some (.lst vs) ∧ Rl (SlotAt H1 A.own) vs T'.slots ∧ s ∉ A.own) (hq : H1 q = some (.lst (nL T'.queue)) ∧ q ∉ A.own) :
    LogAt K (upd H1 A.lg (.ins (He.ga K "Log") dx (logF { A with pr := p, sl := s, qu := q } T'.head T'.place ls rg))) { A with pr := p, sl := s, qu := q } l { L with T := T', lseq := ls, reg := rg } ∧
    Evo H A (upd H1 A.lg (.ins (He.ga K "Log") dx (logF { A with pr := p, sl := s, qu := q } T'.head T'.place ls rg))) { A with pr := p, sl := s, qu := q } := by
  have hk : ∀ b o, H1 b = some o → b ≠ A.lg → (upd H1 A.lg (.ins (He.ga K "Log") dx (logF { A with pr := p, sl := s, qu := q } T'.head T'.place ls rg))) b = some o := fun b o z n => by
    rw [upd_ne n]
    exact z
  have tx : Tx H1 (upd H1 A.lg (.ins (He.ga K "Log") dx (logF { A with pr := p, sl := s, qu := q } T'.head T'.place ls rg))) := Tx.upd (Tx.refl _) fun xs z => by rw [hx] at z; cases z
  have hm : A.lg ∈ A.own := List.mem_cons_self
  have ho : ∀ b, b ∉ A.own → b ≠ A.lg := fun b n z => n (by rw [z]; exact hm)
  have nd := h.nd
  have nn : ∀ b, b ∈ [A.dv, A.sn, A.su, A.wt, A.ct] → b ≠ A.lg := fun b hb z => by
    have := (List.nodup_cons.mp (show (A.lg :: [A.dv, A.sn, A.su, A.wt, A.ct]).Nodup from nd)).1
    rw [z] at hb
    exact this hb
  obtain ⟨⟨dd, d1⟩, la, ⟨v1, a1, a2⟩, ⟨v2, b1, b2⟩, ⟨v3, c1, c2⟩, n1, n2, n3, l1, l2⟩ := h.dev.mono e
  obtain ⟨dc, m1, m2, m3, m4, m5, m6, m7, c⟩ := h.ct
  obtain ⟨vs, s1, s2, s3⟩ := hs
  obtain ⟨lo, dl, hla⟩ := la
  refine ⟨⟨⟨dx, upd_same⟩, ⟨⟨dd, hk _ _ d1 (nn _ (by simp))⟩, ⟨lo, dl, hk _ _ hla (ho _ h.la)⟩, ⟨v1, hk _ _ a1 (nn _ (by simp)), a2.mono fun _ _ z => z.mono tx⟩, ⟨v2, hk _ _ b1 (nn _ (by simp)), b2.mono fun _ _ z => z.mono tx⟩, ⟨v3, hk _ _ c1 (nn _ (by simp)), c2.mono fun _ _ z => z.mono tx⟩, n1, n2, n3, l1, l2⟩,
    ⟨dc, m1, m2, m3, m4, m5, m6, m7, hk _ _ (e _ _ c) (nn _ (by simp))⟩, ⟨hk _ _ hp.1 (ho _ hp.2), hp.2⟩, ⟨vs, hk _ _ s1 (ho _ s3), s2.mono fun _ _ z => z.mono fun b o y n => hk b o y (ho _ n), s3⟩, ⟨hk _ _ hq.1 (ho _ hq.2), hq.2⟩, nd, h.la⟩,
    ⟨rfl, rfl, rfl, fun _ _ _ n => n, fun b o z n => hk b o (e _ _ z) (ho _ n), (Ex.tx e).trans tx⟩⟩
/-- the device's change, seen from the log -/
theorem LogAt.setD (h : LogAt K H A l L) {w' : Addr} {su' se' : Dev} {wa' : List (Nat × Blk)} (d : DevAt K H2 { A with wt := w' } l su' se' wa') (hw : w' = A.wt ∨ H w' = none) (kp : ∀ b o, H b = some o → b ∉ [A.dv, A.sn, A.su, A.wt] → H2 b = some o) :
    LogAt K H2 { A with wt := w' } l { L with sure := su', seen := se', wait := wa' } ∧ Evo H A H2 { A with wt := w' } := by
  have nd : (A.lg :: A.dv :: A.sn :: A.su :: A.wt :: [A.ct]).Nodup := h.nd
  simp only [List.nodup_cons, List.mem_cons, List.not_mem_nil, or_false, not_or, List.nodup_nil, and_true] at nd
  obtain ⟨⟨g1, g2, g3, g4, g5⟩, ⟨g6, g7, g8, g9⟩, ⟨g10, g11, g12⟩, ⟨g13, g14⟩, g15, _⟩ := nd
  have so : ∀ b, b ∉ A.own → b ∉ [A.dv, A.sn, A.su, A.wt] := fun b n z => n (by
    simp only [List.mem_cons, List.not_mem_nil, or_false] at z
    unfold Ad.own
    simp only [List.mem_cons, List.not_mem_nil, or_false]
    rcases z with z | z | z | z <;> simp [z])
  have hn : ∀ b o, H b = some o → b ∉ A.own → b ∉ ({ A with wt := w' } : Ad).own := fun b o z n y => by
    unfold Ad.own at y n
    simp only [List.mem_cons, List.not_mem_nil, or_false, not_or] at y n
    rcases hw with hw | hw
    · rw [hw] at y
      obtain ⟨n1, n2, n3, n4, n5, n6⟩ := n
      rcases y with y | y | y | y | y | y <;> contradiction
    · obtain ⟨n1, n2, n3, n4, n5, n6⟩ := n
      rcases y with y | y | y | y | y | y
      · exact n1 y
      · exact n2 y
      · exact n3 y
      · exact n4 y
      · rw [y, hw] at z
        cases z
      · exact n6 y
  obtain ⟨dx, hl⟩ := h.lg
  obtain ⟨dc, m1, m2, m3, m4, m5, m6, m7, c⟩ := h.ct
  obtain ⟨p1, p2⟩ := h.pr
  obtain ⟨vs, s1, s2, s3⟩ := h.sl
  obtain ⟨q1, q2⟩ := h.qu
  obtain ⟨lo, dl, hla⟩ := h.dev.la
  have tx : Tx H H2 := fun b xs z => kp b _ z fun y => by
    obtain ⟨⟨dd, d1⟩, _, ⟨v1, a1, a2⟩, ⟨v2, b1, b2⟩, ⟨v3, c1, c2⟩, _⟩ := h.dev
    simp only [List.mem_cons, List.not_mem_nil, or_false] at y
    rcases y with y | y | y | y <;> rw [y] at z
    · rw [d1] at z; cases z
    · rw [b1] at z; cases z
    · rw [a1] at z; cases z
    · rw [c1] at z; cases z
  have wn : ∀ b o, H b = some o → b ≠ A.wt → b ≠ w' := fun b o z n y => by
    rcases hw with hw | hw
    · exact n (y.trans hw)
    · rw [y, hw] at z
      cases z
  refine ⟨⟨⟨dx, kp _ _ hl ?_⟩, d, ⟨dc, m1, m2, m3, m4, m5, m6, m7, kp _ _ c ?_⟩, ⟨kp _ _ p1 (so _ p2), hn _ _ p1 p2⟩, ⟨vs, kp _ _ s1 (so _ s3), s2.mono fun v o z => ?_, hn _ _ s1 s3⟩, ⟨kp _ _ q1 (so _ q2), hn _ _ q1 q2⟩, ?_, hn _ _ hla h.la⟩, ⟨rfl, rfl, rfl, hn, fun b o z n => kp b o z (so _ n), tx⟩⟩
  · simp only [List.mem_cons, List.not_mem_nil, or_false, not_or]
    exact ⟨g1, g2, g3, g4⟩
  · simp only [List.mem_cons, List.not_mem_nil, or_false, not_or]
    exact ⟨fun z => g9 z.symm, fun z => g12 z.symm, fun z => g14 z.symm, fun z => g15 z.symm⟩
  · cases o with
    | none => exact z
    | some t =>
      obtain ⟨b, y1, y2, y3⟩ := z
      exact ⟨b, y1, kp _ _ y2 (so _ y3), hn _ _ y2 y3⟩
  · show (A.lg :: A.dv :: A.sn :: A.su :: w' :: [A.ct]).Nodup
    obtain ⟨⟨dd, d1⟩, _, ⟨v1, a1, a2⟩, ⟨v2, b1, b2⟩, ⟨v3, c1, c2⟩, _⟩ := h.dev
    simp only [List.nodup_cons, List.mem_cons, List.not_mem_nil, or_false, not_or, List.nodup_nil, and_true]
    exact ⟨⟨g1, g2, g3, wn _ _ hl g4, g5⟩, ⟨g6, g7, wn _ _ d1 g8, g9⟩, ⟨g10, wn _ _ b1 g11, g12⟩, ⟨wn _ _ a1 g13, g14⟩, fun z => wn _ _ c (fun y => g15 y.symm) z.symm, fun z => z⟩
/-- the counts change -/
theorem LogAt.setC (h : LogAt K H A l L) {dx : Addr} {H1 : Hp} (e : Ex H H1) {fs : List (Str × V)} (hx : H1 A.ct = some (.ins (He.ga K "Counts") dx fs)) (n1 n2 n3 n4 n5 n6 n7 : Int) :
    LogAt K (upd H1 A.ct (.ins (He.ga K "Counts") dx (cntF n1 n2 n3 n4 n5 n6 n7))) A l L ∧ Evo H A (upd H1 A.ct (.ins (He.ga K "Counts") dx (cntF n1 n2 n3 n4 n5 n6 n7))) A := by
  have hk : ∀ b o, H1 b = some o → b ≠ A.ct → (upd H1 A.ct (.ins (He.ga K "Counts") dx (cntF n1 n2 n3 n4 n5 n6 n7))) b = some o := fun b o z n => by
    rw [upd_ne n]
    exact z
  have tx : Tx H1 (upd H1 A.ct (.ins (He.ga K "Counts") dx (cntF n1 n2 n3 n4 n5 n6 n7))) := Tx.upd (Tx.refl _) fun xs z => by rw [hx] at z; cases z
  have hm : A.ct ∈ A.own := by unfold Ad.own; simp
  have ho : ∀ b, b ∉ A.own → b ≠ A.ct := fun b n z => n (by rw [z]; exact hm)
  have nd : (A.lg :: A.dv :: A.sn :: A.su :: A.wt :: [A.ct]).Nodup := h.nd
  simp only [List.nodup_cons, List.mem_cons, List.not_mem_nil, or_false, not_or, List.nodup_nil, and_true] at nd
  obtain ⟨⟨g1, g2, g3, g4, g5⟩, ⟨g6, g7, g8, g9⟩, ⟨g10, g11, g12⟩, ⟨g13, g14⟩, g15, _⟩ := nd
  obtain ⟨⟨dl, hl⟩, ⟨⟨dd, d1⟩, ⟨lo, dla, la⟩, ⟨v1, a1, a2⟩, ⟨v2, b1, b2⟩, ⟨v3, c1, c2⟩, k1, k2, k3, l1, l2⟩, _, ⟨p1, p2⟩, ⟨vs, s1, s2, s3⟩, ⟨q1, q2⟩, _, hla⟩ := h.mono e
  exact ⟨⟨⟨dl, hk _ _ hl g5⟩, ⟨⟨dd, hk _ _ d1 g9⟩, ⟨lo, dla, hk _ _ la (ho _ hla)⟩, ⟨v1, hk _ _ a1 g14, a2.mono fun _ _ z => z.mono tx⟩, ⟨v2, hk _ _ b1 g12, b2.mono fun _ _ z => z.mono tx⟩, ⟨v3, hk _ _ c1 g15, c2.mono fun _ _ z => z.mono tx⟩, k1, k2, k3, l1, l2⟩,
    ⟨dx, n1, n2, n3, n4, n5, n6, n7, upd_same⟩, ⟨hk _ _ p1 (ho _ p2), p2⟩, ⟨vs, hk _ _ s1 (ho _ s3), s2.mono fun _ _ z => z.mono fun b o y n => hk b o y (ho _ n), s3⟩, ⟨hk _ _ q1 (ho _ q2), q2⟩, h.nd, h.la⟩,
    ⟨rfl, rfl, rfl, fun _ _ _ n => n, fun b o z n => hk b o (e _ _ z) (ho _ n), (Ex.tx e).trans tx⟩⟩
end
end Sg

set_option maxHeartbeats 4000000
namespace Sg
open PySem PySem.Spec PyProof.Rows L2 Evl
section
variable {P : Program} {w : World} {K : PySem.W.Frag} {mg : Str → Option Value} {base : Heap}
/-! ### Counts -/
def sp_Counts_init (K : PySem.W.Frag) : Sp := fun vs H Q _ => ∃ (x dx : Addr), vs = [.ref x] ∧ H x = some (.ins (He.ga K "Counts") dx []) ∧ ∀ H2, ExB x H H2 → H2 x = some (.ins (He.ga K "Counts") dx (cntF 0 0 0 0 0 0 0)) → Q .non H2
abbrev nm_Counts_init : List Str := ["self"]
theorem sc_Counts_init : FnScope nm_Counts_init ["self"] (defScope s_Counts_init) := ⟨rfl, rfl, rfl, by decide +kernel, rfl, by decide +kernel, by decide +kernel⟩
theorem ok_Counts_init (T : Ctx K mg base) : Okd P w K mg base 1 (He.ma K (He.ga K "Counts") "__init__") ["self"] (sp_Counts_init K) := by
  obtain ⟨fd, F⟩ := T.def_Counts_init
  have b : Binds K fd ["self"] [] := FunD.bindsN F fun _ _ _ _ _ _ us hl => match us, hl with | [_], _ => rfl
  refine ⟨fd, FunD.ok F sc_Counts_init (fun vs H Q E h => ?_) (fun cdv A outer s H vs Q E hr h => ?_), b, F.kp⟩
  · obtain ⟨x, dx, rfl, _⟩ := h
    rfl
  · obtain ⟨x, dx, rfl, hx, k⟩ := h
    refine ⟨_, PSs.nox (pss_cons (ps_fld (pv 0) pe_int rfl)
      (pss_cons (ps_fld (pv 0) pe_int rfl)
      (pss_cons (ps_fld (pv 0) pe_int rfl)
      (pss_cons (ps_fld (pv 0) pe_int rfl)
      (pss_cons (ps_fld (pv 0) pe_int rfl)
      (pss_cons (ps_fld (pv 0) pe_int rfl)
      (pss_one (ps_fld (pv 0) pe_int rfl)))))))), ?_⟩
    refine q_fld ev_c (ev_var rfl) hx T.cls_Counts T.na_Counts_commits (Nat.le_of_ble_eq_true rfl) fun H1 e1 => ?_
    refine q_fld ev_c (ev_var rfl) upd_same T.cls_Counts T.na_Counts_commit_blocks (Nat.le_of_ble_eq_true rfl) fun H2 e2 => ?_
    refine q_fld ev_c (ev_var rfl) upd_same T.cls_Counts T.na_Counts_moves (Nat.le_of_ble_eq_true rfl) fun H3 e3 => ?_
    refine q_fld ev_c (ev_var rfl) upd_same T.cls_Counts T.na_Counts_move_blocks (Nat.le_of_ble_eq_true rfl) fun H4 e4 => ?_
    refine q_fld ev_c (ev_var rfl) upd_same T.cls_Counts T.na_Counts_checkpoints (Nat.le_of_ble_eq_true rfl) fun H5 e5 => ?_
    refine q_fld ev_c (ev_var rfl) upd_same T.cls_Counts T.na_Counts_checkpoint_blocks (Nat.le_of_ble_eq_true rfl) fun H6 e6 => ?_
    refine s_fld ev_c (ev_var rfl) upd_same T.cls_Counts T.na_Counts_barriers (Nat.le_of_ble_eq_true rfl) fun H7 e7 => ?_
    exact k _ (((((((ExB.refl.put e1).put e2).put e3).put e4).put e5).put e6).put e7) upd_same
theorem q_whenAsg {σ : L2.St} {H : Hp} {t : TT} {te : TE} {tz : L2.TS} {D : Ends} {i : Nat} {b : Bool} {R : V → Hp → Prop} (h : EvT t σ H b) (h1 : b = true → EvP te σ H R)
    (k : ∀ σ' H1, Ex H H1 → ((b = true ∧ ∃ v, σ' = σ.set i (some v) ∧ R v H1) ∨ (b = false ∧ σ' = σ)) → tz D σ' H1) : tSeq (tIfS t (tAsg te (gName i)) tNext) tz D σ H :=
  q_when h (fun hb H1 e1 => h1 hb H1 e1 _ fun v H2 e2 r => k _ H2 (e1.trans e2) (.inl ⟨hb, v, rfl, r⟩)) fun hb H1 e1 => k _ H1 e1 (.inr ⟨hb, rfl⟩)
theorem Rl.repl {α : Type} {R : V → α → Prop} {v : V} {x : α} (h : R v x) (n : Nat) : Rl R (List.replicate n v) (List.replicate n x) := by
  refine ⟨by simp, fun i u y a b => ?_⟩
  rw [(List.mem_replicate.mp (List.mem_of_getElem? a)).2, (List.mem_replicate.mp (List.mem_of_getElem? b)).2]
  exact h
theorem ins_fs {C C' dx dx' : Addr} {fs fs' : List (Str × V)} (h : (some (HO.ins C dx fs)) = some (HO.ins C' dx' fs')) : fs = fs' := by
  injection h with h
  injection h
/-! ### devices -/
def sp_Device_init (K : PySem.W.Frag) : Sp := fun vs H Q _ => ∃ (x dx la : Addr) (v : V) (l : Lay) (os : Dev), vs = [.ref x, .ref la, v] ∧ H x = some (.ins (He.ga K "Device") dx []) ∧ LayAt K H la l ∧ os.length = l.db ∧
  ((v = .non ∧ os = List.replicate l.db none) ∨ ∃ b us, v = .ref b ∧ H b = some (.lst us) ∧ Rl (OBlk H) us os) ∧
  ∀ H2 A', ExB x H H2 → A'.dv = x → A'.la = la → H A'.su = none → H A'.sn = none → H A'.wt = none → DevAt K H2 A' l os os [] → Q .non H2
abbrev nm_Device_init : List Str := ["self", "layout", "blocks"]
theorem sc_Device_init : FnScope nm_Device_init ["self", "layout", "blocks"] (defScope s_Device_init) := ⟨rfl, rfl, rfl, by decide +kernel, rfl, by decide +kernel, by decide +kernel⟩
theorem fn_Device_init (T : Ctx K mg base) : ∃ fd, FnOk P w K mg base CX0 1 (He.ma K (He.ga K "Device") "__init__") fd ["self", "layout", "blocks"] (sp_Device_init K) ∧ Binds K fd ["self", "layout", "blocks"] [] ∧ ∃ ds, Vals [.non] ds ∧ Binds K fd ["self", "layout", "blocks"] ds := by
  obtain ⟨fd, F⟩ := T.def_Device_init
  refine ⟨fd, FunD.ok F sc_Device_init (fun vs H Q E h => ?_) (fun cdv A outer s H vs Q E hr h => ?_), ?_, ?_⟩
  · obtain ⟨x, dx, la, v, l, os, rfl, _⟩ := h
    rfl
  · obtain ⟨x, dx, la, v, l, os, rfl, hx, hla, hlen, hv, k⟩ := h
    refine ⟨_, PSs.nox (pss_cons (ps_if (pt_cmp (pc_isN (pv 2)) rfl) (pss_one (ps_set (i := 2) sc_Device_init.nd rfl (Or.inl rfl) (pe_op op_rep (pe_lst (pa_cons pe_non pa_nil)) (pe_fld (pv 1) rfl)))) pss_nil)
      (pss_cons (ps_fld (pv 0) (pv 1) rfl)
      (pss_cons (ps_fld (pv 0) (pe_callTy call_list_of (by rfl) T.free_list (by decide +kernel) (pa_cons (pv 2) pa_nil)) rfl)
      (pss_cons (ps_fld (pv 0) (pe_callTy call_list_of (by rfl) T.free_list (by decide +kernel) (pa_cons (pv 2) pa_nil)) rfl)
      (pss_cons (ps_fld (pv 0) (pe_lst pa_nil) rfl)
      (pss_cons (ps_fld (pv 0) pe_non rfl)
      (pss_one (ps_fld (pv 0) pe_bl rfl)))))))), ?_⟩
    have hxl : x ≠ la := fun z => by
      obtain ⟨_, dl, q⟩ := hla
      rw [← z, hx] at q
      cases ins_fs q
    have hdb := hla.1.db1
    refine q_whenAsg (b := decide (v = .non)) (R := fun u H1 => ∃ b, u = .ref b ∧ H b = none ∧ H1 b = some (.lst (List.replicate l.db .non))) (et_isN (ev_var rfl)) (fun _ => EvL.p (el_rep (n := l.db) (el_lst (ea_cons ev_c ea_nil) (Nat.le_of_ble_eq_true rfl)) (fun H2 e2 => yv_device_blocks T (hla.mono e2) (ev_var rfl)) (by omega)) fun b H2 hb _ h2 => ⟨b, rfl, hb, h2⟩) fun σ' H1 e1 hc => ?_
    obtain ⟨bl, us, rfl, hbl, hrl, hbx⟩ : ∃ (bl : Addr) (us : List V), σ' = [some (.ref x), some (.ref la), some (.ref bl)] ∧ H1 bl = some (.lst us) ∧ Rl (OBlk H) us os ∧ bl ≠ x := by
      rcases hc with ⟨hc, u, rfl, bl, rfl, n1, n2⟩ | ⟨hc, rfl⟩
      · rcases hv with ⟨rfl, rfl⟩ | ⟨b', us', rfl, _⟩
        · exact ⟨bl, _, rfl, n2, Rl.repl (R := OBlk H) (x := none) rfl _, fun z => by rw [z, hx] at n1; cases n1⟩
        · cases hc
      · rcases hv with ⟨rfl, rfl⟩ | ⟨b', us', rfl, h1, h2⟩
        · cases hc
        · exact ⟨b', us', rfl, e1 _ _ h1, h2, fun z => by rw [z, hx] at h1; cases h1⟩
    have hx1 := e1 _ _ hx
    have B1 : ExB x H H1 := ExB.refl.ex e1
    obtain ⟨lo, dl, hlq⟩ := hla
    refine q_fld (ev_var rfl) (ev_var rfl) hx1 T.cls_Device T.na_Device_layout (Nat.le_of_ble_eq_true rfl) fun H2 e2 => ?_
    have B2 := B1.put (o := .ins (He.ga K "Device") dx (putF "layout" (.ref la) [])) e2
    have hb2 : ∀ {o : HO}, (upd H2 x o) bl = some (.lst us) := by intro o; rw [upd_ne hbx]; exact e2 _ _ hbl
    refine q_fldL (el_list (ev_var rfl) (sq_of hb2)) (ev_var rfl) upd_same T.cls_Device T.na_Device_sure (Nat.le_of_ble_eq_true rfl) fun s1 H3 hs1 e3 h3 => ?_
    have B3 := B2.put (o := .ins (He.ga K "Device") dx (putF "sure" (.ref s1) (putF "layout" (.ref la) []))) e3
    have ns1 := B2.new hx hs1 (by rw [upd_same]; simp)
    have n1x : s1 ≠ x := fun z => by rw [z, hx] at ns1; cases ns1
    have hb3 : ∀ {o : HO}, (upd H3 x o) bl = some (.lst us) := by intro o; rw [upd_ne hbx]; exact e3 _ _ hb2
    have h13 : ∀ {o : HO}, (upd H3 x o) s1 = some (.lst us) := by intro o; rw [upd_ne n1x]; exact h3
    refine q_fldL (el_list (ev_var rfl) (sq_of hb3)) (ev_var rfl) upd_same T.cls_Device T.na_Device_seen (Nat.le_of_ble_eq_true rfl) fun s2 H4 hs2 e4 h4 => ?_
    have B4 := B3.put (o := .ins (He.ga K "Device") dx (putF "seen" (.ref s2) (putF "sure" (.ref s1) (putF "layout" (.ref la) [])))) e4
    have ns2 := B3.new hx hs2 (by rw [upd_same]; simp)
    have n2x : s2 ≠ x := fun z => by rw [z, hx] at ns2; cases ns2
    have n12 : s1 ≠ s2 := ne_of_none h13 hs2
    have h14 : ∀ {o : HO}, (upd H4 x o) s1 = some (.lst us) := by intro o; rw [upd_ne n1x]; exact e4 _ _ h13
    have h24 : ∀ {o : HO}, (upd H4 x o) s2 = some (.lst us) := by intro o; rw [upd_ne n2x]; exact h4
    refine q_fldL (el_lst ea_nil (Nat.zero_le _)) (ev_var rfl) upd_same T.cls_Device T.na_Device_waiting (Nat.le_of_ble_eq_true rfl) fun s3 H5 hs3 e5 h5 => ?_
    have B5 := B4.put (o := .ins (He.ga K "Device") dx (putF "waiting" (.ref s3) (putF "seen" (.ref s2) (putF "sure" (.ref s1) (putF "layout" (.ref la) []))))) e5
    have ns3 := B4.new hx hs3 (by rw [upd_same]; simp)
    have n3x : s3 ≠ x := fun z => by rw [z, hx] at ns3; cases ns3
    have n13 : s1 ≠ s3 := ne_of_none h14 hs3
    have n23 : s2 ≠ s3 := ne_of_none h24 hs3
    refine q_fld ev_c (ev_var rfl) upd_same T.cls_Device T.na_Device_fuse (Nat.le_of_ble_eq_true rfl) fun H6 e6 => ?_
    have B6 := B5.put (o := .ins (He.ga K "Device") dx (putF "fuse" .non (putF "waiting" (.ref s3) (putF "seen" (.ref s2) (putF "sure" (.ref s1) (putF "layout" (.ref la) [])))))) e6
    refine s_fld ev_c (ev_var rfl) upd_same T.cls_Device T.na_Device_dark (Nat.le_of_ble_eq_true rfl) fun H7 e7 => ?_
    have B7 := B6.put (o := .ins (He.ga K "Device") dx (putF "dark" (.bl false) (putF "fuse" .non (putF "waiting" (.ref s3) (putF "seen" (.ref s2) (putF "sure" (.ref s1) (putF "layout" (.ref la) []))))))) e7
    have tx : Tx H _ := fun b xs h => B7 b _ h fun z => by rw [z, hx] at h; cases h
    refine k _ { lg := x, dv := x, sn := s2, su := s1, wt := s3, ct := x, la := la, pr := x, sl := x, qu := x } B7 rfl rfl ns1 ns2 ns3 ⟨⟨dx, upd_same⟩, ⟨lo, dl, B7 _ _ hlq hxl.symm⟩, ⟨us, ?_, ?_⟩, ⟨us, ?_, ?_⟩, ⟨[], ?_, Rl.nil⟩, n12, n13, n23, hlen, hlen⟩
    · rw [upd_ne n1x]
      refine e7 _ _ ?_
      rw [upd_ne n1x]
      refine e6 _ _ ?_
      rw [upd_ne n1x]
      exact e5 _ _ h14
    · exact hrl.mono fun _ _ z => z.mono tx
    · rw [upd_ne n2x]
      refine e7 _ _ ?_
      rw [upd_ne n2x]
      refine e6 _ _ ?_
      rw [upd_ne n2x]
      exact e5 _ _ h24
    · exact hrl.mono fun _ _ z => z.mono tx
    · rw [upd_ne n3x]
      refine e7 _ _ ?_
      rw [upd_ne n3x]
      refine e6 _ _ ?_
      rw [upd_ne n3x]
      exact h5
  · obtain ⟨ds, hv, hb⟩ := FunD.binds1 (ps := ["self", "layout", "blocks"]) F 3 1 (fun h => by cases h) rfl fun T0 kV doc pm an cdv ct us its h1 h2 => match us, h1 with | [_, _, _], _ => ⟨_, rfl, match its, h2 with | [_], _ => rfl⟩
    cases hv
    exact hb
  · exact FunD.binds1 F 2 0 (fun h => by cases h) rfl fun T0 kV doc pm an cdv ct us its h1 h2 => match us, h1 with | [_, _], _ => ⟨_, rfl, match its, h2 with | [_], _ => rfl⟩
end
end Sg

set_option maxHeartbeats 4000000
namespace Sg
open PySem PySem.Spec PyProof.Rows L2 Evl
section
variable {P : Program} {w : World} {K : PySem.W.Frag} {mg : Str → Option Value} {base : Heap}
def Okm (P : Program) (w : World) (K : PySem.W.Frag) (mg : Str → Option Value) (base : Heap) (k : Nat) (f : Addr) (ps : List Str) (sp : Sp) : Prop := ∃ fd, FnOk P w K mg base CX0 k f fd ps sp ∧ Binds K fd ps []
/-! ### _count_command -/
def sp_Device_count_command (K : PySem.W.Frag) : Sp := fun vs H Q _ => ∃ A l su se wa, vs = [.ref A.dv] ∧ DevAt K H A l su se wa ∧ RetV .non H Q
abbrev nm_Device_count_command : List Str := ["self"]
theorem sc_Device_count_command : FnScope nm_Device_count_command ["self"] (defScope s_Device_count_command) := ⟨rfl, rfl, rfl, by decide +kernel, rfl, by decide +kernel, by decide +kernel⟩
theorem ok_Device_count_command (T : Ctx K mg base) : Okd P w K mg base 1 (He.ma K (He.ga K "Device") "_count_command") ["self"] (sp_Device_count_command K) := by
  obtain ⟨fd, F⟩ := T.def_Device_count_command
  have b : Binds K fd ["self"] [] := FunD.bindsN F fun _ _ _ _ _ _ us hl => match us, hl with | [_], _ => rfl
  refine ⟨fd, FunD.ok F sc_Device_count_command (fun vs H Q E h => ?_) (fun cdv A outer s H vs Q E hr h => ?_), b, F.kp⟩
  · obtain ⟨A, l, su, se, wa, rfl, _⟩ := h
    rfl
  · obtain ⟨A, l, su, se, wa, rfl, hd, k⟩ := h
    refine ⟨_, PSs.nox (pss_cons (ps_if (PW.pt (pw_or (pt_cmp (pc_isN (pe_fld (pv 0) rfl)) rfl) (pw_or1 (pt_val (pe_fld (pv 0) rfl))))) (pss_one ps_retN) pss_nil)
      (pss_one (ps_if (pt_cmpR op_eq (pe_fld (pv 0) rfl) pe_int (nomark _)) (pss_one (ps_fld (pv 0) pe_bl rfl)) (pss_one (ps_fld (pv 0) (pe_op op_sub (pe_fld (pv 0) rfl) pe_int) rfl))))), ?_⟩
    refine q_when (b := true) (et_is (et_or (b := false) (et_isN (dv_fuse T hd (ev_var rfl))) fun z => by cases z) rfl) (fun _ H1 e1 => ?_) (fun z => by cases z)
    exact k H1 e1
/-! ### read -/
def sp_Device_read (K : PySem.W.Frag) : Sp := fun vs H Q _ => ∃ (A : Ad) (l : Lay) (su se : Dev) (wa : List (Nat × Blk)) (ad : Nat), vs = [.ref A.dv, nV ad] ∧ DevAt K H A l su se wa ∧ RetP (fun v H2 => OBlk H2 v (rd se ad)) H Q
abbrev nm_Device_read : List Str := ["self", "address"]
theorem sc_Device_read : FnScope nm_Device_read ["self", "address"] (defScope s_Device_read) := ⟨rfl, rfl, rfl, by decide +kernel, rfl, by decide +kernel, by decide +kernel⟩
theorem ok_Device_read (T : Ctx K mg base) : Okd P w K mg base 1 (He.ma K (He.ga K "Device") "read") ["self", "address"] (sp_Device_read K) := by
  obtain ⟨fd, F⟩ := T.def_Device_read
  have b : Binds K fd ["self", "address"] [] := FunD.bindsN F fun _ _ _ _ _ _ us hl => match us, hl with | [_, _], _ => rfl
  refine ⟨fd, FunD.ok F sc_Device_read (fun vs H Q E h => ?_) (fun cdv A outer s H vs Q E hr h => ?_), b, F.kp⟩
  · obtain ⟨A, l, su, se, wa, ad, rfl, _⟩ := h
    rfl
  · obtain ⟨A, l, su, se, wa, ad, rfl, hd, k⟩ := h
    refine ⟨_, PSs.nox (pss_cons (ps_if (PW.pt (pw_or (pt_cmpR op_lt (pv 1) pe_int (nomark _)) (pw_or1 (pt_cmpR op_ge (pv 1) (pe_callB call_len_seq (by rfl) T.free_len PySem.boot_len (pa_cons (pe_fld (pv 0) rfl) pa_nil)) (nomark _))))) (pss_one (ps_ret pe_non)) pss_nil)
      (pss_one (ps_ret (pe_ix ix_list (pe_fld (pv 0) rfl) (pv 1) (fun _ _ => rfl))))), ?_⟩
    obtain ⟨vs, h1, h2⟩ := hd.sn
    refine q_when (b := decide (se.length ≤ ad)) (et_is (et_or (et_cmp (ev_var rfl) ev_c rv_I0) fun _ => et_cmp (ev_var rfl) (ev_len (dv_seen T hd (ev_var rfl)) (sq_of h1)) rv_I0) ?_) (fun hb H1 e1 => ?_) (fun hb H1 e1 => ?_)
    · rw [Bool.eq_iff_iff, h2.1]
      simp only [Bool.or_eq_true, decide_eq_true_eq]
      omega
    · have hb := of_decide_eq_true hb
      refine s_retP (Ev.p (P := fun v H2 => OBlk H2 v (rd se ad)) ev_c fun H2 e2 => ?_) (RetP.at k e1)
      unfold rd
      rw [List.getElem?_eq_none hb]
      rfl
    · have hb := of_decide_eq_false hb
      have hb' : ad < se.length := by omega
      obtain ⟨v, h3, h4⟩ := h2.get (List.getElem?_eq_getElem hb')
      refine s_retP (Ev.p (P := fun v H2 => OBlk H2 v (rd se ad)) (ev_op (dv_seen T (hd.mono e1) (ev_var rfl)) (ev_var rfl) (rv_ixL (sq_of (e1 _ _ h1)) (atI_of h3))) fun H2 e2 => ?_) (RetP.at k e1)
      unfold rd
      rw [List.getElem?_eq_getElem hb']
      exact h4.mono (Ex.tx (e1.trans e2))
/-! ### pending -/
def sp_Device_pending (K : PySem.W.Frag) : Sp := fun vs H Q _ => ∃ (A : Ad) (l : Lay) (su se : Dev) (wa : List (Nat × Blk)), vs = [.ref A.dv] ∧ DevAt K H A l su se wa ∧ RetV (nV wa.length) H Q
abbrev nm_Device_pending : List Str := ["self"]
theorem sc_Device_pending : FnScope nm_Device_pending ["self"] (defScope s_Device_pending) := ⟨rfl, rfl, rfl, by decide +kernel, rfl, by decide +kernel, by decide +kernel⟩
theorem ok_Device_pending (T : Ctx K mg base) : Okd P w K mg base 1 (He.ma K (He.ga K "Device") "pending") ["self"] (sp_Device_pending K) := by
  obtain ⟨fd, F⟩ := T.def_Device_pending
  have b : Binds K fd ["self"] [] := FunD.bindsN F fun _ _ _ _ _ _ us hl => match us, hl with | [_], _ => rfl
  refine ⟨fd, FunD.ok F sc_Device_pending (fun vs H Q E h => ?_) (fun cdv A outer s H vs Q E hr h => ?_), b, F.kp⟩
  · obtain ⟨A, l, su, se, wa, rfl, _⟩ := h
    rfl
  · obtain ⟨A, l, su, se, wa, rfl, hd, k⟩ := h
    refine ⟨_, PSs.nox (pss_one (ps_ret (pe_callB call_len_seq (by rfl) T.free_len PySem.boot_len (pa_cons (pe_fld (pv 0) rfl) pa_nil)))), ?_⟩
    obtain ⟨vs, h1, h2⟩ := hd.wt
    refine s_ret (ev_is (ev_len (dv_waiting T hd (ev_var rfl)) (sq_of h1)) ?_) k
    rw [h2.1]
/-! ### write -/
def sp_Device_write (K : PySem.W.Frag) : Sp := fun vs H Q _ => ∃ (A : Ad) (l : Lay) (su se : Dev) (wa : List (Nat × Blk)) (ad : Nat) (v : V) (bk : Blk), vs = [.ref A.dv, nV ad, v] ∧ DevAt K H A l su se wa ∧ ad < l.db ∧ BlkAt H v bk ∧ wa.length < 90000 ∧
  ∀ H', DevAt K H' A l su (se.set ad (some bk)) (wa ++ [(ad, bk)]) → (∀ c o, H c = some o → c ≠ A.sn → c ≠ A.wt → H' c = some o) → Q .non H'
abbrev nm_Device_write : List Str := ["self", "address", "block"]
theorem sc_Device_write : FnScope nm_Device_write ["self", "address", "block"] (defScope s_Device_write) := ⟨rfl, rfl, rfl, by decide +kernel, rfl, by decide +kernel, by decide +kernel⟩
theorem ok_Device_write (T : Ctx K mg base) : Okd P w K mg base 2 (He.ma K (He.ga K "Device") "write") ["self", "address", "block"] (sp_Device_write K) := by
  obtain ⟨fd, F⟩ := T.def_Device_write
  have b : Binds K fd ["self", "address", "block"] [] := FunD.bindsN F fun _ _ _ _ _ _ us hl => match us, hl with | [_, _, _], _ => rfl
  obtain ⟨fd_count_command, G_Device_count_command, b_Device_count_command, k_Device_count_command⟩ := ok_Device_count_command (P := P) (w := w) T
  refine ⟨fd, FunD.ok F sc_Device_write (fun vs H Q E h => ?_) (fun cdv A outer s H vs Q E hr h => ?_), b, F.kp⟩
  · obtain ⟨A, l, su, se, wa, ad, v, bk, rfl, _⟩ := h
    rfl
  · obtain ⟨A, l, su, se, wa, ad, v, bk, rfl, hd, had, hbk, hz, k⟩ := h
    refine ⟨_, PSs.nox (pss_cons (ps_expr (pe_meth0 (pv 0) T.cls_Device T.m_Device_count_command G_Device_count_command (hr.mono (by decide)) b_Device_count_command .nil pass0))
      (pss_cons (ps_asg (pv 2) (pg_sub (pe_fld (pv 0) rfl) (pv 1) set_list))
      (pss_one (ps_if (pt_not (pt_val (pe_fld (pv 0) rfl))) (pss_one (ps_expr (pe_bm PySem.F.plainAttrs_list PySem.F.slot_list_append PySem.F.type_list_append mt_append (pe_fld (pv 0) rfl) (pa_cons (pe_tup (pa_cons (pv 1) (pa_cons (pv 2) pa_nil))) pa_nil)))) pss_nil)))), ?_⟩
    obtain ⟨dx, hdv⟩ := hd.dv
    refine q_meth (ev_var rfl) hdv (by rfl) ea_nil fun H1 e1 => ⟨A, l, su, se, wa, rfl, hd.mono e1, fun H2 e2 => ?_⟩
    have E2 := e1.trans e2
    obtain ⟨⟨dx, d1⟩, la, ⟨v1, a1, a2⟩, ⟨v2, b1, b2⟩, ⟨v3, c1, c2⟩, n1, n2, n3, l1, l2⟩ := hd.mono E2
    have dsn : A.dv ≠ A.sn := fun z => by rw [z, b1] at d1; cases d1
    refine s_setL (j := ad) b1 (ev_var rfl) (dv_seen T (hd.mono E2) (ev_var rfl)) (ev_var rfl) (by rw [b2.1, l2]; exact had) fun H3 e3 => ?_
    have hdv3 : (upd H3 A.sn (.lst (v2.set ad v))) A.dv = some (.ins (He.ga K "Device") dx (devF A)) := by rw [upd_ne dsn]; exact e3 _ _ d1
    have hwt3 : (upd H3 A.sn (.lst (v2.set ad v))) A.wt = some (.lst v3) := by rw [upd_ne (fun z => n3 z.symm)]; exact e3 _ _ c1
    refine s_when (b := true) (et_is (et_not (et_val (ev_fld (ev_var rfl) hdv3 T.cls_Device T.na_Device_dark (dev_dark A)))) rfl) (fun _ H4 e4 => ?_) (fun z => by cases z)
    refine s_appU (e4 _ _ hwt3) (ev_fld (ev_var rfl) (e4 _ _ hdv3) T.cls_Device T.na_Device_waiting (dev_waiting A)) (eu_tup (ea_cons (ev_var rfl) (ea_cons (ev_var rfl) ea_nil)) (Nat.le_of_ble_eq_true rfl)) (by rw [c2.1]; omega) fun p H5 hp e5 h5 => ?_
    have kp : ∀ c o, H c = some o → c ≠ A.sn → c ≠ A.wt → (upd H5 A.wt (.lst (v3 ++ [.ref p]))) c = some o := fun c o h m1 m2 => by
      rw [upd_ne m2]
      refine e5 _ _ (e4 _ _ ?_)
      rw [upd_ne m1]
      exact e3 _ _ (E2 _ _ h)
    have hsn : (upd H5 A.wt (.lst (v3 ++ [.ref p]))) A.sn = some (.lst (v2.set ad v)) := by
      rw [upd_ne n3]
      exact e5 _ _ (e4 _ _ upd_same)
    have tx : Tx H (upd H5 A.wt (.lst (v3 ++ [.ref p]))) := fun c xs h => kp c _ h (fun z => by
        have := E2 _ _ h
        rw [z, b1] at this
        cases this) (fun z => by
        have := E2 _ _ h
        rw [z, c1] at this
        cases this)
    obtain ⟨_, la0, ⟨u1, a10, a20⟩, ⟨u2, b10, b20⟩, ⟨u3, c10, c20⟩, _⟩ := hd
    obtain rfl : u1 = v1 := by have := E2 _ _ a10; rw [a1] at this; injection this with this; injection this with this; exact this.symm
    obtain rfl : u2 = v2 := by have := E2 _ _ b10; rw [b1] at this; injection this with this; injection this with this; exact this.symm
    obtain rfl : u3 = v3 := by have := E2 _ _ c10; rw [c1] at this; injection this with this; injection this with this; exact this.symm
    obtain ⟨lo, dl, hl⟩ := la0
    have hpw : p ≠ A.wt := fun z => by
      have := e4 _ _ hwt3
      rw [← z, hp] at this
      cases this
    refine k _ ⟨⟨_, kp _ _ hdv dsn (fun z => by have := e1 _ _ (hdv); rw [z] at hdv; rw [c10] at hdv; cases hdv)⟩, ⟨lo, dl, kp _ _ hl (fun z => by rw [z, b10] at hl; cases hl) (fun z => by rw [z, c10] at hl; cases hl)⟩,
      ⟨u1, kp _ _ a10 n1 n2, a20.mono fun _ _ z => z.mono tx⟩, ⟨_, hsn, Rl.set (b20.mono fun _ _ z => z.mono tx) _ (show OBlk _ v (some bk) from hbk.mono tx)⟩, ⟨_, upd_same, Rl.app (c20.mono fun _ _ z => z.mono tx) (Rl.one ⟨p, v, rfl, ?_, hbk.mono tx⟩)⟩, n1, n2, n3, l1, by rw [List.length_set]; exact l2⟩ kp
    rw [upd_ne hpw]
    exact h5
end
end Sg

set_option maxHeartbeats 4000000
namespace Sg
open PySem PySem.Spec PyProof.Rows L2 Evl
section
variable {P : Program} {w : World} {K : PySem.W.Frag} {mg : Str → Option Value} {base : Heap}
theorem lst_inj {H : Hp} {a : Addr} {xs ys : List V} (h1 : H a = some (.lst xs)) (h2 : H a = some (.lst ys)) : xs = ys := by
  rw [h1] at h2
  injection h2 with h2
  injection h2
/-! ### barrier -/
def sp_Device_barrier (K : PySem.W.Frag) : Sp := fun vs H Q _ => ∃ (A : Ad) (l : Lay) (su se : Dev) (wa : List (Nat × Blk)), vs = [.ref A.dv] ∧ DevAt K H A l su se wa ∧ (∀ w ∈ wa, w.1 < l.db) ∧
  ∀ H' w', DevAt K H' { A with wt := w' } l (applyW su wa) se [] → H w' = none → (∀ c o, H c = some o → c ≠ A.dv → c ≠ A.su → H' c = some o) → Q .non H'
theorem DevAt.ne {H : Hp} {A : Ad} {l : Lay} {su se : Dev} {wa : List (Nat × Blk)} (h : DevAt K H A l su se wa) : A.dv ≠ A.su ∧ A.dv ≠ A.sn ∧ A.dv ≠ A.wt ∧ A.la ≠ A.dv ∧ A.la ≠ A.su ∧ A.la ≠ A.sn ∧ A.la ≠ A.wt := by
  obtain ⟨⟨dx, d1⟩, ⟨lo, dl, la⟩, ⟨v1, a1, a2⟩, ⟨v2, b1, b2⟩, ⟨v3, c1, c2⟩, _⟩ := h
  refine ⟨fun z => ?_, fun z => ?_, fun z => ?_, fun z => ?_, fun z => ?_, fun z => ?_, fun z => ?_⟩
  · rw [z, a1] at d1; cases d1
  · rw [z, b1] at d1; cases d1
  · rw [z, c1] at d1; cases d1
  · rw [z, d1] at la
    have := ins_fs la
    have := congrArg (fun q => q.map (·.1)) this
    exact absurd this (by simp [devF, layF])
  · rw [z, a1] at la; cases la
  · rw [z, b1] at la; cases la
  · rw [z, c1] at la; cases la
theorem applyW_snoc (d : Dev) (ws : List (Nat × Blk)) (w : Nat × Blk) : applyW d (ws ++ [w]) = (applyW d ws).set w.1 (some w.2) := applyW_app ..
abbrev nm_Device_barrier : List Str := ["self", "address", "block"]
theorem sc_Device_barrier : FnScope nm_Device_barrier ["self"] (defScope s_Device_barrier) := ⟨rfl, rfl, rfl, by decide +kernel, rfl, by decide +kernel, by decide +kernel⟩
theorem ok_Device_barrier (T : Ctx K mg base) : Okd P w K mg base 2 (He.ma K (He.ga K "Device") "barrier") ["self"] (sp_Device_barrier K) := by
  obtain ⟨fd, F⟩ := T.def_Device_barrier
  have b : Binds K fd ["self"] [] := FunD.bindsN F fun _ _ _ _ _ _ us hl => match us, hl with | [_], _ => rfl
  obtain ⟨fd_count_command, G_Device_count_command, b_Device_count_command, k_Device_count_command⟩ := ok_Device_count_command (P := P) (w := w) T
  refine ⟨fd, FunD.ok F sc_Device_barrier (fun vs H Q E h => ?_) (fun cdv A outer s H vs Q E hr h => ?_), b, F.kp⟩
  · obtain ⟨A, l, su, se, wa, rfl, _⟩ := h
    rfl
  · obtain ⟨A, l, su, se, wa, rfl, hd, hw, k⟩ := h
    refine ⟨_, PSs.nox (pss_cons (ps_expr (pe_meth0 (pv 0) T.cls_Device T.m_Device_count_command G_Device_count_command (hr.mono (by decide)) b_Device_count_command .nil pass0))
      (pss_one (ps_if (pt_not (pt_val (pe_fld (pv 0) rfl))) (pss_cons (ps_for PassesOwn.never rfl (pi_list (pe_fld (pv 0) rfl)) (pg_tup rfl (pgs_cons (pg_name (i := 1) sc_Device_barrier.nd rfl (Or.inl rfl)) (pgs_cons (pg_name (i := 2) sc_Device_barrier.nd rfl (Or.inl rfl)) pgs_nil))) (pss_one (ps_asg (pv 2) (pg_sub (pe_fld (pv 0) rfl) (pv 1) set_list))))
      (pss_one (ps_fld (pv 0) (pe_lst pa_nil) rfl))) pss_nil))), ?_⟩
    obtain ⟨dx, hdv⟩ := hd.dv
    obtain ⟨m1, m2, m3, m4, m5, m6, m7⟩ := hd.ne
    refine q_meth (ev_var rfl) hdv (by rfl) ea_nil fun H1 e1 => ⟨A, l, su, se, wa, rfl, hd.mono e1, fun H2 e2 => ?_⟩
    have E2 := e1.trans e2
    refine s_when (b := true) (et_is (et_not (et_val (dv_dark T (hd.mono E2) (ev_var rfl)))) rfl) (fun _ H3 e3 => ?_) (fun z => by cases z)
    have E3 := E2.trans e3
    obtain ⟨_, _, ⟨v1, a1, a2⟩, ⟨v2, b1, b2⟩, ⟨v3, c1, c2⟩, n1, n2, n3, l1, l2⟩ := hd
    refine q_forL (a := A.wt) (xs := v3) (dv_waiting T (DevAt.mono ⟨⟨dx, hdv⟩, by assumption, ⟨v1, a1, a2⟩, ⟨v2, b1, b2⟩, ⟨v3, c1, c2⟩, n1, n2, n3, l1, l2⟩ E3) (ev_var rfl)) (sq_of (E3 _ _ c1))
      (fun j σ' H' => ∃ x y u1, σ' = [some (.ref A.dv), x, y] ∧ ExB A.su H H' ∧ H' A.su = some (.lst u1) ∧ Rl (OBlk H) u1 (applyW su (wa.take j)))
      (fun H4 e4 => ⟨none, none, v1, rfl, fun b o h _ => (E3.trans e4) _ _ h, (E3.trans e4) _ _ a1, a2⟩) (fun j σ' H' _ ⟨_, _, _, _, e, _⟩ => sq_of (e _ _ c1 (fun z => n2 z.symm))) ?_ ?_
    · rintro j x σ' H' hj ⟨x1, y1, u1, rfl, e, hs1, hr1⟩
      obtain ⟨wt, hwt, t, u, rfl, ht, hb⟩ := c2.get' hj
      have ht' : H' t = some (.tup [nV wt.1, u]) := e _ _ ht (fun z => by rw [z, a1] at ht; cases ht)
      refine g_pair ht' ?_
      have hsl : v3.length = wa.length := c2.1
      refine s_setL (j := wt.1) hs1 (ev_var rfl) (ev_fld (ev_var rfl) (e _ _ hdv m1) T.cls_Device T.na_Device_sure (dev_sure A)) (ev_var rfl) (by rw [hr1.1, applyW_len, l1]; exact hw _ (List.mem_of_getElem? hwt)) fun H4 e4 => ?_
      refine ⟨_, _, _, rfl, e.put e4, upd_same, ?_⟩
      rw [take_snoc hwt, applyW_snoc]
      exact hr1.set _ (show OBlk H u (some wt.2) from hb)
    · rintro σ' H' ⟨x1, y1, u1, rfl, e, hs1, hr1⟩
      rw [c2.1, List.take_length] at hr1
      refine s_fldL (el_lst ea_nil (Nat.zero_le _)) (ev_var rfl) (e _ _ hdv m1) T.cls_Device T.na_Device_waiting (Nat.le_of_ble_eq_true rfl) fun p H4 hp e4 h4 => ?_
      have hpH : H p = none := by
        cases q : H p with
        | none => rfl
        | some o =>
          by_cases z : p = A.su
          · rw [z, hs1] at hp
            cases hp
          · rw [e _ _ q z] at hp
            cases hp
      have kp : ∀ c o, H c = some o → c ≠ A.dv → c ≠ A.su → (upd H4 A.dv (.ins (He.ga K "Device") dx (putF "waiting" (.ref p) (devF A)))) c = some o := fun c o h z1 z2 => by
        rw [upd_ne z1]
        exact e4 _ _ (e _ _ h z2)
      have hpd : p ≠ A.dv := fun z => by rw [z, hdv] at hpH; cases hpH
      have tx : Tx H (upd H4 A.dv (.ins (He.ga K "Device") dx (putF "waiting" (.ref p) (devF A)))) := fun c xs h => kp c _ h (fun z => by rw [z, hdv] at h; cases h) (fun z => by rw [z, a1] at h; cases h)
      rename_i lat
      obtain ⟨lo, dl, hla⟩ := lat
      refine k _ p ⟨⟨dx, ?_⟩, ⟨lo, dl, kp _ _ hla m4 m5⟩, ⟨u1, ?_, hr1.mono fun _ _ z => z.mono tx⟩, ⟨v2, kp _ _ b1 (fun z => m2 z.symm) (fun z => n1 z.symm), b2.mono fun _ _ z => z.mono tx⟩, ⟨[], ?_, Rl.nil⟩, n1, ?_, ?_, by rw [applyW_len]; exact l1, l2⟩ hpH kp
      · rw [upd_same]
        rfl
      · rw [upd_ne (fun z => m1 z.symm)]
        exact e4 _ _ hs1
      · rw [upd_ne hpd]
        exact h4
      · intro z
        show False
        have z : A.su = p := z
        rw [← z, a1] at hpH
        cases hpH
      · intro z
        have z : A.sn = p := z
        rw [← z, b1] at hpH
        cases hpH
/-! ### left -/
theorem g_pair2 {σ : L2.St} {H : Hp} {i j k : Nat} {q r : Addr} {x y z : V} {Q : L2.St → Hp → Prop} (h : H q = some (.tup [x, .ref r])) (h2 : H r = some (.tup [y, z])) (c : Q (((σ.set i (some x)).set j (some y)).set k (some z)) H) :
    gTup K 2 (gCons (gName i) (gCons (gTup K 2 (gCons (gName j) (gCons (gName k) gNil))) gNil)) (.ref q) σ H Q :=
  ⟨q, _, rfl, SqT.of h, rfl, x, _, rfl, .ref r, _, rfl, r, _, rfl, SqT.of h2, rfl, y, _, rfl, z, _, rfl, rfl, rfl, c⟩
theorem rd_set2 (d : Dev) (i a : Nat) (o : Option Blk) : rd (d.set i o) a = if a = i ∧ i < d.length then o else rd d a := by
  unfold rd
  rw [List.getElem?_set]
  by_cases e : i = a
  · rw [if_pos e]
    by_cases hl : i < d.length
    · rw [if_pos hl, if_pos ⟨e.symm, hl⟩]
      rfl
    · rw [if_neg hl, if_neg (fun q => hl q.2), ← e, List.getElem?_eq_none (by omega)]
  · rw [if_neg e, if_neg (fun q => e q.1.symm)]
theorem LeftOf.set {su D : Dev} {wa : List (Nat × Blk)} {j : Nat} {w : Nat × Blk} {o : Option Blk} (h : LeftOf su wa D) (hj : wa[j]? = some w) (ho : o = none ∨ o = some w.2) : LeftOf su wa (D.set w.1 o) := by
  refine ⟨by rw [List.length_set]; exact h.1, fun a => ?_⟩
  rw [rd_set2]
  split
  · rename_i q
    refine .inr ⟨w.2, ?_, ho⟩
    rw [q.1]
    exact List.mem_of_getElem? hj
  · exact h.2 a
theorem LeftOf.self (su : Dev) (wa : List (Nat × Blk)) : LeftOf su wa su := ⟨rfl, fun _ => .inl rfl⟩
def LeftP (K : PySem.W.Frag) (H : Hp) (A : Ad) (l : Lay) (su : Dev) (wa : List (Nat × Blk)) (v : V) (H2 : Hp) : Prop := ∃ A' D, v = .ref A'.dv ∧ DevAt K H2 A' l D D [] ∧ A'.la = A.la ∧ LeftOf su wa D ∧ H A'.dv = none ∧ H A'.su = none ∧ H A'.sn = none ∧ H A'.wt = none
def sp_Device_left (K : PySem.W.Frag) : Sp := fun vs H Q _ => ∃ (A : Ad) (l : Lay) (su se : Dev) (wa : List (Nat × Blk)) (p q : Addr) (kept torn : List Nat), vs = [.ref A.dv, .ref p, .ref q] ∧ DevAt K H A l su se wa ∧ (∀ w ∈ wa, w.1 < l.db) ∧
  H p = some (.lst (nL kept)) ∧ H q = some (.lst (nL torn)) ∧ RetP (LeftP K H A l su wa) H Q
abbrev nm_Device_left : List Str := ["self", "kept", "torn", "blocks", "number", "address", "block"]
theorem sc_Device_left : FnScope nm_Device_left ["self", "kept", "torn"] (defScope s_Device_left) := ⟨rfl, rfl, rfl, by decide +kernel, rfl, by decide +kernel, by decide +kernel⟩
theorem flat_nL (t : List Nat) : (nL t).all flatV = true := List.all_eq_true.mpr fun x hx => by
  obtain ⟨k, _, rfl⟩ := List.mem_map.mp hx
  rfl
theorem kbindsN {x qual : Str} {params : Arguments} {body : List Stmt} {scope : Scope} {kws : List (Str × V)} {f : Addr} {fd : FuncData} {ps : List Str} (F : FunD K x qual params body scope [] kws f fd) (n : Nat) (ks : List Str)
    (h : ∀ (kV doc pm : Value) (an : Option Addr) (cdv ct : Value) (us ws : List Value), us.length = n → ws.length = ks.length → bindArgs (PySem.W.fnOf x qual params body scope .none kV doc pm an cdv ct) ⟨us, ks.zip ws⟩ = pure (ps.zip (us ++ ws))) :
    KBn K fd ps n ks (fun us ws => us ++ ws) (fun vs zs => vs ++ zs) := by
  obtain ⟨oc, od, dV, kV, doc, pm, an, cdv, ct, osl, rfl, lk, hcd, hD, hK⟩ := F.ex
  rcases hD with ⟨_, rfl⟩ | ⟨e, _⟩
  · exact ⟨fun s us ws _ l1 l2 => .of_eq (h kV doc pm an cdv ct us ws l1 l2), fun r1 r2 => r1.append r2⟩
  · exact absurd rfl e
theorem fn_Device_left (T : Ctx K mg base) : ∃ fd, FnOk P w K mg base CX0 3 (He.ma K (He.ga K "Device") "left") fd ["self", "kept", "torn"] (sp_Device_left K) ∧ KBn K fd ["self", "kept", "torn"] 2 ["torn"] (fun us ws => us ++ ws) (fun vs zs => vs ++ zs) := by
  obtain ⟨fd, F⟩ := T.def_Device_left
  obtain ⟨fd_Device, G_Device_init, b_Device_init, _⟩ := fn_Device_init (P := P) (w := w) T
  refine ⟨fd, FunD.ok F sc_Device_left (fun vs H Q E h => ?_) (fun cdv A outer s H vs Q E hr h => ?_), kbindsN F 2 ["torn"] fun kV doc pm an cdv ct us ws h1 h2 => match us, h1, ws, h2 with | [_, _], _, [_], _ => rfl⟩
  · obtain ⟨A, l, su, se, wa, p, q, kept, torn, rfl, _⟩ := h
    rfl
  · obtain ⟨A, l, su, se, wa, p, q, kept, torn, rfl, hd, hw, hp, hq, k⟩ := h
    refine ⟨_, PSs.nox (pss_cons (ps_set (i := 3) sc_Device_left.nd rfl (Or.inl rfl) (pe_callTy call_list_of (by rfl) T.free_list (by decide +kernel) (pa_cons (pe_fld (pv 0) rfl) pa_nil)))
      (pss_cons (ps_for PassesOwn.never rfl (pi_enum rfl T.free_enumerate (pa_cons (pe_fld (pv 0) rfl) pa_nil)) (pg_tup rfl (pgs_cons (pg_name (i := 4) sc_Device_left.nd rfl (Or.inl rfl)) (pgs_cons (pg_tup rfl (pgs_cons (pg_name (i := 5) sc_Device_left.nd rfl (Or.inl rfl)) (pgs_cons (pg_name (i := 6) sc_Device_left.nd rfl (Or.inl rfl)) pgs_nil))) pgs_nil))) (pss_one (ps_if (pt_cmpR op_in_seq (pv 4) (pv 2) (by rfl)) (pss_one (ps_asg pe_non (pg_sub (pv 3) (pv 5) set_list))) (pss_one (ps_if (pt_cmpR op_in_seq (pv 4) (pv 1) (by rfl)) (pss_one (ps_asg (pv 6) (pg_sub (pv 3) (pv 5) set_list))) pss_nil)))))
      (pss_one (ps_ret (pe_make T.mkr_Device G_Device_init (hr.mono (by decide)) rfl T.glo_Device b_Device_init .nil pass0 (pa_cons (pe_fld (pv 0) rfl) (pa_cons (pv 3) pa_nil))))))), ?_⟩
    have hd0 := hd
    obtain ⟨⟨dx, hdv⟩, la, ⟨v1, a1, a2⟩, ⟨v2, b1, b2⟩, ⟨v3, c1, c2⟩, n1, n2, n3, l1, l2⟩ := hd
    refine q_asgL (el_list (dv_sure T hd0 (ev_var rfl)) (sq_of a1)) fun bl H1 hbl e1 h1 => ?_
    refine q_forEL (a := A.wt) (xs := v3) (ea_cons (dv_waiting T (hd0.mono e1) (ev_var rfl)) ea_nil) (sq_of (e1 _ _ c1))
      (fun j σ' H' => ∃ x y z us D, σ' = [some (.ref A.dv), some (.ref p), some (.ref q), some (.ref bl), x, y, z] ∧ Ex H H' ∧ H' bl = some (.lst us) ∧ Rl (OBlk H) us D ∧ LeftOf su wa D)
      (fun H2 e2 => ⟨none, none, none, v1, su, rfl, e1.trans e2, e2 _ _ h1, a2, LeftOf.self _ _⟩) (fun j σ' H' _ ⟨_, _, _, _, _, _, e, _⟩ => sq_of (e _ _ c1)) ?_ ?_
    · rintro j x σ' H' r hj ⟨x1, y1, z1, us, D, rfl, e, hb, hr, hL⟩ hr0
      obtain ⟨wt, hwt, t, u, rfl, ht, hbk⟩ := c2.get' hj
      have hbr : bl ≠ r := ne_of_none hb hr0
      have e' : Ex H (upd H' r (.tup [.int (j : Int), .ref t])) := e.trans (Ex.new hr0)
      have hb' : (upd H' r (.tup [.int (j : Int), .ref t])) bl = some (.lst us) := by rw [upd_ne hbr]; exact hb
      refine g_pair2 upd_same (e' _ _ ht) ?_
      have hjl : j < v3.length := (List.getElem?_eq_some_iff.mp hj).1
      have hin : wt.1 < us.length := by rw [hr.1, hL.1, l1]; exact hw _ (List.mem_of_getElem? hwt)
      refine s_if (et_cmp (ev_var rfl) (ev_var rfl) (rv_isL (sq_of (e' _ _ hq)) rfl (flat_nL _))) (fun _ H2 e2 => ?_) (fun _ H2 e2 => ?_)
      · refine s_setL (j := wt.1) (e2 _ _ hb') ev_c (ev_var rfl) (ev_var rfl) hin fun H3 e3 => ?_
        exact ⟨_, _, _, _, _, rfl, Ex.mut (e'.trans (e2.trans e3)) hbl, upd_same, hr.set _ (show OBlk H .non none from rfl), hL.set hwt (.inl rfl)⟩
      · refine s_when (et_cmp (ev_var rfl) (ev_var rfl) (rv_isL (sq_of (e2 _ _ (e' _ _ hp))) rfl (flat_nL _))) (fun _ H3 e3 => ?_) (fun _ H3 e3 => ?_)
        · refine s_setL (j := wt.1) (e3 _ _ (e2 _ _ hb')) (ev_var rfl) (ev_var rfl) (ev_var rfl) hin fun H4 e4 => ?_
          exact ⟨_, _, _, _, _, rfl, Ex.mut (e'.trans (e2.trans (e3.trans e4))) hbl, upd_same, hr.set _ (show OBlk H u (some wt.2) from hbk), hL.set hwt (.inr rfl)⟩
        · exact ⟨_, _, _, us, D, rfl, e'.trans (e2.trans e3), e3 _ _ (e2 _ _ hb'), hr, hL⟩
    · rintro σ' H' ⟨x1, y1, z1, us, D, rfl, e, hb, hr, hL⟩
      refine s_retP (P := LeftP K H A l su wa) (evp_make (ea_cons (dv_layout T (hd0.mono e) (ev_var rfl)) (ea_cons (ev_var rfl) ea_nil)) fun H2 e2 x dx' hx hdx hxd Q E q => ?_) (RetP.at k e)
      have E2 := e.trans e2
      have n1 : ∀ b o, H2 b = some o → b ≠ x ∧ b ≠ dx' := fun b o h => ⟨fun z => (by rw [z, hx] at h; cases h), fun z => (by rw [z, hdx] at h; cases h)⟩
      have up : ∀ b o, H2 b = some o → (upd (upd H2 dx' (.own x)) x (.ins (He.ga K "Device") dx' [])) b = some o := fun b o h => by
        rw [upd_ne (n1 b o h).1, upd_ne (n1 b o h).2]
        exact h
      have dn : ∀ b, (upd (upd H2 dx' (.own x)) x (.ins (He.ga K "Device") dx' [])) b = none → H b = none := fun b h => by
        cases q : H b with
        | none => rfl
        | some o =>
          rw [up b o (E2 _ _ q)] at h
          cases h
      refine ⟨x, dx', A.la, .ref bl, l, D, rfl, upd_same, (hd0.la.mono E2).mono up, hL.1.trans l1, .inr ⟨bl, us, rfl, up _ _ (e2 _ _ hb), hr.mono fun _ _ z => z.mono (Ex.tx (E2.trans up))⟩, fun H3 A' B3 h1 h2 h3 h4 h5 h6 => ?_⟩
      refine q H3 (ExB.made hx hdx B3) ⟨A', D, by rw [h1], h6, h2, hL, ?_, dn _ h3, dn _ h4, dn _ h5⟩
      rw [h1]
      exact fresh_back E2 hx
end
end Sg

set_option maxHeartbeats 4000000
namespace Sg
open PySem PySem.Spec PyProof.Rows L2 Evl
section
variable {P : Program} {w : World} {K : PySem.W.Frag} {mg : Str → Option Value} {base : Heap}
theorem DevAt.keep {H H' : Hp} {A : Ad} {l : Lay} {su se : Dev} {wa : List (Nat × Blk)} {x C dx : Addr} (h : DevAt K H A l su se wa) (kp : ExB x H H') (hx : H x = some (.ins C dx [])) : DevAt K H' A l su se wa := by
  obtain ⟨⟨dd, d1⟩, ⟨lo, dl, la⟩, ⟨v1, a1, a2⟩, ⟨v2, b1, b2⟩, ⟨v3, c1, c2⟩, n1, n2, n3, l1, l2⟩ := h
  have tx : Tx H H' := fun b xs z => kp b _ z fun y => by rw [y, hx] at z; cases z
  refine ⟨⟨dd, kp _ _ d1 fun y => ?_⟩, ⟨lo, dl, kp _ _ la fun y => ?_⟩, ⟨v1, kp _ _ a1 fun y => ?_, a2.mono fun _ _ z => z.mono tx⟩, ⟨v2, kp _ _ b1 fun y => ?_, b2.mono fun _ _ z => z.mono tx⟩, ⟨v3, kp _ _ c1 fun y => ?_, c2.mono fun _ _ z => z.mono tx⟩, n1, n2, n3, l1, l2⟩
  · rw [y, hx] at d1
    cases ins_fs d1
  · rw [y, hx] at la
    cases ins_fs la
  · rw [y, hx] at a1
    cases a1
  · rw [y, hx] at b1
    cases b1
  · rw [y, hx] at c1
    cases c1
def emptyT (l : Lay) : TS := ⟨List.replicate (l.last + 1) 0, [none, none, none], 0, 0, []⟩
def sp_Log_init (K : PySem.W.Frag) : Sp := fun vs H Q _ => ∃ (x dx : Addr) (A : Ad) (l : Lay) (su se : Dev) (wa : List (Nat × Blk)), vs = [.ref x, .ref A.dv] ∧ H x = some (.ins (He.ga K "Log") dx []) ∧ DevAt K H A l su se wa ∧
  ∀ H2 A', ExB x H H2 → A'.lg = x → A'.dv = A.dv → A'.sn = A.sn → A'.su = A.su → A'.wt = A.wt → A'.la = A.la → H A'.ct = none → LogAt K H2 A' l ⟨su, se, wa, emptyT l, 0, 1⟩ → Q .non H2
abbrev nm_Log_init : List Str := ["self", "device"]
theorem sc_Log_init : FnScope nm_Log_init ["self", "device"] (defScope s_Log_init) := ⟨rfl, rfl, rfl, by decide +kernel, rfl, by decide +kernel, by decide +kernel⟩
theorem ok_Log_init (T : Ctx K mg base) : Okd P w K mg base 3 (He.ma K (He.ga K "Log") "__init__") ["self", "device"] (sp_Log_init K) := by
  obtain ⟨fd, F⟩ := T.def_Log_init
  have b : Binds K fd ["self", "device"] [] := FunD.bindsN F fun _ _ _ _ _ _ us hl => match us, hl with | [_, _], _ => rfl
  obtain ⟨fd_empty_table, G_empty_table, b_empty_table, k_empty_table⟩ := ok_empty_table (P := P) (w := w) T
  obtain ⟨fd_Counts, G_Counts_init, b_Counts_init, k_Counts_init⟩ := ok_Counts_init (P := P) (w := w) T
  obtain ⟨tSLOTS, hSLOTS⟩ := T.int_SLOTS
  refine ⟨fd, FunD.ok F sc_Log_init (fun vs H Q E h => ?_) (fun cdv A outer s H vs Q E hr h => ?_), b, F.kp⟩
  · obtain ⟨x, dx, A, l, su, se, wa, rfl, _⟩ := h
    rfl
  · obtain ⟨x, dx, A, l, su, se, wa, rfl, hx, hd, k⟩ := h
    refine ⟨_, PSs.nox (pss_cons (ps_fld (pv 0) (pv 1) rfl)
      (pss_cons (ps_fld (pv 0) (pe_fld (pv 1) rfl) rfl)
      (pss_cons (ps_fld (pv 0) (pe_call G_empty_table (hr.mono (by decide)) rfl T.glo_empty_table k_empty_table b_empty_table .nil pass0 (pa_cons (pe_fld (pv 1) rfl) pa_nil)) rfl)
      (pss_cons (ps_fld (pv 0) (pe_op op_rep (pe_lst (pa_cons pe_non pa_nil)) (pe_glob (v := .int 3) rfl hSLOTS ⟨_, rfl⟩)) rfl)
      (pss_cons (ps_fld (pv 0) pe_int rfl)
      (pss_cons (ps_fld (pv 0) pe_int rfl)
      (pss_cons (ps_fld (pv 0) (pe_lst pa_nil) rfl)
      (pss_cons (ps_fld (pv 0) pe_int rfl)
      (pss_cons (ps_fld (pv 0) pe_int rfl)
      (pss_one (ps_fld (pv 0) (pe_make0 T.mkr_Counts G_Counts_init (hr.mono (by decide)) rfl T.glo_Counts b_Counts_init .nil pass0) rfl))))))))))), ?_⟩
    have c := T.cls_Log
    refine q_fld (ev_var rfl) (ev_var rfl) hx c T.na_Log_device (Nat.le_of_ble_eq_true rfl) fun H1 e1 => ?_
    have B1 := (ExB.refl (x := x) (H := H)).put (o := .ins (He.ga K "Log") dx (putF "device" (.ref A.dv) [])) e1
    refine q_fld (dv_layout T (hd.keep B1 hx) (ev_var rfl)) (ev_var rfl) upd_same c T.na_Log_layout (Nat.le_of_ble_eq_true rfl) fun H2 e2 => ?_
    have B2 := B1.put (o := .ins (He.ga K "Log") dx (putF "layout" (.ref A.la) (putF "device" (.ref A.dv) []))) e2
    refine q_fldL (el_call2 (xs := nL (List.replicate (l.last + 1) 0)) (ea_cons (dv_layout T (hd.keep B2 hx) (ev_var rfl)) ea_nil) fun H3 e3 Q E q => ⟨A.la, l, rfl, (hd.keep (B2.ex e3) hx).la, q⟩) (ev_var rfl) upd_same c T.na_Log_present (Nat.le_of_ble_eq_true rfl) fun p H3 hp e3 h3 => ?_
    have B3 := B2.put (o := .ins (He.ga K "Log") dx (putF "present" (.ref p) (putF "layout" (.ref A.la) (putF "device" (.ref A.dv) [])))) e3
    have np := B2.new hx hp (by rw [upd_same]; simp)
    have npx : p ≠ x := fun z => by rw [z, hx] at np; cases np
    have hp3 : ∀ {o : HO}, (upd H3 x o) p = some (.lst (nL (List.replicate (l.last + 1) 0))) := by intro o; rw [upd_ne npx]; exact h3
    refine q_fldL (el_rep (n := 3) (el_lst (ea_cons ev_c ea_nil) (Nat.le_of_ble_eq_true rfl)) (fun _ _ => ev_c) (by decide)) (ev_var rfl) upd_same c T.na_Log_slots (Nat.le_of_ble_eq_true rfl) fun q H4 hq e4 h4 => ?_
    have B4 := B3.put (o := .ins (He.ga K "Log") dx (putF "slots" (.ref q) (putF "present" (.ref p) (putF "layout" (.ref A.la) (putF "device" (.ref A.dv) []))))) e4
    have nq := B3.new hx hq (by rw [upd_same]; simp)
    have nqx : q ≠ x := fun z => by rw [z, hx] at nq; cases nq
    have hp4 : ∀ {o : HO}, (upd H4 x o) p = some (.lst (nL (List.replicate (l.last + 1) 0))) := by intro o; rw [upd_ne npx]; exact e4 _ _ hp3
    have hq4 : ∀ {o : HO}, (upd H4 x o) q = some (.lst (List.replicate 3 .non)) := by intro o; rw [upd_ne nqx]; exact h4
    refine q_fld ev_c (ev_var rfl) upd_same c T.na_Log_head (Nat.le_of_ble_eq_true rfl) fun H5 e5 => ?_
    have B5 := B4.put (o := .ins (He.ga K "Log") dx (putF "head" (.int 0) (putF "slots" (.ref q) (putF "present" (.ref p) (putF "layout" (.ref A.la) (putF "device" (.ref A.dv) [])))))) e5
    have hp5 : ∀ {o : HO}, (upd H5 x o) p = some (.lst (nL (List.replicate (l.last + 1) 0))) := by intro o; rw [upd_ne npx]; exact e5 _ _ hp4
    have hq5 : ∀ {o : HO}, (upd H5 x o) q = some (.lst (List.replicate 3 .non)) := by intro o; rw [upd_ne nqx]; exact e5 _ _ hq4
    refine q_fld ev_c (ev_var rfl) upd_same c T.na_Log_place (Nat.le_of_ble_eq_true rfl) fun H6 e6 => ?_
    have B6 := B5.put (o := .ins (He.ga K "Log") dx (putF "place" (.int 0) (putF "head" (.int 0) (putF "slots" (.ref q) (putF "present" (.ref p) (putF "layout" (.ref A.la) (putF "device" (.ref A.dv) []))))))) e6
    have hp6 : ∀ {o : HO}, (upd H6 x o) p = some (.lst (nL (List.replicate (l.last + 1) 0))) := by intro o; rw [upd_ne npx]; exact e6 _ _ hp5
    have hq6 : ∀ {o : HO}, (upd H6 x o) q = some (.lst (List.replicate 3 .non)) := by intro o; rw [upd_ne nqx]; exact e6 _ _ hq5
    refine q_fldL (el_lst ea_nil (Nat.zero_le _)) (ev_var rfl) upd_same c T.na_Log_queue (Nat.le_of_ble_eq_true rfl) fun r H7 hr0 e7 h7 => ?_
    have B7 := B6.put (o := .ins (He.ga K "Log") dx (putF "queue" (.ref r) (putF "place" (.int 0) (putF "head" (.int 0) (putF "slots" (.ref q) (putF "present" (.ref p) (putF "layout" (.ref A.la) (putF "device" (.ref A.dv) [])))))))) e7
    have nr := B6.new hx hr0 (by rw [upd_same]; simp)
    have nrx : r ≠ x := fun z => by rw [z, hx] at nr; cases nr
    have hp7 : ∀ {o : HO}, (upd H7 x o) p = some (.lst (nL (List.replicate (l.last + 1) 0))) := by intro o; rw [upd_ne npx]; exact e7 _ _ hp6
    have hq7 : ∀ {o : HO}, (upd H7 x o) q = some (.lst (List.replicate 3 .non)) := by intro o; rw [upd_ne nqx]; exact e7 _ _ hq6
    have hr7 : ∀ {o : HO}, (upd H7 x o) r = some (.lst []) := by intro o; rw [upd_ne nrx]; exact h7
    refine q_fld ev_c (ev_var rfl) upd_same c T.na_Log_last_sequence (Nat.le_of_ble_eq_true rfl) fun H8 e8 => ?_
    have B8 := B7.put (o := .ins (He.ga K "Log") dx (putF "last_sequence" (.int 0) (putF "queue" (.ref r) (putF "place" (.int 0) (putF "head" (.int 0) (putF "slots" (.ref q) (putF "present" (.ref p) (putF "layout" (.ref A.la) (putF "device" (.ref A.dv) []))))))))) e8
    have hp8 : ∀ {o : HO}, (upd H8 x o) p = some (.lst (nL (List.replicate (l.last + 1) 0))) := by intro o; rw [upd_ne npx]; exact e8 _ _ hp7
    have hq8 : ∀ {o : HO}, (upd H8 x o) q = some (.lst (List.replicate 3 .non)) := by intro o; rw [upd_ne nqx]; exact e8 _ _ hq7
    have hr8 : ∀ {o : HO}, (upd H8 x o) r = some (.lst []) := by intro o; rw [upd_ne nrx]; exact e8 _ _ hr7
    refine q_fld ev_c (ev_var rfl) upd_same c T.na_Log_region (Nat.le_of_ble_eq_true rfl) fun H9 e9 => ?_
    have B9 := B8.put (o := .ins (He.ga K "Log") dx (putF "region" (.int 1) (putF "last_sequence" (.int 0) (putF "queue" (.ref r) (putF "place" (.int 0) (putF "head" (.int 0) (putF "slots" (.ref q) (putF "present" (.ref p) (putF "layout" (.ref A.la) (putF "device" (.ref A.dv) [])))))))))) e9
    have hp9 : ∀ {o : HO}, (upd H9 x o) p = some (.lst (nL (List.replicate (l.last + 1) 0))) := by intro o; rw [upd_ne npx]; exact e9 _ _ hp8
    have hq9 : ∀ {o : HO}, (upd H9 x o) q = some (.lst (List.replicate 3 .non)) := by intro o; rw [upd_ne nqx]; exact e9 _ _ hq8
    have hr9 : ∀ {o : HO}, (upd H9 x o) r = some (.lst []) := by intro o; rw [upd_ne nrx]; exact e9 _ _ hr8
    refine s_fldP (P := fun v Hb => ∃ ct dc, v = .ref ct ∧ H ct = none ∧ Hb ct = some (.ins (He.ga K "Counts") dc (cntF 0 0 0 0 0 0 0))) (evp_make ea_nil fun Ha ea cx cdx hc hcd hcn Q E q => ⟨cx, cdx, rfl, upd_same, fun Hb Bb hb => q Hb (ExB.made hc hcd Bb) ⟨cx, cdx, rfl, ?_, hb⟩⟩) (fun _ _ => ev_var rfl) upd_same c T.na_Log_counts (Nat.le_of_ble_eq_true rfl) fun v Ha Hb ea hv eb => ?_
    · exact (B9.ex ea).new hx hc (fun z => by rw [ea _ _ upd_same] at z; cases z)
    obtain ⟨ct, dc, rfl, hct, hcc⟩ := hv
    have nctx : ct ≠ x := fun z => by rw [z, hx] at hct; cases hct
    have B10 := B9.put (o := .ins (He.ga K "Log") dx (logF { lg := x, dv := A.dv, sn := A.sn, su := A.su, wt := A.wt, ct := ct, la := A.la, pr := p, sl := q, qu := r } 0 0 0 1)) (ea.trans eb)
    have hd2 := hd.keep B10 hx
    have kn : ∀ b o, H b = some o → b ≠ ct := fun b o h z => by rw [z, hct] at h; cases h
    obtain ⟨⟨dd, d1⟩, ⟨lo, dl, la⟩, ⟨v1, a1, a2⟩, ⟨v2, b1, b2⟩, ⟨v3, c1, c2⟩, n1, n2, n3, l1, l2⟩ := hd
    have xd : x ≠ A.dv := fun z => by rw [← z, hx] at d1; cases ins_fs d1
    have xl : x ≠ A.la := fun z => by rw [← z, hx] at la; cases ins_fs la
    have x1 : x ≠ A.su := fun z => by rw [← z, hx] at a1; cases a1
    have x2 : x ≠ A.sn := fun z => by rw [← z, hx] at b1; cases b1
    have x3 : x ≠ A.wt := fun z => by rw [← z, hx] at c1; cases c1
    obtain ⟨m1, m2, m3, m4, m5, m6, m7⟩ := hd2.ne
    have own : ∀ b, b ∈ ({ lg := x, dv := A.dv, sn := A.sn, su := A.su, wt := A.wt, ct := ct, la := A.la, pr := p, sl := q, qu := r } : Ad).own ↔ b = x ∨ b = A.dv ∨ b = A.sn ∨ b = A.su ∨ b = A.wt ∨ b = ct := fun b => by
      unfold Ad.own
      simp
    have new : ∀ b xs, H b = none → b ≠ x → (upd Hb x (.ins (He.ga K "Log") dx (logF { lg := x, dv := A.dv, sn := A.sn, su := A.su, wt := A.wt, ct := ct, la := A.la, pr := p, sl := q, qu := r } 0 0 0 1))) b = some (.lst xs) → b ∉ ({ lg := x, dv := A.dv, sn := A.sn, su := A.su, wt := A.wt, ct := ct, la := A.la, pr := p, sl := q, qu := r } : Ad).own := fun b xs h n hb z => by
      rw [own] at z
      rcases z with z | z | z | z | z | z
      · exact n z
      · rw [z, d1] at h; cases h
      · rw [z, b1] at h; cases h
      · rw [z, a1] at h; cases h
      · rw [z, c1] at h; cases h
      · rw [z, upd_ne nctx, eb _ _ hcc] at hb; cases hb
    have E := ea.trans eb
    have P1 : (upd Hb x (.ins (He.ga K "Log") dx (logF { lg := x, dv := A.dv, sn := A.sn, su := A.su, wt := A.wt, ct := ct, la := A.la, pr := p, sl := q, qu := r } 0 0 0 1))) p = some (.lst (nL (List.replicate (l.last + 1) 0))) := by rw [upd_ne npx]; exact E _ _ hp9
    have P2 : (upd Hb x (.ins (He.ga K "Log") dx (logF { lg := x, dv := A.dv, sn := A.sn, su := A.su, wt := A.wt, ct := ct, la := A.la, pr := p, sl := q, qu := r } 0 0 0 1))) q = some (.lst (List.replicate 3 .non)) := by rw [upd_ne nqx]; exact E _ _ hq9
    have P3 : (upd Hb x (.ins (He.ga K "Log") dx (logF { lg := x, dv := A.dv, sn := A.sn, su := A.su, wt := A.wt, ct := ct, la := A.la, pr := p, sl := q, qu := r } 0 0 0 1))) r = some (.lst []) := by rw [upd_ne nrx]; exact E _ _ hr9
    refine k _ { lg := x, dv := A.dv, sn := A.sn, su := A.su, wt := A.wt, ct := ct, la := A.la, pr := p, sl := q, qu := r } B10 rfl rfl rfl rfl rfl rfl hct ⟨⟨dx, upd_same⟩, ?_, ⟨dc, 0, 0, 0, 0, 0, 0, 0, ?_⟩, ⟨P1, new _ _ np npx P1⟩, ⟨_, P2, Rl.repl (R := SlotAt _ _) (x := none) rfl 3, new _ _ nq nqx P2⟩, ⟨P3, new _ _ nr nrx P3⟩, ?_, ?_⟩
    · exact ⟨hd2.dv, hd2.la, hd2.su, hd2.sn, hd2.wt, n1, n2, n3, l1, l2⟩
    · rw [upd_ne nctx]
      exact eb _ _ hcc
    · show (x :: A.dv :: A.sn :: A.su :: A.wt :: [ct]).Nodup
      simp only [List.nodup_cons, List.mem_cons, List.not_mem_nil, or_false, not_or, List.nodup_nil, and_true]
      exact ⟨⟨xd, x2, x1, x3, fun z => nctx z.symm⟩, ⟨m2, m1, m3, kn _ _ d1⟩, ⟨fun z => n1 z.symm, n3, kn _ _ b1⟩, ⟨n2, kn _ _ a1⟩, kn _ _ c1, fun z => z⟩
    · rw [own]
      rintro (z | z | z | z | z | z)
      · exact xl z.symm
      · exact m4 z
      · exact m6 z
      · exact m5 z
      · exact m7 z
      · exact kn _ _ la z
end
end Sg

set_option maxHeartbeats 4000000
namespace Sg
open PySem PySem.Spec PyProof.Rows L2 Evl
section
variable {P : Program} {w : World} {K : PySem.W.Frag} {mg : Str → Option Value} {base : Heap}
/-! ### Layout -/
def sp_Layout_init (K : PySem.W.Frag) : Sp := fun vs H Q _ => ∃ (x dx : Addr) (l : Lay), vs = [.ref x, nV l.seg, nV l.sb, nV l.bs] ∧ H x = some (.ins (He.ga K "Layout") dx []) ∧ l.Ok ∧ 16 + 2 * l.pay + (l.last + 7) / 8 ≤ l.bs ∧
  ∀ H2, ExB x H H2 → LayAt K H2 x l → Q .non H2
abbrev nm_Layout_init : List Str := ["self", "segments", "segment_blocks", "block_size", "numbers"]
theorem sc_Layout_init : FnScope nm_Layout_init ["self", "segments", "segment_blocks", "block_size"] (defScope s_Layout_init) := ⟨rfl, rfl, rfl, by decide +kernel, rfl, by decide +kernel, by decide +kernel⟩
theorem ok_Layout_init (T : Ctx K mg base) : Okd P w K mg base 2 (He.ma K (He.ga K "Layout") "__init__") ["self", "segments", "segment_blocks", "block_size"] (sp_Layout_init K) := by
  obtain ⟨fd, F⟩ := T.def_Layout_init
  have b : Binds K fd ["self", "segments", "segment_blocks", "block_size"] [] := FunD.bindsN F fun _ _ _ _ _ _ us hl => match us, hl with | [_, _, _, _], _ => rfl
  obtain ⟨fd_parts_of, G_parts_of, b_parts_of, k_parts_of⟩ := ok_parts_of (P := P) (w := w) T
  obtain ⟨tHEAD_OCTETS, hHEAD_OCTETS⟩ := T.int_HEAD_OCTETS
  obtain ⟨tLEAST_BLOCKS, hLEAST_BLOCKS⟩ := T.int_LEAST_BLOCKS
  obtain ⟨tLEAST_SEGMENTS, hLEAST_SEGMENTS⟩ := T.int_LEAST_SEGMENTS
  obtain ⟨tMOST_BLOCKS, hMOST_BLOCKS⟩ := T.int_MOST_BLOCKS
  obtain ⟨tMOST_SEGMENTS, hMOST_SEGMENTS⟩ := T.int_MOST_SEGMENTS
  obtain ⟨tSLOTS, hSLOTS⟩ := T.int_SLOTS
  refine ⟨fd, FunD.ok F sc_Layout_init (fun vs H Q E h => ?_) (fun cdv A outer s H vs Q E hr h => ?_), b, F.kp⟩
  · obtain ⟨x, dx, l, rfl, _⟩ := h
    rfl
  · obtain ⟨x, dx, l, rfl, hx, o, hfit, k⟩ := h
    refine ⟨_, PSs.nox (pss_cons (ps_if (PW.pt (pw_or (pt_cmpR op_lt (pv 1) (pe_glob (v := .int 4) rfl hLEAST_SEGMENTS ⟨_, rfl⟩) (nomark _)) (pw_or1 (pt_cmpR op_gt (pv 1) (pe_glob (v := .int 16) rfl hMOST_SEGMENTS ⟨_, rfl⟩) (nomark _))))) (pss_one ps_never) pss_nil)
      (pss_cons (ps_if (PW.pt (pw_or (pt_cmpR op_lt (pv 2) (pe_glob (v := .int 16) rfl hLEAST_BLOCKS ⟨_, rfl⟩) (nomark _)) (pw_or1 (pt_cmpR op_gt (pv 2) (pe_glob (v := .int 32) rfl hMOST_BLOCKS ⟨_, rfl⟩) (nomark _))))) (pss_one ps_never) pss_nil)
      (pss_cons (ps_if (pt_cmpR op_notIn_seq (pv 3) (pe_tup (pa_cons pe_int (pa_cons pe_int (pa_cons pe_int pa_nil)))) (by rfl)) (pss_one ps_never) pss_nil)
      (pss_cons (ps_fld (pv 0) (pv 1) rfl)
      (pss_cons (ps_fld (pv 0) (pv 2) rfl)
      (pss_cons (ps_fld (pv 0) (pv 3) rfl)
      (pss_cons (ps_fld (pv 0) (pe_op op_sub (pv 2) pe_int) rfl)
      (pss_cons (ps_fld (pv 0) (pe_op op_mul (pe_op op_sub (pv 1) pe_int) (pe_fld (pv 0) rfl)) rfl)
      (pss_cons (ps_fld (pv 0) (pe_op op_add (pe_fld (pv 0) rfl) (pe_fld (pv 0) rfl)) rfl)
      (pss_cons (ps_fld (pv 0) (pe_op op_fdiv (pv 3) pe_int) rfl)
      (pss_cons (ps_if (pt_cmpR op_gt (pe_op op_add (pe_op op_add (pe_glob (v := .int 16) rfl hHEAD_OCTETS ⟨_, rfl⟩) (pe_op op_mul pe_int (pe_fld (pv 0) rfl))) (pe_call G_parts_of (hr.mono (by decide)) rfl T.glo_parts_of k_parts_of b_parts_of .nil pass0 (pa_cons (pe_fld (pv 0) rfl) (pa_cons pe_int pa_nil)))) (pv 3) (nomark _)) (pss_one ps_never) pss_nil)
      (pss_cons (ps_set (i := 4) sc_Layout_init.nd rfl (Or.inl rfl) (pe_op op_add (pe_op op_add (pe_op op_add (pe_op op_mul (pe_op op_add (pe_glob (v := .int 3) rfl hSLOTS ⟨_, rfl⟩) pe_int) (pe_fld (pv 0) rfl)) (pe_glob (v := .int 3) rfl hSLOTS ⟨_, rfl⟩)) pe_int) (pv 1)))
      (pss_cons (ps_fld (pv 0) (pe_call G_parts_of (hr.mono (by decide)) rfl T.glo_parts_of k_parts_of b_parts_of .nil pass0 (pa_cons (pe_op op_mul pe_int (pv 4)) (pa_cons (pv 3) pa_nil))) rfl)
      (pss_one (ps_fld (pv 0) (pe_op op_add (pe_op op_mul pe_int (pe_fld (pv 0) rfl)) (pe_op op_mul (pv 1) (pv 2))) rfl))))))))))))))), ?_⟩
    have hs1 := o.s1
    have hs2 := o.s2
    have hb1 := o.b1
    have hb2 := o.b2
    have hpay := o.pay1
    have hlim := o.lim1
    have hlast := o.last1
    have hbs := o.bs1
    have hrb := o.rb1
    have c := T.cls_Layout
    have hz : (!inV (nV l.bs) [.int 64, .int 128, .int 256]) = false := by
      rcases o.z with z | z | z <;> rw [z] <;> rfl
    refine q_when (b := false) (et_is (et_or (et_cmp (ev_var rfl) ev_c rv_I0) fun _ => et_cmp (ev_var rfl) ev_c rv_I0) (by simp; omega)) (fun z => by cases z) fun _ H1 e1 => ?_
    refine q_when (b := false) (et_is (et_or (et_cmp (ev_var rfl) ev_c rv_I0) fun _ => et_cmp (ev_var rfl) ev_c rv_I0) (by simp; omega)) (fun z => by cases z) fun _ H2 e2 => ?_
    refine q_when (b := false) (et_is (et_test (ev_niU (ev_var rfl) (eu_tup (ea_cons ev_c (ea_cons ev_c (ea_cons ev_c ea_nil))) (Nat.le_of_ble_eq_true rfl)) rfl rfl)) hz) (fun z => by cases z) fun _ H3 e3 => ?_
    have E3 := (e1.trans e2).trans e3
    have B0 := (ExB.refl (x := x) (H := H)).ex E3
    refine q_fld (ev_var rfl) (ev_var rfl) (E3 _ _ hx) c T.na_Layout_segments (Nat.le_of_ble_eq_true rfl) fun H4 e4 => ?_
    refine q_fld (ev_var rfl) (ev_var rfl) upd_same c T.na_Layout_segment_blocks (Nat.le_of_ble_eq_true rfl) fun H5 e5 => ?_
    refine q_fld (ev_var rfl) (ev_var rfl) upd_same c T.na_Layout_block_size (Nat.le_of_ble_eq_true rfl) fun H6 e6 => ?_
    refine q_fld (v := nV l.pay) (ev_is (ev_op (ev_var rfl) ev_c rv_I0) (nv_eq (by have := hpay.2.2; omega))) (ev_var rfl) upd_same c T.na_Layout_payload (Nat.le_of_ble_eq_true rfl) fun H7 e7 => ?_
    refine q_fld (v := nV l.lim) (ev_is (ev_op (ev_op (ev_var rfl) ev_c rv_I0) (ev_fld (v := nV l.pay) (ev_var rfl) upd_same c T.na_Layout_payload (by rfl)) (rv_I (.inl ⟨by omega, by omega⟩))) (nv_eq (by unfold Lay.lim; rw [Int.natCast_mul]; congr 1; omega))) (ev_var rfl) upd_same c T.na_Layout_limit (Nat.le_of_ble_eq_true rfl) fun H8 e8 => ?_
    refine q_fld (v := nV l.last) (ev_op (ev_fld (v := nV l.lim) (ev_var rfl) upd_same c T.na_Layout_limit (by rfl)) (ev_fld (v := nV l.pay) (ev_var rfl) upd_same c T.na_Layout_payload (by rfl)) rv_I0) (ev_var rfl) upd_same c T.na_Layout_last_id (Nat.le_of_ble_eq_true rfl) fun H9 e9 => ?_
    refine q_fld (v := nV l.fan) (ev_is (ev_op (ev_var rfl) ev_c (rv_I ⟨by decide, by decide⟩)) (nv_eq (by unfold Lay.fan; rw [Int.natCast_ediv]; rfl))) (ev_var rfl) upd_same c T.na_Layout_fan (Nat.le_of_ble_eq_true rfl) fun H10 e10 => ?_
    have parts : ∀ (n s : Nat) (σ : L2.St) (H : Hp) (tA : TA) (E : XK), 0 < s → s < 1000000 → EvA tA σ H [nV n, nV s] → Ev (tCall spParts [] E tA) σ H (nV ((n + s - 1) / s)) := fun n s σ H tA E h1 h2 h =>
      ev_callV h fun H1 e1 Q E q => ⟨n, s, rfl, h1, h2, q⟩
    refine q_when (b := false) (et_is (et_cmp (ev_op (ev_op ev_c (ev_op ev_c (ev_fld (v := nV l.pay) (ev_var rfl) upd_same c T.na_Layout_payload (by rfl)) (rv_I (.inl (by decide)))) rv_I0) (parts l.last 8 _ _ _ _ (by decide) (by decide) (ea_cons (ev_fld (v := nV l.last) (ev_var rfl) upd_same c T.na_Layout_last_id (by rfl)) (ea_cons ev_c ea_nil))) rv_I0) (ev_var rfl) rv_I0) ?_) (fun z => by cases z) fun _ H11 e11 => ?_
    · simp
      omega
    have hx11 := e11 _ _ (upd_same (H := H10) (a := x))
    refine q_asg (v := nV l.nums) (ev_is (ev_op (ev_op (ev_op (ev_op (ev_op ev_c ev_c rv_I0) (ev_fld (v := nV l.last) (ev_var rfl) hx11 c T.na_Layout_last_id (by rfl)) (rv_I (.inl (by decide)))) ev_c rv_I0) ev_c rv_I0) (ev_var rfl) rv_I0) (nv_eq (by unfold Lay.nums; omega))) fun H12 e12 => ?_
    have hx12 := e12 _ _ hx11
    refine q_fld (v := nV l.rb) (ev_is (parts (2 * l.nums) l.bs _ _ _ _ (by omega) (by omega) (ea_cons (ev_is (ev_op ev_c (ev_var rfl) (rv_I (.inl (by decide)))) (nv_eq (by omega))) (ea_cons (ev_var rfl) ea_nil))) rfl) (ev_var rfl) hx12 c T.na_Layout_region_blocks (Nat.le_of_ble_eq_true rfl) fun H13 e13 => ?_
    refine s_fld (v := nV l.db) (ev_is (ev_op (ev_op ev_c (ev_fld (v := nV l.rb) (ev_var rfl) upd_same c T.na_Layout_region_blocks (by rfl)) (rv_I (.inl (by decide)))) (ev_op (ev_var rfl) (ev_var rfl) (rv_I (.inl ⟨by omega, by omega⟩))) rv_I0) (nv_eq (by unfold Lay.db; rw [Int.natCast_add, Int.natCast_mul, Int.natCast_mul]; rfl))) (ev_var rfl) upd_same c T.na_Layout_device_blocks (Nat.le_of_ble_eq_true rfl) fun H14 e14 => ?_
    exact k _ (((((((((B0.put e4).put e5).put e6).put e7).put e8).put e9).put e10).ex (e11.trans e12) |>.put e13).put e14) ⟨o, dx, upd_same⟩
end
end Sg

set_option maxHeartbeats 4000000
/-! statements that set a log's attributes; promises of what changes a log -/
namespace Sg
open PySem PySem.Spec PyProof.Rows L2 Evl
def Ad.at_ (A : Ad) (w p s q : Addr) : Ad := ⟨A.lg, A.dv, A.sn, A.su, w, A.ct, A.la, p, s, q⟩
/-- behind it the log is L', nothing else is changed -/
def Gives (K : PySem.W.Frag) (H : Hp) (A : Ad) (l : Lay) (L' : Lg) (v : V) (Q : VK) : Prop := ∀ H' w p s q, Evo H A H' (A.at_ w p s q) → LogAt K H' (A.at_ w p s q) l L' → Q v H'
section
variable {K : PySem.W.Frag} {mg : Str → Option Value} {base : Heap} {σ : L2.St} {H H' H2 : Hp} {ta tv : TE} {A : Ad} {l : Lay} {L : Lg} {D : Ends} {tz : L2.TS}
theorem Gives.at {L' : Lg} {v : V} {Q : VK} {H1 : Hp} {w p s q : Addr} (h : Gives K H A l L' v Q) (e : Evo H A H1 (A.at_ w p s q)) : Gives K H1 (A.at_ w p s q) l L' v Q := fun H' w' p' s' q' e' l' => h H' w' p' s' q' (e.trans e') l'
theorem Gives.ex {L' : Lg} {v : V} {Q : VK} {H1 : Hp} (h : Gives K H A l L' v Q) (e : Ex H H1) : Gives K H1 A l L' v Q := fun H' w' p' s' q' e' l' => h H' w' p' s' q' ((Evo.ex e).trans e') l'
theorem LogAt.at0 (h : LogAt K H A l L) : LogAt K H (A.at_ A.wt A.pr A.sl A.qu) l L := h
theorem q_lgHead (T : Ctx K mg base) {n : Nat} (h : LogAt K H A l L) (hv : Ev tv σ H (nV n)) (ha : ∀ H1, Ex H H1 → Ev ta σ H1 (.ref A.lg)) (k : ∀ H', Evo H A H' A → LogAt K H' A l { L with T := { L.T with head := n } } → tz D σ H') : tSeq (sFld K ta tv "head") tz D σ H := by
  obtain ⟨dx, hx⟩ := h.lg
  refine q_fld hv (ha H (Ex.refl H)) hx T.cls_Log T.na_Log_head (Nat.le_of_ble_eq_true rfl) fun H1 e1 => ?_
  obtain ⟨vs, s1, s2, s3⟩ := (h.mono e1).sl
  have r := h.setL e1 (e1 _ _ hx) A.pr A.sl A.qu { L.T with head := n, place := L.T.place } L.lseq L.reg (h.mono e1).pr ⟨vs, s1, s2, s3⟩ (h.mono e1).qu
  exact k _ r.2 r.1
theorem s_lgHead (T : Ctx K mg base) {n : Nat} (h : LogAt K H A l L) (hv : Ev tv σ H (nV n)) (ha : ∀ H1, Ex H H1 → Ev ta σ H1 (.ref A.lg)) (k : ∀ H', Evo H A H' A → LogAt K H' A l { L with T := { L.T with head := n } } → D.nx σ H') : sFld K ta tv "head" D σ H := q_lgHead (tz := fun D => D.nx) T h hv ha k
theorem q_lgPlace (T : Ctx K mg base) {n : Nat} (h : LogAt K H A l L) (hv : Ev tv σ H (nV n)) (ha : ∀ H1, Ex H H1 → Ev ta σ H1 (.ref A.lg)) (k : ∀ H', Evo H A H' A → LogAt K H' A l { L with T := { L.T with place := n } } → tz D σ H') : tSeq (sFld K ta tv "place") tz D σ H := by
  obtain ⟨dx, hx⟩ := h.lg
  refine q_fld hv (ha H (Ex.refl H)) hx T.cls_Log T.na_Log_place (Nat.le_of_ble_eq_true rfl) fun H1 e1 => ?_
  obtain ⟨vs, s1, s2, s3⟩ := (h.mono e1).sl
  have r := h.setL e1 (e1 _ _ hx) A.pr A.sl A.qu { L.T with head := L.T.head, place := n } L.lseq L.reg (h.mono e1).pr ⟨vs, s1, s2, s3⟩ (h.mono e1).qu
  exact k _ r.2 r.1
theorem s_lgPlace (T : Ctx K mg base) {n : Nat} (h : LogAt K H A l L) (hv : Ev tv σ H (nV n)) (ha : ∀ H1, Ex H H1 → Ev ta σ H1 (.ref A.lg)) (k : ∀ H', Evo H A H' A → LogAt K H' A l { L with T := { L.T with place := n } } → D.nx σ H') : sFld K ta tv "place" D σ H := q_lgPlace (tz := fun D => D.nx) T h hv ha k
theorem q_lgLseq (T : Ctx K mg base) {n : Nat} (h : LogAt K H A l L) (hv : Ev tv σ H (nV n)) (ha : ∀ H1, Ex H H1 → Ev ta σ H1 (.ref A.lg)) (k : ∀ H', Evo H A H' A → LogAt K H' A l { L with lseq := n } → tz D σ H') : tSeq (sFld K ta tv "last_sequence") tz D σ H := by
  obtain ⟨dx, hx⟩ := h.lg
  refine q_fld hv (ha H (Ex.refl H)) hx T.cls_Log T.na_Log_last_sequence (Nat.le_of_ble_eq_true rfl) fun H1 e1 => ?_
  obtain ⟨vs, s1, s2, s3⟩ := (h.mono e1).sl
  have r := h.setL e1 (e1 _ _ hx) A.pr A.sl A.qu { L.T with head := L.T.head, place := L.T.place } n L.reg (h.mono e1).pr ⟨vs, s1, s2, s3⟩ (h.mono e1).qu
  exact k _ r.2 r.1
theorem s_lgLseq (T : Ctx K mg base) {n : Nat} (h : LogAt K H A l L) (hv : Ev tv σ H (nV n)) (ha : ∀ H1, Ex H H1 → Ev ta σ H1 (.ref A.lg)) (k : ∀ H', Evo H A H' A → LogAt K H' A l { L with lseq := n } → D.nx σ H') : sFld K ta tv "last_sequence" D σ H := q_lgLseq (tz := fun D => D.nx) T h hv ha k
theorem q_lgReg (T : Ctx K mg base) {n : Nat} (h : LogAt K H A l L) (hv : Ev tv σ H (nV n)) (ha : ∀ H1, Ex H H1 → Ev ta σ H1 (.ref A.lg)) (k : ∀ H', Evo H A H' A → LogAt K H' A l { L with reg := n } → tz D σ H') : tSeq (sFld K ta tv "region") tz D σ H := by
  obtain ⟨dx, hx⟩ := h.lg
  refine q_fld hv (ha H (Ex.refl H)) hx T.cls_Log T.na_Log_region (Nat.le_of_ble_eq_true rfl) fun H1 e1 => ?_
  obtain ⟨vs, s1, s2, s3⟩ := (h.mono e1).sl
  have r := h.setL e1 (e1 _ _ hx) A.pr A.sl A.qu { L.T with head := L.T.head, place := L.T.place } L.lseq n (h.mono e1).pr ⟨vs, s1, s2, s3⟩ (h.mono e1).qu
  exact k _ r.2 r.1
theorem s_lgReg (T : Ctx K mg base) {n : Nat} (h : LogAt K H A l L) (hv : Ev tv σ H (nV n)) (ha : ∀ H1, Ex H H1 → Ev ta σ H1 (.ref A.lg)) (k : ∀ H', Evo H A H' A → LogAt K H' A l { L with reg := n } → D.nx σ H') : sFld K ta tv "region" D σ H := q_lgReg (tz := fun D => D.nx) T h hv ha k
theorem q_lgQueue (T : Ctx K mg base) {qs : List Nat} (h : LogAt K H A l L) (hv : EvL tv σ H (nL qs)) (ha : ∀ H1, Ex H H1 → Ev ta σ H1 (.ref A.lg)) (k : ∀ H' p, Evo H A H' (A.at_ A.wt A.pr A.sl p) → LogAt K H' (A.at_ A.wt A.pr A.sl p) l { L with T := { L.T with queue := qs } } → tz D σ H') : tSeq (sFld K ta tv "queue") tz D σ H := by
  obtain ⟨dx, hx⟩ := h.lg
  refine q_fldL hv (ha H (Ex.refl H)) hx T.cls_Log T.na_Log_queue (Nat.le_of_ble_eq_true rfl) fun p H1 hp e1 h1 => ?_
  obtain ⟨vs, s1, s2, s3⟩ := (h.mono e1).sl
  have r := h.setL e1 (e1 _ _ hx) A.pr A.sl p { L.T with queue := qs } L.lseq L.reg (h.mono e1).pr ⟨vs, s1, s2, s3⟩ ⟨h1, h.new hp⟩
  exact k _ p r.2 r.1
theorem s_lgQueue (T : Ctx K mg base) {qs : List Nat} (h : LogAt K H A l L) (hv : EvL tv σ H (nL qs)) (ha : ∀ H1, Ex H H1 → Ev ta σ H1 (.ref A.lg)) (k : ∀ H' p, Evo H A H' (A.at_ A.wt A.pr A.sl p) → LogAt K H' (A.at_ A.wt A.pr A.sl p) l { L with T := { L.T with queue := qs } } → D.nx σ H') : sFld K ta tv "queue" D σ H := q_lgQueue (tz := fun D => D.nx) T h hv ha k
theorem q_lgPresent (T : Ctx K mg base) {t : List Nat} (h : LogAt K H A l L) (hv : EvL tv σ H (nL t)) (ha : ∀ H1, Ex H H1 → Ev ta σ H1 (.ref A.lg)) (k : ∀ H' p, Evo H A H' (A.at_ A.wt p A.sl A.qu) → LogAt K H' (A.at_ A.wt p A.sl A.qu) l { L with T := { L.T with pres := t } } → tz D σ H') : tSeq (sFld K ta tv "present") tz D σ H := by
  obtain ⟨dx, hx⟩ := h.lg
  refine q_fldL hv (ha H (Ex.refl H)) hx T.cls_Log T.na_Log_present (Nat.le_of_ble_eq_true rfl) fun p H1 hp e1 h1 => ?_
  obtain ⟨vs, s1, s2, s3⟩ := (h.mono e1).sl
  have r := h.setL e1 (e1 _ _ hx) p A.sl A.qu { L.T with pres := t } L.lseq L.reg ⟨h1, h.new hp⟩ ⟨vs, s1, s2, s3⟩ (h.mono e1).qu
  exact k _ p r.2 r.1
theorem s_lgPresent (T : Ctx K mg base) {t : List Nat} (h : LogAt K H A l L) (hv : EvL tv σ H (nL t)) (ha : ∀ H1, Ex H H1 → Ev ta σ H1 (.ref A.lg)) (k : ∀ H' p, Evo H A H' (A.at_ A.wt p A.sl A.qu) → LogAt K H' (A.at_ A.wt p A.sl A.qu) l { L with T := { L.T with pres := t } } → D.nx σ H') : sFld K ta tv "present" D σ H := q_lgPresent (tz := fun D => D.nx) T h hv ha k
theorem q_lgSlots (T : Ctx K mg base) {os : List (Option (List Nat))} (h : LogAt K H A l L) (hv : EvP tv σ H (RowsF H os)) (ha : ∀ H1, Ex H H1 → Ev ta σ H1 (.ref A.lg)) (k : ∀ H' p, Evo H A H' (A.at_ A.wt A.pr p A.qu) → LogAt K H' (A.at_ A.wt A.pr p A.qu) l { L with T := { L.T with slots := os } } → tz D σ H') : tSeq (sFld K ta tv "slots") tz D σ H := by
  obtain ⟨dx, hx⟩ := h.lg
  refine q_fldP hv ha hx T.cls_Log T.na_Log_slots (Nat.le_of_ble_eq_true rfl) fun v H1 H2 e1 hr e2 => ?_
  obtain ⟨p, vs, rfl, hp, h1, rl⟩ := hr.up e2
  have e := e1.trans e2
  have r := h.setL e (e _ _ hx) A.pr p A.qu { L.T with slots := os } L.lseq L.reg (h.mono e).pr ⟨vs, h1, rl.mono fun v o z => ?_, h.new hp⟩ (h.mono e).qu
  · exact k _ p r.2 r.1
  · cases o with
    | none => exact z.1
    | some t =>
      obtain ⟨⟨b, y1, y2, y3⟩, _⟩ := z
      exact ⟨b, y1, y3, h.new y2⟩
theorem s_lgSlots (T : Ctx K mg base) {os : List (Option (List Nat))} (h : LogAt K H A l L) (hv : EvP tv σ H (RowsF H os)) (ha : ∀ H1, Ex H H1 → Ev ta σ H1 (.ref A.lg)) (k : ∀ H' p, Evo H A H' (A.at_ A.wt A.pr p A.qu) → LogAt K H' (A.at_ A.wt A.pr p A.qu) l { L with T := { L.T with slots := os } } → D.nx σ H') : sFld K ta tv "slots" D σ H := q_lgSlots (tz := fun D => D.nx) T h hv ha k
end
end Sg

set_option maxHeartbeats 4000000
namespace Sg
open PySem PySem.Spec PyProof.Rows L2 Evl
section
variable {P : Program} {w : World} {K : PySem.W.Frag} {mg : Str → Option Value} {base : Heap}
theorem evp_callP {σ : L2.St} {H : Hp} {tA : TA} {sp : Sp} {dvs : List V} {E : XK} {R : List V → Hp → Prop} {P : V → Hp → Prop} (h : EvAP tA σ H R) (hs : ∀ us H1, Ex H H1 → R us H1 → ∀ (Q : VK) (E : XK), RetP P H1 Q → sp (us ++ dvs) H1 Q E) : EvP (tCall sp dvs E tA) σ H P := fun H1 e Q q =>
  h H1 e _ fun us H2 e2 r => hs us H2 (e.trans e2) r Q E (RetP.at q e2)
theorem cut_lo (xs : List V) (i : Nat) : cutV xs (some (i : Int)) none = xs.drop i := by
  unfold cutV
  rw [HT.sIx_nat, HT.sIx_none]
  by_cases h : i ≤ xs.length
  · rw [Nat.min_eq_left h, List.take_of_length_le (by simp)]
  · rw [Nat.min_eq_right (by omega)]
    simp
    omega
theorem cut_hi (xs : List V) (j : Nat) : cutV xs none (some (j : Int)) = xs.take j := by
  unfold cutV
  rw [HT.sIx_nat, HT.sIx_none]
  by_cases h : j ≤ xs.length
  · rw [Nat.min_eq_left h]
    rfl
  · rw [Nat.min_eq_right (by omega), List.take_of_length_le (by simp), List.take_of_length_le (by omega)]
    rfl
theorem cut_lh (xs : List V) (i j : Nat) : cutV xs (some (i : Int)) (some (j : Int)) = (xs.drop i).take (j - i) := by
  unfold cutV
  rw [HT.sIx_nat, HT.sIx_nat]
  by_cases h : i ≤ xs.length
  · rw [Nat.min_eq_left h]
    by_cases h2 : j ≤ xs.length
    · rw [Nat.min_eq_left h2]
    · rw [Nat.min_eq_right (by omega), List.take_of_length_le (by simp), List.take_of_length_le (by simp; omega)]
  · rw [Nat.min_eq_right (show xs.length ≤ i by omega), List.drop_of_length_le (Nat.le_refl _), List.drop_of_length_le (by omega)]
    simp
theorem ev_adr {σ : L2.St} {H : Hp} {tA : TA} {E : XK} {a : Addr} {l : Lay} {s p : Nat} (ha : LayAt K H a l) (hs : s ≤ 100) (h : EvA tA σ H [.ref a, nV s, nV p]) : Ev (tCall (spAddr K) [] E tA) σ H (nV (l.adr s p)) :=
  ev_callV h fun H1 e1 Q E q => ⟨a, l, s, p, rfl, ha.mono e1, hs, q⟩
theorem ev_reg {σ : L2.St} {H : Hp} {tA : TA} {E : XK} {a : Addr} {l : Lay} {r : Nat} (ha : LayAt K H a l) (hs : r ≤ 100) (h : EvA tA σ H [.ref a, nV r]) : Ev (tCall (spReg K) [] E tA) σ H (nV (r * l.rb)) :=
  ev_callV h fun H1 e1 Q E q => ⟨a, l, r, rfl, ha.mono e1, hs, q⟩
theorem ev_seg {σ : L2.St} {H : Hp} {tA : TA} {E : XK} {a : Addr} {l : Lay} {ad : Nat} (ha : LayAt K H a l) (h : EvA tA σ H [.ref a, nV ad]) : Ev (tCall (spSeg K) [] E tA) σ H (segV l ad) :=
  ev_callV h fun H1 e1 Q E q => ⟨a, l, ad, rfl, ha.mono e1, q⟩
theorem evp_read {σ : L2.St} {H : Hp} {tA : TA} {ta : TE} {E : XK} {A : Ad} {l : Lay} {su se : Dev} {wa : List (Nat × Blk)} {ad : Nat} (hd : DevAt K H A l su se wa) (ho : Ev ta σ H (.ref A.dv)) (h : EvA tA σ H [nV ad]) : EvP (tMeth (He.ga K "Device") "read" (sp_Device_read K) [] E ta tA) σ H fun v H2 => OBlk H2 v (rd se ad) := by
  obtain ⟨dx, hv⟩ := hd.dv
  exact evp_meth ho hv (by rfl) h fun H1 e1 Q E q => ⟨A, l, su, se, wa, ad, rfl, hd.mono e1, q⟩
/-! ### payload_at -/
def sp_payload_at (K : PySem.W.Frag) : Sp := fun vs H Q _ => ∃ (A : Ad) (l : Lay) (L : Lg) (ad : Nat), vs = [.ref A.lg, nV ad] ∧ LogAt K H A l L ∧ RetP (fun v H2 => OPay H2 v (payOf (rd L.seen ad))) H Q
abbrev nm_payload_at : List Str := ["log", "address"]
theorem sc_payload_at : FnScope nm_payload_at ["log", "address"] (defScope s_payload_at) := ⟨rfl, rfl, rfl, by decide +kernel, rfl, by decide +kernel, by decide +kernel⟩
theorem ok_payload_at (T : Ctx K mg base) : Okd P w K mg base 3 (He.ga K "payload_at") ["log", "address"] (sp_payload_at K) := by
  obtain ⟨fd, F⟩ := T.def_payload_at
  have b : Binds K fd ["log", "address"] [] := FunD.bindsN F fun _ _ _ _ _ _ us hl => match us, hl with | [_, _], _ => rfl
  obtain ⟨fd_payload_of, G_payload_of, b_payload_of, k_payload_of⟩ := ok_payload_of (P := P) (w := w) T
  obtain ⟨fd_read, G_Device_read, b_Device_read, k_Device_read⟩ := ok_Device_read (P := P) (w := w) T
  refine ⟨fd, FunD.ok F sc_payload_at (fun vs H Q E h => ?_) (fun cdv A outer s H vs Q E hr h => ?_), b, F.kp⟩
  · obtain ⟨A, l, L, ad, rfl, _⟩ := h
    rfl
  · obtain ⟨A, l, L, ad, rfl, h, k⟩ := h
    refine ⟨_, PSs.nox (pss_one (ps_ret (pe_call G_payload_of (hr.mono (by decide)) rfl T.glo_payload_of k_payload_of b_payload_of .nil pass0 (pa_cons (pe_meth (pe_fld (pv 0) rfl) T.cls_Device T.m_Device_read G_Device_read (hr.mono (by decide)) b_Device_read .nil pass0 (pa_cons (pv 1) pa_nil)) pa_nil)))), ?_⟩
    refine s_retP (evp_callP (P := fun v H2 => OPay H2 v (payOf (rd L.seen ad))) (ep_cons (evp_read h.dev (lv_device T h (ev_var rfl)) (ea_cons (ev_var rfl) ea_nil)) (R := fun v us H1 => us = [] ∧ OBlk H1 v (rd L.seen ad)) fun v H1 e1 hv => EvAP.mono ep_nil fun us H2 e2 hu => ⟨hu, hv.mono (Ex.tx e2)⟩) fun us H1 e1 hu Q E q => ?_) k
    obtain ⟨v, us', rfl, rfl, hv⟩ := hu
    exact ⟨v, _, rfl, hv, q⟩
/-! ### next_sequence -/
def sp_next_sequence (K : PySem.W.Frag) : Sp := fun vs H Q _ => ∃ (A : Ad) (l : Lay) (L : Lg), vs = [.ref A.lg] ∧ LogAt K H A l L ∧ ∀ H', Evo H A H' A → LogAt K H' A l { L with lseq := L.lseq + 1 } → Q (nV (L.lseq + 1)) H'
abbrev nm_next_sequence : List Str := ["log"]
theorem sc_next_sequence : FnScope nm_next_sequence ["log"] (defScope s_next_sequence) := ⟨rfl, rfl, rfl, by decide +kernel, rfl, by decide +kernel, by decide +kernel⟩
theorem ok_next_sequence (T : Ctx K mg base) : Okd P w K mg base 1 (He.ga K "next_sequence") ["log"] (sp_next_sequence K) := by
  obtain ⟨fd, F⟩ := T.def_next_sequence
  have b : Binds K fd ["log"] [] := FunD.bindsN F fun _ _ _ _ _ _ us hl => match us, hl with | [_], _ => rfl
  refine ⟨fd, FunD.ok F sc_next_sequence (fun vs H Q E h => ?_) (fun cdv A outer s H vs Q E hr h => ?_), b, F.kp⟩
  · obtain ⟨A, l, L, rfl, _⟩ := h
    rfl
  · obtain ⟨A, l, L, rfl, h, k⟩ := h
    refine ⟨_, PSs.nox (pss_cons (ps_fld (pv 0) (pe_op op_add (pe_fld (pv 0) rfl) pe_int) rfl)
      (pss_one (ps_ret (pe_fld (pv 0) rfl)))), ?_⟩
    refine q_lgLseq T (n := L.lseq + 1) h (ev_op (lv_last_sequence T h (ev_var rfl)) ev_c rv_I0) (fun _ _ => ev_var rfl) fun H1 e1 h1 => ?_
    refine s_ret (lv_last_sequence T h1 (ev_var rfl)) fun H2 e2 => k _ (e1.trans (Evo.ex e2)) (h1.mono e2)
/-! ### enter_segment -/
def sp_enter_segment (K : PySem.W.Frag) : Sp := fun vs H Q _ => ∃ (A : Ad) (l : Lay) (L : Lg), vs = [.ref A.lg] ∧ LogAt K H A l L ∧ L.T.queue ≠ [] ∧ Gives K H A l { L with T := enter L.T } .non Q
abbrev nm_enter_segment : List Str := ["log"]
theorem sc_enter_segment : FnScope nm_enter_segment ["log"] (defScope s_enter_segment) := ⟨rfl, rfl, rfl, by decide +kernel, rfl, by decide +kernel, by decide +kernel⟩
theorem ok_enter_segment (T : Ctx K mg base) : Okd P w K mg base 1 (He.ga K "enter_segment") ["log"] (sp_enter_segment K) := by
  obtain ⟨fd, F⟩ := T.def_enter_segment
  have b : Binds K fd ["log"] [] := FunD.bindsN F fun _ _ _ _ _ _ us hl => match us, hl with | [_], _ => rfl
  refine ⟨fd, FunD.ok F sc_enter_segment (fun vs H Q E h => ?_) (fun cdv A outer s H vs Q E hr h => ?_), b, F.kp⟩
  · obtain ⟨A, l, L, rfl, _⟩ := h
    rfl
  · obtain ⟨A, l, L, rfl, h, hq, k⟩ := h
    refine ⟨_, PSs.nox (pss_cons (ps_fld (pv 0) (pe_ix ix_list (pe_fld (pv 0) rfl) pe_int (fun _ _ => rfl)) rfl)
      (pss_cons (ps_fld (pv 0) (pe_slice sl_list (pe_fld (pv 0) rfl) (po_some pe_int) po_none) rfl)
      (pss_one (ps_fld (pv 0) pe_int rfl)))), ?_⟩
    obtain ⟨qh, qt, hqq⟩ := List.exists_cons_of_ne_nil hq
    refine q_lgHead T (n := qh) h (ev_op (lv_queue T h (ev_var rfl)) ev_c (rv_ixL (sq_of h.qu.1) (by rw [hqq]; exact atI_of (k := 0) rfl))) (fun _ _ => ev_var rfl) fun H1 e1 h1 => ?_
    refine q_lgQueue T (qs := qt) h1 ?_ (fun _ _ => ev_var rfl) fun H2 p e2 h2 => ?_
    · have := el_sl (lo := some 1) (hi := none) (σ := start nm_enter_segment [.ref A.lg]) (K := K) (lv_queue T h1 (ta := tVar 0) (ev_var rfl)) (eo_some ev_c) eo_none (sq_of h1.qu.1)
      have e : cutV (nL L.T.queue) (some 1) none = nL qt := by
        rw [hqq]
        exact cut_lo _ 1
      rw [show (({ L with T := { L.T with head := qh } } : Lg).T.queue) = L.T.queue from rfl, e] at this
      exact this
    refine s_lgPlace T (n := 0) h2 ev_c (fun _ _ => ev_var rfl) fun H3 e3 h3 => ?_
    have := k H3 A.wt A.pr A.sl p ((e1.trans e2).trans e3)
    refine this ?_
    have hen : enter L.T = { L.T with head := qh, queue := qt, place := 0 } := by unfold enter; rw [hqq]; rfl
    rw [hen]
    exact h3
end
end Sg

set_option maxHeartbeats 4000000
namespace Sg
open PySem PySem.Spec PyProof.Rows L2 Evl
/-- the shape of a log's tables -/
structure Wf (l : Lay) (T : TS) : Prop where
  lp : T.pres.length = l.last + 1
  ls : T.slots.length = 3
  lt : ∀ t, some t ∈ T.slots → t.length = l.last + 1
  hs : T.head < l.seg
theorem GoodT.wf {l : Lay} {T : TS} (g : GoodT l T) : Wf l T := ⟨g.lp, g.ls, fun t h => (g.lt t h).1, g.hs⟩
section
variable {P : Program} {w : World} {K : PySem.W.Frag} {mg : Str → Option Value} {base : Heap}
theorem q_asgG {σ : L2.St} {H : Hp} {te : TE} {g : TG} {tz : L2.TS} {D : Ends} {v : V} (h : Ev te σ H v) (k : ∀ H1, Ex H H1 → g v σ H1 (tz D)) : tSeq (tAsg te g) tz D σ H := h H (Ex.refl H) _ k
/-! ### take_batch -/
def sp_take_batch (K : PySem.W.Frag) : Sp := fun vs H Q _ => ∃ (A : Ad) (l : Lay) (L : Lg) (kind : Nat) (v : V) (T' : TS), vs = [.ref A.lg, nV kind, v] ∧ LogAt K H A l L ∧ Wf l L.T ∧
  ((∃ ids used act, kind = 1 ∧ ComAt H v ids used act ∧ T' = takeC l L.T ids used act) ∨ (∃ b adrs, kind = 2 ∧ v = .ref b ∧ H b = some (.tup (nL adrs)) ∧ adrs.length ≤ 1000 ∧ T' = takeM l L.T adrs)) ∧
  Gives K H A l { L with T := T' } .non Q
abbrev nm_take_batch : List Str := ["log", "kind", "body", "start", "ids", "used", "action", "count", "slot"]
theorem sc_take_batch : FnScope nm_take_batch ["log", "kind", "body"] (defScope s_take_batch) := ⟨rfl, rfl, rfl, by decide +kernel, rfl, by decide +kernel, by decide +kernel⟩
theorem ev_len2 {σ : L2.St} {H : Hp} {ta : TE} {p : Addr} {xs : List V} (ha : Ev ta σ H (.ref p)) (h : SqT K H p xs) : Ev (tCB (rLenS K) (tCons ta tNil)) σ H (.int (xs.length : Int)) := fun H1 e Q q =>
  ha H1 e _ fun H2 e2 => ⟨p, xs, rfl, .inr (ex_t (e.trans e2) h), q H2 e2⟩
theorem SlotAt.any {H : Hp} {S : List Addr} {v : V} {o : Option (List Nat)} (h : SlotAt H S v o) : SlotAt H [] v o := by
  cases o with
  | none => exact h
  | some t => obtain ⟨a, q1, q2, q3⟩ := h; exact ⟨a, q1, q2, by simp⟩
theorem ok_take_batch (T : Ctx K mg base) : Okd P w K mg base 2 (He.ga K "take_batch") ["log", "kind", "body"] (sp_take_batch K) := by
  obtain ⟨fd, F⟩ := T.def_take_batch
  have b : Binds K fd ["log", "kind", "body"] [] := FunD.bindsN F fun _ _ _ _ _ _ us hl => match us, hl with | [_, _, _], _ => rfl
  obtain ⟨fd_address_at, G_address_at, b_address_at, k_address_at⟩ := ok_address_at (P := P) (w := w) T
  obtain ⟨fd_commit_to_table, G_commit_to_table, b_commit_to_table, k_commit_to_table⟩ := ok_commit_to_table (P := P) (w := w) T
  obtain ⟨fd_move_in_table, G_move_in_table, b_move_in_table, k_move_in_table⟩ := ok_move_in_table (P := P) (w := w) T
  obtain ⟨fd_slots_after, G_slots_after, b_slots_after, k_slots_after⟩ := ok_slots_after (P := P) (w := w) T
  obtain ⟨tCOMMIT, hCOMMIT⟩ := T.int_COMMIT
  refine ⟨fd, FunD.ok F sc_take_batch (fun vs H Q E h => ?_) (fun cdv A outer s H vs Q E hr h => ?_), b, F.kp⟩
  · obtain ⟨A, l, L, kind, v, T', rfl, _⟩ := h
    rfl
  · obtain ⟨A, l, L, kind, v, T', rfl, h, wf, hk, k⟩ := h
    refine ⟨_, PSs.nox (pss_cons (ps_set (i := 3) sc_take_batch.nd rfl (Or.inr rfl) (pe_op op_add (pe_call G_address_at (hr.mono (by decide)) rfl T.glo_address_at k_address_at b_address_at .nil pass0 (pa_cons (pe_fld (pv 0) rfl) (pa_cons (pe_fld (pv 0) rfl) (pa_cons (pe_fld (pv 0) rfl) pa_nil)))) pe_int))
      (pss_cons (ps_if (pt_cmpR op_eq (pv 1) (pe_glob (v := .int 1) rfl hCOMMIT ⟨_, rfl⟩) (nomark _)) (pss_cons (ps_asg (pv 2) (pg_tup rfl (pgs_cons (pg_name (i := 4) sc_take_batch.nd rfl (Or.inl rfl)) (pgs_cons (pg_name (i := 5) sc_take_batch.nd rfl (Or.inl rfl)) (pgs_cons (pg_name (i := 6) sc_take_batch.nd rfl (Or.inl rfl)) pgs_nil)))))
      (pss_cons (ps_set (i := 7) sc_take_batch.nd rfl (Or.inl rfl) (pe_callB call_len_seq (by rfl) T.free_len PySem.boot_len (pa_cons (pv 4) pa_nil)))
      (pss_cons (ps_fld (pv 0) (pe_call G_commit_to_table (hr.mono (by decide)) rfl T.glo_commit_to_table k_commit_to_table b_commit_to_table .nil pass0 (pa_cons (pe_fld (pv 0) rfl) (pa_cons (pv 3) (pa_cons (pv 4) (pa_cons (pv 5) pa_nil))))) rfl)
      (pss_one (ps_fld (pv 0) (pe_call G_slots_after (hr.mono (by decide)) rfl T.glo_slots_after k_slots_after b_slots_after .nil pass0 (pa_cons (pe_fld (pv 0) rfl) (pa_cons (pe_fld (pv 0) rfl) (pa_cons (pv 6) pa_nil)))) rfl))))) (pss_cons (ps_set (i := 7) sc_take_batch.nd rfl (Or.inl rfl) (pe_callB call_len_seq (by rfl) T.free_len PySem.boot_len (pa_cons (pv 2) pa_nil)))
      (pss_cons (ps_fld (pv 0) (pe_call G_move_in_table (hr.mono (by decide)) rfl T.glo_move_in_table k_move_in_table b_move_in_table .nil pass0 (pa_cons (pe_fld (pv 0) rfl) (pa_cons (pv 3) (pa_cons (pv 2) pa_nil)))) rfl)
      (pss_one (ps_fld (pv 0) (pe_lc (own := [("slot", 8)]) rfl sc_take_batch.nd (pi_list (pe_fld (pv 0) rfl)) (blkOk_by (own := [("slot", 8)]) (N := nm_take_batch) (sc := defScope s_take_batch) (by decide +kernel)) (fun _ _ _ _ _ => (pg_name (i := 8) sc_take_batch.nd rfl (Or.inl rfl) (hf := .inr rfl))) (fun _ _ _ _ _ => pts_nil) (fun _ _ _ _ _ => (pe_ifExp (pt_cmp (pc_isN (pv 8)) rfl) pe_non (pe_call G_move_in_table (hr.mono (by decide)) rfl T.glo_move_in_table k_move_in_table b_move_in_table .nil pass0 (pa_cons (pv 8) (pa_cons (pv 3) (pa_cons (pv 2) pa_nil))))))) rfl)))))
      (pss_one (ps_fld (pv 0) (pe_op op_add (pe_op op_add (pe_fld (pv 0) rfl) pe_int) (pv 7)) rfl)))), ?_⟩
    have lo := h.dev.la.1
    have hs2 := lo.s2
    have hl1 := lo.last1
    have hhd := wf.hs
    refine q_asg (v := nV (l.adr L.T.head L.T.place + 1)) (ev_op (ev_adr h.dev.la (by omega) (ea_cons (lv_layout T h (ev_var rfl)) (ea_cons (lv_head T h (ev_var rfl)) (ea_cons (lv_place T h (ev_var rfl)) ea_nil)))) ev_c rv_I0) fun H1 e1 => ?_
    have h1 := h.mono e1
    rcases hk with ⟨ids, used, act, rfl, ⟨c, i, u, rfl, hc, hi, hu⟩, rfl⟩ | ⟨bd, adrs, rfl, rfl, hb, hla, rfl⟩
    · refine q_if2 (b := true) (et_is (et_cmp (ev_var rfl) ev_c (rv_eq rfl)) rfl) (fun _ H2 e2 => ?_) (fun z => by cases z)
      have h2 := h1.mono e2
      have E2 := e1.trans e2
      refine q_asgG (ev_var rfl) fun H3 e3 => ?_
      have h3 := h2.mono e3
      have E3 := E2.trans e3
      refine ⟨c, _, rfl, SqT.of (E3 _ _ hc), rfl, .ref i, _, rfl, .ref u, _, rfl, nV act, _, rfl, rfl, ?_⟩
      refine q_asg (v := nV ids.length) (ev_is (ev_len2 (ev_var rfl) (st_of (E3 _ _ hi))) (by rw [List.length_map])) fun H4 e4 => ?_
      have h4 := h3.mono e4
      have E4 := E3.trans e4
      refine q_lgPresent T (t := commitTab L.T.pres (l.adr L.T.head L.T.place + 1) ids used) h4 ?_ (fun _ _ => ev_var rfl) fun H5 p ev5 h5 => ?_
      · refine el_call2 (ea_cons (lv_present T h4 (ev_var rfl)) (ea_cons (ev_var rfl) (ea_cons (ev_var rfl) (ea_cons (ev_var rfl) ea_nil)))) fun H6 e6 Q E q => ?_
        have E6 := E4.trans e6
        exact ⟨A.pr, i, u, L.T.pres, ids, used, _, rfl, (h4.mono e6).pr.1, by rw [wf.lp]; omega, st_of (E6 _ _ hi), st_of (E6 _ _ hu), q⟩
      · refine s_lgSlots T (os := slotsAfter L.T.slots (commitTab L.T.pres (l.adr L.T.head L.T.place + 1) ids used) act) h5 ?_ (fun _ _ => ev_var rfl) fun H6 q ev6 h6 => ?_
        · refine evp_call (ea_cons (lv_slots T h5 (ev_var rfl)) (ea_cons (lv_present T h5 (ev_var rfl)) (ea_cons (ev_var rfl) ea_nil))) fun H6 e6 Q E qq => ?_
          obtain ⟨vs, s1, s2, s3⟩ := (h5.mono e6).sl
          exact ⟨_, _, vs, _, _, act, rfl, sq_of s1, s2.mono fun _ _ z => z.any, wf.ls, (h5.mono e6).pr.1, fun v H7 e7 r => qq v H7 e7 (r.dn e6)⟩
        · refine s_lgPlace T (n := L.T.place + 1 + ids.length) h6 (ev_op (ev_op (lv_place T h6 (ev_var rfl)) ev_c rv_I0) (ev_var rfl) rv_I0) (fun _ _ => ev_var rfl) fun H7 ev7 h7 => ?_
          exact k H7 A.wt p q A.qu (((Evo.ex E4).trans ev5).trans (ev6.trans ev7)) h7
    · refine q_if2 (b := false) (et_is (et_cmp (ev_var rfl) ev_c (rv_eq rfl)) rfl) (fun z => by cases z) (fun _ H2 e2 => ?_)
      have h2 := h1.mono e2
      have E2 := e1.trans e2
      refine q_asg (v := nV adrs.length) (ev_is (ev_len2 (ev_var rfl) (st_of (E2 _ _ hb))) (by rw [List.length_map])) fun H4 e4 => ?_
      have h4 := h2.mono e4
      have E4 := E2.trans e4
      refine q_lgPresent T (t := moveTab (l.adr L.T.head L.T.place + 1) adrs L.T.pres) h4 ?_ (fun _ _ => ev_var rfl) fun H5 p ev5 h5 => ?_
      · refine el_call2 (ea_cons (lv_present T h4 (ev_var rfl)) (ea_cons (ev_var rfl) (ea_cons (ev_var rfl) ea_nil))) fun H6 e6 Q E q => ?_
        exact ⟨A.pr, bd, L.T.pres, adrs, _, rfl, sq_of (h4.mono e6).pr.1, by rw [wf.lp]; omega, st_of (e6 _ _ (E4 _ _ hb)), hla, q⟩
      · have hb5 : H5 bd = some (.tup (nL adrs)) := ev5.tx _ _ (E4 _ _ hb)
        refine s_lgSlots T (os := L.T.slots.map (Option.map (moveTab (l.adr L.T.head L.T.place + 1) adrs))) h5 ?_ (fun _ _ => ev_var rfl) fun H6 q ev6 h6 => ?_
        · obtain ⟨vs, s1, s2, s3⟩ := h5.sl
          refine ep_lcSl (f := moveTab (l.adr L.T.head L.T.place + 1) adrs) (S := fun v o => SlotAt H5 [] v o ∧ (∀ t, o = some t → t.length = l.last + 1)) (lv_slots T h5 (ev_var rfl)) (sq_of s1) (os := L.T.slots) ⟨s2.1, fun i v o hv ho => ⟨(s2.2 i v o hv ho).any, fun t ht => wf.lt t (by rw [← ht]; exact List.mem_of_getElem? ho)⟩⟩ (by rw [wf.ls]; decide) (fun _ => rfl) fun x o H6 e6 hs => ?_
          obtain ⟨hs, hlen⟩ := hs
          cases o with
          | none =>
            obtain rfl : x = .non := hs
            exact EvP.mono (Ev.p (P := fun v _ => v = .non) (ev_if (b := true) (et_is (et_isN (ev_var rfl)) rfl) (fun _ => ev_c) (fun z => by cases z)) fun _ _ => rfl) fun v _ q => q
          | some t' =>
            obtain ⟨a, rfl, ha, _⟩ := hs
            refine fun H7 e7 Q q => et_isN (ev_var rfl) H7 e7 _ fun H8 e8 => ?_
            refine iteF ?_
            refine (EvL.p (P := fun v H4 => SlotF H6 H4 v (some (moveTab (l.adr L.T.head L.T.place + 1) adrs t'))) (el_call2 (xs := nL (moveTab (l.adr L.T.head L.T.place + 1) adrs t')) (ea_cons (ev_var rfl) (ea_cons (ev_var rfl) (ea_cons (ev_var rfl) ea_nil))) fun H9 e9 Q E q => ?_) fun a' H4 ha' e4 h4 => ⟨a', rfl, ha', h4⟩) H8 (e7.trans e8) _ fun v H4 e4 p => q v H4 (e8.trans e4) p
            exact ⟨a, bd, t', adrs, _, rfl, sq_of (e9 _ _ (e6 _ _ ha)), by rw [hlen t' rfl]; omega, st_of (e9 _ _ (e6 _ _ hb5)), hla, q⟩
        · refine s_lgPlace T (n := L.T.place + 1 + adrs.length) h6 (ev_op (ev_op (lv_place T h6 (ev_var rfl)) ev_c rv_I0) (ev_var rfl) rv_I0) (fun _ _ => ev_var rfl) fun H7 ev7 h7 => ?_
          exact k H7 A.wt p q A.qu (((Evo.ex E4).trans ev5).trans (ev6.trans ev7)) h7
end
end Sg

set_option maxHeartbeats 4000000
namespace Sg
open PySem PySem.Spec PyProof.Rows L2 Evl
theorem payW_get (start seq : Nat) (ps : List PayD) : ∀ (r i : Nat) (p : PayD), ps[i]? = some p → (payW start seq r ps)[i]? = some (start + (r + i), .pay seq (r + i) p) := by
  induction ps with
  | nil => intro r i p h; simp at h
  | cons q ps ih =>
    intro r i p h
    cases i with
    | zero =>
      have : q = p := by simpa using h
      rw [this]
      rfl
    | succ i =>
      have := ih (r + 1) i p (by simpa using h)
      show (payW start seq (r + 1) ps)[i]? = _
      rw [this]
      congr 2
      · omega
      · congr 1
        omega
section
variable {P : Program} {w : World} {K : PySem.W.Frag} {mg : Str → Option Value} {base : Heap}
theorem ep2 {σ : L2.St} {H : Hp} {ta tb : TE} {x : V} {R : V → Hp → Prop} (ha : Ev ta σ H x) (hb : EvP tb σ H R) : EvAP (tCons ta (tCons tb tNil)) σ H fun us H2 => ∃ v, us = [x, v] ∧ R v H2 := fun H1 e Q q =>
  ha H1 e _ fun H2 e2 => hb H2 (e.trans e2) _ fun v H3 e3 r => q _ H3 (e2.trans e3) ⟨v, rfl, r⟩
theorem q_logWrite {σ : L2.St} {H : Hp} {ta : TE} {tA : TA} {E : XK} {A : Ad} {l : Lay} {L : Lg} {tz : L2.TS} {D : Ends} {ad : Nat} {bk : Blk} (h : LogAt K H A l L) (ho : Ev ta σ H (.ref A.dv)) (hA : EvAP tA σ H fun us H2 => ∃ v, us = [nV ad, v] ∧ BlkAt H2 v bk) (had : ad < l.db) (hz : L.wait.length < 90000)
    (k : ∀ H', Evo H A H' A → LogAt K H' A l { L with seen := L.seen.set ad (some bk), wait := L.wait ++ [(ad, bk)] } → tz D σ H') : tSeq (tDrop (tMeth (He.ga K "Device") "write" (sp_Device_write K) [] E ta tA)) tz D σ H := by
  obtain ⟨dx, hv⟩ := h.dev.dv
  refine q_methP ho hv (by rfl) hA fun us H1 e1 hu => ?_
  obtain ⟨v, rfl, hb⟩ := hu
  refine ⟨A, l, L.sure, L.seen, L.wait, ad, v, bk, rfl, (h.mono e1).dev, had, hb, hz, fun H2 hd kp => ?_⟩
  have r := (h.mono e1).setD (w' := A.wt) hd (.inl rfl) fun b o z n => kp b o z (fun y => n (by rw [y]; simp)) (fun y => n (by rw [y]; simp))
  exact k H2 ((Evo.ex e1).trans r.2) r.1
theorem s_logWrite {σ : L2.St} {H : Hp} {ta : TE} {tA : TA} {E : XK} {A : Ad} {l : Lay} {L : Lg} {D : Ends} {ad : Nat} {bk : Blk} (h : LogAt K H A l L) (ho : Ev ta σ H (.ref A.dv)) (hA : EvAP tA σ H fun us H2 => ∃ v, us = [nV ad, v] ∧ BlkAt H2 v bk) (had : ad < l.db) (hz : L.wait.length < 90000)
    (k : ∀ H', Evo H A H' A → LogAt K H' A l { L with seen := L.seen.set ad (some bk), wait := L.wait ++ [(ad, bk)] } → D.nx σ H') : tDrop (tMeth (He.ga K "Device") "write" (sp_Device_write K) [] E ta tA) D σ H := q_logWrite (tz := fun D => D.nx) h ho hA had hz k
/-! ### write_batch -/
/-- the block that a batch begins with -/
def sumB (kind seq : Nat) (v : V) (H : Hp) (bk : Blk) (l : Lay) (T T' : TS) : Prop :=
  (∃ ids used act, kind = 1 ∧ ComAt H v ids used act ∧ bk = .com seq ids used act ∧ T' = takeC l T ids used act) ∨ (∃ b adrs, kind = 2 ∧ v = .ref b ∧ H b = some (.tup (nL adrs)) ∧ adrs.length ≤ 1000 ∧ bk = .mov seq adrs ∧ T' = takeM l T adrs)
theorem sumB.mono {kind seq : Nat} {v : V} {H H' : Hp} {bk : Blk} {l : Lay} {T T' : TS} (h : sumB kind seq v H bk l T T') (e : Tx H H') : sumB kind seq v H' bk l T T' := by
  rcases h with ⟨i, u, a, q1, q2, q3⟩ | ⟨b, ad, q1, q2, q3, q4⟩
  · exact .inl ⟨i, u, a, q1, q2.mono e, q3⟩
  · exact .inr ⟨b, ad, q1, q2, e _ _ q3, q4⟩
def batW (l : Lay) (T : TS) (seq : Nat) (bk : Blk) (ps : List PayD) : List (Nat × Blk) := (l.adr T.head T.place, bk) :: payW (l.adr T.head T.place) seq 1 ps
def batL (l : Lay) (L : Lg) (bk : Blk) (ps : List PayD) (T' : TS) : Lg := { L with seen := applyW L.seen (batW l L.T (L.lseq + 1) bk ps), wait := L.wait ++ batW l L.T (L.lseq + 1) bk ps, T := T', lseq := L.lseq + 1 }
def sp_write_batch (K : PySem.W.Frag) : Sp := fun vs H Q _ => ∃ (A : Ad) (l : Lay) (L : Lg) (kind : Nat) (v : V) (T' : TS) (p : Addr) (us : List V) (ps : List PayD) (bk : Blk), vs = [.ref A.lg, nV kind, v, .ref p] ∧ LogAt K H A l L ∧ Wf l L.T ∧ sumB kind (L.lseq + 1) v H bk l L.T T' ∧
  H p = some (.lst us) ∧ p ∉ A.own ∧ Rl (PayAt H) us ps ∧ L.T.place + 1 + ps.length ≤ l.sb ∧ L.wait.length ≤ 80000 ∧ Gives K H A l (batL l L bk ps T') .non Q
abbrev nm_write_batch : List Str := ["log", "kind", "body", "payloads", "sequence", "start", "number", "payload"]
theorem sc_write_batch : FnScope nm_write_batch ["log", "kind", "body", "payloads"] (defScope s_write_batch) := ⟨rfl, rfl, rfl, by decide +kernel, rfl, by decide +kernel, by decide +kernel⟩
theorem ok_write_batch (T : Ctx K mg base) : Okd P w K mg base 3 (He.ga K "write_batch") ["log", "kind", "body", "payloads"] (sp_write_batch K) := by
  obtain ⟨fd, F⟩ := T.def_write_batch
  have b : Binds K fd ["log", "kind", "body", "payloads"] [] := FunD.bindsN F fun _ _ _ _ _ _ us hl => match us, hl with | [_, _, _, _], _ => rfl
  obtain ⟨fd_address_at, G_address_at, b_address_at, k_address_at⟩ := ok_address_at (P := P) (w := w) T
  obtain ⟨fd_next_sequence, G_next_sequence, b_next_sequence, k_next_sequence⟩ := ok_next_sequence (P := P) (w := w) T
  obtain ⟨fd_stamped, G_stamped, b_stamped, k_stamped⟩ := ok_stamped (P := P) (w := w) T
  obtain ⟨fd_take_batch, G_take_batch, b_take_batch, k_take_batch⟩ := ok_take_batch (P := P) (w := w) T
  obtain ⟨fd_write, G_Device_write, b_Device_write, k_Device_write⟩ := ok_Device_write (P := P) (w := w) T
  refine ⟨fd, FunD.ok F sc_write_batch (fun vs H Q E h => ?_) (fun cdv A outer s H vs Q E hr h => ?_), b, F.kp⟩
  · obtain ⟨A, l, L, kind, v, T', p, us, ps, bk, rfl, _⟩ := h
    rfl
  · obtain ⟨A, l, L, kind, v, T', p, us, ps, bk, rfl, h, wf, hB, hp, hpo, hpay, hfit, hwz, k⟩ := h
    refine ⟨_, PSs.nox (pss_cons (ps_set (i := 4) sc_write_batch.nd rfl (Or.inl rfl) (pe_call G_next_sequence (hr.mono (by decide)) rfl T.glo_next_sequence k_next_sequence b_next_sequence .nil pass0 (pa_cons (pv 0) pa_nil)))
      (pss_cons (ps_set (i := 5) sc_write_batch.nd rfl (Or.inl rfl) (pe_call G_address_at (hr.mono (by decide)) rfl T.glo_address_at k_address_at b_address_at .nil pass0 (pa_cons (pe_fld (pv 0) rfl) (pa_cons (pe_fld (pv 0) rfl) (pa_cons (pe_fld (pv 0) rfl) pa_nil)))))
      (pss_cons (ps_expr (pe_meth (pe_fld (pv 0) rfl) T.cls_Device T.m_Device_write G_Device_write (hr.mono (by decide)) b_Device_write .nil pass0 (pa_cons (pv 5) (pa_cons (pe_tup (pa_cons (pv 1) (pa_cons (pv 4) (pa_cons pe_int (pa_cons (pv 2) pa_nil))))) pa_nil))))
      (pss_cons (ps_for PassesOwn.never rfl (pi_enum rfl T.free_enumerate (pa_cons (pv 3) pa_nil)) (pg_tup rfl (pgs_cons (pg_name (i := 6) sc_write_batch.nd rfl (Or.inl rfl)) (pgs_cons (pg_name (i := 7) sc_write_batch.nd rfl (Or.inl rfl)) pgs_nil))) (pss_one (ps_expr (pe_meth (pe_fld (pv 0) rfl) T.cls_Device T.m_Device_write G_Device_write (hr.mono (by decide)) b_Device_write .nil pass0 (pa_cons (pe_op op_add (pe_op op_add (pv 5) pe_int) (pv 6)) (pa_cons (pe_call G_stamped (hr.mono (by decide)) rfl T.glo_stamped k_stamped b_stamped .nil pass0 (pa_cons (pv 7) (pa_cons (pv 4) (pa_cons (pe_op op_add (pv 6) pe_int) pa_nil)))) pa_nil))))))
      (pss_one (ps_expr (pe_call G_take_batch (hr.mono (by decide)) rfl T.glo_take_batch k_take_batch b_take_batch .nil pass0 (pa_cons (pv 0) (pa_cons (pv 1) (pa_cons (pv 2) pa_nil)))))))))), ?_⟩
    have lo := h.dev.la.1
    have hs2 := lo.s2
    have hhd := wf.hs
    have had : ∀ i, i ≤ ps.length → l.adr L.T.head L.T.place + i < l.db := fun i hi => by
      have := Lay.adr_lt lo (s := L.T.head) (p := L.T.place + i) hhd (by omega)
      unfold Lay.adr at this ⊢
      omega
    refine q_asgC (ea_cons (ev_var rfl) ea_nil) fun H1 e1 => ⟨A, l, L, rfl, h.mono e1, fun H2 ev2 h2 => ?_⟩
    have v2 := (Evo.ex e1).trans ev2
    refine q_asg (v := nV (l.adr L.T.head L.T.place)) (ev_adr h2.dev.la (by show L.T.head ≤ 100; omega) (ea_cons (lv_layout T h2 (ev_var rfl)) (ea_cons (ev_is (lv_head T h2 (ev_var rfl)) rfl) (ea_cons (ev_is (lv_place T h2 (ev_var rfl)) rfl) ea_nil)))) fun H3 e3 => ?_
    have h3 := h2.mono e3
    have v3 := v2.trans (Evo.ex e3)
    have hB3 := hB.mono v3.tx
    refine q_logWrite (ad := l.adr L.T.head L.T.place) (bk := bk) h3 (lv_device T h3 (ev_var rfl)) (ep2 (ev_var rfl) (EvU.p (P := fun v H2 => BlkAt H2 v bk) (eu_tup (ea_cons (ev_var rfl) (ea_cons (ev_var rfl) (ea_cons ev_c (ea_cons (ev_var rfl) ea_nil)))) (Nat.le_of_ble_eq_true rfl)) fun t H4 ht e4 h4 => ?_)) (had 0 (Nat.zero_le _)) (by show L.wait.length < 90000; omega) fun H4 ev4 h4 => ?_
    · rcases hB3.mono (Ex.tx e4) with ⟨i, u, a, rfl, q2, rfl, _⟩ | ⟨bb, ad, rfl, rfl, q3, _, rfl, _⟩
      · exact ⟨t, v, rfl, h4, q2⟩
      · exact ⟨t, bb, rfl, h4, q3⟩
    · have v4 := v3.trans ev4
      have key : ∀ (j : Nat) (pp : PayD), ps[j]? = some pp → (batW l L.T (L.lseq + 1) bk ps).take (j + 1 + 1) = (batW l L.T (L.lseq + 1) bk ps).take (j + 1) ++ [(l.adr L.T.head L.T.place + 1 + j, .pay (L.lseq + 1) (j + 1) pp)] := fun j pp hj => by
        refine take_snoc ?_
        show (payW _ _ 1 ps)[j]? = _
        rw [payW_get _ _ _ 1 j pp hj]
        congr 2
        · omega
        · congr 1
          omega
      refine q_forEL (a := p) (xs := us) (ea_cons (ev_var rfl) ea_nil) (sq_of (v4.kp _ _ hp hpo)) (fun j σ' H' => ∃ x y, σ' = [some (.ref A.lg), some (nV kind), some v, some (.ref p), some (nV (L.lseq + 1)), some (nV (l.adr L.T.head L.T.place)), x, y] ∧ Evo H A H' A ∧
          LogAt K H' A l { L with lseq := L.lseq + 1, seen := applyW L.seen ((batW l L.T (L.lseq + 1) bk ps).take (j + 1)), wait := L.wait ++ (batW l L.T (L.lseq + 1) bk ps).take (j + 1) })
        (fun H5 e5 => ⟨none, none, rfl, v4.trans (Evo.ex e5), h4.mono e5⟩) (fun j σ' H' _ ⟨_, _, _, ev, _⟩ => sq_of (ev.kp _ _ hp hpo)) ?_ ?_
      · rintro j x σ' H' r hj ⟨x1, y1, rfl, ev, hL⟩ hr0
        obtain ⟨pp, hpp, hpa⟩ := hpay.get' hj
        refine g_pair upd_same ?_
        have hL2 := hL.mono (Ex.new (o := .tup [.int (j : Int), x]) hr0)
        have ev2 := ev.trans (Evo.ex (Ex.new (o := .tup [.int (j : Int), x]) hr0))
        have hj' : j < ps.length := (List.getElem?_eq_some_iff.mp hpp).1
        refine s_logWrite (ad := l.adr L.T.head L.T.place + 1 + j) (bk := .pay (L.lseq + 1) (j + 1) pp) hL2 (lv_device T hL2 (ev_var rfl)) (ep2 (ev_op (ev_op (ev_var rfl) ev_c rv_I0) (ev_var rfl) rv_I0) (evp_call (ea_cons (ev_var rfl) (ea_cons (ev_var rfl) (ea_cons (ev_op (ev_var rfl) ev_c rv_I0) ea_nil))) fun H5 e5 Q E q => ⟨x, pp, L.lseq + 1, j + 1, rfl, hpa.mono (ev2.tx.trans (Ex.tx e5)), q⟩)) (by have := had (1 + j) (by omega); omega) ?_ fun H5 ev5 h5 => ?_
        · show (L.wait ++ _).length < 90000
          rw [List.length_append, List.length_take]
          have : (batW l L.T (L.lseq + 1) bk ps).length = ps.length + 1 := by show (payW _ _ _ _).length + 1 = _; rw [payW_len]
          have := lo.b2
          omega
        · refine ⟨_, _, rfl, ev2.trans ev5, ?_⟩
          rw [key j pp hpp, applyW_snoc, ← List.append_assoc]
          exact h5
      · rintro σ' H' ⟨x1, y1, rfl, ev, hL⟩
        have hfull : (batW l L.T (L.lseq + 1) bk ps).take (us.length + 1) = batW l L.T (L.lseq + 1) bk ps := List.take_of_length_le (by show (payW _ _ _ _).length + 1 ≤ _; rw [payW_len, hpay.1]; exact Nat.le_refl _)
        rw [hfull] at hL
        refine s_call (ea_cons (ev_var rfl) (ea_cons (ev_var rfl) (ea_cons (ev_var rfl) ea_nil))) fun H5 e5 => ⟨A, l, _, kind, v, T', rfl, hL.mono e5, wf, ?_, fun H6 w1 p1 s1 q1 ev6 h6 => k H6 w1 p1 s1 q1 ((ev.trans (Evo.ex e5)).trans ev6) h6⟩
        rcases hB.mono (ev.tx.trans (Ex.tx e5)) with ⟨i, u, a, q1, q2, _, q3⟩ | ⟨bb, ad, q1, q2, q3, q4, _, q5⟩
        · exact .inl ⟨i, u, a, q1, q2, q3⟩
        · exact .inr ⟨bb, ad, q1, q2, q3, q4, q5⟩
end
end Sg

set_option maxHeartbeats 4000000
namespace Sg
open PySem PySem.Spec PyProof.Rows L2 Evl
section
variable {P : Program} {w : World} {K : PySem.W.Frag} {mg : Str → Option Value} {base : Heap}
def rTupS (K : PySem.W.Frag) : List V → Hp → VK → Prop := fun xs H Q => ∃ p ys, xs = [.ref p] ∧ ((SqL K H p ys ∧ ∀ l, H l = none → Q (.ref l) (upd H l (.tup ys))) ∨ (SqT K H p ys ∧ Q (.ref p) H))
theorem eu_tuple {σ : L2.St} {H : Hp} {ta : TE} {p : Addr} {xs : List V} (ha : Ev ta σ H (.ref p)) (h : SqL K H p xs) : EvU (tCB (rTupS K) (tCons ta tNil)) σ H xs := fun H1 e Q q =>
  ha H1 e _ fun H2 e2 => ⟨p, xs, rfl, Or.inl ⟨ex_l (e.trans e2) h, fun l hl => q l _ (fresh_back e2 hl) (e2.trans (Ex.new hl)) upd_same⟩⟩
theorem eu_tupleN {σ : L2.St} {H : Hp} {ta : TE} {xs : List V} (ha : EvL ta σ H xs) : EvU (tCB (rTupS K) (tCons ta tNil)) σ H xs := fun H1 e Q q =>
  ha H1 e _ fun p H2 hp e2 h => ⟨p, xs, rfl, Or.inl ⟨sq_of h, fun l hl => q l _ (fresh_back e2 hl) (e2.trans (Ex.new hl)) upd_same⟩⟩
theorem ep4 {σ : L2.St} {H : Hp} {ta tb tc td : TE} {x y z : V} {R : V → Hp → Prop} (hm : ∀ v H H', Ex H H' → R v H → R v H') (ha : Ev ta σ H x) (hb : Ev tb σ H y) (hc : EvP tc σ H R) (hd : Ev td σ H z) :
    EvAP (tCons ta (tCons tb (tCons tc (tCons td tNil)))) σ H fun us H2 => ∃ v, us = [x, y, v, z] ∧ R v H2 := fun H1 e Q q =>
  ha H1 e _ fun H2 e2 => hb H2 (e.trans e2) _ fun H3 e3 => hc H3 ((e.trans e2).trans e3) _ fun v H4 e4 r => hd H4 (((e.trans e2).trans e3).trans e4) _ fun H5 e5 => q _ H5 (((e2.trans e3).trans e4).trans e5) ⟨v, rfl, hm _ _ _ e5 r⟩
theorem evp_com {σ : L2.St} {H : Hp} {t1 t2 t3 : TE} {ids used : List Nat} {act : Nat} (h1 : EvU t1 σ H (nL ids)) (h2 : EvU t2 σ H (nL used)) (h3 : Ev t3 σ H (nV act)) : EvP (tTup (tCons t1 (tCons t2 (tCons t3 tNil)))) σ H fun v H2 => ComAt H2 v ids used act := fun H1 e Q q =>
  h1 H1 e _ fun p H2 hp e2 q1 => h2 H2 (e.trans e2) _ fun r H3 hr e3 q2 => h3 H3 ((e.trans e2).trans e3) _ fun H4 e4 => ⟨(by show 3 ≤ sizeLine; exact sz_of (Nat.le_of_ble_eq_true rfl)), fun t ht =>
    q _ _ (((e2.trans e3).trans e4).trans (Ex.new ht)) ⟨t, p, r, rfl, upd_same, Ex.new ht _ _ (e4 _ _ (e3 _ _ q1)), Ex.new ht _ _ (e4 _ _ q2)⟩⟩
/-! ### append_commit -/
def sp_append_commit (K : PySem.W.Frag) : Sp := fun vs H Q _ => ∃ (A : Ad) (l : Lay) (L : Lg) (i p u : Addr) (us : List V) (b : Bat), vs = [.ref A.lg, .ref i, .ref p, .ref u, nV b.act] ∧ LogAt K H A l L ∧ Wf l L.T ∧ (∀ s ∈ L.T.queue, s < l.seg) ∧
  H i = some (.lst (nL b.ids)) ∧ H u = some (.lst (nL b.used)) ∧ H p = some (.lst us) ∧ Rl (PayAt H) us b.pays ∧ b.pays.length = b.ids.length ∧ b.ids.length ≤ l.pay ∧ (Fit l L.T b.ids.length ∨ L.T.queue ≠ []) ∧
  i ∉ A.own ∧ u ∉ A.own ∧ p ∉ A.own ∧ L.wait.length ≤ 80000 ∧ Gives K H A l (comL l L b) (.bl true) Q
abbrev nm_append_commit : List Str := ["log", "ids", "payloads", "used", "action", "wanted"]
theorem sc_append_commit : FnScope nm_append_commit ["log", "ids", "payloads", "used", "action"] (defScope s_append_commit) := ⟨rfl, rfl, rfl, by decide +kernel, rfl, by decide +kernel, by decide +kernel⟩
/-- log.counts.f = log.counts.f + e -/
theorem cnt_at {H : Hp} {A : Ad} {l : Lay} {L : Lg} (h : LogAt K H A l L) : ∃ dx n1 n2 n3 n4 n5 n6 n7, H A.ct = some (.ins (He.ga K "Counts") dx (cntF n1 n2 n3 n4 n5 n6 n7)) := h.ct
theorem q_cnt (T : Ctx K mg base) {σ : L2.St} {H : Hp} {ta : TE} {tv : V → TE} {A : Ad} {l : Lay} {L : Lg} {tz : L2.TS} {D : Ends} {f : Str} {te : TE} (hn : NoAttr K (He.ga K "Counts") f) (h : LogAt K H A l L) (ha : ∀ H1, Ex H H1 → Ev ta σ H1 (.ref A.ct))
    (hf : ∀ n1 n2 n3 n4 n5 n6 n7 : Int, ∃ m : Int, (cntF n1 n2 n3 n4 n5 n6 n7).lookup f = some (.int m) ∧ ∀ k : Int, ∃ m1 m2 m3 m4 m5 m6 m7 : Int, putF f (.int k) (cntF n1 n2 n3 n4 n5 n6 n7) = cntF m1 m2 m3 m4 m5 m6 m7)
    (he : ∀ m : Int, Ev (tFld K ta f) σ H (.int m) → ∃ k : Int, Ev te σ H (.int k))
    (k : ∀ H', Evo H A H' A → LogAt K H' A l L → tz D σ H') : tSeq (sFld K ta te f) tz D σ H := by
  obtain ⟨dx, n1, n2, n3, n4, n5, n6, n7, hc⟩ := h.ct
  obtain ⟨m, hm, hk⟩ := hf n1 n2 n3 n4 n5 n6 n7
  obtain ⟨z, hz⟩ := he m (ev_fld (ha H (Ex.refl H)) hc T.cls_Counts hn hm)
  obtain ⟨m1, m2, m3, m4, m5, m6, m7, hp⟩ := hk z
  refine q_fld hz (ha H (Ex.refl H)) hc T.cls_Counts hn (Nat.le_of_ble_eq_true rfl) fun H1 e1 => ?_
  rw [hp]
  have r := h.setC e1 (e1 _ _ hc) m1 m2 m3 m4 m5 m6 m7
  exact k _ r.2 r.1
theorem s_cnt (T : Ctx K mg base) {σ : L2.St} {H : Hp} {ta : TE} {A : Ad} {l : Lay} {L : Lg} {D : Ends} {f : Str} {te : TE} (hn : NoAttr K (He.ga K "Counts") f) (h : LogAt K H A l L) (ha : ∀ H1, Ex H H1 → Ev ta σ H1 (.ref A.ct))
    (hf : ∀ n1 n2 n3 n4 n5 n6 n7 : Int, ∃ m : Int, (cntF n1 n2 n3 n4 n5 n6 n7).lookup f = some (.int m) ∧ ∀ k : Int, ∃ m1 m2 m3 m4 m5 m6 m7 : Int, putF f (.int k) (cntF n1 n2 n3 n4 n5 n6 n7) = cntF m1 m2 m3 m4 m5 m6 m7)
    (he : ∀ m : Int, Ev (tFld K ta f) σ H (.int m) → ∃ k : Int, Ev te σ H (.int k))
    (k : ∀ H', Evo H A H' A → LogAt K H' A l L → D.nx σ H') : sFld K ta te f D σ H := q_cnt (tz := fun D => D.nx) (tv := fun _ => tC .non) T hn h ha hf he k
theorem cf1 (n1 n2 n3 n4 n5 n6 n7 : Int) : ∃ m : Int, (cntF n1 n2 n3 n4 n5 n6 n7).lookup ("commits" : Str) = some (.int m) ∧ ∀ k : Int, ∃ m1 m2 m3 m4 m5 m6 m7 : Int, putF "commits" (.int k) (cntF n1 n2 n3 n4 n5 n6 n7) = cntF m1 m2 m3 m4 m5 m6 m7 := ⟨n1, by rfl, fun k => ⟨k, n2, n3, n4, n5, n6, n7, by rfl⟩⟩
theorem cf2 (n1 n2 n3 n4 n5 n6 n7 : Int) : ∃ m : Int, (cntF n1 n2 n3 n4 n5 n6 n7).lookup ("commit_blocks" : Str) = some (.int m) ∧ ∀ k : Int, ∃ m1 m2 m3 m4 m5 m6 m7 : Int, putF "commit_blocks" (.int k) (cntF n1 n2 n3 n4 n5 n6 n7) = cntF m1 m2 m3 m4 m5 m6 m7 := ⟨n2, by rfl, fun k => ⟨n1, k, n3, n4, n5, n6, n7, by rfl⟩⟩
theorem cf3 (n1 n2 n3 n4 n5 n6 n7 : Int) : ∃ m : Int, (cntF n1 n2 n3 n4 n5 n6 n7).lookup ("moves" : Str) = some (.int m) ∧ ∀ k : Int, ∃ m1 m2 m3 m4 m5 m6 m7 : Int, putF "moves" (.int k) (cntF n1 n2 n3 n4 n5 n6 n7) = cntF m1 m2 m3 m4 m5 m6 m7 := ⟨n3, by rfl, fun k => ⟨n1, n2, k, n4, n5, n6, n7, by rfl⟩⟩
theorem cf4 (n1 n2 n3 n4 n5 n6 n7 : Int) : ∃ m : Int, (cntF n1 n2 n3 n4 n5 n6 n7).lookup ("move_blocks" : Str) = some (.int m) ∧ ∀ k : Int, ∃ m1 m2 m3 m4 m5 m6 m7 : Int, putF "move_blocks" (.int k) (cntF n1 n2 n3 n4 n5 n6 n7) = cntF m1 m2 m3 m4 m5 m6 m7 := ⟨n4, by rfl, fun k => ⟨n1, n2, n3, k, n5, n6, n7, by rfl⟩⟩
theorem cf5 (n1 n2 n3 n4 n5 n6 n7 : Int) : ∃ m : Int, (cntF n1 n2 n3 n4 n5 n6 n7).lookup ("checkpoints" : Str) = some (.int m) ∧ ∀ k : Int, ∃ m1 m2 m3 m4 m5 m6 m7 : Int, putF "checkpoints" (.int k) (cntF n1 n2 n3 n4 n5 n6 n7) = cntF m1 m2 m3 m4 m5 m6 m7 := ⟨n5, by rfl, fun k => ⟨n1, n2, n3, n4, k, n6, n7, by rfl⟩⟩
theorem cf6 (n1 n2 n3 n4 n5 n6 n7 : Int) : ∃ m : Int, (cntF n1 n2 n3 n4 n5 n6 n7).lookup ("checkpoint_blocks" : Str) = some (.int m) ∧ ∀ k : Int, ∃ m1 m2 m3 m4 m5 m6 m7 : Int, putF "checkpoint_blocks" (.int k) (cntF n1 n2 n3 n4 n5 n6 n7) = cntF m1 m2 m3 m4 m5 m6 m7 := ⟨n6, by rfl, fun k => ⟨n1, n2, n3, n4, n5, k, n7, by rfl⟩⟩
theorem cf7 (n1 n2 n3 n4 n5 n6 n7 : Int) : ∃ m : Int, (cntF n1 n2 n3 n4 n5 n6 n7).lookup ("barriers" : Str) = some (.int m) ∧ ∀ k : Int, ∃ m1 m2 m3 m4 m5 m6 m7 : Int, putF "barriers" (.int k) (cntF n1 n2 n3 n4 n5 n6 n7) = cntF m1 m2 m3 m4 m5 m6 m7 := ⟨n7, by rfl, fun k => ⟨n1, n2, n3, n4, n5, n6, k, by rfl⟩⟩
theorem ok_append_commit (T : Ctx K mg base) : Okd P w K mg base 4 (He.ga K "append_commit") ["log", "ids", "payloads", "used", "action"] (sp_append_commit K) := by
  obtain ⟨fd, F⟩ := T.def_append_commit
  have b : Binds K fd ["log", "ids", "payloads", "used", "action"] [] := FunD.bindsN F fun _ _ _ _ _ _ us hl => match us, hl with | [_, _, _, _, _], _ => rfl
  obtain ⟨fd_enter_segment, G_enter_segment, b_enter_segment, k_enter_segment⟩ := ok_enter_segment (P := P) (w := w) T
  obtain ⟨fd_write_batch, G_write_batch, b_write_batch, k_write_batch⟩ := ok_write_batch (P := P) (w := w) T
  obtain ⟨tCOMMIT, hCOMMIT⟩ := T.int_COMMIT
  refine ⟨fd, FunD.ok F sc_append_commit (fun vs H Q E h => ?_) (fun cdv A outer s H vs Q E hr h => ?_), b, F.kp⟩
  · obtain ⟨A, l, L, i, p, u, us, b, rfl, _⟩ := h
    rfl
  · obtain ⟨A, l, L, i, p, u, us, b, rfl, h, wf, hqs, hi, hu0, hp, hpay, hpl, hil, hcan, ni, nu, np, hwz, k⟩ := h
    refine ⟨_, PSs.nox (pss_cons (ps_set (i := 5) sc_append_commit.nd rfl (Or.inl rfl) (pe_op op_add pe_int (pe_callB call_len_seq (by rfl) T.free_len PySem.boot_len (pa_cons (pv 1) pa_nil))))
      (pss_cut (ps_if (pt_cmpR op_gt (pe_op op_add (pe_fld (pv 0) rfl) (pv 5)) (pe_fld (pe_fld (pv 0) rfl) rfl) (nomark _)) (pss_cons (ps_if (PW.pt (pw_or (pt_cmpR op_eq (pe_callB call_len_seq (by rfl) T.free_len PySem.boot_len (pa_cons (pe_fld (pv 0) rfl) pa_nil)) pe_int (nomark _)) (pw_or1 (pt_cmpR op_gt (pv 5) (pe_fld (pe_fld (pv 0) rfl) rfl) (nomark _))))) (pss_one (ps_ret pe_bl)) pss_nil)
      (pss_one (ps_expr (pe_call G_enter_segment (hr.mono (by decide)) rfl T.glo_enter_segment k_enter_segment b_enter_segment .nil pass0 (pa_cons (pv 0) pa_nil))))) pss_nil)
      (pss_cons (ps_expr (pe_call G_write_batch (hr.mono (by decide)) rfl T.glo_write_batch k_write_batch b_write_batch .nil pass0 (pa_cons (pv 0) (pa_cons (pe_glob (v := .int 1) rfl hCOMMIT ⟨_, rfl⟩) (pa_cons (pe_tup (pa_cons (pe_callTy call_tuple_of (by rfl) T.free_tuple (by decide +kernel) (pa_cons (pv 1) pa_nil)) (pa_cons (pe_callTy call_tuple_of (by rfl) T.free_tuple (by decide +kernel) (pa_cons (pv 3) pa_nil)) (pa_cons (pv 4) pa_nil)))) (pa_cons (pv 2) pa_nil))))))
      (pss_cons (ps_fld (pe_fld (pv 0) rfl) (pe_op op_add (pe_fld (pe_fld (pv 0) rfl) rfl) pe_int) rfl)
      (pss_cons (ps_fld (pe_fld (pv 0) rfl) (pe_op op_add (pe_fld (pe_fld (pv 0) rfl) rfl) (pv 5)) rfl)
      (pss_one (ps_ret pe_bl))))))), ?_⟩
    have lo := h.dev.la.1
    have hpy := lo.pay1
    refine q_asg (v := nV (1 + b.ids.length)) (ev_is (ev_op ev_c (ev_len (ev_var rfl) (sq_of hi)) rv_I0) (nv_eq (by rw [List.length_map]; omega))) fun H1 e1 => ?_
    have h1 := h.mono e1
    refine q_cut (M := fun σ' H' => ∃ w1 p1 s1 q1, σ' = [some (.ref A.lg), some (.ref i), some (.ref p), some (.ref u), some (nV b.act), some (nV (1 + b.ids.length))] ∧ Evo H A H' (A.at_ w1 p1 s1 q1) ∧ LogAt K H' (A.at_ w1 p1 s1 q1) l { L with T := spot l L.T b.ids.length }) ?_ ?_
    · refine s_when (b := !decide (Fit l L.T b.ids.length)) (et_is (et_cmp (ev_op (lv_place T h1 (ev_var rfl)) (ev_var rfl) rv_I0) (yv_segment_blocks T h1.dev.la (lv_layout T h1 (ev_var rfl))) rv_I0) ?_) (fun hb H2 e2 => ?_) (fun hb H2 e2 => ?_)
      · rw [Bool.eq_iff_iff]
        simp only [decide_eq_true_eq, Bool.not_eq_true', decide_eq_false_iff_not]
        unfold Fit
        omega
      · have hb : ¬ Fit l L.T b.ids.length := by simpa using hb
        have hq : L.T.queue ≠ [] := hcan.resolve_left hb
        have h2 := h1.mono e2
        refine q_when (b := false) (et_is (et_or (et_cmp (ev_len (lv_queue T h2 (ev_var rfl)) (sq_of h2.qu.1)) ev_c (rv_eq rfl)) fun _ => et_cmp (ev_var rfl) (yv_segment_blocks T h2.dev.la (lv_layout T h2 (ev_var rfl))) rv_I0) ?_) (fun z => by cases z) (fun _ H3 e3 => ?_)
        · rw [Bool.or_eq_false_iff]
          constructor
          · refine decide_eq_false fun z => hq ?_
            injection z with z
            rw [List.length_map] at z
            exact List.length_eq_zero_iff.mp (by omega)
          · exact decide_eq_false (by omega)
        · refine s_call (ea_cons (ev_var rfl) ea_nil) fun H4 e4 => ⟨A, l, L, rfl, (h2.mono e3).mono e4, hq, fun H5 w1 p1 s1 q1 ev5 h5 => ⟨w1, p1, s1, q1, rfl, (Evo.ex (((e1.trans e2).trans e3).trans e4)).trans ev5, ?_⟩⟩
          unfold spot
          rw [if_neg hb]
          exact h5
      · have hb : Fit l L.T b.ids.length := by simpa using hb
        refine ⟨A.wt, A.pr, A.sl, A.qu, rfl, Evo.ex (e1.trans e2), ?_⟩
        unfold spot
        rw [if_pos hb]
        exact (h1.mono e2).at0
    · rintro σ' H' ⟨w1, p1, s1, q1, rfl, ev, h2⟩
      have wf2 : Wf l (spot l L.T b.ids.length) := by
        unfold spot
        split
        · exact wf
        · rename_i hn
          obtain ⟨qh, qt, hqq⟩ := List.exists_cons_of_ne_nil (hcan.resolve_left hn)
          exact ⟨wf.lp, wf.ls, wf.lt, by unfold enter; rw [hqq]; exact hqs qh (by rw [hqq]; simp)⟩
      have hf2 : (spot l L.T b.ids.length).place + 1 + b.pays.length ≤ l.sb := by
        rw [hpl]
        unfold spot
        split
        · rename_i hn
          exact hn
        · show 0 + 1 + _ ≤ _
          omega
      have gi := ev.kp _ _ hi ni
      have gu := ev.kp _ _ hu0 nu
      have gp := ev.kp _ _ hp np
      refine q_callP (ep4 (R := fun v H2 => ComAt H2 v b.ids b.used b.act) (fun v _ _ e r => r.mono (Ex.tx e)) (ev_var rfl) ev_c (evp_com (eu_tuple (ev_var rfl) (sq_of gi)) (eu_tuple (ev_var rfl) (sq_of gu)) (ev_var rfl)) (ev_var rfl)) fun us' H3 e3 hv => ?_
      obtain ⟨v, rfl, hv⟩ := hv
      refine ⟨A.at_ w1 p1 s1 q1, l, _, 1, v, _, p, us, b.pays, .com (L.lseq + 1) b.ids b.used b.act, rfl, h2.mono e3, wf2, .inl ⟨b.ids, b.used, b.act, rfl, hv, rfl, rfl⟩, e3 _ _ gp, ev.ni _ _ hp np, hpay.mono fun _ _ z => z.mono (ev.tx.trans (Ex.tx e3)), hf2, hwz, fun H4 w2 p2 s2 q2 ev4 h4 => ?_⟩
      have ev5 := (ev.trans (Evo.ex e3)).trans ev4
      refine q_cnt (tv := fun _ => tC .non) T T.na_Counts_commits h4 (fun H5 e5 => lv_counts T (h4.mono e5) (ev_var rfl)) cf1 (fun m hm => ⟨_, ev_op hm ev_c rv_I0⟩) fun H6 ev6 h6 => ?_
      refine q_cnt (tv := fun _ => tC .non) T T.na_Counts_commit_blocks h6 (fun H5 e5 => lv_counts T (h6.mono e5) (ev_var rfl)) cf2 (fun m hm => ⟨_, ev_op hm (ev_var rfl) rv_I0⟩) fun H7 ev7 h7 => ?_
      exact s_ret ev_c fun H8 e8 => k H8 w2 p2 s2 q2 (((ev5.trans ev6).trans ev7).trans (Evo.ex e8)) (h7.mono e8)
end
end Sg

set_option maxHeartbeats 4000000
/-! rules of our own: sorted of a dict of ints, of any size -/
namespace Sg
open PySem PySem.Spec PyProof.Rows L2
variable {X : Cx}
/-- sorted(d) of a dict whose keys are ints -/
theorem call_sortedDN (hcalm : X.calm = true) : CallR X (.builtin "sorted") (fun xs H Q => ∃ (a : Addr) (kvs : List (Key × V)) (ks : List Int), xs = [.ref a] ∧ Rd H a (.dK kvs) ∧ kvs.map (·.1) = ks.map Sum.inl ∧ ks.length ≤ sizeLine ∧
    ∀ (ys : List Int) (p : Addr), ys.Perm ks → ys.Pairwise (· ≤ ·) → H p = none → Q (.ref p) (upd H p (.lst (ys.map V.int)))) := by
  intro pins s σ H xs us Q I r q
  obtain ⟨a, kvs, ks, ex, hd, hks, h64, q⟩ := q
  subst ex
  obtain ⟨u, eu, rx⟩ := vals1 r
  subst eu
  cases rx
  obtain ⟨z, lo, vs, rel, dd⟩ := dk_rd I.hok hd
  obtain ⟨ep, hat⟩ := dd.dictAt
  have hkeys : vs.map (·.1) = ks.map Sum.inl := rel.keys.symm.trans hks
  have hl : vs.length = ks.length := by
    have e := congrArg List.length hkeys
    rw [List.length_map, List.length_map] at e
    exact e
  have h16 : vs.length ≤ sizeLine := by rw [hl]; exact h64
  refine Calls.call_function_entry PyProof.Rows.kind_sorted PyProof.Rows.plain_sorted PyProof.Rows.entry_sorted (PyProof.Rows.args_sorted1 _) ?_
  unfold Builtin.«sorted»
  refine wpAny_bind (m := checkCount "sorted" 1 1 _) (wpAny_pure ?_)
  refine wpAny_bind (PySem.W.kdu_collect (A := X.A.in1) (PySem.W.kdl_dict (knd := mixKind X.prog X.w) (kvs := vs) (ep := ep) lo) (I.ok.hd hcalm) hat h16 fun h' tk acc hk hacc => ?_)
  have hal : acc.toList.length = ks.length := by rw [Array.length_toList, hacc.1, hl]
  have hS : IntsAre acc.toList ks := ints_each hal fun j v e => by
    obtain ⟨k, x, e1, e2⟩ := hacc.2 j v (by rw [← Array.getElem?_toList]; exact e)
    have e3 : (vs.map (·.1))[j]? = some k := by rw [List.getElem?_map, e1]; rfl
    rw [hkeys, List.getElem?_map] at e3
    cases e4 : ks[j]? with
    | none => rw [e4] at e3; cases e3
    | some y =>
      rw [e4] at e3
      have e5 : Sum.inl y = k := Option.some.inj e3
      subst e5
      rcases keyIs_shape (show keyIs (Sum.inl y) v = true from e2) with ⟨i, t, ek, ev⟩ | ⟨z, t, ek, ev⟩
      · cases ek
        exact ⟨y, t, rfl, ev⟩
      · cases ek
  have I1 : Inv X pins σ H { s with heap := h', toks := tk } := I.kept hk
  refine wpAny_bind (wpAny_newList ?_ (by rw [hal]; exact h64))
  have hoL : (h'.push (seqObj "list" acc.toList.toArray 0)).get? h'.objs.size = some (seqObj "list" acc.toList.toArray 0) := Heap.get?_push_size _ rfl
  show wpAny _ _ _ _ _ { s with heap := h'.push (seqObj "list" acc.toList.toArray 0), toks := tk }
  refine wpAny_bind (wpAny_holding (wpAny_call_entry PyProof.Rows.slot_list_sort ⟨_, hoL, rfl⟩ PyProof.Rows.entry_list_sort
    (PyProof.Rows.list_sort_treeAny (s := { s with heap := h'.push (seqObj "list" acc.toList.toArray 0), toks := tk }) hoL hS (by rw [hal]; exact h64) fun out ys g1 g2 g3 => ⟨_, rfl, ?_⟩) (PyProof.Rows.args_list_sort _)))
  obtain ⟨e', he'⟩ := PyProof.Rows.sortedHeap_at (vs := acc.toList) (out := out) hoL
  have hlen : (ys.map V.int).length ≤ sizeLine := by
    rw [List.length_map, g2.length_eq]
    exact h64
  refine wpAny_pure ⟨_, rfl, .ref h'.objs.size, upd H h'.objs.size (.lst (ys.map V.int)), I1.laid (t' := tk) (fun b u e => ?_) (Nat.le_refl _)
    (show ObjOk X.prog X.w _ _ _ (.lst (ys.map V.int)) from ⟨hlen, out.toList, e', vals_of_ints g1, by rw [Array.toArray_toList]; exact he'⟩), rfl, q ys _ g2 g3 (I1.hok.fresh (Nat.le_refl _))⟩
  have hb : b < h'.objs.size := Heap.lt_size e
  rw [PyProof.Rows.sortedHeap_old (Nat.ne_of_lt hb) (by rw [size_push']; exact Nat.lt_succ_of_lt hb)]
  exact Heap.get?_push_of_some _ e
def rSortD : List V → Hp → VK → Prop := fun xs H Q => ∃ (a : Addr) (kvs : List (Key × V)) (ks : List Int), xs = [.ref a] ∧ Rd H a (.dK kvs) ∧ kvs.map (·.1) = ks.map Sum.inl ∧ ks.length ≤ sizeLine ∧
    ∀ (ys : List Int) (p : Addr), ys.Perm ks → ys.Pairwise (· ≤ ·) → H p = none → Q (.ref p) (upd H p (.lst (ys.map V.int)))
open Evl in
/-- sorted(d): the keys, from the least -/
theorem el_sortD {σ : L2.St} {H : Hp} {ta : TE} {a : Addr} {m : List (Nat × V)} {ys : List Nat} (ha : Ev ta σ H (.ref a)) (h : H a = some (.dK (dN m))) (hz : m.length ≤ 100000) (nd : (m.map (·.1)).Nodup) (hs : ys.Pairwise (· < ·)) (hm : ∀ k, k ∈ ys ↔ k ∈ m.map (·.1)) :
    EvL (tCB rSortD (tCons ta tNil)) σ H (nL ys) := fun H1 e Q q => ha H1 e _ fun H2 e2 => ⟨a, dN m, (m.map (·.1)).map Int.ofNat, rfl, .inl (e2 _ _ (e _ _ h)), by
    unfold dN
    rw [List.map_map, List.map_map, List.map_map]
    rfl, by rw [List.length_map, List.length_map]; exact sz_of hz, fun zs p hp hs2 hn => by
    have hperm : ys.Perm (m.map (·.1)) := (List.perm_ext_iff_of_nodup (hs.imp fun h => Nat.ne_of_lt h) nd).mpr hm
    have e1 : zs = ys.map Int.ofNat := by
      have p1 : zs.Perm (ys.map Int.ofNat) := hp.trans (hperm.map Int.ofNat).symm
      have s1 : (ys.map Int.ofNat).Pairwise (· ≤ ·) := List.pairwise_map.mpr (hs.imp fun {x y} h => by show (x : Int) ≤ (y : Int); omega)
      exact List.Perm.eq_of_pairwise (fun a b _ _ h1 h2 => Int.le_antisymm h1 h2) hs2 s1 p1
    have e2' : zs.map V.int = nL ys := by
      rw [e1, List.map_map]
      rfl
    rw [e2']
    exact q p _ (fresh_back e2 hn) (e2.trans (Ex.new hn)) upd_same⟩
end Sg

set_option maxHeartbeats 4000000
/-! lists joined; dicts as sets of numbers -/
namespace Sg
open PySem PySem.Spec PyProof.Rows L2 Evl
/-- some list, new or not -/
def EvX (te : TE) (σ : L2.St) (H : Hp) (xs : List V) : Prop := ∀ H1, Ex H H1 → ∀ Q : VK, (∀ p H2, Ex H1 H2 → H2 p = some (.lst xs) → Q (.ref p) H2) → te σ H1 Q
section
variable {K : PySem.W.Frag} {σ : L2.St} {H H' : Hp} {ta tb te td ty tv : TE} {xs ys : List V} {D : Ends} {tz : L2.TS}
theorem EvL.x (h : EvL te σ H xs) : EvX te σ H xs := fun H1 e Q q => h H1 e Q fun p H2 _ e2 h2 => q p H2 e2 h2
theorem Ev.x {a : Addr} (h : Ev te σ H (.ref a)) (ha : H a = some (.lst xs)) : EvX te σ H xs := fun H1 e Q q => h H1 e Q fun H2 e2 => q a H2 e2 (e2 _ _ (e _ _ ha))
theorem el_cat (ha : EvX ta σ H xs) (hb : EvX tb σ H ys) (hz : xs.length + ys.length ≤ 100000) : EvL (tOp rCat ta tb) σ H (xs ++ ys) := fun H1 e Q q =>
  ha H1 e _ fun p H2 e2 h2 => hb H2 (e.trans e2) _ fun r H3 e3 h3 => ⟨p, r, xs, ys, rfl, rfl, e3 _ _ h2, h3, sz_of hz, fun z hz => q z _ (fresh_back (e2.trans e3) hz) ((e2.trans e3).trans (Ex.new hz)) upd_same⟩
theorem EvX.mono (e : Ex H H') (h : EvX te σ H xs) : EvX te σ H' xs := fun H1 a Q q => h H1 (e.trans a) Q q
/-- a set of numbers, in the order in which they came -/
def ins (ks : List Nat) (a : Nat) : List Nat := if a ∈ ks then ks else ks ++ [a]
theorem mem_ins {ks : List Nat} {a k : Nat} : k ∈ ins ks a ↔ k = a ∨ k ∈ ks := by
  unfold ins
  split
  · rename_i h
    constructor
    · exact fun q => .inr q
    · rintro (q | q)
      · rw [q]; exact h
      · exact q
  · rw [List.mem_append, List.mem_singleton]
    exact Or.comm
theorem ins_nodup {ks : List Nat} {a : Nat} (h : ks.Nodup) : (ins ks a).Nodup := by
  unfold ins
  split
  · exact h
  · rename_i n
    rw [List.nodup_append]
    exact ⟨h, by simp, fun x hx y hy => by rw [List.mem_singleton.mp hy]; exact fun z => n (z ▸ hx)⟩
theorem ins_len (ks : List Nat) (a : Nat) : (ins ks a).length ≤ ks.length + 1 := by
  unfold ins
  split
  · omega
  · simp
theorem isSome_key (m : List (Nat × V)) (k : Nat) : (valV m k).isSome = decide (k ∈ m.map (·.1)) := by
  cases h : valV m k with
  | none => exact (decide_eq_false (valV_not h)).symm
  | some v => exact (decide_eq_true (valV_in h)).symm
theorem keys_put (m : List (Nat × V)) (a : Nat) (v : V) : (putK m a v).map (·.1) = ins (m.map (·.1)) a := by
  unfold putK ins
  rw [valV_any, isSome_key]
  by_cases h : a ∈ m.map (·.1)
  · rw [if_pos h, if_pos (decide_eq_true h), List.map_map]
    refine List.map_congr_left fun p _ => ?_
    show (if p.1 = a then (p.1, v) else p).1 = p.1
    split <;> rfl
  · rw [if_neg h, if_neg (by rw [decide_eq_false h]; decide), List.map_append]
    rfl
theorem s_dadd {a : Addr} {m : List (Nat × V)} {k : Nat} {v : V} {ks : List Nat} (h : H a = some (.dK (dN m))) (hk : m.map (·.1) = ks) (hv : Ev tv σ H v) (hd : Ev td σ H (.ref a)) (hy : Ev ty σ H (nV k)) (hz : ks.length < 100000)
    (c : ∀ H1 m', Ex H H1 → m'.map (·.1) = ins ks k → D.nx σ (upd H1 a (.dK (dN m')))) : sDPut td ty tv D σ H :=
  s_dput h hv hd hy (by rw [← List.length_map (f := fun q : Nat × V => q.1), hk]; exact hz) fun H1 e1 => c H1 _ e1 (by rw [keys_put, hk])
/-! ### the live addresses -/
def trLive (K : PySem.W.Frag) : L2.TS := tSeq (tAsg tDNewK (gName 1)) (tSeq (tFor (iList K (tOp rCat (tLst (tCons (tFld K (tVar 0) "present") tNil)) (tFld K (tVar 0) "slots"))) (gName 2) (tIfS (tB (tNotN (tVar 2))) (tFor (iList K (tVar 2)) (gName 3) (tIfS (tTest (tOp rNe (tVar 3) (tC (.int 0)))) (sDPut (tVar 1) (tVar 3) (tC (.bl true))) tNext)) tNext)) (tRet (tCB rSortD (tCons (tVar 1) tNil))))
end
end Sg

set_option maxHeartbeats 4000000
namespace Sg
open PySem PySem.Spec PyProof.Rows L2 Evl
def tabs (T : TS) : List (Option (List Nat)) := some T.pres :: T.slots
theorem live_tabs {T : TS} {a : Nat} : isLive T a ↔ a ≠ 0 ∧ ∃ t, some t ∈ tabs T ∧ a ∈ t := by
  unfold isLive tabs
  constructor
  · rintro ⟨h, q | ⟨t, q1, q2⟩⟩
    · exact ⟨h, _, List.mem_cons_self, q⟩
    · exact ⟨h, t, List.mem_cons_of_mem _ q1, q2⟩
  · rintro ⟨h, t, q1, q2⟩
    rcases List.mem_cons.mp q1 with e | e
    · injection e with e
      exact ⟨h, .inl (e ▸ q2)⟩
    · exact ⟨h, .inr ⟨t, e, q2⟩⟩
section
variable {P : Program} {w : World} {K : PySem.W.Frag} {mg : Str → Option Value} {base : Heap}
theorem run_live (T : Ctx K mg base) {A : Ad} {l : Lay} {L : Lg} {H : Hp} (h : LogAt K H A l L) (wf : Wf l L.T) (hb : ∀ a, isLive L.T a → a < l.db) (D : Ends) (k : RetL (nL (live l L.T)) H D.rt) : trLive K D [some (.ref A.lg), none, none, none] H := by
  have hl1 := h.dev.la.1.last1
  refine q_dnew fun d hd => ?_
  have h1 := h.mono (Ex.new (o := .dK (dN [])) hd)
  obtain ⟨vs, s1, s2, s3⟩ := h1.sl
  have hvs : vs.length = 3 := by rw [s2.1, wf.ls]
  have rows : Rl (SlotAt (upd H d (.dK (dN []))) A.own) (.ref A.pr :: vs) (tabs L.T) := by
    refine ⟨by show vs.length + 1 = L.T.slots.length + 1; rw [s2.1], fun i v o a b => ?_⟩
    cases i with
    | zero =>
      injection a with a
      injection b with b
      rw [← a, ← b]
      exact ⟨A.pr, rfl, h1.pr⟩
    | succ i => exact s2.2 i v o a b
  have tl : ∀ t, some t ∈ tabs L.T → t.length = l.last + 1 := fun t ht => by
    rcases List.mem_cons.mp ht with e | e
    · injection e with e
      rw [e]; exact wf.lp
    · exact wf.lt t e
  have tn : (tabs L.T).length = 4 := by show L.T.slots.length + 1 = 4; rw [wf.ls]
  refine q_forNLn (xs := .ref A.pr :: vs) (EvL.mono (Ex.refl _) (el_cat (xs := [.ref A.pr]) (ys := vs) (EvL.x (el_lst (ea_cons (lv_present T h1 (ev_var rfl)) ea_nil) (Nat.le_of_ble_eq_true rfl))) (Ev.x (lv_slots T h1 (ev_var rfl)) s1) (by rw [hvs]; exact Nat.le_of_ble_eq_true rfl)))
    (fun p j σ' H' => ∃ x y m ks, σ' = [some (.ref A.lg), some (.ref d), x, y] ∧ Ex H H' ∧ H' p = some (.lst (.ref A.pr :: vs)) ∧ p ≠ d ∧ H' d = some (.dK (dN m)) ∧ m.map (·.1) = ks ∧ ks.Nodup ∧ ks.length ≤ j * (l.last + 1) ∧ ∀ b, b ∈ ks ↔ b ≠ 0 ∧ ∃ t, some t ∈ (tabs L.T).take j ∧ b ∈ t)
    (fun p H1 hp e1 hp1 => ⟨none, none, [], [], rfl, (Ex.new hd).trans e1, hp1, (fun z => (by rw [z, upd_same] at hp; cases hp)), e1 _ _ upd_same, rfl, List.nodup_nil, Nat.zero_le _, fun b => by simp⟩) (fun p j σ' H' _ ⟨_, _, _, _, _, _, q, _⟩ => sq_of q) ?_ ?_
  · rintro p j x σ' H' hj ⟨x1, y1, m, ks, rfl, e, hp, hpd, hm, hks, hnd, hlen, hmem⟩
    obtain ⟨o, ho, hs⟩ := rows.get' hj
    have jl := (List.getElem?_eq_some_iff.mp ho).1
    have tk := take_snoc ho
    cases o with
    | none =>
      obtain rfl : x = .non := hs
      refine s_when (b := false) (et_is (et_notN (ev_var rfl)) rfl) (fun z => by cases z) (fun _ H2 e2 => ?_)
      refine ⟨_, _, m, ks, rfl, e.trans e2, e2 _ _ hp, hpd, e2 _ _ hm, hks, hnd, ?_, fun b => ?_⟩
      · rw [Nat.add_mul]; omega
      · rw [hmem b, tk]
        simp
    | some t =>
      obtain ⟨a, rfl, ha, hao⟩ := hs
      have hta := tl t (List.mem_of_getElem? ho)
      have haH : H a = some (.lst (nL t)) := by
        by_cases z : a = d
        · rw [z, upd_same] at ha
          cases ha
        · rw [upd_ne z] at ha
          exact ha
      refine s_when (b := true) (et_is (et_notN (ev_var rfl)) rfl) (fun _ H2 e2 => ?_) (fun z => by cases z)
      refine s_forLn (a := a) (xs := nL t) (ev_var rfl) (sq_of (e2 _ _ (e _ _ haH))) (fun i σ'' H'' => ∃ y m ks, σ'' = [some (.ref A.lg), some (.ref d), some (.ref a), y] ∧ Ex H H'' ∧ H'' p = some (.lst (.ref A.pr :: vs)) ∧ H'' d = some (.dK (dN m)) ∧ m.map (·.1) = ks ∧ ks.Nodup ∧ ks.length ≤ j * (l.last + 1) + i ∧ ∀ b, b ∈ ks ↔ b ≠ 0 ∧ ((∃ t, some t ∈ (tabs L.T).take j ∧ b ∈ t) ∨ b ∈ t.take i))
        (fun H3 e3 => ⟨y1, m, ks, rfl, (e.trans e2).trans e3, e3 _ _ (e2 _ _ hp), e3 _ _ (e2 _ _ hm), hks, hnd, hlen, fun b => by rw [hmem b]; simp⟩) (fun i σ'' H'' _ ⟨_, _, _, _, q, _⟩ => sq_of (q _ _ haH)) ?_ ?_
      · rintro i x2 σ'' H'' hi ⟨y2, m2, ks2, rfl, e3, hp3, hm3, hks3, hnd3, hlen3, hmem3⟩
        obtain ⟨b0, hb0, rfl⟩ := nL_get hi
        have tk2 := take_snoc hb0
        have il := (List.getElem?_eq_some_iff.mp hb0).1
        refine s_when (b := !decide (V.int (b0 : Int) = V.int 0)) (et_cmp (ev_var rfl) ev_c (rv_ne rfl)) (fun hb H4 e4 => ?_) (fun hb H4 e4 => ?_)
        · have hn : b0 ≠ 0 := fun z => by simp [z] at hb
          have hsz : ks2.length < 100000 := by
            have : j * (l.last + 1) ≤ 4 * (l.last + 1) := Nat.mul_le_mul_right _ (by omega)
            omega
          refine s_dadd (ks := ks2) (e4 _ _ hm3) hks3 ev_c (ev_var rfl) (ev_var rfl) hsz fun H5 m' e5 hm' => ?_
          refine ⟨_, m', _, rfl, Ex.mut ((e3.trans e4).trans e5) hd, ?_, upd_same, hm', ins_nodup hnd3, ?_, fun b => ?_⟩
          · rw [upd_ne hpd]
            exact e5 _ _ (e4 _ _ hp3)
          · have := ins_len ks2 b0
            omega
          · rw [mem_ins, hmem3 b, tk2]
            constructor
            · rintro (z | ⟨z, q⟩)
              · rw [z]
                exact ⟨hn, .inr (by simp)⟩
              · refine ⟨z, ?_⟩
                rcases q with q | q
                · exact .inl q
                · exact .inr (List.mem_append_left _ q)
            · rintro ⟨z, q | q⟩
              · exact .inr ⟨z, .inl q⟩
              · rcases List.mem_append.mp q with q | q
                · exact .inr ⟨z, .inr q⟩
                · exact .inl (List.mem_singleton.mp q)
        · have hn : b0 = 0 := by simp at hb; omega
          refine ⟨_, m2, ks2, rfl, e3.trans e4, e4 _ _ hp3, e4 _ _ hm3, hks3, hnd3, by omega, fun b => ?_⟩
          rw [hmem3 b, tk2, hn]
          constructor
          · rintro ⟨z, q | q⟩
            · exact ⟨z, .inl q⟩
            · exact ⟨z, .inr (List.mem_append_left _ q)⟩
          · rintro ⟨z, q | q⟩
            · exact ⟨z, .inl q⟩
            · rcases List.mem_append.mp q with q | q
              · exact ⟨z, .inr q⟩
              · exact absurd (List.mem_singleton.mp q) z
      · rintro σ'' H'' ⟨y2, m2, ks2, rfl, e3, hp3, hm3, hks3, hnd3, hlen3, hmem3⟩
        rw [List.length_map] at hlen3 hmem3
        rw [List.take_length] at hmem3
        refine ⟨_, _, m2, ks2, rfl, e3, hp3, hpd, hm3, hks3, hnd3, ?_, fun b => ?_⟩
        · rw [Nat.add_mul, Nat.one_mul]
          omega
        · rw [hmem3 b, tk]
          constructor
          · rintro ⟨z, ⟨t', q1, q2⟩ | q⟩
            · exact ⟨z, t', List.mem_append_left _ q1, q2⟩
            · exact ⟨z, t, by simp, q⟩
          · rintro ⟨z, t', q1, q2⟩
            refine ⟨z, ?_⟩
            rcases List.mem_append.mp q1 with q1 | q1
            · exact .inl ⟨t', q1, q2⟩
            · have := List.mem_singleton.mp q1
              injection this with this
              exact .inr (this ▸ q2)
  · rintro p σ' H' ⟨x1, y1, m, ks, rfl, e, hp, hpd, hm, hks, hnd, hlen, hmem⟩
    have hc : (V.ref A.pr :: vs).length = 4 := by rw [List.length_cons, hvs]
    rw [hc] at hlen hmem
    rw [List.take_of_length_le (by omega)] at hmem
    have hml : m.length ≤ 100000 := by
      rw [← List.length_map (f := fun q : Nat × V => q.1), hks]
      omega
    refine s_retL (el_sortD (ys := live l L.T) (ev_var rfl) hm hml (by rw [hks]; exact hnd) (live_sorted l L.T) fun b => ?_) fun r H2 hr e2 h2 => k r H2 (fresh_back e hr) (e.trans e2) h2
    rw [hks, hmem b, mem_live, live_tabs]
    exact ⟨fun q => q.2, fun q => ⟨hb b (live_tabs.mpr q), q⟩⟩
def sp_live_addresses (K : PySem.W.Frag) : Sp := fun vs H Q _ => ∃ (A : Ad) (l : Lay) (L : Lg), vs = [.ref A.lg] ∧ LogAt K H A l L ∧ Wf l L.T ∧ (∀ a, isLive L.T a → a < l.db) ∧ RetL (nL (live l L.T)) H Q
abbrev nm_live_addresses : List Str := ["log", "found", "table", "address"]
theorem sc_live_addresses : FnScope nm_live_addresses ["log"] (defScope s_live_addresses) := ⟨rfl, rfl, rfl, by decide +kernel, rfl, by decide +kernel, by decide +kernel⟩
theorem ok_live_addresses (T : Ctx K mg base) : Okd P w K mg base 1 (He.ga K "live_addresses") ["log"] (sp_live_addresses K) := by
  obtain ⟨fd, F⟩ := T.def_live_addresses
  have b : Binds K fd ["log"] [] := FunD.bindsN F fun _ _ _ _ _ _ us hl => match us, hl with | [_], _ => rfl
  refine ⟨fd, FunD.ok F sc_live_addresses (fun vs H Q E h => ?_) (fun cdv A outer s H vs Q E hr h => ?_), b, F.kp⟩
  · obtain ⟨A, l, L, rfl, _⟩ := h
    rfl
  · obtain ⟨A, l, L, rfl, h, wf, hb, k⟩ := h
    have hu := hu_of hr
    refine ⟨trLive K, PSs.nox (pss_cons (ps_set (i := 1) sc_live_addresses.nd rfl (Or.inl rfl) pe_dnewK)
      (pss_cons (ps_for PassesOwn.never rfl (pi_list (pe_op op_cat (pe_lst (pa_cons (pe_fld (pv 0) rfl) pa_nil)) (pe_fld (pv 0) rfl))) (pg_name (i := 2) sc_live_addresses.nd rfl (Or.inl rfl)) (pss_one (ps_if (pt_cmp (pc_notN (pv 2)) rfl) (pss_one (ps_for PassesOwn.never rfl (pi_list (pv 2)) (pg_name (i := 3) sc_live_addresses.nd rfl (Or.inl rfl)) (pss_one (ps_if (pt_cmpR op_ne (pv 3) pe_int (nomark _)) (pss_one (ps_dput hu (pv 1) (pv 3) pe_bl rfl)) pss_nil)))) pss_nil)))
      (pss_one (ps_ret (pe_callB (call_sortedDN rfl) (by rfl) T.free_sorted (by decide +kernel) (pa_cons (pv 1) pa_nil)))))), ?_⟩
    exact run_live T h wf hb _ k
end
end Sg

set_option maxHeartbeats 4000000
/-! rules of our own: None in a list of tuples -/
namespace Sg
open PySem PySem.Spec PyProof.Rows L2 Evl
def rNoneIn (K : PySem.W.Frag) : R2 := fun x y H Q => ∃ p xs, x = .non ∧ y = .ref p ∧ SqL K H p xs ∧ (∀ v ∈ xs, ∃ t ys, v = .ref t ∧ H t = some (.tup ys)) ∧ Q (.bl false) H
section
variable {X : Cx}
theorem op_noneIn (hu : X.A.units + 1 < cLine) : OpR X (compareOp .In) (rNoneIn X.K) := by
  intro pins s σ H x y v u Q I rx ry h
  obtain ⟨p, xs, rfl, rfl, hq, ht, q⟩ := h
  cases rx
  cases ry
  obtain ⟨its, r, pl, hz⟩ := I.list hq
  have key : ∀ y ∈ its, SeqAt.EqAt X.A.in1 s y .none false := fun y hy => by
    obtain ⟨i, hi⟩ := List.getElem?_of_mem hy
    have hl : i < xs.length := by
      rw [r.length]
      exact (List.getElem?_eq_some_iff.mp hi).1
    obtain ⟨u, hu1, hu2⟩ := Vals.get r (List.getElem?_eq_getElem hl)
    obtain ⟨t, ys, e1, e2⟩ := ht _ (List.getElem_mem hl)
    rw [e1] at hu2
    rw [hi] at hu1
    injection hu1 with hu1
    obtain rfl : y = Value.ref t := hu1.trans hu2
    obtain ⟨_, its2, r2, o, ho, hc, n, hd⟩ := I.hok _ _ e2
    exact SeqAt.EqAt.tuple_none (items := its2.toArray) ⟨o, ho, hc, n, hd⟩ hu
  refine SeqAt.in_listAt (fun _ => false) pl.isList (fun w hw => key w (by simpa using hw)) ⟨.bl _, H, I, rfl, ?_⟩
  have e : (its.toArray.any fun _ => false) = false := by
    rw [← Array.any_toList]
    exact List.any_eq_false.mpr fun _ _ => by simp
  rw [e]
  exact q
end
section
variable {K : PySem.W.Frag} {σ : L2.St} {H H' : Hp} {ta tb : TE}
theorem ev_noneIn {a : Addr} {xs : List V} (ha : Ev ta σ H .non) (hb : Ev tb σ H (.ref a)) (h : SqL K H a xs) (ht : ∀ v ∈ xs, ∃ t ys, v = .ref t ∧ H t = some (.tup ys)) : Ev (tOp (rNoneIn K) ta tb) σ H (.bl false) := fun H1 e Q q =>
  ha H1 e _ fun H2 e2 => hb H2 (e.trans e2) _ fun H3 e3 => ⟨a, xs, rfl, rfl, ex_l ((e.trans e2).trans e3) h, fun v hv => by
    obtain ⟨t, ys, h1, h2⟩ := ht v hv
    exact ⟨t, ys, h1, ((e.trans e2).trans e3) _ _ h2⟩, q H3 (e2.trans e3)⟩
end
end Sg

set_option maxHeartbeats 4000000
namespace Sg
open PySem PySem.Spec PyProof.Rows L2 Evl
section
variable {P : Program} {w : World} {K : PySem.W.Frag} {mg : Str → Option Value} {base : Heap}
/-! ### sync_log -/
theorem q_logBarrier {σ : L2.St} {H : Hp} {ta : TE} {E : XK} {A : Ad} {l : Lay} {L : Lg} {tz : L2.TS} {D : Ends} (h : LogAt K H A l L) (ho : Ev ta σ H (.ref A.dv)) (hw : ∀ x ∈ L.wait, x.1 < l.db)
    (k : ∀ H' w', Evo H A H' (A.at_ w' A.pr A.sl A.qu) → LogAt K H' (A.at_ w' A.pr A.sl A.qu) l { L with sure := applyW L.sure L.wait, wait := [] } → tz D σ H') : tSeq (tDrop (tMeth (He.ga K "Device") "barrier" (sp_Device_barrier K) [] E ta tNil)) tz D σ H := by
  obtain ⟨dx, hv⟩ := h.dev.dv
  refine q_meth ho hv (by rfl) ea_nil fun H1 e1 => ?_
  refine ⟨A, l, L.sure, L.seen, L.wait, rfl, (h.mono e1).dev, hw, fun H2 w' hd hw' kp => ?_⟩
  have r := (h.mono e1).setD (w' := w') hd (.inr hw') fun b o z n => kp b o z (fun y => n (by rw [y]; simp)) (fun y => n (by rw [y]; simp))
  exact k H2 w' ((Evo.ex e1).trans r.2) r.1
def sp_sync_log (K : PySem.W.Frag) : Sp := fun vs H Q _ => ∃ (A : Ad) (l : Lay) (L : Lg), vs = [.ref A.lg] ∧ LogAt K H A l L ∧ (∀ x ∈ L.wait, x.1 < l.db) ∧ L.seen = applyW L.sure L.wait ∧ Gives K H A l (syncL L) .non Q
abbrev nm_sync_log : List Str := ["log"]
theorem sc_sync_log : FnScope nm_sync_log ["log"] (defScope s_sync_log) := ⟨rfl, rfl, rfl, by decide +kernel, rfl, by decide +kernel, by decide +kernel⟩
theorem ok_sync_log (T : Ctx K mg base) : Okd P w K mg base 3 (He.ga K "sync_log") ["log"] (sp_sync_log K) := by
  obtain ⟨fd, F⟩ := T.def_sync_log
  have b : Binds K fd ["log"] [] := FunD.bindsN F fun _ _ _ _ _ _ us hl => match us, hl with | [_], _ => rfl
  obtain ⟨fd_barrier, G_Device_barrier, b_Device_barrier, k_Device_barrier⟩ := ok_Device_barrier (P := P) (w := w) T
  refine ⟨fd, FunD.ok F sc_sync_log (fun vs H Q E h => ?_) (fun cdv A outer s H vs Q E hr h => ?_), b, F.kp⟩
  · obtain ⟨A, l, L, rfl, _⟩ := h
    rfl
  · obtain ⟨A, l, L, rfl, h, hw, hsw, k⟩ := h
    refine ⟨_, PSs.nox (pss_cons (ps_expr (pe_meth0 (pe_fld (pv 0) rfl) T.cls_Device T.m_Device_barrier G_Device_barrier (hr.mono (by decide)) b_Device_barrier .nil pass0))
      (pss_one (ps_fld (pe_fld (pv 0) rfl) (pe_op op_add (pe_fld (pe_fld (pv 0) rfl) rfl) pe_int) rfl))), ?_⟩
    refine q_logBarrier h (lv_device T h (ev_var rfl)) hw fun H1 w1 ev1 h1 => ?_
    refine s_cnt T T.na_Counts_barriers h1 (fun H5 e5 => lv_counts T (h1.mono e5) (ev_var rfl)) cf7 (fun m hm => ⟨_, ev_op hm ev_c rv_I0⟩) fun H6 ev6 h6 => ?_
    refine k H6 w1 A.pr A.sl A.qu (ev1.trans ev6) ?_
    have e : syncL L = { L with sure := applyW L.sure L.wait, wait := [] } := by
      unfold syncL
      rw [← hsw]
    rw [e]
    exact h6
/-! ### append_move -/
def sp_append_move (K : PySem.W.Frag) : Sp := fun vs H Q _ => ∃ (A : Ad) (l : Lay) (L : Lg) (a : Addr) (adrs : List Nat) (ps : List PayD), vs = [.ref A.lg, .ref a] ∧ LogAt K H A l L ∧ Wf l L.T ∧ (∀ s ∈ L.T.queue, s < l.seg) ∧ L.T.queue ≠ [] ∧
  H a = some (.lst (nL adrs)) ∧ a ∉ A.own ∧ adrs.length ≤ l.pay ∧ Carried L.seen adrs ps ∧ L.wait.length ≤ 80000 ∧ Gives K H A l (movL l L adrs ps) (.bl true) Q
abbrev nm_append_move : List Str := ["log", "addresses", "payloads", "address"]
theorem sc_append_move : FnScope nm_append_move ["log", "addresses"] (defScope s_append_move) := ⟨rfl, rfl, rfl, by decide +kernel, rfl, by decide +kernel, by decide +kernel⟩
theorem OPay.tx {Ha Hb Hc : Hp} {v : V} {o : Option PayD} (h : OPay Hb v o) (e : ∀ b o, Hb b = some o → (Ha b = none ∨ ∃ ys, o = .tup ys) → Hc b = some o) : OPay Hc v o := OPay.mono h fun b xs z => e b _ z (.inr ⟨xs, rfl⟩)
theorem ok_append_move (T : Ctx K mg base) : Okd P w K mg base 4 (He.ga K "append_move") ["log", "addresses"] (sp_append_move K) := by
  obtain ⟨fd, F⟩ := T.def_append_move
  have b : Binds K fd ["log", "addresses"] [] := FunD.bindsN F fun _ _ _ _ _ _ us hl => match us, hl with | [_, _], _ => rfl
  obtain ⟨fd_enter_segment, G_enter_segment, b_enter_segment, k_enter_segment⟩ := ok_enter_segment (P := P) (w := w) T
  obtain ⟨fd_payload_at, G_payload_at, b_payload_at, k_payload_at⟩ := ok_payload_at (P := P) (w := w) T
  obtain ⟨fd_write_batch, G_write_batch, b_write_batch, k_write_batch⟩ := ok_write_batch (P := P) (w := w) T
  obtain ⟨tMOVE, hMOVE⟩ := T.int_MOVE
  refine ⟨fd, FunD.ok F sc_append_move (fun vs H Q E h => ?_) (fun cdv A outer s H vs Q E hr h => ?_), b, F.kp⟩
  · obtain ⟨A, l, L, a, adrs, ps, rfl, _⟩ := h
    rfl
  · obtain ⟨A, l, L, a, adrs, ps, rfl, h, wf, hqs, hq, ha, hao, hla, hcar, hwz, k⟩ := h
    have hu := hu_of hr
    refine ⟨_, PSs.nox (pss_cons (ps_if (PW.pt (pw_or (pt_cmpR op_eq (pe_callB call_len_seq (by rfl) T.free_len PySem.boot_len (pa_cons (pe_fld (pv 0) rfl) pa_nil)) pe_int (nomark _)) (pw_or1 (pt_cmpR op_gt (pe_callB call_len_seq (by rfl) T.free_len PySem.boot_len (pa_cons (pv 1) pa_nil)) (pe_fld (pe_fld (pv 0) rfl) rfl) (nomark _))))) (pss_one (ps_ret pe_bl)) pss_nil)
      (pss_cons (ps_setLc (i := 2) (own := [("address", 3)]) rfl sc_append_move.nd rfl rfl (sw_true rfl rfl rfl (by decide +kernel)) (pi_list (pv 1)) (blkOk_by (own := [("address", 3)]) (N := nm_append_move) (sc := defScope s_append_move) (by decide +kernel)) (fun _ _ _ _ _ => (pg_name (i := 3) sc_append_move.nd rfl (Or.inl rfl) (hf := .inr rfl))) (fun _ _ _ _ _ => pts_nil) (fun _ _ _ _ _ => (pe_call G_payload_at (hr.mono (by decide)) rfl T.glo_payload_at k_payload_at b_payload_at .nil pass0 (pa_cons (pv 0) (pa_cons (pv 3) pa_nil)))))
      (pss_cons (ps_if (pt_cmpR (op_noneIn hu) pe_non (pv 2) (by rfl)) (pss_one (ps_ret pe_bl)) pss_nil)
      (pss_cons (ps_expr (pe_call G_enter_segment (hr.mono (by decide)) rfl T.glo_enter_segment k_enter_segment b_enter_segment .nil pass0 (pa_cons (pv 0) pa_nil)))
      (pss_cons (ps_expr (pe_call G_write_batch (hr.mono (by decide)) rfl T.glo_write_batch k_write_batch b_write_batch .nil pass0 (pa_cons (pv 0) (pa_cons (pe_glob (v := .int 2) rfl hMOVE ⟨_, rfl⟩) (pa_cons (pe_callTy call_tuple_of (by rfl) T.free_tuple (by decide +kernel) (pa_cons (pv 1) pa_nil)) (pa_cons (pv 2) pa_nil))))))
      (pss_cons (ps_fld (pe_fld (pv 0) rfl) (pe_op op_add (pe_fld (pe_fld (pv 0) rfl) rfl) pe_int) rfl)
      (pss_cons (ps_fld (pe_fld (pv 0) rfl) (pe_op op_add (pe_op op_add (pe_fld (pe_fld (pv 0) rfl) rfl) pe_int) (pe_callB call_len_seq (by rfl) T.free_len PySem.boot_len (pa_cons (pv 1) pa_nil))) rfl)
      (pss_one (ps_ret pe_bl))))))))), ?_⟩
    have lo := h.dev.la.1
    have hpy := lo.pay1
    refine q_when (b := false) (et_is (et_or (et_cmp (ev_len (lv_queue T h (ev_var rfl)) (sq_of h.qu.1)) ev_c (rv_eq rfl)) fun _ => et_cmp (ev_len (ev_var rfl) (sq_of ha)) (yv_payload T h.dev.la (lv_layout T h (ev_var rfl))) rv_I0) ?_) (fun z => by cases z) (fun _ H1 e1 => ?_)
    · rw [Bool.or_eq_false_iff]
      constructor
      · refine decide_eq_false fun z => hq ?_
        injection z with z
        rw [List.length_map] at z
        exact List.length_eq_zero_iff.mp (by omega)
      · rw [List.length_map]
        exact decide_eq_false (by omega)
    have h1 := h.mono e1
    refine q_asgP (ep_lcL (fun i v _ Hb => OPay Hb v (payOf (rd L.seen (adrs.getD i 0)))) (fun i v Ha Hb Hc r e => OPay.tx r e) (ev_var rfl) (sq_of (e1 _ _ ha)) (by rw [List.length_map]; omega) (fun _ => rfl) fun i x H2 e2 hi => ?_) fun v H2 e2 hv => ?_
    · obtain ⟨ad, had, rfl⟩ := nL_get hi
      rw [List.getD_eq_getElem?_getD, had]
      exact evp_call (ea_cons (ev_var rfl) (ea_cons (ev_var rfl) ea_nil)) fun H3 e3 Q E q => ⟨A, l, L, ad, rfl, (h1.mono e2).mono e3, q⟩
    obtain ⟨p, vs, rfl, hp0, hp, hvl, hvr⟩ := hv
    rw [List.length_map] at hvl
    have h2 := h1.mono e2
    have rows : Rl (PayAt H2) vs ps := by
      refine ⟨hvl.trans hcar.1.symm, fun i v pp a b => ?_⟩
      obtain ⟨_, _, _, q⟩ := hvr i v a
      have hi : i < adrs.length := by
        have := (List.getElem?_eq_some_iff.mp a).1
        omega
      rw [List.getD_eq_getElem?_getD, List.getElem?_eq_getElem hi] at q
      have q : OPay H2 v (payOf (rd L.seen adrs[i])) := q
      rw [hcar.2 i adrs[i] (List.getElem?_eq_getElem hi), b] at q
      exact q
    have hpo : p ∉ A.own := h1.new hp0
    refine q_when (b := false) (et_test (ev_noneIn ev_c (ev_var rfl) (sq_of hp) fun v hv => ?_)) (fun z => by cases z) (fun _ H3 e3 => ?_)
    · obtain ⟨i, hi⟩ := List.getElem?_of_mem hv
      obtain ⟨pp, _, ⟨t, bd, q1, q2, _⟩⟩ := rows.get' hi
      exact ⟨t, _, q1, q2⟩
    have h3 := h2.mono e3
    refine q_call (ea_cons (ev_var rfl) ea_nil) fun H4 e4 => ⟨A, l, L, rfl, h3.mono e4, hq, fun H5 w1 p1 s1 q1 ev5 h5 => ?_⟩
    have E4 := ((e1.trans e2).trans e3).trans e4
    have ev := (Evo.ex E4).trans ev5
    have wf2 : Wf l (enter L.T) := by
      obtain ⟨qh, qt, hqq⟩ := List.exists_cons_of_ne_nil hq
      exact ⟨wf.lp, wf.ls, wf.lt, by unfold enter; rw [hqq]; exact hqs qh (by rw [hqq]; simp)⟩
    have ga : H5 a = some (.lst (nL adrs)) := ev.kp _ _ ha hao
    have gp : H5 p = some (.lst vs) := ev5.kp _ _ (e4 _ _ (e3 _ _ hp)) hpo
    refine q_callP (ep4 (R := fun v H2 => ∃ b, v = .ref b ∧ H2 b = some (.tup (nL adrs))) (fun v _ _ e r => let ⟨b, r1, r2⟩ := r; ⟨b, r1, e _ _ r2⟩) (ev_var rfl) ev_c (EvU.p (eu_tuple (ev_var rfl) (sq_of ga)) fun b H6 _ _ hb => ⟨b, rfl, hb⟩) (ev_var rfl)) fun us' H6 e6 hv => ?_
    obtain ⟨v, rfl, bd, rfl, hbd⟩ := hv
    have tx : Tx H2 H6 := (Ex.tx (e3.trans e4)).trans (ev5.tx.trans (Ex.tx e6))
    refine ⟨A.at_ w1 p1 s1 q1, l, _, 2, .ref bd, _, p, vs, ps, .mov (L.lseq + 1) adrs, rfl, h5.mono e6, wf2, .inr ⟨bd, adrs, rfl, rfl, hbd, by omega, rfl, rfl⟩, e6 _ _ gp, ev5.ni _ _ (e4 _ _ (e3 _ _ hp)) hpo, rows.mono fun _ _ z => z.mono tx, ?_, hwz, fun H7 w2 p2 s2 q2 ev7 h7 => ?_⟩
    · rw [hcar.1]
      show 0 + 1 + _ ≤ _
      omega
    · have ga7 : H7 a = some (.lst (nL adrs)) := ev7.kp _ _ (e6 _ _ ga) (ev.ni _ _ ha hao)
      refine q_cnt (tv := fun _ => tC .non) T T.na_Counts_moves h7 (fun H8 e8 => lv_counts T (h7.mono e8) (ev_var rfl)) cf3 (fun m hm => ⟨_, ev_op hm ev_c rv_I0⟩) fun H8 ev8 h8 => ?_
      have ga8 : H8 a = some (.lst (nL adrs)) := ev8.kp _ _ ga7 (ev7.ni _ _ (e6 _ _ ga) (ev.ni _ _ ha hao))
      refine q_cnt (tv := fun _ => tC .non) T T.na_Counts_move_blocks h8 (fun H9 e9 => lv_counts T (h8.mono e9) (ev_var rfl)) cf4 (fun m hm => ⟨_, ev_op (ev_op hm ev_c rv_I0) (ev_len (ev_var rfl) (sq_of ga8)) rv_I0⟩) fun H9 ev9 h9 => ?_
      exact s_ret ev_c fun H10 e10 => k H10 w2 p2 s2 q2 ((((ev.trans (Evo.ex e6)).trans ev7).trans ev8).trans (ev9.trans (Evo.ex e10))) (h9.mono e10)
end
end Sg

set_option maxHeartbeats 4000000
namespace Sg
open PySem PySem.Spec PyProof.Rows L2 Evl
theorem nodup_bound (n : Nat) : ∀ (xs : List Nat), xs.Nodup → (∀ x ∈ xs, x < n) → xs.length ≤ n := by
  induction n with
  | zero =>
    intro xs _ h
    cases xs with
    | nil => simp
    | cons x r => exact absurd (h x (by simp)) (by omega)
  | succ n ih =>
    intro xs nd h
    have h1 := ih (xs.erase n) (nd.erase n) fun x hx => by
      have := h x (List.mem_of_mem_erase hx)
      have ne : x ≠ n := fun z => by
        rw [z] at hx
        exact (List.Nodup.not_mem_erase nd) hx
      omega
    by_cases hm : n ∈ xs
    · rw [List.length_erase_of_mem hm] at h1
      omega
    · rw [List.erase_of_not_mem hm] at h1
      omega
theorem GoodT.qlen {l : Lay} {T : TS} (g : GoodT l T) : T.queue.length + 1 ≤ l.seg := by
  have := nodup_bound l.seg (T.head :: T.queue) g.nd fun x hx => by
    rcases List.mem_cons.mp hx with e | e
    · rw [e]; exact g.hs
    · exact g.qs x e
  simpa using this
theorem GoodT.segV {l : Lay} {T : TS} (g : GoodT l T) {a : Nat} (h : isLive T a) : segV l a = nV (l.sg a) := by
  obtain ⟨h1, h2, _⟩ := g.lv a h
  unfold Sg.segV
  rw [if_neg (by omega)]
section
variable {P : Program} {w : World} {K : PySem.W.Frag} {mg : Str → Option Value} {base : Heap}
theorem q_disp1 {σ : L2.St} {H : Hp} {tk tv : TE} {tz : L2.TS} {D : Ends} {i k : Nat} {v : V} (hk : ∀ H1, Ex H H1 → Ev tk σ H1 (nV k)) (hv : ∀ H1, Ex H H1 → Ev tv σ H1 v)
    (c : ∀ p H1 m, H p = none → Ex H H1 → H1 p = some (.dK (dN m)) → m.map (·.1) = [k] → tz D (σ.set i (some (.ref p))) H1) : tSeq (tAsg (tDisp [(tk, tv)]) (gName i)) tz D σ H := fun p hp =>
  hk _ (Ex.new hp) _ (Ex.refl _) _ fun H2 e2 => hv H2 ((Ex.new hp).trans e2) H2 (Ex.refl _) _ fun H3 e3 => by
    have h3 : H3 p = some (.dK []) := e3 _ _ (e2 _ _ upd_same)
    have E : Ex H H3 := ((Ex.new hp).trans e2).trans e3
    exact ⟨h3, [(.inl (k : Int), v)], rfl, Nat.le_of_ble_eq_true rfl, c p _ [(k, v)] hp (E.mut hp) upd_same rfl⟩
/-! ### extended_queue -/
def sp_extended_queue (K : PySem.W.Frag) : Sp := fun vs H Q _ => ∃ (A : Ad) (l : Lay) (L : Lg), vs = [.ref A.lg] ∧ LogAt K H A l L ∧ GoodT l L.T ∧ RetL (nL (extQ l L.T)) H Q
abbrev nm_extended_queue : List Str := ["log", "busy", "segment", "address"]
theorem sc_extended_queue : FnScope nm_extended_queue ["log"] (defScope s_extended_queue) := ⟨rfl, rfl, rfl, by decide +kernel, rfl, by decide +kernel, by decide +kernel⟩
theorem el_live (T : Ctx K mg base) {σ : L2.St} {H : Hp} {ta : TE} {E : XK} {A : Ad} {l : Lay} {L : Lg} (h : LogAt K H A l L) (g : GoodT l L.T) (e : Ev ta σ H (.ref A.lg)) : EvL (tCall (sp_live_addresses K) [] E (tCons ta tNil)) σ H (nL (live l L.T)) :=
  el_call2 (ea_cons e ea_nil) fun H1 e1 Q E q => ⟨A, l, L, rfl, h.mono e1, g.wf, fun a ha => (g.lv a ha).2.1, q⟩
theorem ok_extended_queue (T : Ctx K mg base) : Okd P w K mg base 2 (He.ga K "extended_queue") ["log"] (sp_extended_queue K) := by
  obtain ⟨fd, F⟩ := T.def_extended_queue
  have b : Binds K fd ["log"] [] := FunD.bindsN F fun _ _ _ _ _ _ us hl => match us, hl with | [_], _ => rfl
  obtain ⟨fd_live_addresses, G_live_addresses, b_live_addresses, k_live_addresses⟩ := ok_live_addresses (P := P) (w := w) T
  obtain ⟨fd_segment_of, G_segment_of, b_segment_of, k_segment_of⟩ := ok_segment_of (P := P) (w := w) T
  refine ⟨fd, FunD.ok F sc_extended_queue (fun vs H Q E h => ?_) (fun cdv A outer s H vs Q E hr h => ?_), b, F.kp⟩
  · obtain ⟨A, l, L, rfl, _⟩ := h
    rfl
  · obtain ⟨A, l, L, rfl, h, g, k⟩ := h
    have hu := hu_of hr
    refine ⟨_, PSs.nox (pss_cons (ps_set (i := 1) sc_extended_queue.nd rfl (Or.inr rfl) (pe_disp (pps_cons (pe_fld (pv 0) rfl) pe_bl pps_nil) rfl rfl (by intro z; cases z) (Nat.le_of_ble_eq_true rfl)))
      (pss_cons (ps_for PassesOwn.never rfl (pi_list (pe_fld (pv 0) rfl)) (pg_name (i := 2) sc_extended_queue.nd rfl (Or.inl rfl)) (pss_one (ps_dput hu (pv 1) (pv 2) pe_bl rfl)))
      (pss_cons (ps_for PassesOwn.never rfl (pi_list (pe_call G_live_addresses (hr.mono (by decide)) rfl T.glo_live_addresses k_live_addresses b_live_addresses .nil pass0 (pa_cons (pv 0) pa_nil))) (pg_name (i := 3) sc_extended_queue.nd rfl (Or.inl rfl)) (pss_one (ps_dput hu (pv 1) (pe_call G_segment_of (hr.mono (by decide)) rfl T.glo_segment_of k_segment_of b_segment_of .nil pass0 (pa_cons (pe_fld (pv 0) rfl) (pa_cons (pv 3) pa_nil))) pe_bl rfl)))
      (pss_one (ps_ret (pe_op op_cat (pe_fld (pv 0) rfl) (pe_lc (own := [("segment", 2)]) rfl sc_extended_queue.nd (pi_range1 rfl T.free_range (pa_cons (pe_fld (pe_fld (pv 0) rfl) rfl) pa_nil)) (blkOk_by (own := [("segment", 2)]) (N := nm_extended_queue) (sc := defScope s_extended_queue) (by decide +kernel)) (fun _ _ _ _ _ => (pg_name (i := 2) sc_extended_queue.nd rfl (Or.inl rfl) (hf := .inr rfl))) (fun _ _ _ _ _ => (pts_one (pt_cmp (pc_dnotin hu (pv 2) (pv 1))))) (fun _ _ _ _ _ => (pv 2))))))))), ?_⟩
    have lo := h.dev.la.1
    have hql := g.qlen
    have hs2 := lo.s2
    have hlv := g.ct
    have hlim := lo.lim1
    refine q_disp1 (k := L.T.head) (fun H1 e1 => lv_head T (h.mono e1) (ev_var rfl)) (fun _ _ => ev_c) fun d H1 m0 hd e1 hm0 hk0 => ?_
    have h1 := h.mono e1
    refine q_forLn (a := A.qu) (xs := nL L.T.queue) (lv_queue T h1 (ev_var rfl)) (sq_of h1.qu.1) (fun j σ' H' => ∃ x y m ks, σ' = [some (.ref A.lg), some (.ref d), x, y] ∧ Ex H H' ∧ H' d = some (.dK (dN m)) ∧ m.map (·.1) = ks ∧ ks.length ≤ j + 1 ∧ ∀ b, b ∈ ks ↔ b = L.T.head ∨ b ∈ L.T.queue.take j)
      (fun H2 e2 => ⟨none, none, m0, _, rfl, e1.trans e2, e2 _ _ hm0, hk0, by simp, fun b => by simp⟩) (fun j σ' H' _ ⟨_, _, _, _, _, e, _⟩ => sq_of (e _ _ h.qu.1)) ?_ ?_
    · rintro j x σ' H' hj ⟨x1, y1, m, ks, rfl, e, hm, hks, hlen, hmem⟩
      obtain ⟨b0, hb0, rfl⟩ := nL_get hj
      have jl := (List.getElem?_eq_some_iff.mp hb0).1
      refine s_dadd (ks := ks) hm hks ev_c (ev_var rfl) (ev_var rfl) (by omega) fun H2 m' e2 hm' => ?_
      refine ⟨_, _, m', _, rfl, Ex.mut (e.trans e2) hd, upd_same, hm', by have := ins_len ks b0; omega, fun b => ?_⟩
      rw [mem_ins, hmem b, take_snoc hb0, List.mem_append, List.mem_singleton]
      constructor
      · rintro (z | z | z)
        · exact .inr (.inr z)
        · exact .inl z
        · exact .inr (.inl z)
      · rintro (z | z | z)
        · exact .inr (.inl z)
        · exact .inr (.inr z)
        · exact .inl z
    · rintro σ' H' ⟨x1, y1, m, ks, rfl, e, hm, hks, hlen, hmem⟩
      rw [List.length_map] at hlen hmem
      rw [List.take_length] at hmem
      refine q_forNLn (xs := nL (live l L.T)) (el_live T (h.mono e) g (ev_var rfl)) (fun p j σ' H2 => ∃ y m ks, σ' = [some (.ref A.lg), some (.ref d), x1, y] ∧ Ex H H2 ∧ H2 p = some (.lst (nL (live l L.T))) ∧ p ≠ d ∧ H2 d = some (.dK (dN m)) ∧ m.map (·.1) = ks ∧ ks.length ≤ L.T.queue.length + 1 + j ∧ ∀ b, b ∈ ks ↔ (b = L.T.head ∨ b ∈ L.T.queue) ∨ ∃ a, a ∈ (live l L.T).take j ∧ l.sg a = b)
        (fun p H2 hp e2 hp2 => ⟨y1, m, ks, rfl, e.trans e2, hp2, (fun z => (by rw [z, hm] at hp; cases hp)), e2 _ _ hm, hks, by omega, fun b => by rw [hmem b]; simp⟩) (fun p j σ' H2 _ ⟨_, _, _, _, _, q, _⟩ => sq_of q) ?_ ?_
      · rintro p j x σ' H2 hj ⟨y2, m2, ks2, rfl, e2, hp, hpd, hm2, hks2, hlen2, hmem2⟩
        obtain ⟨a0, ha0, rfl⟩ := nL_get hj
        have jl := (List.getElem?_eq_some_iff.mp ha0).1
        have hal : isLive L.T a0 := (mem_live.mp (List.mem_of_getElem? ha0)).2
        have h2 := h.mono e2
        refine s_dadd (ks := ks2) (k := l.sg a0) hm2 hks2 ev_c (ev_var rfl) (ev_is (ev_seg h2.dev.la (ea_cons (lv_layout T h2 (ev_var rfl)) (ea_cons (ev_var rfl) ea_nil))) (g.segV hal)) (by omega) fun H3 m' e3 hm' => ?_
        refine ⟨_, m', _, rfl, Ex.mut (e2.trans e3) hd, ?_, hpd, upd_same, hm', by have := ins_len ks2 (l.sg a0); omega, fun b => ?_⟩
        · rw [upd_ne hpd]
          exact e3 _ _ hp
        · rw [mem_ins, hmem2 b, take_snoc ha0]
          constructor
          · rintro (z | z | ⟨a, z1, z2⟩)
            · exact .inr ⟨a0, by simp, z.symm⟩
            · exact .inl z
            · exact .inr ⟨a, List.mem_append_left _ z1, z2⟩
          · rintro (z | ⟨a, z1, z2⟩)
            · exact .inr (.inl z)
            · rcases List.mem_append.mp z1 with z1 | z1
              · exact .inr (.inr ⟨a, z1, z2⟩)
              · rw [List.mem_singleton.mp z1] at z2
                exact .inl z2.symm
      · rintro p σ' H2 ⟨y2, m2, ks2, rfl, e2, hp, hpd, hm2, hks2, hlen2, hmem2⟩
        rw [List.length_map] at hmem2
        rw [List.take_length] at hmem2
        have h2 := h.mono e2
        have key := el_lcR1 (σ := [some (V.ref A.lg), some (.ref d), x1, y2]) (H := H2) (te := tVar 2) (ta := tCons (tFld K (tFld K (tVar 0) "layout") "segments") tNil) (j := 2) (vs := [2]) (t := tB (tDNotIn (tVar 2) (tVar 1))) (n := (l.seg : Int))
          (fun s => !(valV m2 s).isSome) (fun s => nV s) (ea_cons (yv_segments T h2.dev.la (lv_layout T h2 (ev_var rfl))) ea_nil) (by omega) (fun _ => rfl) (fun i H3 e3 _ => et_val (ev_dnotin (ev_var rfl) (ev_var rfl) (e3 _ _ hm2))) (fun i H3 e3 _ _ => ev_var rfl)
        refine s_retL (el_cat (Ev.x (lv_queue T h2 (ev_var rfl)) h2.qu.1) (EvL.x key) ?_) fun r H3 hr3 e3 h3 => k r H3 (fresh_back e2 hr3) (e2.trans e3) ?_
        · have := given_len (l.seg : Int).toNat (fun s => !(valV m2 s).isSome) (fun s => nV s)
          rw [List.length_map]
          have : (l.seg : Int).toNat = l.seg := by omega
          omega
        · rw [h3]
          congr 2
          unfold extQ
          rw [nL, nL, List.map_append]
          congr 1
          unfold given
          rw [Int.toNat_natCast]
          congr 1
          refine List.filter_congr fun s _ => ?_
          rw [isSome_key, hks2, Bool.eq_iff_iff]
          simp only [Bool.not_eq_true', decide_eq_false_iff_not, decide_eq_true_eq]
          rw [hmem2 s]
          constructor
          · intro z
            refine ⟨fun q => z (.inl (.inl q)), fun q => z (.inl (.inr q)), fun a ha q => z (.inr ⟨a, mem_live.mpr ⟨(g.lv a ha).2.1, ha⟩, q⟩)⟩
          · rintro ⟨z1, z2, z3⟩ ((q | q) | ⟨a, q1, q2⟩)
            · exact z1 q
            · exact z2 q
            · exact z3 a (mem_live.mp q1).2 q2
end
end Sg

set_option maxHeartbeats 4000000
namespace Sg
open PySem PySem.Spec PyProof.Rows L2 Evl
section
variable {P : Program} {w : World} {K : PySem.W.Frag} {mg : Str → Option Value} {base : Heap}
/-! ### checkpoint_numbers -/
theorem nL_app (a b : List Nat) : nL (a ++ b) = nL a ++ nL b := List.map_append
theorem nL_repl (n k : Nat) : nL (List.replicate n k) = List.replicate n (nV k) := List.map_replicate ..
theorem nL_len (a : List Nat) : (nL a).length = a.length := List.length_map ..
theorem nL_drop (a : List Nat) (i : Nat) : (nL a).drop i = nL (a.drop i) := (List.map_drop ..).symm
theorem nL_take (a : List Nat) (i : Nat) : (nL a).take i = nL (a.take i) := (List.map_take ..).symm
theorem el_lo {σ : L2.St} {H : Hp} {te : TE} {a : Addr} {t : List Nat} (i : Nat) (h : Ev te σ H (.ref a)) (ha : SqL K H a (nL t)) {tl : TO} (hl : EvO tl σ H (some (i : Int))) : EvL (tSl (rSlL K) te tl tNoPart) σ H (nL (t.drop i)) := by
  have := el_sl (K := K) h hl eo_none ha
  rw [cut_lo, nL_drop] at this
  exact this
def headFold (l : Lay) (T : TS) (j : Nat) : List Nat := (T.slots.take j).foldl (fun n s => n ++ slotNums l s) T.pres.tail
def sp_checkpoint_numbers (K : PySem.W.Frag) : Sp := fun vs H Q _ => ∃ (A : Ad) (l : Lay) (L : Lg), vs = [.ref A.lg] ∧ LogAt K H A l L ∧ Wf l L.T ∧ L.T.queue.length ≤ l.seg ∧ RetL (nL (ckNums l L.T)) H Q
abbrev nm_checkpoint_numbers : List Str := ["log", "layout", "numbers", "slot"]
theorem sc_checkpoint_numbers : FnScope nm_checkpoint_numbers ["log"] (defScope s_checkpoint_numbers) := ⟨rfl, rfl, rfl, by decide +kernel, rfl, by decide +kernel, by decide +kernel⟩
theorem ok_checkpoint_numbers (T : Ctx K mg base) : Okd P w K mg base 1 (He.ga K "checkpoint_numbers") ["log"] (sp_checkpoint_numbers K) := by
  obtain ⟨fd, F⟩ := T.def_checkpoint_numbers
  have b : Binds K fd ["log"] [] := FunD.bindsN F fun _ _ _ _ _ _ us hl => match us, hl with | [_], _ => rfl
  refine ⟨fd, FunD.ok F sc_checkpoint_numbers (fun vs H Q E h => ?_) (fun cdv A outer s H vs Q E hr h => ?_), b, F.kp⟩
  · obtain ⟨A, l, L, rfl, _⟩ := h
    rfl
  · obtain ⟨A, l, L, rfl, h, wf, hql, k⟩ := h
    refine ⟨_, PSs.nox (pss_cons (ps_set (i := 1) sc_checkpoint_numbers.nd rfl (Or.inl rfl) (pe_fld (pv 0) rfl))
      (pss_cons (ps_set (i := 2) sc_checkpoint_numbers.nd rfl (Or.inl rfl) (pe_slice sl_list (pe_fld (pv 0) rfl) (po_some pe_int) po_none))
      (pss_cons (ps_for PassesOwn.never rfl (pi_list (pe_fld (pv 0) rfl)) (pg_name (i := 3) sc_checkpoint_numbers.nd rfl (Or.inl rfl)) (pss_one (ps_if (pt_cmp (pc_isN (pv 3)) rfl) (pss_one (ps_set (i := 2) sc_checkpoint_numbers.nd rfl (Or.inl rfl) (pe_op op_cat (pv 2) (pe_op op_rep (pe_lst (pa_cons pe_int pa_nil)) (pe_op op_add (pe_fld (pv 1) rfl) pe_int))))) (pss_one (ps_set (i := 2) sc_checkpoint_numbers.nd rfl (Or.inl rfl) (pe_op op_cat (pe_op op_cat (pv 2) (pe_lst (pa_cons pe_int pa_nil))) (pe_slice sl_list (pv 3) (po_some pe_int) po_none)))))))
      (pss_cons (ps_set (i := 2) sc_checkpoint_numbers.nd rfl (Or.inl rfl) (pe_op op_cat (pe_op op_cat (pv 2) (pe_lst (pa_cons (pe_fld (pv 0) rfl) (pa_cons (pe_fld (pv 0) rfl) (pa_cons (pe_callB call_len_seq (by rfl) T.free_len PySem.boot_len (pa_cons (pe_fld (pv 0) rfl) pa_nil)) pa_nil))))) (pe_fld (pv 0) rfl)))
      (pss_one (ps_ret (pe_op op_cat (pv 2) (pe_op op_rep (pe_lst (pa_cons pe_int pa_nil)) (pe_op op_sub (pe_op op_mul (pe_fld (pv 1) rfl) (pe_fld (pv 1) rfl)) (pe_callB call_len_seq (by rfl) T.free_len PySem.boot_len (pa_cons (pv 2) pa_nil))))))))))), ?_⟩
    have lo := h.dev.la.1
    have hl1 := lo.last1
    have hrb := lo.rb1
    have hbs := lo.bs1
    have hs2 := lo.s2
    have hrf0 := lo.rb_fan
    refine q_asg (lv_layout T h (ev_var rfl)) fun H1 e1 => ?_
    have h1 := h.mono e1
    refine q_asgL (el_lo 1 (lv_present T h1 (ev_var rfl)) (sq_of h1.pr.1) (eo_some ev_c)) fun p H2 hp e2 h2 => ?_
    have E2 := e1.trans e2
    obtain ⟨vs, s1, s2, s3⟩ := h.sl
    have hvl : vs.length = 3 := by rw [s2.1, wf.ls]
    have hgrow : ∀ j, j ≤ 3 → (headFold l L.T j).length = l.last + j * (l.last + 1) := by
      intro j
      induction j with
      | zero =>
        intro _
        show L.T.pres.tail.length = _
        rw [List.length_tail, wf.lp]
        omega
      | succ j ih =>
        intro hj
        have hlt : j < L.T.slots.length := by rw [wf.ls]; omega
        unfold headFold
        rw [take_snoc (List.getElem?_eq_getElem hlt), List.foldl_append]
        show (headFold l L.T j ++ slotNums l _).length = _
        rw [List.length_append, ih (by omega)]
        have : (slotNums l L.T.slots[j]).length = l.last + 1 := by
          cases e : L.T.slots[j] with
          | none => simp [slotNums]
          | some t =>
            have := wf.lt t (by rw [← e]; exact List.getElem_mem hlt)
            simp [slotNums, this]
        rw [this, Nat.add_mul]
        omega
    refine q_forLn (a := A.sl) (xs := vs) (lv_slots T (h.mono E2) (ev_var rfl)) (sq_of (E2 _ _ s1)) (fun j σ' H' => ∃ q y, σ' = [some (.ref A.lg), some (.ref A.la), some (.ref q), y] ∧ Ex H H' ∧ H' q = some (.lst (nL (headFold l L.T j))))
      (fun H3 e3 => ⟨p, none, rfl, E2.trans e3, by rw [e3 _ _ h2, List.drop_one]; rfl⟩) (fun j σ' H' _ ⟨_, _, _, e, _⟩ => sq_of (e _ _ s1)) ?_ ?_
    · rintro j x σ' H' hj ⟨q, y, rfl, e, hq⟩
      obtain ⟨o, ho, hs⟩ := s2.get' hj
      have jl := (List.getElem?_eq_some_iff.mp ho).1
      have hnum : headFold l L.T (j + 1) = headFold l L.T j ++ slotNums l o := by
        unfold headFold
        rw [take_snoc ho, List.foldl_append]
        rfl
      have hlen := hgrow j (by rw [wf.ls] at jl; omega)
      have hb3 : j * (l.last + 1) ≤ 3 * (l.last + 1) := Nat.mul_le_mul_right _ (by rw [wf.ls] at jl; omega)
      have hla := (h.mono e).dev.la
      cases o with
      | none =>
        obtain rfl : x = .non := hs
        refine s_if (b := true) (et_is (et_isN (ev_var rfl)) rfl) (fun _ H3 e3 => ?_) (fun z => by cases z)
        refine s_asgL (el_cat (xs := nL (headFold l L.T j)) (ys := List.replicate (l.last + 1) (.int 0)) (Ev.x (ev_var rfl) (e3 _ _ hq)) (EvL.x (el_rep (n := l.last + 1) (el_lst (ea_cons ev_c ea_nil) (Nat.le_of_ble_eq_true rfl)) (fun H4 e4 => ev_op (yv_last_id T ((hla.mono e3).mono e4) (ev_var rfl)) ev_c rv_I0) (by omega))) (by rw [nL_len, List.length_replicate]; omega)) fun q2 H4 _ e4 h4 => ?_
        refine ⟨q2, _, rfl, e.trans (e3.trans e4), ?_⟩
        rw [h4, hnum, nL_app]
        show _ = some (HO.lst (_ ++ nL (List.replicate (l.last + 1) 0)))
        rw [nL_repl]
        rfl
      | some t =>
        obtain ⟨a, rfl, ha, _⟩ := hs
        have ht := wf.lt t (List.mem_of_getElem? ho)
        refine s_if (b := false) (et_is (et_isN (ev_var rfl)) rfl) (fun z => by cases z) (fun _ H3 e3 => ?_)
        refine s_asgL (el_cat (xs := nL (headFold l L.T j) ++ [.int 1]) (ys := nL (t.drop 1)) (EvL.x (el_cat (Ev.x (ev_var rfl) (e3 _ _ hq)) (EvL.x (el_lst (ea_cons ev_c ea_nil) (Nat.le_of_ble_eq_true rfl))) (by rw [nL_len]; simp; omega))) (EvL.x (el_lo 1 (ev_var rfl) (sq_of (e3 _ _ (e _ _ ha))) (eo_some ev_c))) (by rw [List.length_append, nL_len, nL_len]; simp; omega)) fun q2 H4 _ e4 h4 => ?_
        refine ⟨q2, _, rfl, e.trans (e3.trans e4), ?_⟩
        rw [h4, hnum, nL_app, List.append_assoc]
        congr 3
        show .int 1 :: nL (t.drop 1) = nL (1 :: t.tail)
        rw [List.drop_one]
        rfl
    · rintro σ' H' ⟨q, y, rfl, e, hq⟩
      rw [hvl] at hq
      have hlen := hgrow 3 (Nat.le_refl _)
      have hla := (h.mono e).dev.la
      have hf : headFold l L.T 3 = L.T.slots.foldl (fun n s => n ++ slotNums l s) L.T.pres.tail := by
        unfold headFold
        rw [List.take_of_length_le (by rw [wf.ls]; exact Nat.le_refl _)]
      have h' := h.mono e
      have hck : ckHead l L.T = headFold l L.T 3 ++ [L.T.head, L.T.place, L.T.queue.length] ++ L.T.queue := by unfold ckHead; rw [hf]
      have hcke : (ckHead l L.T).length = 4 * l.last + 6 + L.T.queue.length := by
        rw [hck, List.length_append, List.length_append, hlen]
        simp
        omega
      have hnum : l.nums = 4 * l.last + 6 + l.seg := rfl
      have hckl : (ckHead l L.T).length ≤ 5000 := by
        rw [hcke]
        omega
      refine q_asgL (el_cat (xs := nL (headFold l L.T 3) ++ nL [L.T.head, L.T.place, L.T.queue.length]) (ys := nL L.T.queue) (EvL.x (el_cat (Ev.x (ev_var rfl) hq) (EvL.x (el_lst (ea_cons (lv_head T h' (ev_var rfl)) (ea_cons (lv_place T h' (ev_var rfl)) (ea_cons (ev_is (ev_len (lv_queue T h' (ev_var rfl)) (sq_of h'.qu.1)) (by rw [nL_len])) ea_nil))) (Nat.le_of_ble_eq_true rfl))) (by rw [nL_len]; simp; omega))) (Ev.x (lv_queue T h' (ev_var rfl)) h'.qu.1) (by rw [List.length_append, nL_len, nL_len, nL_len]; simp; omega)) fun q2 H3 _ e3 h3 => ?_
      have hq2 : H3 q2 = some (.lst (nL (ckHead l L.T))) := by rw [h3, hck, nL_app, nL_app]
      have hrf : l.rb * l.fan ≤ 59 * 128 := Nat.mul_le_mul hrb.2 (by omega)
      refine s_retL (el_cat (xs := nL (ckHead l L.T)) (ys := List.replicate (l.rb * l.fan - (ckHead l L.T).length) (.int 0)) (Ev.x (ev_var rfl) hq2) (EvL.x (?_)) (by rw [nL_len, List.length_replicate]; omega)) fun r H4 hr4 e4 h4 => k r H4 (fresh_back (e.trans e3) hr4) ((e.trans e3).trans e4) ?_
      · refine el_rep (n := l.rb * l.fan - (ckHead l L.T).length) (el_lst (ea_cons ev_c ea_nil) (Nat.le_of_ble_eq_true rfl)) (fun H4 e4 => ev_is (ev_op (ev_op (yv_region_blocks T (hla.mono (e3.trans e4)) (ev_var rfl)) (yv_fan T (hla.mono (e3.trans e4)) (ev_var rfl)) (rv_I (.inl ⟨by omega, by omega⟩))) (ev_len (ev_var rfl) (sq_of (e4 _ _ hq2))) rv_I0) (nv_eq ?_)) (by omega)
        rw [nL_len, ← Int.natCast_mul]
        omega
      · rw [h4]
        unfold ckNums
        rw [nL_app, nL_repl]
        rfl
end
end Sg

set_option maxHeartbeats 4000000
namespace Sg
open PySem PySem.Spec PyProof.Rows L2 Evl
section
variable {P : Program} {w : World} {K : PySem.W.Frag} {mg : Str → Option Value} {base : Heap}
/-! ### write_checkpoint -/
theorem el_lh {σ : L2.St} {H : Hp} {te : TE} {a : Addr} {t : List Nat} (i j : Nat) (h : Ev te σ H (.ref a)) (ha : SqL K H a (nL t)) {tl th : TO} (hl : EvO tl σ H (some (i : Int))) (hh : EvO th σ H (some (j : Int))) : EvL (tSl (rSlL K) te tl th) σ H (nL ((t.drop i).take (j - i))) := by
  have := el_sl (K := K) h hl hh ha
  rw [cut_lh, nL_drop, nL_take] at this
  exact this
def sp_write_checkpoint (K : PySem.W.Frag) : Sp := fun vs H Q _ => ∃ (A : Ad) (l : Lay) (L : Lg), vs = [.ref A.lg] ∧ LogAt K H A l L ∧ GoodT l L.T ∧ L.reg ≤ 1 ∧ (∀ x ∈ L.wait, x.1 < l.db) ∧ L.seen = applyW L.sure L.wait ∧ Gives K H A l (ckL l L) .non Q
abbrev nm_write_checkpoint : List Str := ["log", "layout", "sequence", "numbers", "start", "rank", "part"]
theorem sc_write_checkpoint : FnScope nm_write_checkpoint ["log"] (defScope s_write_checkpoint) := ⟨rfl, rfl, rfl, by decide +kernel, rfl, by decide +kernel, by decide +kernel⟩
theorem ckW_get {l : Lay} {T : TS} {reg seq r : Nat} (h : r < l.rb) : (ckW l T reg seq)[r]? = some (reg * l.rb + r, ckB l T seq r) := by
  unfold ckW
  rw [List.getElem?_map, List.getElem?_range h]
  rfl
theorem ok_write_checkpoint (T : Ctx K mg base) : Okd P w K mg base 3 (He.ga K "write_checkpoint") ["log"] (sp_write_checkpoint K) := by
  obtain ⟨fd, F⟩ := T.def_write_checkpoint
  have b : Binds K fd ["log"] [] := FunD.bindsN F fun _ _ _ _ _ _ us hl => match us, hl with | [_], _ => rfl
  obtain ⟨fd_checkpoint_numbers, G_checkpoint_numbers, b_checkpoint_numbers, k_checkpoint_numbers⟩ := ok_checkpoint_numbers (P := P) (w := w) T
  obtain ⟨fd_extended_queue, G_extended_queue, b_extended_queue, k_extended_queue⟩ := ok_extended_queue (P := P) (w := w) T
  obtain ⟨fd_next_sequence, G_next_sequence, b_next_sequence, k_next_sequence⟩ := ok_next_sequence (P := P) (w := w) T
  obtain ⟨fd_region_start, G_region_start, b_region_start, k_region_start⟩ := ok_region_start (P := P) (w := w) T
  obtain ⟨fd_barrier, G_Device_barrier, b_Device_barrier, k_Device_barrier⟩ := ok_Device_barrier (P := P) (w := w) T
  obtain ⟨fd_write, G_Device_write, b_Device_write, k_Device_write⟩ := ok_Device_write (P := P) (w := w) T
  obtain ⟨tPART, hPART⟩ := T.int_PART
  refine ⟨fd, FunD.ok F sc_write_checkpoint (fun vs H Q E h => ?_) (fun cdv A outer s H vs Q E hr h => ?_), b, F.kp⟩
  · obtain ⟨A, l, L, rfl, _⟩ := h
    rfl
  · obtain ⟨A, l, L, rfl, h, g, hreg, hw, hsw, k⟩ := h
    refine ⟨_, PSs.nox (pss_cons (ps_set (i := 1) sc_write_checkpoint.nd rfl (Or.inl rfl) (pe_fld (pv 0) rfl))
      (pss_cons (ps_expr (pe_meth0 (pe_fld (pv 0) rfl) T.cls_Device T.m_Device_barrier G_Device_barrier (hr.mono (by decide)) b_Device_barrier .nil pass0))
      (pss_cons (ps_fld (pv 0) (pe_call G_extended_queue (hr.mono (by decide)) rfl T.glo_extended_queue k_extended_queue b_extended_queue .nil pass0 (pa_cons (pv 0) pa_nil)) rfl)
      (pss_cons (ps_fld (pv 0) (pe_op op_sub pe_int (pe_fld (pv 0) rfl)) rfl)
      (pss_cons (ps_set (i := 2) sc_write_checkpoint.nd rfl (Or.inl rfl) (pe_call G_next_sequence (hr.mono (by decide)) rfl T.glo_next_sequence k_next_sequence b_next_sequence .nil pass0 (pa_cons (pv 0) pa_nil)))
      (pss_cons (ps_set (i := 3) sc_write_checkpoint.nd rfl (Or.inl rfl) (pe_call G_checkpoint_numbers (hr.mono (by decide)) rfl T.glo_checkpoint_numbers k_checkpoint_numbers b_checkpoint_numbers .nil pass0 (pa_cons (pv 0) pa_nil)))
      (pss_cons (ps_set (i := 4) sc_write_checkpoint.nd rfl (Or.inl rfl) (pe_call G_region_start (hr.mono (by decide)) rfl T.glo_region_start k_region_start b_region_start .nil pass0 (pa_cons (pv 1) (pa_cons (pe_fld (pv 0) rfl) pa_nil))))
      (pss_cons (ps_for PassesOwn.never rfl (pi_range1 rfl T.free_range (pa_cons (pe_fld (pv 1) rfl) pa_nil)) (pg_name (i := 5) sc_write_checkpoint.nd rfl (Or.inl rfl)) (pss_cons (ps_set (i := 6) sc_write_checkpoint.nd rfl (Or.inl rfl) (pe_callTy call_tuple_of (by rfl) T.free_tuple (by decide +kernel) (pa_cons (pe_slice sl_list (pv 3) (po_some (pe_op op_mul (pv 5) (pe_fld (pv 1) rfl))) (po_some (pe_op op_mul (pe_op op_add (pv 5) pe_int) (pe_fld (pv 1) rfl)))) pa_nil)))
      (pss_one (ps_expr (pe_meth (pe_fld (pv 0) rfl) T.cls_Device T.m_Device_write G_Device_write (hr.mono (by decide)) b_Device_write .nil pass0 (pa_cons (pe_op op_add (pv 4) (pv 5)) (pa_cons (pe_tup (pa_cons (pe_glob (v := .int 5) rfl hPART ⟨_, rfl⟩) (pa_cons (pv 2) (pa_cons (pv 5) (pa_cons (pv 6) pa_nil))))) pa_nil)))))))
      (pss_cons (ps_expr (pe_meth0 (pe_fld (pv 0) rfl) T.cls_Device T.m_Device_barrier G_Device_barrier (hr.mono (by decide)) b_Device_barrier .nil pass0))
      (pss_cons (ps_fld (pe_fld (pv 0) rfl) (pe_op op_add (pe_fld (pe_fld (pv 0) rfl) rfl) pe_int) rfl)
      (pss_cons (ps_fld (pe_fld (pv 0) rfl) (pe_op op_add (pe_fld (pe_fld (pv 0) rfl) rfl) (pe_fld (pv 1) rfl)) rfl)
      (pss_one (ps_fld (pe_fld (pv 0) rfl) (pe_op op_add (pe_fld (pe_fld (pv 0) rfl) rfl) pe_int) rfl))))))))))))), ?_⟩
    have lo := h.dev.la.1
    have hrb := lo.rb1
    have hbs := lo.bs1
    refine q_asg (lv_layout T h (ev_var rfl)) fun H1 e1 => ?_
    have h1 := h.mono e1
    refine q_logBarrier h1 (lv_device T h1 (ev_var rfl)) hw fun H2 w2 ev2 h2 => ?_
    have h2 : LogAt K H2 (A.at_ w2 A.pr A.sl A.qu) l ⟨L.seen, L.seen, [], L.T, L.lseq, L.reg⟩ := by
      rw [← hsw] at h2
      exact h2
    refine q_lgQueue T (qs := extQ l L.T) h2 (el_call2 (ea_cons (ev_var rfl) ea_nil) fun H3 e3 Q E q => ⟨A.at_ w2 A.pr A.sl A.qu, l, _, rfl, h2.mono e3, g, q⟩) (fun _ _ => ev_var rfl) fun H3 p3 ev3 h3 => ?_
    have h3 : LogAt K H3 (A.at_ w2 A.pr A.sl p3) l ⟨L.seen, L.seen, [], ckT l L.T, L.lseq, L.reg⟩ := h3
    have ev3 : Evo H2 (A.at_ w2 A.pr A.sl A.qu) H3 (A.at_ w2 A.pr A.sl p3) := ev3
    refine q_lgReg T (n := 1 - L.reg) h3 (ev_is (ev_op ev_c (lv_region T h3 (ev_var rfl)) rv_I0) (nv_eq (by show (1 : Int) - (L.reg : Int) = _; omega))) (fun _ _ => ev_var rfl) fun H4 ev4 h4 => ?_
    have h4 : LogAt K H4 (A.at_ w2 A.pr A.sl p3) l ⟨L.seen, L.seen, [], ckT l L.T, L.lseq, 1 - L.reg⟩ := h4
    refine q_asgC (ea_cons (ev_var rfl) ea_nil) fun H5 e5 => ⟨A.at_ w2 A.pr A.sl p3, l, _, rfl, h4.mono e5, fun H6 ev6 h6 => ?_⟩
    have h6 : LogAt K H6 (A.at_ w2 A.pr A.sl p3) l ⟨L.seen, L.seen, [], ckT l L.T, L.lseq + 1, 1 - L.reg⟩ := h6
    have gk : GoodT l (ckT l L.T) := ck_good g
    have gq := gk.qlen
    have evA := (((Evo.ex e1).trans ev2).trans ev3).trans (ev4.trans ((Evo.ex e5).trans ev6))
    refine q_asgL (el_call2 (xs := nL (ckNums l (ckT l L.T))) (ea_cons (ev_var rfl) ea_nil) fun H7 e7 Q E q => ⟨A.at_ w2 A.pr A.sl p3, l, _, rfl, h6.mono e7, gk.wf, (by show (ckT l L.T).queue.length ≤ _; omega), q⟩) fun pn H7 hpn e7 h7n => ?_
    have h7 := h6.mono e7
    have hpo := h6.new hpn
    refine q_asg (ev_reg (l := l) (r := 1 - L.reg) h7.dev.la (by omega) (ea_cons (ev_var rfl) (ea_cons (ev_is (lv_region T h7 (ev_var rfl)) rfl) ea_nil))) fun H8 e8 => ?_
    have h8 := h7.mono e8
    have ev8 := evA.trans (Evo.ex (e7.trans e8))
    have hbound : ∀ r, r < l.rb → (1 - L.reg) * l.rb + r < l.db := fun r hr => by
      have : (1 - L.reg) * l.rb ≤ 1 * l.rb := Nat.mul_le_mul_right _ (by omega)
      unfold Lay.db
      omega
    have Evi : ∀ {H' : Hp}, Evo H7 (A.at_ w2 A.pr A.sl p3) H' (A.at_ w2 A.pr A.sl p3) → H' pn = some (.lst (nL (ckNums l (ckT l L.T)))) := fun e => e.kp _ _ h7n hpo
    refine q_forR1 (n := (l.rb : Int)) (ea_cons (yv_region_blocks T h8.dev.la (ev_var rfl)) ea_nil) (by omega) (fun j σ' H' => ∃ x y, σ' = [some (.ref A.lg), some (.ref A.la), some (nV (L.lseq + 1)), some (.ref pn), some (nV ((1 - L.reg) * l.rb)), x, y] ∧ Evo H7 (A.at_ w2 A.pr A.sl p3) H' (A.at_ w2 A.pr A.sl p3) ∧
        LogAt K H' (A.at_ w2 A.pr A.sl p3) l ⟨L.seen, applyW L.seen ((ckW l (ckT l L.T) (1 - L.reg) (L.lseq + 1)).take j), (ckW l (ckT l L.T) (1 - L.reg) (L.lseq + 1)).take j, ckT l L.T, L.lseq + 1, 1 - L.reg⟩)
      (fun H9 e9 => ⟨none, none, rfl, Evo.ex (e8.trans e9), ?_⟩) ?_ ?_
    · exact h8.mono e9
    · rintro j σ' H' hj ⟨x, y, rfl, ev, hL⟩
      have hjr : j < l.rb := by omega
      refine q_asgU (eu_tupleN (el_lh (j * l.fan) ((j + 1) * l.fan) (ev_var rfl) (sq_of (Evi ev)) (eo_some (ev_is (ev_op (ev_var rfl) (yv_fan T hL.dev.la (ev_var rfl)) (rv_I (.inl ⟨by omega, by omega⟩))) (nv_eq (by rw [Int.natCast_mul])))) (eo_some (ev_is (ev_op (ev_op (ev_var rfl) ev_c rv_I0) (yv_fan T hL.dev.la (ev_var rfl)) (rv_I (.inl ⟨by omega, by omega⟩))) (nv_eq (by rw [Int.natCast_mul]; rfl)))))) fun q H9 hq e9 h9 => ?_
      have hL9 := hL.mono e9
      have hsl : (j + 1) * l.fan - j * l.fan = l.fan := by rw [Nat.add_mul]; omega
      rw [hsl] at h9
      refine s_logWrite (ad := (1 - L.reg) * l.rb + j) (bk := ckB l (ckT l L.T) (L.lseq + 1) j) hL9 (lv_device T hL9 (ev_var rfl)) (ep2 (ev_op (ev_var rfl) (ev_var rfl) rv_I0) (EvU.p (P := fun v H2 => BlkAt H2 v (ckB l (ckT l L.T) (L.lseq + 1) j)) (eu_tup (ea_cons ev_c (ea_cons (ev_var rfl) (ea_cons (ev_var rfl) (ea_cons (ev_var rfl) ea_nil)))) (Nat.le_of_ble_eq_true rfl)) fun t H10 ht e10 h10 => ⟨t, q, rfl, h10, e10 _ _ h9⟩)) (hbound j hjr) ?_ fun H10 ev10 h10 => ?_
      · show ((ckW l (ckT l L.T) (1 - L.reg) (L.lseq + 1)).take j).length < 90000
        rw [List.length_take]
        omega
      · refine ⟨_, _, rfl, (ev.trans (Evo.ex e9)).trans ev10, ?_⟩
        rw [take_snoc (ckW_get hjr), applyW_snoc]
        exact h10
    · rintro σ' H' ⟨x, y, rfl, ev, hL⟩
      have htk : (ckW l (ckT l L.T) (1 - L.reg) (L.lseq + 1)).take (l.rb : Int).toNat = ckW l (ckT l L.T) (1 - L.reg) (L.lseq + 1) := List.take_of_length_le (by unfold ckW; simp)
      rw [htk] at hL
      refine q_logBarrier hL (lv_device T hL (ev_var rfl)) (fun x hx => ?_) fun H9 w9 ev9 h9 => ?_
      · obtain ⟨r, hr, rfl⟩ := List.mem_map.mp hx
        exact hbound r (List.mem_range.mp hr)
      · refine q_cnt (tv := fun _ => tC .non) T T.na_Counts_checkpoints h9 (fun H5 e5 => lv_counts T (h9.mono e5) (ev_var rfl)) cf5 (fun m hm => ⟨_, ev_op hm ev_c rv_I0⟩) fun H10 ev10 h10 => ?_
        refine q_cnt (tv := fun _ => tC .non) T T.na_Counts_checkpoint_blocks h10 (fun H5 e5 => lv_counts T (h10.mono e5) (ev_var rfl)) cf6 (fun m hm => ⟨_, ev_op hm (yv_region_blocks T h10.dev.la (ev_var rfl)) rv_I0⟩) fun H11 ev11 h11 => ?_
        refine s_cnt T T.na_Counts_barriers h11 (fun H5 e5 => lv_counts T (h11.mono e5) (ev_var rfl)) cf7 (fun m hm => ⟨_, ev_op hm ev_c rv_I0⟩) fun H12 ev12 h12 => ?_
        exact k H12 w9 A.pr A.sl p3 ((((evA.trans (Evo.ex e7)).trans ev).trans ev9).trans (ev10.trans (ev11.trans ev12))) h12
end
end Sg

set_option maxHeartbeats 4000000
/-! rules of our own: an enumerate over a list, kept in a name, walked later -/
namespace Sg
open PySem PySem.Spec PyProof.Rows L2 Evl
def EnO (e it : Addr) : HO := .ext fun h => IsEnum h e it 0 .none
def IlO (it l : Addr) : HO := .ext fun h => h.IsListIter it l 0
theorem enO_ok {P : Program} {w : World} {H : Hp} {h : Heap} {e it : Addr} (x : IsEnum h e it 0 .none) : ObjOk P w H h e (EnO e it) := ⟨x, ⟨_, x⟩, fun h1 h2 q k => k _ q⟩
theorem ilO_ok {P : Program} {w : World} {H : Hp} {h : Heap} {l it : Addr} (x : h.IsListIter it l 0) : ObjOk P w H h it (IlO it l) := ⟨x, let ⟨o, q, _⟩ := x; ⟨o, q⟩, fun h1 h2 q k => let ⟨o, q1, q2, q3⟩ := q; ⟨o, k _ q1, q2, q3⟩⟩
def rEnumN (K : PySem.W.Frag) (n : Nat) : List V → Hp → VK → Prop := fun xs H Q => ∃ (l : Addr) (zs : List V), xs = [.ref l] ∧ SqL K H l zs ∧ ∀ e it, H e = none → H it = none → e ≠ it → n ≤ e → n ≤ it → Q (.ref e) (upd (upd H it (IlO it l)) e (EnO e it))
section
variable {X : Cx}
theorem call_enumN : CallR X (.type "enumerate") (rEnumN X.K X.s_0.heap.objs.size) := by
  intro pins s σ H xs us Q I r h
  obtain ⟨l, zs, rfl, hq, q⟩ := h
  obtain ⟨u, rfl, ru⟩ := vals1 r
  cases ru
  obtain ⟨its, rv, pl, hz⟩ := I.list hq
  refine call_enumerate_list pl.isList fun h' x1 x2 hsz hk => ?_
  have n0 := I.hok.fresh (Nat.le_refl s.heap.objs.size)
  have n1 := I.hok.fresh (Nat.le_succ s.heap.objs.size)
  have ne : s.heap.objs.size + 1 ≠ s.heap.objs.size := Nat.succ_ne_self _
  have n1' : (upd H s.heap.objs.size (IlO s.heap.objs.size l)) (s.heap.objs.size + 1) = none := by rw [upd_ne ne]; exact n1
  have un : Un X.fs [] H (upd (upd H s.heap.objs.size (IlO s.heap.objs.size l)) (s.heap.objs.size + 1) (EnO (s.heap.objs.size + 1) s.heap.objs.size)) s.heap h' :=
    Un.trans (Un.laid (fun _ _ q => q) (Nat.le_refl _) n0) (Un.laid hk (Nat.le_succ _) n1')
  have ok1 : HOk X.prog X.w (upd H s.heap.objs.size (IlO s.heap.objs.size l)) h' := I.hok.laid hk (Nat.le_refl _) (ilO_ok x2)
  have ok2 : HOk X.prog X.w (upd (upd H s.heap.objs.size (IlO s.heap.objs.size l)) (s.heap.objs.size + 1) (EnO (s.heap.objs.size + 1) s.heap.objs.size)) h' := fun b u e => by
    by_cases hb : b = s.heap.objs.size + 1
    · rw [hb, upd_same] at e
      injection e with e
      rw [hb, ← e]
      exact enO_ok x1
    · rw [upd_ne hb] at e
      exact (ok1 b u e).stay (fun _ _ _ z => z) (fun c q => by rw [upd_ne (ne_of_none q n1')]; exact q) fun c xs q => by rw [upd_ne (ne_of_none q n1')]; exact q
  exact ⟨.ref (s.heap.objs.size + 1), _, I.un (t' := s.toks) un ok2, rfl, q _ _ n1 n0 ne (Nat.le_trans I.sz (Nat.le_succ _)) I.sz⟩
/-- behind it both are forgotten -/
def iEnv (K : PySem.W.Frag) (n : Nat) (k : Nat) : TI := fun σ H R => ∃ (e it l : Addr), σ[k]? = some (some (.ref e)) ∧ H e = some (EnO e it) ∧ H it = some (IlO it l) ∧ e ≠ it ∧ n ≤ e ∧ n ≤ it ∧ R (Ite K l) (ItX.dropH (ItX.dropH H e) it)
theorem pi_env {k : Nat} {x : Str} {p tpos : Pos} {elts : List Expr} {kk : Nat} (hN : X.N[k]? = some x) (hv : Vis X.env.scope x) (hd : (x == ("__debug__" : Str)) = false := by decide) (hcd : (x == ("__classdict__" : Str)) = false := by decide) :
    PI X (.Tuple elts kk tpos) (.Name x p) (iEnv X.K X.s_0.heap.objs.size k) := by
  refine ⟨fun pins s σ H R I h => ?_⟩
  obtain ⟨e, it, l, hs, he, hi, hne, hn1, hn2, q⟩ := h
  refine thn ((pe_var (pos := p) (i := k) hN hv hd hcd).run pins s σ H (fun v H1 => v = .ref e ∧ H1 = H) I ⟨.ref e, hs, rfl, rfl⟩) fun u s1 ⟨v, H1, I1, r1, ev, eH⟩ => ?_
  subst ev
  rw [eH] at I1
  cases r1
  have x1 : IsEnum s1.heap e it 0 .none := (I1.hok e _ he).1
  have x2 : s1.heap.IsListIter it l 0 := (I1.hok it _ hi).1
  refine wpAny_pyIter_enum x1 ?_
  have he' : H e = some (.ext fun h => IsEnum h e it 0 .none) := he
  have hi1 : ItX.dropH H e it = some (.ext fun h => h.IsListIter it l 0) := by
    rw [ItX.dropH_ne (Ne.symm hne)]
    exact hi
  have I2 := ItX.inv_drop I1 he'
  have I3 := ItX.inv_drop I2 hi1
  refine ⟨e, [e, it], _, _, _, rfl, I3, turn_enum l e it, ⟨⟨.none, x1⟩, x2, hne⟩, fun b hb => ?_, q⟩
  have e' : b = e ∨ b = it := by simpa using hb
  rcases e' with z | z
  · rw [z]
    obtain ⟨f0, f⟩ := ItX.inv_fp I1 he hn1
    refine ⟨?_, f⟩
    rw [ItX.dropH_ne hne]
    exact f0
  · rw [z]
    exact ItX.inv_fp I2 hi1 hn2
end
end Sg

set_option maxHeartbeats 4000000
namespace Sg
open PySem PySem.Spec PyProof.Rows L2 Evl
section
variable {P : Program} {w : World} {K : PySem.W.Frag} {mg : Str → Option Value} {base : Heap}
/-! ### live_counts -/
def cntTo (l : Lay) (as : List Nat) : List Nat := (List.range l.seg).map fun s => (as.filter fun a => decide (l.sg a = s)).length
theorem cntTo_get {l : Lay} {as : List Nat} {s : Nat} (h : s < l.seg) : (cntTo l as)[s]? = some (as.filter fun a => decide (l.sg a = s)).length := by
  unfold cntTo
  rw [List.getElem?_map, List.getElem?_range h]
  rfl
theorem cntTo_snoc {l : Lay} {as : List Nat} {a : Nat} (h : l.sg a < l.seg) : cntTo l (as ++ [a]) = (cntTo l as).set (l.sg a) ((as.filter fun b => decide (l.sg b = l.sg a)).length + 1) := by
  refine List.ext_getElem? fun s => ?_
  have hl : ∀ bs, (cntTo l bs).length = l.seg := fun bs => by unfold cntTo; simp
  by_cases hs : s < l.seg
  · rw [cntTo_get hs, List.filter_append, List.length_append]
    by_cases e : l.sg a = s
    · rw [← e, List.getElem?_set_self (by rw [hl]; exact h)]
      simp
    · rw [List.getElem?_set_ne e, cntTo_get hs]
      simp [e]
  · rw [List.getElem?_eq_none (by rw [hl]; omega), List.getElem?_eq_none (by rw [List.length_set, hl]; omega)]
theorem GoodT.sgl {l : Lay} {T : TS} (o : l.Ok) (g : GoodT l T) {a : Nat} (h : isLive T a) : l.sg a < l.seg := by
  obtain ⟨h1, h2, _⟩ := g.lv a h
  exact Lay.sg_lt o h1 h2
def sp_live_counts (K : PySem.W.Frag) : Sp := fun vs H Q _ => ∃ (A : Ad) (l : Lay) (L : Lg), vs = [.ref A.lg] ∧ LogAt K H A l L ∧ GoodT l L.T ∧ RetL (nL ((List.range l.seg).map (cnt l L.T))) H Q
abbrev nm_live_counts : List Str := ["log", "counts", "address", "segment"]
theorem sc_live_counts : FnScope nm_live_counts ["log"] (defScope s_live_counts) := ⟨rfl, rfl, rfl, by decide +kernel, rfl, by decide +kernel, by decide +kernel⟩
theorem ok_live_counts (T : Ctx K mg base) : Okd P w K mg base 2 (He.ga K "live_counts") ["log"] (sp_live_counts K) := by
  obtain ⟨fd, F⟩ := T.def_live_counts
  have b : Binds K fd ["log"] [] := FunD.bindsN F fun _ _ _ _ _ _ us hl => match us, hl with | [_], _ => rfl
  obtain ⟨fd_live_addresses, G_live_addresses, b_live_addresses, k_live_addresses⟩ := ok_live_addresses (P := P) (w := w) T
  obtain ⟨fd_segment_of, G_segment_of, b_segment_of, k_segment_of⟩ := ok_segment_of (P := P) (w := w) T
  refine ⟨fd, FunD.ok F sc_live_counts (fun vs H Q E h => ?_) (fun cdv A outer s H vs Q E hr h => ?_), b, F.kp⟩
  · obtain ⟨A, l, L, rfl, _⟩ := h
    rfl
  · obtain ⟨A, l, L, rfl, h, g, k⟩ := h
    refine ⟨_, PSs.nox (pss_cons (ps_set (i := 1) sc_live_counts.nd rfl (Or.inl rfl) (pe_op op_rep (pe_lst (pa_cons pe_int pa_nil)) (pe_fld (pe_fld (pv 0) rfl) rfl)))
      (pss_cons (ps_for PassesOwn.never rfl (pi_list (pe_call G_live_addresses (hr.mono (by decide)) rfl T.glo_live_addresses k_live_addresses b_live_addresses .nil pass0 (pa_cons (pv 0) pa_nil))) (pg_name (i := 2) sc_live_counts.nd rfl (Or.inl rfl)) (pss_cons (ps_set (i := 3) sc_live_counts.nd rfl (Or.inl rfl) (pe_call G_segment_of (hr.mono (by decide)) rfl T.glo_segment_of k_segment_of b_segment_of .nil pass0 (pa_cons (pe_fld (pv 0) rfl) (pa_cons (pv 2) pa_nil))))
      (pss_one (ps_if (pt_cmp (pc_notN (pv 3)) rfl) (pss_one (ps_asg (pe_op op_add (pe_ix ix_list (pv 1) (pv 3) (fun _ _ => rfl)) pe_int) (pg_sub (pv 1) (pv 3) set_list))) pss_nil))))
      (pss_one (ps_ret (pv 1))))), ?_⟩
    have lo := h.dev.la.1
    have hs2 := lo.s2
    refine q_asgL (el_rep (n := l.seg) (el_lst (ea_cons ev_c ea_nil) (Nat.le_of_ble_eq_true rfl)) (fun H1 e1 => yv_segments T (h.mono e1).dev.la (lv_layout T (h.mono e1) (ev_var rfl))) (by omega)) fun c H1 hc e1 h1 => ?_
    refine q_forNLn (xs := nL (live l L.T)) (el_live T (h.mono e1) g (ev_var rfl)) (fun p j σ' H2 => ∃ x y, σ' = [some (.ref A.lg), some (.ref c), x, y] ∧ Ex H H2 ∧ H2 p = some (.lst (nL (live l L.T))) ∧ p ≠ c ∧ H2 c = some (.lst (nL (cntTo l ((live l L.T).take j)))))
      (fun p H2 hp e2 hp2 => ⟨none, none, rfl, e1.trans e2, hp2, (fun z => (by rw [z, h1] at hp; cases hp)), ?_⟩) (fun p j σ' H2 _ ⟨_, _, _, _, q, _⟩ => sq_of q) ?_ ?_
    · rw [e2 _ _ h1]
      congr 2
      unfold cntTo nL
      rw [List.map_map]
      have : ∀ n, List.replicate n (V.int 0) = (List.range n).map (nV ∘ fun s => (((live l L.T).take 0).filter fun a => decide (l.sg a = s)).length) := fun n => by
        refine List.ext_getElem? fun j => ?_
        rw [List.getElem?_replicate, List.getElem?_map]
        by_cases hj : j < n
        · rw [if_pos hj, List.getElem?_range hj]
          rfl
        · rw [if_neg hj, List.getElem?_eq_none (by simp; omega)]
          rfl
      exact this _
    · rintro p j x σ' H2 hj ⟨x2, y2, rfl, e2, hp, hpc, hcn⟩
      obtain ⟨a0, ha0, rfl⟩ := nL_get hj
      have hal : isLive L.T a0 := (mem_live.mp (List.mem_of_getElem? ha0)).2
      have hsg := g.sgl lo hal
      have h2 := h.mono e2
      refine q_asg (v := nV (l.sg a0)) (ev_is (ev_seg h2.dev.la (ea_cons (lv_layout T h2 (ev_var rfl)) (ea_cons (ev_var rfl) ea_nil))) (g.segV hal)) fun H3 e3 => ?_
      refine s_when (b := true) (et_is (et_notN (ev_var rfl)) rfl) (fun _ H4 e4 => ?_) (fun z => by cases z)
      have hc4 := e4 _ _ (e3 _ _ hcn)
      refine s_setL (j := l.sg a0) (v := nV ((((live l L.T).take j).filter fun b => decide (l.sg b = l.sg a0)).length + 1)) hc4 (ev_op (ev_op (ev_var rfl) (ev_var rfl) (rv_ixL (sq_of hc4) (atI_of (by rw [List.getElem?_map, cntTo_get hsg]; rfl)))) ev_c rv_I0) (ev_var rfl) (ev_var rfl) (by rw [nL_len]; unfold cntTo; simp; exact hsg) fun H5 e5 => ?_
      refine ⟨_, _, rfl, Ex.mut (e2.trans (e3.trans (e4.trans e5))) hc, ?_, hpc, ?_⟩
      · rw [upd_ne hpc]
        exact e5 _ _ (e4 _ _ (e3 _ _ hp))
      · rw [upd_same, take_snoc ha0, cntTo_snoc hsg, nL_set]
    · rintro p σ' H2 ⟨x2, y2, rfl, e2, hp, hpc, hcn⟩
      rw [nL_len, List.take_length] at hcn
      exact s_ret (ev_var rfl) fun H3 e3 => k c H3 hc (e2.trans e3) (e3 _ _ hcn)
theorem el_counts {σ : L2.St} {H : Hp} {ta : TE} {E : XK} {A : Ad} {l : Lay} {L : Lg} (h : LogAt K H A l L) (g : GoodT l L.T) (e : Ev ta σ H (.ref A.lg)) : EvL (tCall (sp_live_counts K) [] E (tCons ta tNil)) σ H (nL ((List.range l.seg).map (cnt l L.T))) :=
  el_call2 (ea_cons e ea_nil) fun H1 e1 Q E q => ⟨A, l, L, rfl, h.mono e1, g, q⟩
/-! ### candidates -/
theorem s_retLcEnv {σ : L2.St} {H : Hp} {D : Ends} {k n e it l i j : Nat} {xs : List V} {t : TT} {te : TE} {ws : List Nat} (f : Nat → Bool) (fv : Nat → V) (hs : σ[k]? = some (some (.ref e))) (he : H e = some (EnO e it)) (hi : H it = some (IlO it l)) (hne : e ≠ it) (h1 : n ≤ e) (h2 : n ≤ it)
    (hx : ∀ H1, Ex (ItX.dropH (ItX.dropH H e) it) H1 → SqL K H1 l xs) (hz : xs.length ≤ 40000) (hw : ∀ x y, wipe (((wipe σ ws).set i (some x)).set j (some y)) ws = wipe σ ws)
    (ht : ∀ (k : Nat) (x : V) H1, Ex (ItX.dropH (ItX.dropH H e) it) H1 → xs[k]? = some x → EvT t (((wipe σ ws).set i (some (V.int (k : Int)))).set j (some x)) H1 (f k)) (hv : ∀ (k : Nat) (x : V) H1, Ex (ItX.dropH (ItX.dropH H e) it) H1 → xs[k]? = some x → f k = true → Ev te (((wipe σ ws).set i (some (V.int (k : Int)))).set j (some x)) H1 (fv k))
    (q : ∀ p H2, ItX.dropH (ItX.dropH H e) it p = none → Ex (ItX.dropH (ItX.dropH H e) it) H2 → H2 p = some (.lst (given xs.length f fv)) → D.rt (.ref p) H2) : tRet (tLc (iEnv K n k) (gTup K 2 (gCons (gName i) (gCons (gName j) gNil))) t te ws) D σ H :=
  ⟨e, it, l, hs, he, hi, hne, h1, h2, fun Dl hD =>
  lc_enumL (xs := xs) (Cw (ItX.dropH (ItX.dropH H e) it) f fv Dl) ⟨hD, Ex.new hD, upd_same⟩ (fun k H' _ p => hx H' p.2.1) (fun k x H' q2 hk p hq => g_pair upd_same ⟨hw _ _, cw_turn (p := ⟨p.1, p.2.1.trans (Ex.new hq), by
      rw [upd_ne (ne_of_none p.2.2 hq)]
      exact p.2.2⟩) (by have := (List.getElem?_eq_some_iff.mp hk).1; omega) (ht k x _ (Ex.refl _) hk) (fun hf => hv k x _ (Ex.refl _) hk hf)⟩)
    (fun H' p => q Dl H' p.1 p.2.1 p.2.2)⟩
def sp_candidates (K : PySem.W.Frag) : Sp := fun vs H Q _ => ∃ (A : Ad) (l : Lay) (L : Lg), vs = [.ref A.lg] ∧ LogAt K H A l L ∧ GoodT l L.T ∧ RetL (nL (cands l L.T)) H Q
abbrev nm_candidates : List Str := ["log", "most", "rows", "segment", "live"]
theorem sc_candidates : FnScope nm_candidates ["log"] (defScope s_candidates) := ⟨rfl, rfl, rfl, by decide +kernel, rfl, by decide +kernel, by decide +kernel⟩
theorem in_nL {k : Nat} {t : List Nat} : inV (nV k) (nL t) = decide (k ∈ t) := by
  rw [Bool.eq_iff_iff, decide_eq_true_eq]
  unfold inV
  rw [List.any_eq_true]
  constructor
  · rintro ⟨x, hx, he⟩
    obtain ⟨y, hy, rfl⟩ := List.mem_map.mp hx
    have : (y : Int) = (k : Int) := by simpa [eqV] using he
    have : y = k := by omega
    rw [← this]
    exact hy
  · intro h
    exact ⟨nV k, List.mem_map.mpr ⟨k, h, rfl⟩, by simp [eqV]⟩
theorem ok_candidates (T : Ctx K mg base) : Okd P w K mg base 3 (He.ga K "candidates") ["log"] (sp_candidates K) := by
  obtain ⟨fd, F⟩ := T.def_candidates
  have b : Binds K fd ["log"] [] := FunD.bindsN F fun _ _ _ _ _ _ us hl => match us, hl with | [_], _ => rfl
  obtain ⟨fd_live_counts, G_live_counts, b_live_counts, k_live_counts⟩ := ok_live_counts (P := P) (w := w) T
  refine ⟨fd, FunD.ok F sc_candidates (fun vs H Q E h => ?_) (fun cdv A outer s H vs Q E hr h => ?_), b, F.kp⟩
  · obtain ⟨A, l, L, rfl, _⟩ := h
    rfl
  · obtain ⟨A, l, L, rfl, h, g, k⟩ := h
    refine ⟨_, PSs.nox (pss_cons (ps_set (i := 1) sc_candidates.nd rfl (Or.inr rfl) (pe_op op_sub (pe_fld (pe_fld (pv 0) rfl) rfl) pe_int))
      (pss_cons (ps_set (i := 2) sc_candidates.nd rfl (Or.inl rfl) (pe_callTy call_enumN (by rfl) T.free_enumerate (by decide +kernel) (pa_cons (pe_call G_live_counts (hr.mono (by decide)) rfl T.glo_live_counts k_live_counts b_live_counts .nil pass0 (pa_cons (pv 0) pa_nil)) pa_nil)))
      (pss_one (ps_ret (pe_lc (own := [("segment", 3), ("live", 4)]) rfl sc_candidates.nd (pi_env (k := 2) rfl (Or.inl rfl)) (blkOk_by (own := [("segment", 3), ("live", 4)]) (N := nm_candidates) (sc := defScope s_candidates) (by decide +kernel)) (fun _ _ _ _ _ => (show PG _ _ (gTup K 2 _) from pg_tup rfl (pgs_cons (pg_name (i := 3) sc_candidates.nd rfl (Or.inl rfl) (hf := .inr rfl)) (pgs_cons (pg_name (i := 4) sc_candidates.nd rfl (Or.inl rfl) (hf := .inr rfl)) pgs_nil)))) (fun _ _ _ _ _ => (pts_one (PW.pt (pw_and (pt_cmpR (r := rIn K true) op_notIn_seq (pv 3) (show PE _ _ (tFld K _ _) from pe_fld (pv 0) rfl) (by rfl)) (pw_and1 (pt_chain op_le op_le pe_int (pv 4) (pv 1))))))) (fun _ _ _ _ _ => (pv 3))))))), ?_⟩
    have lo := h.dev.la.1
    have hs2 := lo.s2
    have hpy := lo.pay1
    refine q_asg (v := nV (l.pay - 1)) (ev_is (ev_op (yv_payload T h.dev.la (lv_layout T h (ev_var rfl))) ev_c rv_I0) (nv_eq (by omega))) fun H1 e1 => ?_
    have h1 := h.mono e1
    refine el_counts h1 g (ev_var rfl) H1 (Ex.refl H1) _ fun l0 H2 hl0 e2 h2 => ⟨l0, _, rfl, sq_of h2, fun e it he hi hne hn1 hn2 => ?_⟩
    have hle : l0 ≠ e := ne_of_none h2 he
    have hli : l0 ≠ it := ne_of_none h2 hi
    have Ed : Ex H2 (ItX.dropH (ItX.dropH (upd (upd H2 it (IlO it l0)) e (EnO e it)) e) it) := fun b o hb => by
      have b1 : b ≠ e := fun z => by rw [z, he] at hb; cases hb
      have b2 : b ≠ it := fun z => by rw [z, hi] at hb; cases hb
      rw [ItX.dropH_ne b2, ItX.dropH_ne b1, upd_ne b1, upd_ne b2]
      exact hb
    have hd := (h1.mono e2).mono Ed
    have hgl : ((List.range l.seg).map (cnt l L.T)).length = l.seg := by simp
    refine s_retLcEnv (k := 2) (e := e) (it := it) (l := l0) (xs := nL ((List.range l.seg).map (cnt l L.T))) (fun s => decide (s ∉ L.T.queue) && (decide (1 ≤ cnt l L.T s) && decide (cnt l L.T s ≤ l.pay - 1))) (fun s => nV s) rfl upd_same (by rw [upd_ne (Ne.symm hne)]; exact upd_same) hne hn1 hn2 (fun H3 e3 => sq_of (e3 _ _ (Ed _ _ h2))) (by rw [nL_len, hgl]; omega) (fun _ _ => rfl) (fun s x H3 e3 hs => ?_) (fun s x H3 e3 hs _ => ev_var rfl) fun p H3 hp e3 h3 => ?_
    · obtain ⟨c, hc, rfl⟩ := nL_get hs
      have hc2 : cnt l L.T s = c := by
        rw [List.getElem?_map] at hc
        by_cases hb : s < l.seg
        · rw [List.getElem?_range hb] at hc
          injection hc
        · rw [List.getElem?_eq_none (by simp; omega)] at hc
          cases hc
      rw [hc2]
      have hd3 := hd.mono e3
      refine et_and (et_is (et_test (ev_op (ev_var rfl) (lv_queue T hd3 (ev_var rfl)) (rv_niL (sq_of hd3.qu.1) rfl (flat_nL _)))) ?_) fun _ => et_is (et_chain ev_c (ev_var rfl) rv_I0 (fun _ => ev_var rfl) (fun _ => rv_I0)) ?_
      · rw [in_nL]
        simp
      · congr 1 <;> · rw [Bool.eq_iff_iff, decide_eq_true_eq, decide_eq_true_eq]; omega
    · refine k p H3 (fresh_back (e1.trans (e2.trans Ed)) hp) (e1.trans (e2.trans (Ed.trans e3))) ?_
      rw [h3, nL_len, hgl]
      congr 2
      unfold given cands nL
      congr 1
      refine List.filter_congr fun s _ => ?_
      rw [Bool.eq_iff_iff]
      simp only [Bool.and_eq_true, decide_eq_true_eq]
end
end Sg

set_option maxHeartbeats 4000000
namespace Sg
open PySem PySem.Spec PyProof.Rows L2 Evl
section
variable {P : Program} {w : World} {K : PySem.W.Frag} {mg : Str → Option Value} {base : Heap}
/-! ### victims -/
def sp_victims (K : PySem.W.Frag) : Sp := fun vs H Q _ => ∃ (A : Ad) (l : Lay) (L : Lg) (o : Addr) (order : List Nat), vs = [.ref A.lg, .ref o] ∧ LogAt K H A l L ∧ GoodT l L.T ∧ H o = some (.lst (nL order)) ∧ order.length ≤ 1000 ∧
  RetP (fun v H2 => ∃ p V, v = .ref p ∧ H p = none ∧ H2 p = some (.lst (nL V)) ∧ Victims l L.T V) H Q
abbrev nm_victims : List Str := ["log", "order", "rest", "chosen", "segment"]
theorem sc_victims : FnScope nm_victims ["log", "order"] (defScope s_victims) := ⟨rfl, rfl, rfl, by decide +kernel, rfl, by decide +kernel, by decide +kernel⟩
theorem el_cands {σ : L2.St} {H : Hp} {ta : TE} {E : XK} {A : Ad} {l : Lay} {L : Lg} (h : LogAt K H A l L) (g : GoodT l L.T) (e : Ev ta σ H (.ref A.lg)) : EvL (tCall (sp_candidates K) [] E (tCons ta tNil)) σ H (nL (cands l L.T)) :=
  el_call2 (ea_cons e ea_nil) fun H1 e1 Q E q => ⟨A, l, L, rfl, h.mono e1, g, q⟩
theorem cands_len (l : Lay) (T : TS) : (cands l T).length ≤ l.seg := by
  unfold cands
  have := List.length_filter_le (fun s => decide (s ∉ T.queue ∧ 1 ≤ cnt l T s ∧ cnt l T s ≤ l.pay - 1)) (List.range l.seg)
  rw [List.length_range] at this
  exact this
theorem ok_victims (T : Ctx K mg base) : Okd P w K mg base 4 (He.ga K "victims") ["log", "order"] (sp_victims K) := by
  obtain ⟨fd, F⟩ := T.def_victims
  have b : Binds K fd ["log", "order"] [] := FunD.bindsN F fun _ _ _ _ _ _ us hl => match us, hl with | [_, _], _ => rfl
  obtain ⟨fd_candidates, G_candidates, b_candidates, k_candidates⟩ := ok_candidates (P := P) (w := w) T
  refine ⟨fd, FunD.ok F sc_victims (fun vs H Q E h => ?_) (fun cdv A outer s H vs Q E hr h => ?_), b, F.kp⟩
  · obtain ⟨A, l, L, o, order, rfl, _⟩ := h
    rfl
  · obtain ⟨A, l, L, o, order, rfl, h, g, ho, hol, k⟩ := h
    refine ⟨_, PSs.nox (pss_cons (ps_set (i := 2) sc_victims.nd rfl (Or.inl rfl) (pe_call G_candidates (hr.mono (by decide)) rfl T.glo_candidates k_candidates b_candidates .nil pass0 (pa_cons (pv 0) pa_nil)))
      (pss_cons (ps_set (i := 3) sc_victims.nd rfl (Or.inl rfl) (pe_lst pa_nil))
      (pss_cons (ps_for PassesOwn.never rfl (pi_list (pe_op op_cat (pv 1) (pv 2))) (pg_name (i := 4) sc_victims.nd rfl (Or.inl rfl)) (pss_one (ps_if (PW.pt (pw_and (pt_cmpR op_in_seq (pv 4) (pv 2) (by rfl)) (pw_and (pt_cmpR op_ne (pv 4) (pe_fld (pv 0) rfl) (nomark _)) (pw_and1 (pt_cmpR op_notIn_seq (pv 4) (pv 3) (by rfl)))))) (pss_one (ps_expr (pe_bm PySem.F.plainAttrs_list PySem.F.slot_list_append PySem.F.type_list_append mt_append (pv 3) (pa_cons (pv 4) pa_nil)))) pss_nil)))
      (pss_cons (ps_if (pt_cmpR op_in_seq (pe_fld (pv 0) rfl) (pv 2) (by rfl)) (pss_one (ps_expr (pe_bm PySem.F.plainAttrs_list PySem.F.slot_list_append PySem.F.type_list_append mt_append (pv 3) (pa_cons (pe_fld (pv 0) rfl) pa_nil)))) pss_nil)
      (pss_one (ps_ret (pv 3))))))), ?_⟩
    have hs2 := h.dev.la.1.s2
    have hcl := cands_len l L.T
    refine q_asgL (el_cands h g (ev_var rfl)) fun r H1 hr1 e1 h1 => ?_
    refine q_asgL (el_lst ea_nil (Nat.zero_le _)) fun c H2 hc e2 h2 => ?_
    have E2 := e1.trans e2
    have hcH := fresh_back e1 hc
    have r2 := e2 _ _ h1
    have rc : r ≠ c := ne_of_none h1 hc
    refine q_forNLn (xs := nL (order ++ cands l L.T)) (by rw [nL_app]; exact el_cat (Ev.x (ev_var rfl) (E2 _ _ ho)) (Ev.x (ev_var rfl) r2) (by rw [nL_len, nL_len]; omega)) (fun p j σ' H' => ∃ y C, σ' = [some (.ref A.lg), some (.ref o), some (.ref r), some (.ref c), y] ∧ Ex H H' ∧ H' p = some (.lst (nL (order ++ cands l L.T))) ∧ p ≠ c ∧ H' r = some (.lst (nL (cands l L.T))) ∧ H' c = some (.lst (nL C)) ∧ C.Nodup ∧ C.length ≤ j ∧ ∀ s, s ∈ C ↔ s ∈ (order ++ cands l L.T).take j ∧ s ∈ cands l L.T ∧ s ≠ L.T.head)
      (fun p H3 hp e3 hp3 => ⟨none, [], rfl, E2.trans e3, hp3, (fun z => (by rw [z, h2] at hp; cases hp)), e3 _ _ r2, e3 _ _ h2, List.nodup_nil, Nat.zero_le _, fun s => by simp⟩) (fun p j σ' H' _ ⟨_, _, _, _, q, _⟩ => sq_of q) ?_ ?_
    · rintro p j x σ' H' hj ⟨y, C, rfl, e, hp, hpc, hrr, hcc, hnd, hlen, hmem⟩
      obtain ⟨s, hs, rfl⟩ := nL_get hj
      have jl := (List.getElem?_eq_some_iff.mp hs).1
      rw [List.length_append] at jl
      have h' := h.mono e
      refine s_when (b := decide (s ∈ cands l L.T) && (!decide (V.int (s : Int) = nV L.T.head) && !decide (s ∈ C))) (et_and (et_is (et_cmp (ev_var rfl) (ev_var rfl) (rv_isL (sq_of hrr) rfl (flat_nL _))) in_nL) fun _ => et_and (et_cmp (ev_var rfl) (lv_head T h' (ev_var rfl)) (rv_ne rfl)) fun _ => et_is (et_cmp (ev_var rfl) (ev_var rfl) (rv_niL (sq_of hcc) rfl (flat_nL _))) (by rw [in_nL])) (fun hb H3 e3 => ?_) (fun hb H3 e3 => ?_)
      · simp only [Bool.and_eq_true, decide_eq_true_eq, Bool.not_eq_true', decide_eq_false_iff_not] at hb
        obtain ⟨b1, b2, b3⟩ := hb
        have b2 : s ≠ L.T.head := fun z => b2 (by rw [z])
        refine s_app (e3 _ _ hcc) (ev_var rfl) (ev_var rfl) (by rw [nL_len]; omega) fun H4 e4 => ?_
        refine ⟨_, C ++ [s], rfl, Ex.mut (e.trans (e3.trans e4)) hcH, ?_, hpc, ?_, by rw [upd_same, nL_app]; rfl, ?_, by simp; omega, fun t => ?_⟩
        · rw [upd_ne hpc]
          exact e4 _ _ (e3 _ _ hp)
        · rw [upd_ne rc]
          exact e4 _ _ (e3 _ _ hrr)
        · rw [List.nodup_append]
          exact ⟨hnd, by simp, fun x hx y hy => by rw [List.mem_singleton.mp hy]; exact fun z => b3 (z ▸ hx)⟩
        · rw [List.mem_append, List.mem_singleton, hmem t, take_snoc hs, List.mem_append, List.mem_singleton]
          constructor
          · rintro (⟨q1, q2⟩ | q)
            · exact ⟨.inl q1, q2⟩
            · rw [q]
              exact ⟨.inr rfl, b1, b2⟩
          · rintro ⟨q1 | q1, q2⟩
            · exact .inl ⟨q1, q2⟩
            · exact .inr q1
      · refine ⟨_, C, rfl, e.trans e3, e3 _ _ hp, hpc, e3 _ _ hrr, e3 _ _ hcc, hnd, by omega, fun t => ?_⟩
        rw [hmem t, take_snoc hs, List.mem_append, List.mem_singleton]
        constructor
        · rintro ⟨q1, q2⟩
          exact ⟨.inl q1, q2⟩
        · rintro ⟨q1 | q1, q2, q3⟩
          · exact ⟨q1, q2, q3⟩
          · rw [q1] at q2 q3
            have hb' : s ∈ C := by
              apply Classical.byContradiction
              intro z
              have : (decide (s ∈ cands l L.T) && (!decide (V.int (s : Int) = nV L.T.head) && !decide (s ∈ C))) = true := by
                simp only [Bool.and_eq_true, decide_eq_true_eq, Bool.not_eq_true', decide_eq_false_iff_not]
                exact ⟨q2, fun y => q3 (by injection y with y; omega), z⟩
              rw [this] at hb
              cases hb
            rw [q1]
            exact (hmem s).mp hb'
    · rintro p σ' H' ⟨y, C, rfl, e, hp, hpc, hrr, hcc, hnd, hlen, hmem⟩
      rw [nL_len, List.length_append] at hlen
      rw [nL_len, List.take_length] at hmem
      have hmem : ∀ s, s ∈ C ↔ s ∈ cands l L.T ∧ s ≠ L.T.head := fun s => by
        rw [hmem s, List.mem_append]
        exact ⟨fun q => q.2, fun q => ⟨.inr q.1, q⟩⟩
      have h' := h.mono e
      have hC : C.length ≤ 5000 := by omega
      refine q_if2 (b := decide (L.T.head ∈ cands l L.T)) (et_is (et_cmp (lv_head T h' (ev_var rfl)) (ev_var rfl) (rv_isL (sq_of hrr) rfl (flat_nL _))) in_nL) (fun hb H3 e3 => ?_) (fun hb H3 e3 => ?_)
      · have hb := of_decide_eq_true hb
        refine s_app (e3 _ _ hcc) (ev_var rfl) (lv_head T (h'.mono e3) (ev_var rfl)) (by rw [nL_len]; omega) fun H4 e4 => ?_
        refine s_ret (ev_var rfl) fun H5 e5 => k _ H5 ((Ex.mut (e.trans (e3.trans e4)) hcH).trans e5) ⟨c, C ++ [L.T.head], rfl, hcH, by rw [e5 _ _ upd_same, nL_app]; rfl, ?_, fun s => ?_, fun i hi => ?_⟩
        · rw [List.nodup_append]
          exact ⟨hnd, by simp, fun x hx y hy => by rw [List.mem_singleton.mp hy]; exact ((hmem x).mp hx).2⟩
        · rw [List.mem_append, List.mem_singleton, hmem s]
          constructor
          · rintro (q | q)
            · exact q.1
            · rw [q]; exact hb
          · intro q
            by_cases z : s = L.T.head
            · exact .inr z
            · exact .inl ⟨q, z⟩
        · by_cases z : i < C.length
          · rw [List.getElem?_append_left z] at hi
            exact absurd rfl ((hmem _).mp (List.mem_of_getElem? hi)).2
          · have := (List.getElem?_eq_some_iff.mp hi).1
            rw [List.length_append] at this ⊢
            simp at this ⊢
            omega
      · have hb := of_decide_eq_false hb
        refine s_ret (ev_var rfl) fun H5 e5 => k _ H5 (e.trans (e3.trans e5)) ⟨c, C, rfl, hcH, e5 _ _ (e3 _ _ hcc), hnd, fun s => ?_, fun i hi => ?_⟩
        · rw [hmem s]
          exact ⟨fun q => q.1, fun q => ⟨q, fun z => hb (z ▸ q)⟩⟩
        · exact absurd rfl ((hmem _).mp (List.mem_of_getElem? hi)).2
theorem q_forPL {σ : L2.St} {H : Hp} {tl : TE} {D : Ends} {tz tu : L2.TS} {j : Nat} {R : V → Hp → Prop} (h : EvP tl σ H R)
    (k : ∀ v H1, Ex H H1 → R v H1 → ∃ a xs, v = .ref a ∧ SqL K H1 a xs ∧ ∃ Pv : Nat → L2.St → Hp → Prop, Pv 0 σ H1 ∧ (∀ i σ' H', i ≤ xs.length → Pv i σ' H' → SqL K H' a xs) ∧
      (∀ i x σ' H', xs[i]? = some x → Pv i σ' H' → tu { D with nx := Pv (i + 1), ct := Pv (i + 1), bk := tz D } (σ'.set j (some x)) H') ∧ ∀ σ' H', Pv xs.length σ' H' → tz D σ' H') : tSeq (tFor (iList K tl) (gName j) tu) tz D σ H :=
  h H (Ex.refl H) _ fun v H1 e p => by
    obtain ⟨a, xs, rfl, hx, Pv, h0, hl, hs, hd⟩ := k v H1 e p
    exact ⟨a, rfl, ⟨xs, hx⟩, for_list (D := { D with nx := tz D }) Pv h0 hl hs hd⟩
/-! ### cargo -/
theorem s_setdApp {σ : L2.St} {H : Hp} {td ty tv : TE} {D : Ends} {d : Addr} {m : List (Nat × V)} {k : Nat} {v : V} (h : H d = some (.dK (dN m))) (hd : Ev td σ H (.ref d)) (hy : Ev ty σ H (nV k)) (hv : ∀ H', Ev tv σ H' v) (hz : m.length < 100000)
    (hq : ∀ u, valV m k = some u → ∃ q xs, u = .ref q ∧ H q = some (.lst xs) ∧ xs.length < 100000)
    (k1 : ∀ q xs H1, Ex H H1 → valV m k = some (.ref q) → H q = some (.lst xs) → D.nx σ (upd H1 q (.lst (xs ++ [v]))))
    (k2 : ∀ z H3 H5, H z = none → valV m k = none → Ex H H3 → H3 z = some (.lst []) → Ex (upd H3 d (.dK (dN (putK m k (.ref z))))) H5 → D.nx σ (upd H5 z (.lst [v]))) :
    tDrop (tBM K "list" rAppend (tDSetd td ty (tLst tNil)) (tCons tv tNil)) D σ H := by
  refine hd H (Ex.refl H) _ fun H1 e1 => ⟨d, rfl, .inl ⟨_, .inl (e1 _ _ h)⟩, hy H1 e1 _ fun H2 e2 => el_lst (σ := σ) ea_nil (Nat.zero_le _) H2 (Ex.refl H2) _ fun z H3 hz3 e3 h3 => ?_⟩
  have E2 := e1.trans e2
  have E3 := E2.trans e3
  refine ⟨dN m, .inl (k : Int), E3 _ _ h, rfl, by rw [dN_len]; exact sz_lt hz, fun u hu => ?_, fun hn => ?_⟩
  · rw [dN_val] at hu
    obtain ⟨q, xs, rfl, h1, h2⟩ := hq u hu
    refine ⟨Or.inl ⟨rfl, xs, sq_of (E3 _ _ h1)⟩, hv H3 H3 (Ex.refl H3) _ fun H4 e4 => ⟨q, xs, v, rfl, rfl, e4 _ _ (E3 _ _ h1), sz_lt h2, k1 q xs H4 (E3.trans e4) hu h1⟩⟩
  · rw [dN_val] at hn
    rw [dN_put]
    have zd : z ≠ d := fun y => by rw [y, E2 _ _ h] at hz3; cases hz3
    have h4 : (upd H3 d (.dK (dN (putK m k (.ref z))))) z = some (.lst []) := by rw [upd_ne zd]; exact h3
    refine ⟨Or.inl ⟨rfl, [], sq_of h4⟩, hv _ _ (Ex.refl _) _ fun H5 e5 => ⟨z, [], v, rfl, rfl, e5 _ _ h4, sz_lt (by decide), k2 z H3 H5 (fresh_back E2 hz3) hn E3 h3 e5⟩⟩
theorem s_extend {σ : L2.St} {H : Hp} {ta te : TE} {D : Ends} {l b : Addr} {xs ys : List V} (hl : H l = some (.lst xs)) (hb : H b = some (.lst ys)) (ha : Ev ta σ H (.ref l)) (h : Ev te σ H (.ref b)) (hz : xs.length + ys.length ≤ 100000)
    (k : ∀ H1, Ex H H1 → D.nx σ (upd H1 l (.lst (xs ++ ys)))) : tDrop (tBM K "list" rExtend ta (tCons te tNil)) D σ H := ha H (Ex.refl H) _ fun H1 e1 =>
  ⟨Or.inl ⟨rfl, xs, sq_of (e1 l _ hl)⟩, h H1 e1 _ fun H2 e2 => ⟨l, b, xs, ys, rfl, rfl, e2 l _ (e1 l _ hl), e2 _ _ (e1 _ _ hb), sz_of hz, k H2 (e1.trans e2)⟩⟩
/-- the lists of the live addresses, by segment -/
structure BySeg (l : Lay) (H H' : Hp) (S : List Addr) (as : List Nat) (m : List (Nat × V)) : Prop where
  no : ∀ s, valV m s = none → (as.filter fun a => decide (l.sg a = s)) = []
  yes : ∀ s v, valV m s = some v → ∃ q, v = .ref q ∧ H q = none ∧ q ∉ S ∧ H' q = some (.lst (nL (as.filter fun a => decide (l.sg a = s))))
  inj : ∀ s s' v, valV m s = some v → valV m s' = some v → s = s'
def sp_cargo (K : PySem.W.Frag) : Sp := fun vs H Q _ => ∃ (A : Ad) (l : Lay) (L : Lg) (o : Addr) (order : List Nat), vs = [.ref A.lg, .ref o] ∧ LogAt K H A l L ∧ GoodT l L.T ∧ H o = some (.lst (nL order)) ∧ order.length ≤ 1000 ∧
  RetP (fun v H2 => ∃ p V, v = .ref p ∧ H p = none ∧ H2 p = some (.lst (nL (cargoOf l L.T V))) ∧ Victims l L.T V) H Q
abbrev nm_cargo : List Str := ["log", "order", "by_segment", "address", "addresses", "segment"]
theorem sc_cargo : FnScope nm_cargo ["log", "order"] (defScope s_cargo) := ⟨rfl, rfl, rfl, by decide +kernel, rfl, by decide +kernel, by decide +kernel⟩
theorem ok_cargo (T : Ctx K mg base) : Okd P w K mg base 5 (He.ga K "cargo") ["log", "order"] (sp_cargo K) := by
  obtain ⟨fd, F⟩ := T.def_cargo
  have b : Binds K fd ["log", "order"] [] := FunD.bindsN F fun _ _ _ _ _ _ us hl => match us, hl with | [_, _], _ => rfl
  obtain ⟨fd_live_addresses, G_live_addresses, b_live_addresses, k_live_addresses⟩ := ok_live_addresses (P := P) (w := w) T
  obtain ⟨fd_segment_of, G_segment_of, b_segment_of, k_segment_of⟩ := ok_segment_of (P := P) (w := w) T
  obtain ⟨fd_victims, G_victims, b_victims, k_victims⟩ := ok_victims (P := P) (w := w) T
  refine ⟨fd, FunD.ok F sc_cargo (fun vs H Q E h => ?_) (fun cdv A outer s H vs Q E hr h => ?_), b, F.kp⟩
  · obtain ⟨A, l, L, o, order, rfl, _⟩ := h
    rfl
  · obtain ⟨A, l, L, o, order, rfl, h, g, ho, hol, k⟩ := h
    have hu := hu_of hr
    refine ⟨_, PSs.nox (pss_cons (ps_set (i := 2) sc_cargo.nd rfl (Or.inl rfl) pe_dnewK)
      (pss_cons (ps_for PassesOwn.never rfl (pi_list (pe_call G_live_addresses (hr.mono (by decide)) rfl T.glo_live_addresses k_live_addresses b_live_addresses .nil pass0 (pa_cons (pv 0) pa_nil))) (pg_name (i := 3) sc_cargo.nd rfl (Or.inl rfl)) (pss_one (ps_expr (pe_bm PySem.F.plainAttrs_list PySem.F.slot_list_append PySem.F.type_list_append mt_append (pe_dsetd (pv 2) (pe_call G_segment_of (hr.mono (by decide)) rfl T.glo_segment_of k_segment_of b_segment_of .nil pass0 (pa_cons (pe_fld (pv 0) rfl) (pa_cons (pv 3) pa_nil))) (pe_lst pa_nil) ⟨rfl, rfl, rfl, rfl⟩) (pa_cons (pv 3) pa_nil)))))
      (pss_cons (ps_set (i := 4) sc_cargo.nd rfl (Or.inl rfl) (pe_lst pa_nil))
      (pss_cons (ps_for PassesOwn.never rfl (pi_list (pe_call G_victims (hr.mono (by decide)) rfl T.glo_victims k_victims b_victims .nil pass0 (pa_cons (pv 0) (pa_cons (pv 1) pa_nil)))) (pg_name (i := 5) sc_cargo.nd rfl (Or.inl rfl)) (pss_one (ps_expr (pe_bm PySem.F.plainAttrs_list PySem.F.slot_list_extend PySem.F.type_list_extend mt_extend (pv 4) (pa_cons (pe_dget hu (pv 2) (pv 5) (fun _ _ => rfl)) pa_nil)))))
      (pss_one (ps_ret (pe_slice sl_list (pv 4) po_none (po_some (pe_fld (pe_fld (pv 0) rfl) rfl))))))))), ?_⟩
    have lo := h.dev.la.1
    have hlv := g.ct
    have hlim := lo.lim1
    have hpy := lo.pay1
    refine q_dnew fun d hd => ?_
    have h1 := h.mono (Ex.new (o := .dK (dN [])) hd)
    refine q_forNLn (xs := nL (live l L.T)) (el_live T h1 g (ev_var rfl)) (fun p j σ' H' => ∃ x m, σ' = [some (.ref A.lg), some (.ref o), some (.ref d), x, none, none] ∧ Ex H H' ∧ H' p = some (.lst (nL (live l L.T))) ∧ p ≠ d ∧ H' d = some (.dK (dN m)) ∧ m.length ≤ j ∧ BySeg l H H' [d, p] ((live l L.T).take j) m)
      (fun p H2 hp e2 hp2 => ⟨none, [], rfl, (Ex.new hd).trans e2, hp2, (fun z => (by rw [z, upd_same] at hp; cases hp)), e2 _ _ upd_same, Nat.le_refl _, ⟨fun s _ => rfl, fun s v q => (by cases q), fun s s' v q => (by cases q)⟩⟩) (fun p j σ' H' _ ⟨_, _, _, _, q, _⟩ => sq_of q) ?_ ?_
    · rintro p j x σ' H' hj ⟨x1, m, rfl, e, hp, hpd, hm, hml, bs⟩
      obtain ⟨a0, ha0, rfl⟩ := nL_get hj
      have jl := (List.getElem?_eq_some_iff.mp ha0).1
      have hal : isLive L.T a0 := (mem_live.mp (List.mem_of_getElem? ha0)).2
      have h' := h.mono e
      have fl : ∀ s, (((live l L.T).take (j + 1)).filter fun a => decide (l.sg a = s)) = (((live l L.T).take j).filter fun a => decide (l.sg a = s)) ++ (if l.sg a0 = s then [a0] else []) := fun s => by
        rw [take_snoc ha0, List.filter_append]
        congr 1
        by_cases z : l.sg a0 = s
        · rw [if_pos z]; simp [z]
        · rw [if_neg z]; simp [z]
      refine s_setdApp (k := l.sg a0) (v := nV a0) hm (ev_var rfl) (ev_is (ev_seg h'.dev.la (ea_cons (lv_layout T h' (ev_var rfl)) (ea_cons (ev_var rfl) ea_nil))) (g.segV hal)) (fun _ => ev_var rfl) (by omega) (fun u hu => ?_) (fun q xs H2 e2 hq hx => ?_) (fun z H3 H5 hz hn e3 h3 e5 => ?_)
      · obtain ⟨q, r1, _, _, r2⟩ := bs.yes _ u hu
        refine ⟨q, _, r1, r2, ?_⟩
        rw [nL_len]
        have := List.length_filter_le (fun a => decide (l.sg a = l.sg a0)) ((live l L.T).take j)
        rw [List.length_take] at this
        omega
      · obtain ⟨q', r1, r2, r3, r4⟩ := bs.yes _ _ hq
        injection r1 with r1
        subst r1
        have qd : d ≠ q := fun z => r3 (by rw [← z]; simp)
        have qp : p ≠ q := fun z => r3 (by rw [← z]; simp)
        refine ⟨_, m, rfl, Ex.mut (e.trans e2) r2, ?_, hpd, ?_, by omega, ⟨fun s hs => ?_, fun s v hs => ?_, bs.inj⟩⟩
        · rw [upd_ne qp]
          exact e2 _ _ hp
        · rw [upd_ne qd]
          exact e2 _ _ hm
        · rw [fl s, bs.no s hs, if_neg (fun z => by rw [z, hs] at hq; cases hq)]
          rfl
        · obtain ⟨q2, s1, s2, s3, s4⟩ := bs.yes s v hs
          refine ⟨q2, s1, s2, s3, ?_⟩
          by_cases z : l.sg a0 = s
          · rw [z] at hq
            rw [hs] at hq
            injection hq with hq
            rw [hq] at s1
            injection s1 with s1
            rw [← s1, upd_same, fl s, if_pos z, nL_app]
            have := lst_inj hx r4
            rw [this, z]
            rfl
          · have nq : q2 ≠ q := fun y => z (bs.inj _ _ v (by rw [hq, s1, y]) hs)
            rw [upd_ne nq, fl s, if_neg z, List.append_nil]
            exact e2 _ _ s4
      · have hz0 := fresh_back e hz
        have zd : z ≠ d := fun y => by rw [y, e3 _ _ hm] at h3; cases h3
        have zp : p ≠ z := fun y => by rw [← y, hp] at hz; cases hz
        have E5 : Ex H H5 := (Ex.mut (e.trans e3) hd).trans e5
        refine ⟨_, putK m (l.sg a0) (.ref z), rfl, Ex.mut E5 hz0, ?_, hpd, ?_, Nat.le_trans (length_putK ..) (Nat.succ_le_succ hml), ⟨fun s hs => ?_, fun s v hs => ?_, fun s s' v q1 q2 => ?_⟩⟩
        · rw [upd_ne zp]
          refine e5 _ _ ?_
          rw [upd_ne hpd]
          exact e3 _ _ hp
        · rw [upd_ne (fun y => zd y.symm)]
          exact e5 _ _ upd_same
        · rw [valV_put] at hs
          by_cases y : s = l.sg a0
          · rw [if_pos y] at hs
            cases hs
          · rw [if_neg y] at hs
            rw [fl s, bs.no s hs, if_neg (fun q => y q.symm)]
            rfl
        · rw [valV_put] at hs
          by_cases y : s = l.sg a0
          · rw [if_pos y] at hs
            injection hs with hs
            refine ⟨z, hs.symm, hz0, ?_, ?_⟩
            · simp only [List.mem_cons, List.not_mem_nil, or_false, not_or]
              exact ⟨zd, fun q => zp q.symm⟩
            · rw [upd_same, fl s, if_pos y.symm, y, bs.no _ hn]
              rfl
          · rw [if_neg y] at hs
            obtain ⟨q2, s1, s2, s3, s4⟩ := bs.yes s v hs
            refine ⟨q2, s1, s2, s3, ?_⟩
            have n1 : q2 ≠ z := fun q => by rw [q, hz] at s4; cases s4
            have n2 : q2 ≠ d := fun q => s3 (by rw [q]; simp)
            rw [upd_ne n1, fl s, if_neg (fun q => y q.symm), List.append_nil]
            refine e5 _ _ ?_
            rw [upd_ne n2]
            exact e3 _ _ s4
        · rw [valV_put] at q1 q2
          by_cases y1 : s = l.sg a0
          · by_cases y2 : s' = l.sg a0
            · rw [y1, y2]
            · rw [if_pos y1] at q1
              rw [if_neg y2] at q2
              obtain ⟨q', s1, _, _, s4⟩ := bs.yes s' v q2
              rw [s1] at q1
              injection q1 with q1
              injection q1 with q1
              rw [← q1, hz] at s4
              cases s4
          · rw [if_neg y1] at q1
            by_cases y2 : s' = l.sg a0
            · rw [if_pos y2] at q2
              obtain ⟨q', s1, _, _, s4⟩ := bs.yes s v q1
              rw [s1] at q2
              injection q2 with q2
              injection q2 with q2
              rw [← q2, hz] at s4
              cases s4
            · rw [if_neg y2] at q2
              exact bs.inj _ _ v q1 q2
    · rintro p σ' H' ⟨x1, m, rfl, e, hp, hpd, hm, hml, bs⟩
      rw [nL_len] at hml bs
      rw [List.take_length] at bs
      refine q_asgL (el_lst ea_nil (Nat.zero_le _)) fun c H2 hc e2 h2 => ?_
      have E2 := e.trans e2
      have hcH := fresh_back e hc
      refine q_forPL (evp_call (P := fun v H3 => ∃ pv V, v = .ref pv ∧ H2 pv = none ∧ H3 pv = some (.lst (nL V)) ∧ Victims l L.T V) (ea_cons (ev_var rfl) (ea_cons (ev_var rfl) ea_nil)) (fun H3 e3 Q E q => ⟨A, l, L, o, order, rfl, h.mono (E2.trans e3), g, e3 _ _ (E2 _ _ ho), hol, fun v H4 e4 r => q v H4 e4 (by obtain ⟨pv, V, r1, r2, r3, r4⟩ := r; exact ⟨pv, V, r1, fresh_back e3 r2, r3, r4⟩)⟩)) fun v H3 e3 hv => ?_
      obtain ⟨pv, V, rfl, hpn, hpv, hV⟩ := hv
      have hcp : c ≠ pv := fun z => by rw [← z, h2] at hpn; cases hpn
      have hVl : V.length ≤ l.seg := Nat.le_trans (nodup_len _ _ hV.nd fun a ha => (hV.mem a).mp ha) (cands_len l L.T)
      have hs2 := lo.s2
      refine ⟨pv, nL V, rfl, sq_of hpv, fun j σ' H' => ∃ y, σ' = [some (.ref A.lg), some (.ref o), some (.ref d), x1, some (.ref c), y] ∧ Ex H H' ∧ H' pv = some (.lst (nL V)) ∧ H' d = some (.dK (dN m)) ∧ BySeg l H H' [d, p] (live l L.T) m ∧ (∀ s v, valV m s = some v → v ≠ .ref c) ∧ H' c = some (.lst (nL ((V.take j).flatMap (liveIn l L.T)))), ?_, fun j σ' H' _ ⟨_, _, _, q, _⟩ => sq_of q, ?_, ?_⟩
      · refine ⟨none, rfl, E2.trans e3, hpv, e3 _ _ (e2 _ _ hm), ⟨bs.no, fun s v hs => ?_, bs.inj⟩, fun s v hs z => ?_, e3 _ _ h2⟩
        · obtain ⟨q, r1, r2, r3, r4⟩ := bs.yes s v hs
          exact ⟨q, r1, r2, r3, e3 _ _ (e2 _ _ r4)⟩
        · obtain ⟨q, r1, r2, r3, r4⟩ := bs.yes s v hs
          rw [r1] at z
          injection z with z
          rw [z, hc] at r4
          cases r4
      · rintro j x σ' H' hj ⟨y, rfl, e4, hpv4, hm4, bs4, hnc, hc4⟩
        obtain ⟨s, hs, rfl⟩ := nL_get hj
        have hsc : s ∈ cands l L.T := (hV.mem s).mp (List.mem_of_getElem? hs)
        have hcnt := (mem_cands.mp hsc).2.2.1
        cases hvs : valV m s with
        | none =>
          have := bs4.no s hvs
          have hz : cnt l L.T s = 0 := by
            unfold cnt liveIn
            rw [this]
            rfl
          omega
        | some u =>
          obtain ⟨q, r1, r2, r3, r4⟩ := bs4.yes s u hvs
          subst r1
          have hqc : q ≠ c := fun z => hnc s _ hvs (by rw [z])
          have hgrow : ((V.take j).flatMap (liveIn l L.T)).length ≤ 16 * 434 := by
            rw [List.length_flatMap]
            have hb : ∀ (xs : List Nat), (xs.map fun a => (liveIn l L.T a).length).sum ≤ xs.length * 434 := by
              intro xs
              induction xs with
              | nil => simp
              | cons x xs ih =>
                rw [List.map_cons, List.sum_cons, List.length_cons, Nat.add_mul]
                have : (liveIn l L.T x).length ≤ 434 := Nat.le_trans (List.length_filter_le _ _) (by omega)
                omega
            have := hb (V.take j)
            have : (V.take j).length ≤ 16 := by rw [List.length_take]; omega
            have : (V.take j).length * 434 ≤ 16 * 434 := Nat.mul_le_mul_right _ this
            omega
          have hfl : ((live l L.T).filter fun a => decide (l.sg a = s)).length ≤ 434 := Nat.le_trans (List.length_filter_le _ _) (by omega)
          refine s_extend hc4 r4 (ev_var rfl) (ev_dget (v := .ref q) (ev_var rfl) (ev_var rfl) hm4 hvs) (by rw [nL_len, nL_len]; omega) fun H6 E6 => ?_
          refine ⟨_, rfl, Ex.mut (e4.trans E6) hcH, ?_, ?_, ⟨bs4.no, fun s' v' hs' => ?_, bs4.inj⟩, hnc, ?_⟩
          · rw [upd_ne (fun z => hcp z.symm)]
            exact E6 _ _ hpv4
          · rw [upd_ne (fun z => by rw [z, hc4] at hm4; cases hm4)]
            exact E6 _ _ hm4
          · obtain ⟨q', s1, s2, s3, s4⟩ := bs4.yes s' v' hs'
            refine ⟨q', s1, s2, s3, ?_⟩
            rw [upd_ne (fun z => hnc s' v' hs' (by rw [s1, z]))]
            exact E6 _ _ s4
          · rw [upd_same, take_snoc hs, List.flatMap_append, nL_app]
            simp [liveIn]
      · rintro σ' H' ⟨y, rfl, e4, hpv4, hm4, bs4, hnc, hc4⟩
        rw [nL_len, List.take_length] at hc4
        have h4 := h.mono e4
        have key := el_sl (K := K) (σ := [some (L2.V.ref A.lg), some (.ref o), some (.ref d), x1, some (.ref c), y]) (te := tVar 4) (ev_var rfl) eo_none (eo_some (yv_payload T h4.dev.la (lv_layout T h4 (ta := tVar 0) (ev_var rfl)))) (sq_of hc4)
        rw [cut_hi, nL_take] at key
        exact s_retL key fun r H5 hr5 e5 h5 => k _ H5 (e4.trans e5) ⟨r, V, rfl, fresh_back e4 hr5, h5, hV⟩
end
end Sg

set_option maxHeartbeats 4000000
namespace Sg
open PySem PySem.Spec PyProof.Rows L2 Evl
theorem carried_of {d : Dev} {T : TS} (hp : Paid d T) : ∀ adrs : List Nat, (∀ a ∈ adrs, isLive T a) → ∃ ps, Carried d adrs ps
  | [], _ => ⟨[], rfl, fun i a h => by simp at h⟩
  | a :: r, h => by
    obtain ⟨ps, h1, h2⟩ := carried_of hp r fun b hb => h b (List.mem_cons_of_mem _ hb)
    obtain ⟨s, rk, p, e⟩ := hp a (h a List.mem_cons_self)
    refine ⟨p :: ps, by simp [h1], fun i b hi => ?_⟩
    cases i with
    | zero =>
      have : a = b := by simpa using hi
      rw [← this, e]
      rfl
    | succ i => exact h2 i b (by simpa using hi)
/-- what waits lies on the device -/
def WtOk (l : Lay) (L : Lg) (n : Nat) : Prop := (∀ x ∈ L.wait, x.1 < l.db) ∧ L.wait.length ≤ n
section
variable {P : Program} {w : World} {K : PySem.W.Frag} {mg : Str → Option Value} {base : Heap}
/-! ### fill -/
/-- each table is the old one, its addresses renamed -/
def Mapd (T T' : TS) : Prop := ∃ f : Nat → Nat, f 0 = 0 ∧ T'.pres = T.pres.map f ∧ T'.slots = T.slots.map (Option.map (List.map f))
theorem Mapd.refl (T : TS) : Mapd T T := ⟨fun a => a, rfl, by simp, by
  have : (fun t : List Nat => t.map fun a => a) = id := funext fun t => List.map_id' t
  show _ = T.slots.map (Option.map fun t => t.map fun a => a)
  rw [this, Option.map_id, List.map_id]⟩
theorem Mapd.trans {T T1 T2 : TS} (a : Mapd T T1) (b : Mapd T1 T2) : Mapd T T2 := by
  obtain ⟨f, f0, f1, f2⟩ := a
  obtain ⟨g, g0, g1, g2⟩ := b
  refine ⟨g ∘ f, by show g (f 0) = 0; rw [f0, g0], by rw [g1, f1, List.map_map], ?_⟩
  rw [g2, f2, List.map_map]
  refine List.map_congr_left fun o _ => ?_
  cases o with
  | none => rfl
  | some t => show some ((t.map f).map g) = some (t.map (g ∘ f)); rw [List.map_map]
/-- what a batch keeps behind a renaming -/
theorem Mapd.keeps {T T' : TS} (h : Mapd T T') {b : Bat} {F : List Nat} (hF : ∀ a, keeps T b a → a ∈ F) : ∃ F' : List Nat, F'.length = F.length ∧ ∀ a, keeps T' b a → a ∈ F' := by
  obtain ⟨f, f0, f1, f2⟩ := h
  refine ⟨F.map f, List.length_map .., fun a' ha => ?_⟩
  obtain ⟨hn, ⟨k, h1, h2, h3⟩ | ⟨j, t, h1, h2, h3, h4⟩⟩ := ha
  · have e : f (T.pres.getD k 0) = a' := by
      rw [← h3, f1, List.getD_eq_getElem?_getD, List.getD_eq_getElem?_getD, List.getElem?_map]
      cases T.pres[k]? with
      | none => exact f0
      | some x => rfl
    refine List.mem_map.mpr ⟨_, hF _ ⟨fun z => hn ?_, .inl ⟨k, h1, h2, rfl⟩⟩, e⟩
    rw [← e, z, f0]
  · rw [f2, List.getElem?_map] at h1
    cases hs : T.slots[j]? with
    | none =>
      rw [hs] at h1
      cases h1
    | some o =>
      rw [hs] at h1
      cases o with
      | none => cases h1
      | some t0 =>
        injection h1 with h1
        injection h1 with h1
        rw [← h1] at h4
        obtain ⟨a, ha, e⟩ := List.mem_map.mp h4
        refine List.mem_map.mpr ⟨a, hF _ ⟨fun z => hn ?_, .inr ⟨j, t0, hs, h2, h3, ha⟩⟩, e⟩
        rw [← e, z, f0]
/-- the same state, a checkpoint behind it -/
structure Same (l : Lay) (L L' : Lg) : Prop where
  ok : LogOk l L' [stOf L.seen L.T]
  st : stOf L'.seen L'.T = stOf L.seen L.T
  fu : Full l L'.T
  qu : L'.T.queue ≠ []
  wt : L'.wait = []
  mp : Mapd L.T L'.T
theorem Same.wtOk {l : Lay} {L L' : Lg} (s : Same l L L') (n : Nat) : WtOk l L' n := by
  unfold WtOk
  rw [s.wt]
  exact ⟨fun x h => by simp at h, Nat.zero_le _⟩
theorem Same.trans {l : Lay} {L L1 L2 : Lg} (a : Same l L L1) (b : Same l L1 L2) : Same l L L2 := ⟨by rw [← a.st]; exact b.ok, b.st.trans a.st, b.fu, b.qu, b.wt, a.mp.trans b.mp⟩
theorem SeenOk.same {l : Lay} {L : Lg} (s : SeenOk l L) : Same l L (ckL l L) := ⟨s.ck_.1, s.ck_.2, ck_full, ck_queue s.g, rfl, Mapd.refl L.T⟩
def sp_fill (K : PySem.W.Frag) : Sp := fun vs H Q _ => ∃ (A : Ad) (l : Lay) (L : Lg) (o : Addr) (order : List Nat) (n : Nat), vs = [.ref A.lg, .ref o] ∧ LogAt K H A l L ∧ SeenOk l L ∧ Full l L.T ∧ L.T.queue ≠ [] ∧ ¬ HasRoom l L.T n ∧ WtOk l L 70000 ∧ H o = some (.lst (nL order)) ∧ order.length ≤ 1000 ∧
  ∀ L', Same l L L' → (cands l L'.T).length < (cands l L.T).length → Gives K H A l L' (.bl true) Q
abbrev nm_fill : List Str := ["log", "order", "addresses"]
theorem sc_fill : FnScope nm_fill ["log", "order"] (defScope s_fill) := ⟨rfl, rfl, rfl, by decide +kernel, rfl, by decide +kernel, by decide +kernel⟩
theorem q_ifNotC {σ : L2.St} {H : Hp} {tA : TA} {vs : List V} {sp : Sp} {dvs : List V} {E : XK} {tu tz : L2.TS} {D : Ends} (h : EvA tA σ H vs)
    (k : ∀ H1, Ex H H1 → sp (vs ++ dvs) H1 (fun v H2 => ∃ b, v = .bl b ∧ if (!b) = true then tu { D with nx := tz D } σ H2 else tz D σ H2) E) : tSeq (tIfS (tNot (tB (tCall sp dvs E tA))) tu tNext) tz D σ H := h H (Ex.refl H) _ k
theorem ok_fill (T : Ctx K mg base) : Okd P w K mg base 6 (He.ga K "fill") ["log", "order"] (sp_fill K) := by
  obtain ⟨fd, F⟩ := T.def_fill
  have b : Binds K fd ["log", "order"] [] := FunD.bindsN F fun _ _ _ _ _ _ us hl => match us, hl with | [_, _], _ => rfl
  obtain ⟨fd_append_move, G_append_move, b_append_move, k_append_move⟩ := ok_append_move (P := P) (w := w) T
  obtain ⟨fd_cargo, G_cargo, b_cargo, k_cargo⟩ := ok_cargo (P := P) (w := w) T
  obtain ⟨fd_write_checkpoint, G_write_checkpoint, b_write_checkpoint, k_write_checkpoint⟩ := ok_write_checkpoint (P := P) (w := w) T
  refine ⟨fd, FunD.ok F sc_fill (fun vs H Q E h => ?_) (fun cdv A outer s H vs Q E hr h => ?_), b, F.kp⟩
  · obtain ⟨A, l, L, o, order, n, rfl, _⟩ := h
    rfl
  · obtain ⟨A, l, L, o, order, n, rfl, h, sk, fu, hq, nr, ⟨wt1, wt2⟩, ho, hol, k⟩ := h
    refine ⟨_, PSs.nox (pss_cons (ps_set (i := 2) sc_fill.nd rfl (Or.inl rfl) (pe_call G_cargo (hr.mono (by decide)) rfl T.glo_cargo k_cargo b_cargo .nil pass0 (pa_cons (pv 0) (pa_cons (pv 1) pa_nil))))
      (pss_cons (ps_if (PW.pt (pw_or (pt_cmpR op_eq (pe_callB call_len_seq (by rfl) T.free_len PySem.boot_len (pa_cons (pv 2) pa_nil)) pe_int (nomark _)) (pw_or1 (pt_cmpR op_eq (pe_callB call_len_seq (by rfl) T.free_len PySem.boot_len (pa_cons (pe_fld (pv 0) rfl) pa_nil)) pe_int (nomark _))))) (pss_one (ps_ret pe_bl)) pss_nil)
      (pss_cons (ps_if (pt_not (pt_val (pe_call G_append_move (hr.mono (by decide)) rfl T.glo_append_move k_append_move b_append_move .nil pass0 (pa_cons (pv 0) (pa_cons (pv 2) pa_nil))))) (pss_one (ps_ret pe_bl)) pss_nil)
      (pss_cons (ps_expr (pe_call G_write_checkpoint (hr.mono (by decide)) rfl T.glo_write_checkpoint k_write_checkpoint b_write_checkpoint .nil pass0 (pa_cons (pv 0) pa_nil)))
      (pss_one (ps_ret pe_bl)))))), ?_⟩
    have g := sk.g
    have lo := sk.o
    refine q_asgP (evp_call (P := fun v H3 => ∃ p V, v = .ref p ∧ H p = none ∧ H3 p = some (.lst (nL (cargoOf l L.T V))) ∧ Victims l L.T V) (ea_cons (ev_var rfl) (ea_cons (ev_var rfl) ea_nil)) (fun H3 e3 Q E q => ⟨A, l, L, o, order, rfl, h.mono e3, g, e3 _ _ ho, hol, fun v H4 e4 r => q v H4 e4 (by obtain ⟨pv, V, r1, r2, r3, r4⟩ := r; exact ⟨pv, V, r1, fresh_back e3 r2, r3, r4⟩)⟩)) fun v H1 e1 hv => ?_
    obtain ⟨p, Vc, rfl, hp0, hp, hV⟩ := hv
    have h1 := h.mono e1
    obtain ⟨c1, c2, c3, c4⟩ := fill_ok lo g fu hq nr hV
    have hpo : p ∉ A.own := h.new hp0
    refine q_when (b := false) (et_is (et_or (et_cmp (ev_len (ev_var rfl) (sq_of hp)) ev_c (rv_eq rfl)) fun _ => et_cmp (ev_len (lv_queue T h1 (ev_var rfl)) (sq_of h1.qu.1)) ev_c (rv_eq rfl)) ?_) (fun z => by cases z) (fun _ H2 e2 => ?_)
    · rw [Bool.or_eq_false_iff]
      constructor
      · refine decide_eq_false fun z => c1 ?_
        injection z with z
        rw [List.length_map] at z
        exact List.length_eq_zero_iff.mp (by omega)
      · refine decide_eq_false fun z => hq ?_
        injection z with z
        rw [List.length_map] at z
        exact List.length_eq_zero_iff.mp (by omega)
    have h2 := h1.mono e2
    obtain ⟨ps, hc⟩ := carried_of sk.pd (cargoOf l L.T Vc) c2.lv
    have hcl : (cargoOf l L.T Vc).length ≤ l.pay := by unfold cargoOf; rw [List.length_take]; omega
    obtain ⟨m1, m2⟩ := sk.mov c2 hc c3
    have mwl : (movW l L.T (L.lseq + 1) (cargoOf l L.T Vc) ps).length ≤ 40 := by
      unfold movW
      rw [List.length_cons, payW_len, hc.1]
      have := lo.pay1
      omega
    refine q_ifNotC (ea_cons (ev_var rfl) (ea_cons (ev_var rfl) ea_nil)) fun H3 e3 => ⟨A, l, L, p, cargoOf l L.T Vc, ps, rfl, h2.mono e3, g.wf, g.qs, hq, e3 _ _ (e2 _ _ hp), hpo, hcl, hc, by omega, fun H4 w1 p1 s1 q1 ev4 h4 => ⟨true, rfl, ?_⟩⟩
    refine iteF ?_
    refine q_call (ea_cons (ev_var rfl) ea_nil) fun H5 e5 => ⟨A.at_ w1 p1 s1 q1, l, _, rfl, h4.mono e5, m1.g, m1.rg, fun x hx => ?_, m1.sw, fun H6 w2 p2 s2 q2 ev6 h6 => ?_⟩
    · rcases List.mem_append.mp hx with q | q
      · exact wt1 x q
      · exact (movW_fr lo g c2 hc.1 q).1.2.1
    · refine s_ret ev_c fun H7 e7 => k (ckL l (movL l L (cargoOf l L.T Vc) ps)) ⟨?_, ?_, ck_full, ck_queue m1.g, rfl, ⟨mvA _ (cargoOf l L.T Vc), mvA_zero, rfl, rfl⟩⟩ c4 H7 w2 p2 s2 q2 ((((Evo.ex ((e1.trans e2).trans e3)).trans ev4).trans (Evo.ex e5)).trans (ev6.trans (Evo.ex e7))) (h6.mono e7)
      · rw [← m2]
        exact m1.ck_.1
      · rw [m1.ck_.2, m2]
/-! ### has_room -/
noncomputable def roomB (l : Lay) (T : TS) (k : Nat) : Bool := @decide (HasRoom l T k) (Classical.propDecidable _)
theorem roomB_iff {l : Lay} {T : TS} {k : Nat} : roomB l T k = true ↔ HasRoom l T k := by
  unfold roomB
  exact @decide_eq_true_iff _ (Classical.propDecidable _)
theorem roomB_not {l : Lay} {T : TS} {k : Nat} : roomB l T k = false ↔ ¬ HasRoom l T k := by
  rw [← roomB_iff]
  cases roomB l T k <;> simp
def sp_has_room (K : PySem.W.Frag) : Sp := fun vs H Q _ => ∃ (A : Ad) (l : Lay) (L : Lg) (n : Nat), vs = [.ref A.lg, nV n] ∧ LogAt K H A l L ∧ GoodT l L.T ∧ RetV (.bl (roomB l L.T n)) H Q
abbrev nm_has_room : List Str := ["log", "count"]
theorem sc_has_room : FnScope nm_has_room ["log", "count"] (defScope s_has_room) := ⟨rfl, rfl, rfl, by decide +kernel, rfl, by decide +kernel, by decide +kernel⟩
theorem cnt_zero {l : Lay} {T : TS} (g : GoodT l T) {s : Nat} : cnt l T s = 0 ↔ ∀ a, isLive T a → l.sg a ≠ s := by
  unfold cnt
  rw [List.length_eq_zero_iff]
  constructor
  · intro h a ha e
    have : a ∈ liveIn l T s := mem_liveIn.mpr ⟨(g.lv a ha).2.1, ha, e⟩
    rw [h] at this
    cases this
  · intro h
    refine List.eq_nil_iff_forall_not_mem.mpr fun a ha => ?_
    obtain ⟨_, h1, h2⟩ := mem_liveIn.mp ha
    exact h a h1 h2
theorem ok_has_room (T : Ctx K mg base) : Okd P w K mg base 3 (He.ga K "has_room") ["log", "count"] (sp_has_room K) := by
  obtain ⟨fd, F⟩ := T.def_has_room
  have b : Binds K fd ["log", "count"] [] := FunD.bindsN F fun _ _ _ _ _ _ us hl => match us, hl with | [_, _], _ => rfl
  obtain ⟨fd_live_counts, G_live_counts, b_live_counts, k_live_counts⟩ := ok_live_counts (P := P) (w := w) T
  refine ⟨fd, FunD.ok F sc_has_room (fun vs H Q E h => ?_) (fun cdv A outer s H vs Q E hr h => ?_), b, F.kp⟩
  · obtain ⟨A, l, L, n, rfl, _⟩ := h
    rfl
  · obtain ⟨A, l, L, n, rfl, h, g, k⟩ := h
    refine ⟨_, PSs.nox (pss_cons (ps_if (PW.pt (pw_or (pt_cmpR op_le (pe_op op_add (pe_op op_add (pe_fld (pv 0) rfl) pe_int) (pv 1)) (pe_fld (pe_fld (pv 0) rfl) rfl) (nomark _)) (pw_or1 (pt_cmpR op_ge (pe_callB call_len_seq (by rfl) T.free_len PySem.boot_len (pa_cons (pe_fld (pv 0) rfl) pa_nil)) pe_int (nomark _))))) (pss_one (ps_ret pe_bl)) pss_nil)
      (pss_one (ps_ret (pe_and (pe_cmpR op_eq (pe_callB call_len_seq (by rfl) T.free_len PySem.boot_len (pa_cons (pe_fld (pv 0) rfl) pa_nil)) pe_int (nomark _)) (pe_one (pe_cmpR op_eq (pe_ix ix_list (pe_call G_live_counts (hr.mono (by decide)) rfl T.glo_live_counts k_live_counts b_live_counts .nil pass0 (pa_cons (pv 0) pa_nil)) (pe_fld (pv 0) rfl) (fun _ _ => rfl)) pe_int (nomark _))))))), ?_⟩
    refine q_when (b := decide (Fit l L.T n ∨ 2 ≤ L.T.queue.length)) (et_is (et_or (et_cmp (ev_op (ev_op (lv_place T h (ev_var rfl)) ev_c rv_I0) (ev_var rfl) rv_I0) (yv_segment_blocks T h.dev.la (lv_layout T h (ev_var rfl))) rv_I0) fun _ => et_cmp (ev_len (lv_queue T h (ev_var rfl)) (sq_of h.qu.1)) ev_c rv_I0) ?_) (fun hb H1 e1 => ?_) (fun hb H1 e1 => ?_)
    · rw [Bool.eq_iff_iff, nL_len]
      simp only [Bool.or_eq_true, decide_eq_true_eq]
      unfold Fit
      omega
    · have hb := of_decide_eq_true hb
      have : roomB l L.T n = true := roomB_iff.mpr (by
        rcases hb with q | q
        · exact .inl q
        · exact .inr (.inl q))
      rw [this] at k
      exact s_ret ev_c (RetV.at k e1)
    · have hb := of_decide_eq_false hb
      have h1 := h.mono e1
      refine s_ret (v := .bl (roomB l L.T n)) (ev_is (ev_andV (b := decide (cnt l L.T L.T.head = 0)) (ev_op (ev_len (lv_queue T h1 (ev_var rfl)) (sq_of h1.qu.1)) ev_c (rv_eq rfl)) fun _ => ev_is (ev_op (x := nV (cnt l L.T L.T.head)) (ev_opL1 (el_counts h1 g (ev_var rfl)) (fun H2 e2 => lv_head T (h1.mono e2) (ev_var rfl)) fun p H2 hp e2 => rv_ixL (sq_of hp) (atI_of (x := nV (cnt l L.T L.T.head)) ?_)) ev_c (rv_eq rfl)) ?_) ?_) (RetV.at k e1)
      · rw [List.getElem?_map, List.getElem?_map, List.getElem?_range g.hs]
        rfl
      · congr 1
        rw [Bool.eq_iff_iff, decide_eq_true_eq, decide_eq_true_eq]
        constructor
        · intro z; injection z with z; omega
        · intro z; rw [z]; rfl
      · congr 1
        rw [Bool.eq_iff_iff, roomB_iff, nL_len]
        simp only [Bool.and_eq_true, decide_eq_true_eq]
        constructor
        · rintro ⟨z1, z2⟩
          injection z1 with z1
          exact .inr (.inr ⟨by omega, (cnt_zero g).mp z2⟩)
        · rintro (z | z | ⟨z1, z2⟩)
          · exact absurd (.inl z) hb
          · exact absurd (.inr z) hb
          · exact ⟨by rw [z1]; rfl, (cnt_zero g).mpr z2⟩
end
end Sg

set_option maxHeartbeats 4000000
namespace Sg
open PySem PySem.Spec PyProof.Rows L2 Evl
section
variable {P : Program} {w : World} {K : PySem.W.Frag} {mg : Str → Option Value} {base : Heap}
/-! ### is_better -/
def sp_is_better (K : PySem.W.Frag) : Sp := fun vs H Q _ => ∃ (pol : Str) (pay c1 c2 : Nat) (a1 a2 : Int) (a b : Addr), vs = [.str pol, nV pay, .ref a, .ref b] ∧ pay ≤ 1000 ∧ c1 ≤ 1000 ∧ c2 ≤ 1000 ∧ H a = some (.tup [nV c1, .int a1]) ∧ H b = some (.tup [nV c2, .int a2]) ∧
  RetP (fun v _ => ∃ r : Bool, v = .bl r) H Q
abbrev nm_is_better : List Str := ["policy", "payload", "first", "second", "first_gain", "second_gain"]
theorem sc_is_better : FnScope nm_is_better ["policy", "payload", "first", "second"] (defScope s_is_better) := ⟨rfl, rfl, rfl, by decide +kernel, rfl, by decide +kernel, by decide +kernel⟩
theorem ok_is_better (T : Ctx K mg base) : Okd P w K mg base 1 (He.ga K "is_better") ["policy", "payload", "first", "second"] (sp_is_better K) := by
  obtain ⟨fd, F⟩ := T.def_is_better
  have b : Binds K fd ["policy", "payload", "first", "second"] [] := FunD.bindsN F fun _ _ _ _ _ _ us hl => match us, hl with | [_, _, _, _], _ => rfl
  refine ⟨fd, FunD.ok F sc_is_better (fun vs H Q E h => ?_) (fun cdv A outer s H vs Q E hr h => ?_), b, F.kp⟩
  · obtain ⟨pol, pay, c1, c2, a1, a2, a, b, rfl, _⟩ := h
    rfl
  · obtain ⟨pol, pay, c1, c2, a1, a2, a, b, rfl, h1, h2, h3, ha, hb, k⟩ := h
    refine ⟨_, PSs.nox (pss_cons (ps_if (pt_cmpR op_eq (pv 0) pe_str (nomark _)) (pss_one (ps_ret (pe_cmpR op_lt (pe_ix ix_tup (pv 2) pe_int (fun _ _ => rfl)) (pe_ix ix_tup (pv 3) pe_int (fun _ _ => rfl)) (nomark _)))) pss_nil)
      (pss_cons (ps_if (pt_cmpR op_eq (pv 0) pe_str (nomark _)) (pss_one (ps_ret (pe_cmpR op_gt (pe_ix ix_tup (pv 2) pe_int (fun _ _ => rfl)) (pe_ix ix_tup (pv 3) pe_int (fun _ _ => rfl)) (nomark _)))) pss_nil)
      (pss_cons (ps_set (i := 4) sc_is_better.nd rfl (Or.inl rfl) (pe_op op_mul (pe_op op_mul (pe_op op_sub (pv 1) (pe_ix ix_tup (pv 2) pe_int (fun _ _ => rfl))) (pe_ix ix_tup (pv 2) pe_int (fun _ _ => rfl))) (pe_op op_add (pv 1) (pe_ix ix_tup (pv 3) pe_int (fun _ _ => rfl)))))
      (pss_cons (ps_set (i := 5) sc_is_better.nd rfl (Or.inl rfl) (pe_op op_mul (pe_op op_mul (pe_op op_sub (pv 1) (pe_ix ix_tup (pv 3) pe_int (fun _ _ => rfl))) (pe_ix ix_tup (pv 3) pe_int (fun _ _ => rfl))) (pe_op op_add (pv 1) (pe_ix ix_tup (pv 2) pe_int (fun _ _ => rfl)))))
      (pss_one (ps_ret (pe_cmpR op_gt (pv 4) (pv 5) (nomark _)))))))), ?_⟩
    have f0 : ∀ {σ : L2.St} {H'} {tb : TE}, Ex H H' → σ[2]? = some (some (.ref a)) → Ev (tOp (rIxT K) (tVar 2) (tC (.int 0))) σ H' (nV c1) := fun e hs => ev_op (ev_var hs) ev_c (rv_ixT (st_of (e _ _ ha)) rfl)
    have f1 : ∀ {σ : L2.St} {H'} {tb : TE}, Ex H H' → σ[2]? = some (some (.ref a)) → Ev (tOp (rIxT K) (tVar 2) (tC (.int 1))) σ H' (.int a1) := fun e hs => ev_op (ev_var hs) ev_c (rv_ixT (st_of (e _ _ ha)) rfl)
    have g0 : ∀ {σ : L2.St} {H'} {tb : TE}, Ex H H' → σ[3]? = some (some (.ref b)) → Ev (tOp (rIxT K) (tVar 3) (tC (.int 0))) σ H' (nV c2) := fun e hs => ev_op (ev_var hs) ev_c (rv_ixT (st_of (e _ _ hb)) rfl)
    have g1 : ∀ {σ : L2.St} {H'} {tb : TE}, Ex H H' → σ[3]? = some (some (.ref b)) → Ev (tOp (rIxT K) (tVar 3) (tC (.int 1))) σ H' (.int a2) := fun e hs => ev_op (ev_var hs) ev_c (rv_ixT (st_of (e _ _ hb)) rfl)
    have fin : ∀ (r : Bool) H', Ex H H' → Q (.bl r) H' := fun r H' e => k _ _ e ⟨r, rfl⟩
    refine q_when (et_cmp (ev_var rfl) ev_c (rv_eq rfl)) (fun _ H1 e1 => ?_) (fun _ H1 e1 => ?_)
    · exact s_ret (ev_op (f0 (tb := tC .non) e1 rfl) (g0 (tb := tC .non) e1 rfl) rv_I0) fun H2 e2 => fin _ _ (e1.trans e2)
    refine q_when (et_cmp (ev_var rfl) ev_c (rv_eq rfl)) (fun _ H2 e2 => ?_) (fun _ H2 e2 => ?_)
    · exact s_ret (ev_op (f1 (tb := tC .non) (e1.trans e2) rfl) (g1 (tb := tC .non) (e1.trans e2) rfl) rv_I0) fun H3 e3 => fin _ _ ((e1.trans e2).trans e3)
    have E2 := e1.trans e2
    refine q_asg (ev_op (ev_op (ev_op (ev_var rfl) (f0 (tb := tC .non) E2 rfl) rv_I0) (f1 (tb := tC .non) E2 rfl) (rv_I (.inl ⟨by omega, by omega⟩))) (ev_op (ev_var rfl) (g0 (tb := tC .non) E2 rfl) rv_I0) (rv_I (.inr ⟨by omega, by omega⟩))) fun H3 e3 => ?_
    have E3 := E2.trans e3
    refine q_asg (ev_op (ev_op (ev_op (ev_var rfl) (g0 (tb := tC .non) E3 rfl) rv_I0) (g1 (tb := tC .non) E3 rfl) (rv_I (.inl ⟨by omega, by omega⟩))) (ev_op (ev_var rfl) (f0 (tb := tC .non) E3 rfl) rv_I0) (rv_I (.inr ⟨by omega, by omega⟩))) fun H4 e4 => ?_
    exact s_ret (ev_op (ev_var rfl) (ev_var rfl) rv_I0) fun H5 e5 => fin _ _ ((E3.trans e4).trans e5)
/-! ### make_room -/
def sp_order_candidates (K : PySem.W.Frag) : Sp := fun vs H Q _ => ∃ (A : Ad) (l : Lay) (L : Lg) (pol : Str), vs = [.ref A.lg, .str pol] ∧ LogAt K H A l L ∧ SeenOk l L ∧ RetP (fun v H2 => ∃ (p : Addr) (order : List Nat), v = .ref p ∧ H p = none ∧ H2 p = some (.lst (nL order)) ∧ order.length ≤ 1000) H Q
def sp_make_room (K : PySem.W.Frag) : Sp := fun vs H Q _ => ∃ (A : Ad) (l : Lay) (L : Lg) (n : Nat) (pol : Str), vs = [.ref A.lg, nV n, .str pol] ∧ LogAt K H A l L ∧ SeenOk l L ∧ WtOk l L 60000 ∧
  (HasRoom l L.T n → Gives K H A l L (.bl true) Q) ∧ ∀ L', Same l L L' → HasRoom l L'.T n → Gives K H A l L' (.bl true) Q
abbrev nm_make_room : List Str := ["log", "count", "policy", "_"]
theorem sc_make_room : FnScope nm_make_room ["log", "count", "policy"] (defScope s_make_room) := ⟨rfl, rfl, rfl, by decide +kernel, rfl, by decide +kernel, by decide +kernel⟩
theorem room_of_few {l : Lay} {T : TS} (o : l.Ok) (g : GoodT l T) (f : Full l T) (hq : T.queue ≠ []) {k : Nat} (h : (cands l T).length < 2) : HasRoom l T k := by
  apply Classical.byContradiction
  intro z
  have := (noroom o g f hq z).2.2
  omega
theorem s_retBl {σ : L2.St} {H : Hp} {D : Ends} {b : Bool} {te : TE} (h : Ev te σ H (.bl b)) (k : ∀ H1, Ex H H1 → D.rt (.bl b) H1) : tRet te D σ H := s_ret h k
end
end Sg

set_option maxHeartbeats 4000000
namespace Sg
open PySem PySem.Spec PyProof.Rows L2 Evl
section
variable {P : Program} {w : World} {K : PySem.W.Frag} {mg : Str → Option Value} {base : Heap}
theorem s_ifOrNotC {σ : L2.St} {H : Hp} {t : TT} {tA : TA} {sp : Sp} {dvs : List V} {E : XK} {tu : L2.TS} {D : Ends} {b : Bool} (h : EvT t σ H b) (h1 : b = true → ∀ H1, Ex H H1 → tu D σ H1)
    (h2 : b = false → ∀ H1, Ex H H1 → tA σ H1 fun vs H2 => sp (vs ++ dvs) H2 (fun v H3 => ∃ c, v = .bl c ∧ if (!c) = true then tu D σ H3 else D.nx σ H3) E) : tIfS (tOr t (tNot (tB (tCall sp dvs E tA)))) tu tNext D σ H := h H (Ex.refl H) _ fun H1 e1 => by
  cases b with
  | true =>
    show (if true = true then tu D σ H1 else D.nx σ H1)
    refine iteT ?_
    exact h1 rfl H1 e1
  | false => exact h2 rfl H1 e1
theorem fn_make_room (ok_order_candidates : Okd P w K mg base 6 (He.ga K "order_candidates") ["log", "policy"] (sp_order_candidates K)) (T : Ctx K mg base) : ∃ fd, FnOk P w K mg base CX0 7 (He.ga K "make_room") fd ["log", "count", "policy"] (sp_make_room K) ∧ PySem.W.keepIn K (.ref (He.ga K "make_room")) = true ∧
    KBn K fd ["log", "count", "policy"] 2 ["policy"] (fun us ws => us ++ ws) (fun vs zs => vs ++ zs) := by
  obtain ⟨fd, F⟩ := T.def_make_room
  obtain ⟨fd_fill, G_fill, b_fill, k_fill⟩ := ok_fill (P := P) (w := w) T
  obtain ⟨fd_has_room, G_has_room, b_has_room, k_has_room⟩ := ok_has_room (P := P) (w := w) T
  obtain ⟨fd_order_candidates, G_order_candidates, b_order_candidates, k_order_candidates⟩ := ok_order_candidates
  obtain ⟨fd_write_checkpoint, G_write_checkpoint, b_write_checkpoint, k_write_checkpoint⟩ := ok_write_checkpoint (P := P) (w := w) T
  refine ⟨fd, FunD.ok F sc_make_room (fun vs H Q E h => ?_) (fun cdv A outer s H vs Q E hr h => ?_), F.kp, ?_⟩
  · obtain ⟨A, l, L, n, pol, rfl, _⟩ := h
    rfl
  · obtain ⟨A, l, L, n, pol, rfl, h, sk, wt, k1, k2⟩ := h
    refine ⟨_, PSs.nox (pss_cons (ps_if (pt_val (pe_call G_has_room (hr.mono (by decide)) rfl T.glo_has_room k_has_room b_has_room .nil pass0 (pa_cons (pv 0) (pa_cons (pv 1) pa_nil)))) (pss_one (ps_ret pe_bl)) pss_nil)
      (pss_cons (ps_expr (pe_call G_write_checkpoint (hr.mono (by decide)) rfl T.glo_write_checkpoint k_write_checkpoint b_write_checkpoint .nil pass0 (pa_cons (pv 0) pa_nil)))
      (pss_cons (ps_for PassesOwn.never rfl (pi_range1 rfl T.free_range (pa_cons (pe_fld (pe_fld (pv 0) rfl) rfl) pa_nil)) (pg_name (i := 3) sc_make_room.nd rfl (Or.inl rfl)) (pss_one (ps_if (PW.pt (pw_or (pt_val (pe_call G_has_room (hr.mono (by decide)) rfl T.glo_has_room k_has_room b_has_room .nil pass0 (pa_cons (pv 0) (pa_cons (pv 1) pa_nil)))) (pw_or1 (pt_not (pt_val (pe_call G_fill (hr.mono (by decide)) rfl T.glo_fill k_fill b_fill .nil pass0 (pa_cons (pv 0) (pa_cons (pe_call G_order_candidates (hr.mono (by decide)) rfl T.glo_order_candidates k_order_candidates b_order_candidates .nil pass0 (pa_cons (pv 0) (pa_cons (pv 2) pa_nil))) pa_nil)))))))) (pss_one ps_break) pss_nil)))
      (pss_one (ps_ret (pe_call G_has_room (hr.mono (by decide)) rfl T.glo_has_room k_has_room b_has_room .nil pass0 (pa_cons (pv 0) (pa_cons (pv 1) pa_nil)))))))), ?_⟩
    have lo := sk.o
    have hs2 := lo.s2
    have room : ∀ {σ : L2.St} {H : Hp} {A' : Ad} {L' : Lg} {tA : TA} {E : XK}, LogAt K H A' l L' → GoodT l L'.T → EvA tA σ H [.ref A'.lg, nV n] → Ev (tCall (sp_has_room K) [] E tA) σ H (.bl (roomB l L'.T n)) := fun h g e =>
      ev_callV e fun H1 e1 Q E q => ⟨_, l, _, n, rfl, h.mono e1, g, q⟩
    refine q_when (b := roomB l L.T n) (et_val (room h sk.g (ea_cons (ev_var rfl) (ea_cons (ev_var rfl) ea_nil)))) (fun hb H1 e1 => ?_) (fun hb H1 e1 => ?_)
    · exact s_ret ev_c fun H2 e2 => k1 (roomB_iff.mp hb) H2 A.wt A.pr A.sl A.qu (Evo.ex (e1.trans e2)) ((h.mono e1).mono e2)
    have h1 := h.mono e1
    refine q_call (ea_cons (ev_var rfl) ea_nil) fun H2 e2 => ⟨A, l, L, rfl, h1.mono e2, sk.g, sk.rg, wt.1, sk.sw, fun H3 w3 p3 s3 q3 ev3 h3 => ?_⟩
    have ev03 := (Evo.ex (e1.trans e2)).trans ev3
    have fin : ∀ σ' H' L', (∃ w p s q y, σ' = [some (.ref A.lg), some (nV n), some (.str pol), y] ∧ Evo H A H' (A.at_ w p s q) ∧ LogAt K H' (A.at_ w p s q) l L') → Same l L L' → HasRoom l L'.T n → tRet (tCall (sp_has_room K) [] E0 (tCons (tVar 0) (tCons (tVar 1) tNil))) { nx := fun _ H' => Q .non H', rt := Q } σ' H' := by
      rintro σ' H' L' ⟨w1, p1, s1, q1, y, rfl, ev, hL⟩ sm hr'
      refine s_ret (room (A' := A.at_ w1 p1 s1 q1) hL sm.ok.seen.g (ea_cons (ev_var rfl) (ea_cons (ev_var rfl) ea_nil))) fun H4 e4 => ?_
      rw [roomB_iff.mpr hr']
      exact k2 L' sm hr' H4 w1 p1 s1 q1 (ev.trans (Evo.ex e4)) (hL.mono e4)
    refine q_forR1 (n := (l.seg : Int)) (ea_cons (yv_segments T h3.dev.la (lv_layout T h3 (ev_var rfl))) ea_nil) (by omega) (fun j σ' H' => ∃ L', (∃ w p s q y, σ' = [some (.ref A.lg), some (nV n), some (.str pol), y] ∧ Evo H A H' (A.at_ w p s q) ∧ LogAt K H' (A.at_ w p s q) l L') ∧ Same l L L' ∧ (cands l L'.T).length + 1 + j ≤ l.seg + 1)
      (fun H4 e4 => ⟨ckL l L, ⟨w3, p3, s3, q3, none, rfl, ev03.trans (Evo.ex e4), h3.mono e4⟩, sk.same, by have := cands_le (ck_good sk.g) (ck_queue sk.g); show (cands l (ckT l L.T)).length + 1 + 0 ≤ _; omega⟩) ?_ ?_
    · rintro j σ' H' hj ⟨L', ⟨w1, p1, s1, q1, y, rfl, ev, hL⟩, sm, hc⟩
      have g' := sm.ok.seen.g
      refine s_ifOrNotC (b := roomB l L'.T n) (et_val (room (A' := A.at_ w1 p1 s1 q1) hL g' (ea_cons (ev_var rfl) (ea_cons (ev_var rfl) ea_nil)))) (fun hb H4 e4 => ?_) (fun hb H4 e4 => ?_)
      · exact fin _ _ L' ⟨w1, p1, s1, q1, _, rfl, ev.trans (Evo.ex e4), hL.mono e4⟩ sm (roomB_iff.mp hb)
      · have hL4 := hL.mono e4
        refine ep2 (R := fun v H5 => ∃ (p : Addr) (order : List Nat), v = .ref p ∧ H5 p = some (.lst (nL order)) ∧ order.length ≤ 1000) (ev_var rfl) (evp_call (ea_cons (ev_var rfl) (ea_cons (ev_var rfl) ea_nil)) fun H5 e5 Q E q => ⟨A.at_ w1 p1 s1 q1, l, L', pol, rfl, hL4.mono e5, sm.ok.seen, fun v H6 e6 r => q v H6 e6 (by obtain ⟨p, order, r1, _, r2, r3⟩ := r; exact ⟨p, order, r1, r2, r3⟩)⟩) H4 (Ex.refl H4) _ fun us H5 e5 hu => ?_
        obtain ⟨v, rfl, p, order, rfl, ho, hol⟩ := hu
        refine ⟨A.at_ w1 p1 s1 q1, l, L', p, order, n, rfl, hL4.mono e5, sm.ok.seen, sm.fu, sm.qu, roomB_not.mp hb, sm.wtOk _, ho, hol, fun L2 sm2 hc2 H6 w6 p6 s6 q6 ev6 h6 => ⟨true, rfl, ?_⟩⟩
        refine iteF ?_
        exact ⟨L2, ⟨w6, p6, s6, q6, _, rfl, (ev.trans (Evo.ex (e4.trans e5))).trans ev6, h6⟩, sm.trans sm2, by omega⟩
    · rintro σ' H' ⟨L', hx, sm, hc⟩
      have hn : (l.seg : Int).toNat = l.seg := by omega
      rw [hn] at hc
      exact fin _ _ L' hx sm (room_of_few lo sm.ok.seen.g sm.fu sm.qu (by omega))
  · exact kbindsN F 2 ["policy"] fun kV doc pm an cdv ct us ws h1 h2 => match us, h1, ws, h2 with | [_, _], _, [_], _ => rfl
end
end Sg

set_option maxHeartbeats 4000000
/-! rules of our own: max(xs, default=0) -/
namespace Sg
open PySem PySem.Spec PyProof.Rows L2 Evl
theorem readsAll_of {h : Heap} : ∀ {its : List Value} {ns : List Int}, IntsAre its ns → ReadsAll h its (ns.map .int) []
  | _, _, .nil => .nil
  | _, _, .cons n t r => ReadsAll.cons (as := []) (bs := []) (.int n t) (readsAll_of r)
theorem alike_ints (ns : List Int) : PySem.W.AlikeAll (ns.map .int) := ⟨fun x hx y hy => by
  obtain ⟨a, _, rfl⟩ := List.mem_map.mp hx
  obtain ⟨b, _, rfl⟩ := List.mem_map.mp hy
  rfl, fun x hx => by
  obtain ⟨a, _, rfl⟩ := List.mem_map.mp hx
  simp⟩
theorem depth_ints : ∀ ns : List Int, PyData.depthAll (ns.map .int) ≤ 1
  | [] => by simp [PyData.depthAll]
  | n :: ns => by
    have := depth_ints ns
    simp [PyData.depthAll, PyData.depth]
    omega
def rMaxDef (K : PySem.W.Frag) : List V → List V → Hp → VK → Prop := fun vs zs H Q => ∃ (a : Addr) (ns : List Int), vs = [.ref a] ∧ zs = [.int 0] ∧ SqL K H a (ns.map V.int) ∧ (∀ y ∈ ns, y = 0) ∧ Q (.int 0) H
section
variable {X : Cx}
theorem call_maxDef (hc : X.calm = true) (hu : X.A.units + 10 < cLine) : CallRK X (.builtin "max") ["default"] (rMaxDef X.K) := by
  intro pins s σ H xs zs us ws Q I r rz h
  obtain ⟨a, ns, rfl, rfl, hs, hz, q⟩ := h
  obtain ⟨its, rv, hl, _⟩ := I.list hs
  rw [Vals.ref1 r]
  obtain ⟨d, rfl, rd⟩ := vals1 rz
  obtain ⟨t, rfl⟩ := rd
  have hi := rv.ints
  show wpAny _ _ (call (.builtin "max") [.ref a] [(Str.ofString "default", .int 0 t)]) _ _ _
  have hdp := depth_ints ns
  refine PySem.W.max_list_default (I.ok.hd hc) hl.isList (vs := its.toArray) (xs := ns.map .int) (as := []) (by simpa using readsAll_of hi) (alike_ints ns) (by omega) (fun _ h' tk hk => ⟨.int 0, H, I.kept hk, ⟨_, rfl⟩, q⟩) fun y ys i v h' tk bs _ hv _ hk => ?_
  have hv : its[i]? = some v := by simpa using hv
  have hl2 : i < (ns.map V.int).length := by
    have := (List.getElem?_eq_some_iff.mp hv).1
    rw [rv.length]
    exact this
  obtain ⟨u, hu1, hu2⟩ := Vals.get rv (List.getElem?_eq_getElem hl2)
  rw [hv] at hu1
  injection hu1 with hu1
  rw [← hu1] at hu2
  obtain ⟨n, hn, e⟩ := List.mem_map.mp (List.getElem_mem hl2)
  rw [← e, hz n hn] at hu2
  exact ⟨.int 0, H, I.kept hk, hu2, q⟩
end
section
variable {K : PySem.W.Frag} {σ : L2.St} {H : Hp} {ta tb : TE}
theorem ev_maxDef {t : List Nat} (ha : EvL ta σ H (nL t)) (hz : ∀ k ∈ t, k = 0) : Ev (tCKw (rMaxDef K) (tCons ta tNil) (tCons (tC (.int 0)) tNil)) σ H (.int 0) := fun H1 e Q q =>
  ha H1 e _ fun p H2 hp e2 h2 => ⟨p, t.map Int.ofNat, rfl, rfl, by
    rw [List.map_map]
    exact sq_of h2, fun y hy => by
    obtain ⟨k, hk, rfl⟩ := List.mem_map.mp hy
    rw [hz k hk]
    rfl, q H2 e2⟩
theorem et_max0 {p : Addr} {t : List Nat} (ha : Ev ta σ H (.ref p)) (h : H p = some (.lst (nL t))) (hl : 0 < t.length) (hz : ∀ k ∈ t, k = 0) : Ev (tCB (rMax K) (tCons ta tNil)) σ H (.int 0) := fun H1 e Q q =>
  ha H1 e _ fun H2 e2 => ⟨p, t.map Int.ofNat, rfl, by
    rw [List.map_map]
    exact sq_of (e2 _ _ (e _ _ h)), by rw [List.length_map]; exact hl, fun m hm _ => by
    obtain ⟨k, hk, rfl⟩ := List.mem_map.mp hm
    rw [hz k hk]
    exact q H2 e2⟩
end
end Sg

set_option maxHeartbeats 4000000
namespace Sg
open PySem PySem.Spec PyProof.Rows L2 Evl
def ckRest (l : Lay) (T : TS) : List Nat := [T.head, T.place, T.queue.length] ++ (T.queue ++ List.replicate (l.rb * l.fan - (ckHead l T).length) 0)
theorem foldl_app {α β : Type} (f : β → List α) : ∀ (ss : List β) (n : List α), ss.foldl (fun n s => n ++ f s) n = n ++ ss.flatMap f
  | [], n => by simp
  | s :: ss, n => by
    rw [List.foldl_cons, foldl_app f ss, List.flatMap_cons, List.append_assoc]
theorem ck_form (l : Lay) (T : TS) : ckNums l T = T.pres.tail ++ (T.slots.flatMap (slotNums l) ++ ckRest l T) := by
  unfold ckNums ckRest
  have : ckHead l T = T.pres.tail ++ (T.slots.flatMap (slotNums l) ++ ([T.head, T.place, T.queue.length] ++ T.queue)) := by
    unfold ckHead
    rw [foldl_app]
    simp [List.append_assoc]
  rw [← List.append_assoc [T.head, T.place, T.queue.length] T.queue]
  conv => lhs; rw [this]
  rw [this]
  simp [List.append_assoc]
theorem slotNums_len {l : Lay} {T : TS} (wf : Wf l T) {s : Option (List Nat)} (h : s ∈ T.slots) : (slotNums l s).length = l.last + 1 := by
  cases s with
  | none => simp [slotNums]
  | some t => simp [slotNums, wf.lt t h]
theorem ck_drop {l : Lay} {T : TS} (wf : Wf l T) : ∀ j, j ≤ 3 → (ckNums l T).drop (l.last + j * (l.last + 1)) = (T.slots.drop j).flatMap (slotNums l) ++ ckRest l T := by
  intro j
  induction j with
  | zero =>
    intro _
    have hl : l.last + 0 * (l.last + 1) = T.pres.tail.length := by rw [List.length_tail, wf.lp]; omega
    rw [ck_form, hl]
    simp
  | succ j ih =>
    intro hj
    have hlt : j < T.slots.length := by rw [wf.ls]; omega
    have e : l.last + (j + 1) * (l.last + 1) = (l.last + j * (l.last + 1)) + (l.last + 1) := by rw [Nat.add_mul]; omega
    rw [e, ← List.drop_drop, ih (by omega), List.drop_eq_getElem_cons hlt, List.flatMap_cons, List.append_assoc, List.drop_append, slotNums_len wf (List.getElem_mem hlt), List.drop_of_length_le (by rw [slotNums_len wf (List.getElem_mem hlt)]; exact Nat.le_refl _)]
    simp
section
variable {P : Program} {w : World} {K : PySem.W.Frag} {mg : Str → Option Value} {base : Heap}
/-! ### read_numbers -/
/-- what a checkpoint's numbers say -/
def ReadAt (H H2 : Hp) (T : TS) (v : V) : Prop := ∃ t p s q vs, v = .ref t ∧ H2 t = some (.tup [.ref p, .ref s, nV T.head, nV T.place, .ref q]) ∧ H p = none ∧ H2 p = some (.lst (nL T.pres)) ∧ H s = none ∧ H2 s = some (.lst vs) ∧ Rl (SlotF H H2) vs T.slots ∧ H q = none ∧ H2 q = some (.lst (nL T.queue)) ∧ t ≠ s
def sp_read_numbers (K : PySem.W.Frag) : Sp := fun vs H Q _ => ∃ (la n : Addr) (l : Lay) (T : TS), vs = [.ref la, .ref n] ∧ LayAt K H la l ∧ GoodT l T ∧ H n = some (.lst (nL (ckNums l T))) ∧ RetP (fun v H2 => ReadAt H H2 T v) H Q
abbrev nm_read_numbers : List Str := ["layout", "numbers", "width", "present", "at", "slots", "_", "taken", "addresses", "head", "place", "count", "end"]
theorem sc_read_numbers : FnScope nm_read_numbers ["layout", "numbers"] (defScope s_read_numbers) := ⟨rfl, rfl, rfl, by decide +kernel, rfl, by decide +kernel, by decide +kernel⟩
theorem el_hi {σ : L2.St} {H : Hp} {te : TE} {a : Addr} {t : List Nat} (j : Nat) (h : Ev te σ H (.ref a)) (ha : SqL K H a (nL t)) {th : TO} (hh : EvO th σ H (some (j : Int))) : EvL (tSl (rSlL K) te tNoPart th) σ H (nL (t.take j)) := by
  have := el_sl (K := K) h eo_none hh ha
  rw [cut_hi, nL_take] at this
  exact this
theorem get_drop {t u : List Nat} {i : Nat} {x : Nat} (h : t.drop i = x :: u) : t[i]? = some x := by
  have := congrArg (fun q => q[0]?) h
  simpa using this
theorem drop_more {t u : List Nat} {i : Nat} {x : Nat} (h : t.drop i = x :: u) : t.drop (i + 1) = u := by
  rw [← List.drop_drop, h]
  rfl
theorem q_asgLG {σ : L2.St} {H : Hp} {te : TE} {g : TG} {tz : L2.TS} {D : Ends} {xs : List V} (h : EvL te σ H xs) (k : ∀ p H1, H p = none → Ex H H1 → H1 p = some (.lst xs) → g (.ref p) σ H1 (tz D)) : tSeq (tAsg te g) tz D σ H := h H (Ex.refl H) _ k
theorem g_unl3 {σ : L2.St} {H : Hp} {i j k : Nat} {q : Addr} {x y z : V} {Q : L2.St → Hp → Prop} (h : H q = some (.lst [x, y, z])) (c : Q (((σ.set i (some x)).set j (some y)).set k (some z)) H) :
    gUnl K 3 (gCons (gName i) (gCons (gName j) (gCons (gName k) gNil))) (.ref q) σ H Q := ⟨q, _, rfl, sq_of h, rfl, x, _, rfl, y, _, rfl, z, _, rfl, rfl, c⟩
theorem s_retTup5 {σ : L2.St} {H : Hp} {D : Ends} {t1 t2 t3 t4 t5 : TE} {x1 x2 x3 x4 : V} {xs : List V} (h1 : Ev t1 σ H x1) (h2 : Ev t2 σ H x2) (h3 : Ev t3 σ H x3) (h4 : Ev t4 σ H x4) (h5 : EvL t5 σ H xs)
    (k : ∀ t q H2, H q = none → H t = none → Ex H H2 → H2 q = some (.lst xs) → H2 t = some (.tup [x1, x2, x3, x4, .ref q]) → D.rt (.ref t) H2) : tRet (tTup (tCons t1 (tCons t2 (tCons t3 (tCons t4 (tCons t5 tNil)))))) D σ H :=
  h1 H (Ex.refl H) _ fun H1 e1 => h2 H1 e1 _ fun H2 e2 => h3 H2 (e1.trans e2) _ fun H3 e3 => h4 H3 ((e1.trans e2).trans e3) _ fun H4 e4 => h5 H4 (((e1.trans e2).trans e3).trans e4) _ fun q H5 hq e5 h => by
    have E4 := ((e1.trans e2).trans e3).trans e4
    refine ⟨(by show 5 ≤ sizeLine; exact sz_of (Nat.le_of_ble_eq_true rfl)), fun t ht => k t q _ (fresh_back E4 hq) (fresh_back (E4.trans e5) ht) ((E4.trans e5).trans (Ex.new ht)) (Ex.new ht _ _ h) upd_same⟩
theorem ok_read_numbers (T : Ctx K mg base) : Okd P w K mg base 1 (He.ga K "read_numbers") ["layout", "numbers"] (sp_read_numbers K) := by
  obtain ⟨fd, F⟩ := T.def_read_numbers
  have b : Binds K fd ["layout", "numbers"] [] := FunD.bindsN F fun _ _ _ _ _ _ us hl => match us, hl with | [_, _], _ => rfl
  obtain ⟨tSLOTS, hSLOTS⟩ := T.int_SLOTS
  refine ⟨fd, FunD.ok F sc_read_numbers (fun vs H Q E h => ?_) (fun cdv A outer s H vs Q E hr h => ?_), b, F.kp⟩
  · obtain ⟨la, n, l, S, rfl, _⟩ := h
    rfl
  · obtain ⟨la, n, l, S, rfl, hla, g, hn, k⟩ := h
    have hu10 := Nat.lt_of_le_of_lt (Nat.add_le_add_left (by decide : 10 ≤ 64) _) hr.units
    refine ⟨_, PSs.nox (pss_cons (ps_set (i := 2) sc_read_numbers.nd rfl (Or.inl rfl) (pe_fld (pv 0) rfl))
      (pss_cons (ps_set (i := 3) sc_read_numbers.nd rfl (Or.inl rfl) (pe_op op_cat (pe_lst (pa_cons pe_int pa_nil)) (pe_slice sl_list (pv 1) po_none (po_some (pv 2)))))
      (pss_cons (ps_set (i := 4) sc_read_numbers.nd rfl (Or.inl rfl) (pv 2))
      (pss_cons (ps_set (i := 5) sc_read_numbers.nd rfl (Or.inl rfl) (pe_lst pa_nil))
      (pss_cons (ps_for PassesOwn.never rfl (pi_range1 rfl T.free_range (pa_cons (pe_glob (v := .int 3) rfl hSLOTS ⟨_, rfl⟩) pa_nil)) (pg_name (i := 6) sc_read_numbers.nd rfl (Or.inl rfl)) (pss_cons (ps_set (i := 7) sc_read_numbers.nd rfl (Or.inl rfl) (pe_ix ix_list (pv 1) (pv 4) (fun _ _ => rfl)))
      (pss_cons (ps_set (i := 8) sc_read_numbers.nd rfl (Or.inl rfl) (pe_slice sl_list (pv 1) (po_some (pe_op op_add (pv 4) pe_int)) (po_some (pe_op op_add (pe_op op_add (pv 4) pe_int) (pv 2)))))
      (pss_cons (ps_set (i := 4) sc_read_numbers.nd rfl (Or.inl rfl) (pe_op op_add (pe_op op_add (pv 4) pe_int) (pv 2)))
      (pss_cons (ps_if (PW.pt (pw_or (pt_cmpR op_gt (pv 7) pe_int (nomark _)) (pw_or1 (PW.pt (pw_and (pt_cmpR op_eq (pv 7) pe_int (nomark _)) (pw_and1 (pt_cmpR op_gt (pe_callB (cr_max rfl) (by rfl) T.free_max (by decide +kernel) (pa_cons (pv 8) pa_nil)) pe_int (nomark _)))))))) (pss_one (ps_ret pe_non)) pss_nil)
      (pss_one (ps_if (pt_cmpR op_eq (pv 7) pe_int (nomark _)) (pss_one (ps_expr (pe_bm PySem.F.plainAttrs_list PySem.F.slot_list_append PySem.F.type_list_append mt_append (pv 5) (pa_cons (pe_op op_cat (pe_lst (pa_cons pe_int pa_nil)) (pv 8)) pa_nil)))) (pss_one (ps_expr (pe_bm PySem.F.plainAttrs_list PySem.F.slot_list_append PySem.F.type_list_append mt_append (pv 5) (pa_cons pe_non pa_nil)))))))))))
      (pss_cons (ps_asg (pe_slice sl_list (pv 1) (po_some (pv 4)) (po_some (pe_op op_add (pv 4) pe_int))) (pg_unl rfl (pgs_cons (pg_name (i := 9) sc_read_numbers.nd rfl (Or.inl rfl)) (pgs_cons (pg_name (i := 10) sc_read_numbers.nd rfl (Or.inl rfl)) (pgs_cons (pg_name (i := 11) sc_read_numbers.nd rfl (Or.inl rfl)) pgs_nil)))))
      (pss_cons (ps_set (i := 12) sc_read_numbers.nd rfl (Or.inl rfl) (pe_op op_add (pe_op op_add (pv 4) pe_int) (pv 11)))
      (pss_cons (ps_if (PW.pt (pw_or (pt_cmpR op_gt (pv 11) (pe_fld (pv 0) rfl) (nomark _)) (pw_or1 (pt_cmpR op_gt (pe_callBK (call_maxDef rfl hu10) (by rfl) T.free_max (by decide +kernel) (pa_cons (pe_slice sl_list (pv 1) (po_some (pv 12)) po_none) pa_nil) (pk_cons pe_int pk_nil)) pe_int (nomark _))))) (pss_one (ps_ret pe_non)) pss_nil)
      (pss_one (ps_ret (pe_tup (pa_cons (pv 3) (pa_cons (pv 5) (pa_cons (pv 9) (pa_cons (pv 10) (pa_cons (pe_slice sl_list (pv 1) (po_some (pe_op op_add (pv 4) pe_int)) (po_some (pv 12))) pa_nil)))))))))))))))), ?_⟩
    have lo := hla.1
    have wf := g.wf
    have hl1 := lo.last1
    have hql := g.qlen
    have hs2 := lo.s2
    refine q_asg (yv_last_id T hla (ev_var rfl)) fun H1 e1 => ?_
    have n1 := e1 _ _ hn
    refine q_asgL (el_cat (xs := [.int 0]) (ys := nL ((ckNums l S).take l.last)) (EvL.x (el_lst (ea_cons ev_c ea_nil) (Nat.le_of_ble_eq_true rfl))) (EvL.x (el_hi l.last (ev_var rfl) (sq_of n1) (eo_some (ev_var rfl)))) (by rw [nL_len, List.length_take]; simp; omega)) fun p H2 hp e2 h2 => ?_
    have hpres : 0 :: S.pres.tail = S.pres := by
      have := g.p0
      cases e : S.pres with
      | nil => rw [e] at this; cases this
      | cons x r =>
        rw [e] at this
        have : x = 0 := by simpa using this
        rw [this]
        rfl
    have h2 : H2 p = some (.lst (nL S.pres)) := by
      rw [h2]
      congr 2
      have : (ckNums l S).take l.last = S.pres.tail := by
        rw [ck_form]
        have hl : l.last = S.pres.tail.length := by rw [List.length_tail, wf.lp]; omega
        rw [hl]
        simp
      rw [this, ← hpres]
      rfl
    have E2 := e1.trans e2
    refine q_asg (ev_var rfl) fun H3 e3 => ?_
    refine q_asgL (el_lst ea_nil (Nat.zero_le _)) fun sl H4 hsl e4 h4 => ?_
    have E4 := (E2.trans e3).trans e4
    have hslH : H sl = none := fresh_back (E2.trans e3) hsl
    have hpH : H p = none := fresh_back e1 hp
    have p4 := e4 _ _ (e3 _ _ h2)
    have hpsl : p ≠ sl := fun z => by rw [← z, e3 _ _ h2] at hsl; cases hsl
    have hnsl : n ≠ sl := fun z => by rw [z, hslH] at hn; cases hn
    refine q_forR1 (n := 3) (ea_cons ev_c ea_nil) (by decide) (fun j σ' H' => ∃ x y z vs, σ' = [some (.ref la), some (.ref n), some (nV l.last), some (.ref p), some (nV (l.last + j * (l.last + 1))), some (.ref sl), x, y, z, none, none, none, none] ∧ Ex H H' ∧ H' p = some (.lst (nL S.pres)) ∧ H' sl = some (.lst vs) ∧ Rl (fun v o => SlotF H H' v o ∧ v ≠ .ref sl) vs (S.slots.take j))
      (fun H5 e5 => ⟨none, none, none, [], by rw [Nat.zero_mul]; rfl, E4.trans e5, e5 _ _ p4, e5 _ _ h4, Rl.nil⟩) ?_ ?_
    · rintro j σ' H' hj ⟨x, y, z, vs, rfl, e, hp', hs', rl⟩
      have hj3 : j < 3 := by omega
      have hlt : j < S.slots.length := by rw [wf.ls]; exact hj3
      have hd := ck_drop wf j (by omega)
      rw [List.drop_eq_getElem_cons hlt, List.flatMap_cons, List.append_assoc] at hd
      have hslen := slotNums_len wf (List.getElem_mem hlt)
      have hsn : ∃ tk ad, slotNums l S.slots[j] = tk :: ad ∧ ad.length = l.last ∧ ((S.slots[j] = none ∧ tk = 0 ∧ ∀ k ∈ ad, k = 0) ∨ ∃ t, S.slots[j] = some t ∧ tk = 1 ∧ 0 :: ad = t) := by
        cases e : S.slots[j] with
        | none =>
          refine ⟨0, List.replicate l.last 0, by rw [slotNums, List.replicate_succ], by simp, .inl ⟨rfl, rfl, fun k hk => (List.mem_replicate.mp hk).2⟩⟩
        | some t =>
          have ht := g.lt t (by rw [← e]; exact List.getElem_mem hlt)
          refine ⟨1, t.tail, rfl, by rw [List.length_tail, ht.1]; omega, .inr ⟨t, rfl, rfl, ?_⟩⟩
          cases ht' : t with
          | nil => rw [ht'] at ht; simp at ht
          | cons x r =>
            rw [ht'] at ht
            have : x = 0 := by simpa using ht.2
            rw [this]
            rfl
      obtain ⟨tk, ad, hsn1, hadl, hcase⟩ := hsn
      rw [hsn1] at hd
      have hn' := e _ _ hn
      refine q_asg (v := nV tk) (ev_op (ev_var rfl) (ev_var rfl) (rv_ixL (sq_of hn') (atI_of (by rw [List.getElem?_map, get_drop hd]; rfl)))) fun H5 e5 => ?_
      have hn5 := e5 _ _ hn'
      refine q_asgL (el_lh (l.last + j * (l.last + 1) + 1) (l.last + j * (l.last + 1) + 1 + l.last) (ev_var rfl) (sq_of hn5) (eo_some (ev_op (ev_var rfl) ev_c rv_I0)) (eo_some (ev_op (ev_op (ev_var rfl) ev_c rv_I0) (ev_var rfl) rv_I0))) fun a H6 ha e6 h6 => ?_
      have hcut : ((ckNums l S).drop (l.last + j * (l.last + 1) + 1)).take (l.last + j * (l.last + 1) + 1 + l.last - (l.last + j * (l.last + 1) + 1)) = ad := by
        rw [drop_more hd, show l.last + j * (l.last + 1) + 1 + l.last - (l.last + j * (l.last + 1) + 1) = ad.length by omega]
        simp
      rw [hcut] at h6
      refine q_asg (v := nV (l.last + (j + 1) * (l.last + 1))) (ev_is (ev_op (ev_op (ev_var rfl) ev_c rv_I0) (ev_var rfl) rv_I0) (nv_eq (by rw [Nat.add_mul]; omega))) fun H7 e7 => ?_
      have E7 := (e5.trans e6).trans e7
      have h7 := e7 _ _ h6
      refine q_when (b := false) (et_is (et_or (b := false) (et_cmp (ev_var rfl) ev_c rv_I0) fun _ => et_is (et_and (b := false) (et_cmp (ev_var rfl) ev_c (rv_eq rfl)) fun hz => et_is (et_cmp (et_max0 (ev_var rfl) h7 (by omega) (by
        rcases hcase with ⟨_, _, q⟩ | ⟨t, _, q, _⟩
        · exact q
        · rw [q] at hz; cases hz)) ev_c rv_I0) rfl) (by cases (decide (nV tk = V.int 0)) <;> rfl)) ?_) (fun z => by cases z) (fun _ H8 e8 => ?_)
      · rw [Bool.or_false]
        refine decide_eq_false ?_
        rcases hcase with ⟨_, q, _⟩ | ⟨t, _, q, _⟩ <;> rw [q] <;> decide
      have hs8 := e8 _ _ (E7 _ _ hs')
      rcases hcase with ⟨hc1, rfl, hc3⟩ | ⟨t, hc1, rfl, hc3⟩
      · refine s_if (b := false) (et_is (et_cmp (ev_var rfl) ev_c (rv_eq rfl)) rfl) (fun z => by cases z) (fun _ H9 e9 => ?_)
        refine s_app (e9 _ _ hs8) (ev_var rfl) ev_c (by rw [rl.1, List.length_take]; omega) fun H10 e10 => ?_
        have E10 := (E7.trans e8).trans (e9.trans e10)
        refine ⟨_, _, _, _, rfl, Ex.mut (e.trans E10) hslH, ?_, upd_same, ?_⟩
        · rw [upd_ne hpsl]
          exact E10 _ _ hp'
        · rw [take_snoc (List.getElem?_eq_getElem hlt), hc1]
          exact (rows_keep rl E10 _).app (Rl.one ⟨rfl, fun z => by cases z⟩)
      · refine s_if (b := true) (et_is (et_cmp (ev_var rfl) ev_c (rv_eq rfl)) rfl) (fun _ H9 e9 => ?_) (fun z => by cases z)
        refine s_appL (ys := [.int 0] ++ nL ad) (e9 _ _ hs8) (ev_var rfl) (el_cat (EvL.x (el_lst (ea_cons ev_c ea_nil) (Nat.le_of_ble_eq_true rfl))) (Ev.x (ev_var rfl) (e9 _ _ (e8 _ _ h7))) (by rw [nL_len]; simp; omega)) (by rw [rl.1, List.length_take]; omega) fun r H10 hr0 e10 h10 => ?_
        have E10 := (E7.trans e8).trans (e9.trans e10)
        have hrs : sl ≠ r := ne_of_none (e9 _ _ hs8) hr0
        refine ⟨_, _, _, _, rfl, Ex.mut (e.trans E10) hslH, ?_, upd_same, ?_⟩
        · rw [upd_ne hpsl]
          exact E10 _ _ hp'
        · rw [take_snoc (List.getElem?_eq_getElem hlt), hc1]
          refine (rows_keep rl E10 _).app (Rl.one ⟨⟨r, rfl, fresh_back (e.trans ((E7.trans e8).trans e9)) hr0, ?_⟩, fun z => by injection z with z; exact hrs z.symm⟩)
          rw [upd_ne (fun z => hrs z.symm), h10, ← hc3]
          rfl
    · rintro σ' H' ⟨x, y, z, vs, rfl, e, hp', hs', rl⟩
      have hd := ck_drop wf 3 (Nat.le_refl _)
      rw [show S.slots.drop 3 = [] from List.drop_of_length_le (by rw [wf.ls]; exact Nat.le_refl _)] at hd
      have hd : (ckNums l S).drop (l.last + 3 * (l.last + 1)) = S.head :: S.place :: S.queue.length :: (S.queue ++ List.replicate (l.rb * l.fan - (ckHead l S).length) 0) := hd
      have hn' := e _ _ hn
      have rl : Rl (fun v o => SlotF H H' v o ∧ v ≠ .ref sl) vs S.slots := by
        have : S.slots.take (3 : Int).toNat = S.slots := List.take_of_length_le (by rw [wf.ls]; decide)
        rw [this] at rl
        exact rl
      refine q_asgLG (el_lh (l.last + 3 * (l.last + 1)) (l.last + 3 * (l.last + 1) + 3) (ev_var rfl) (sq_of hn') (eo_some (ev_var rfl)) (eo_some (ev_op (ev_var rfl) ev_c rv_I0))) fun u H5 hu0 e5 h5 => ?_
      have h5 : H5 u = some (.lst [nV S.head, nV S.place, nV S.queue.length]) := by
        rw [h5, hd, show l.last + 3 * (l.last + 1) + 3 - (l.last + 3 * (l.last + 1)) = 3 by omega]
        rfl
      refine g_unl3 h5 ?_
      have E5 := e.trans e5
      refine q_asg (v := nV (l.last + 3 * (l.last + 1) + 3 + S.queue.length)) (ev_op (ev_op (ev_var rfl) ev_c rv_I0) (ev_var rfl) rv_I0) fun H6 e6 => ?_
      have E6 := E5.trans e6
      have n6 := E6 _ _ hn
      have hd3 : (ckNums l S).drop (l.last + 3 * (l.last + 1) + 3) = S.queue ++ List.replicate (l.rb * l.fan - (ckHead l S).length) 0 := by
        rw [← List.drop_drop, hd]
        rfl
      refine q_when (b := false) (et_is (et_or (b := false) (et_cmp (ev_var rfl) (yv_segments T (hla.mono E6) (ev_var rfl)) rv_I0) fun _ => et_is (et_cmp (ev_maxDef (t := (ckNums l S).drop (l.last + 3 * (l.last + 1) + 3 + S.queue.length)) (el_lo _ (ev_var rfl) (sq_of n6) (eo_some (ev_var rfl))) (fun k hk => ?_)) ev_c rv_I0) rfl) ?_) (fun z => by cases z) (fun _ H7 e7 => ?_)
      · rw [← List.drop_drop, hd3] at hk
        simp at hk
        exact hk.2
      · rw [Bool.or_false]
        exact decide_eq_false (by omega)
      have E7 := E6.trans e7
      refine s_retTup5 (ev_var rfl) (ev_var rfl) (ev_var rfl) (ev_var rfl) (el_lh (l.last + 3 * (l.last + 1) + 3) (l.last + 3 * (l.last + 1) + 3 + S.queue.length) (ev_var rfl) (sq_of (e7 _ _ n6)) (eo_some (ev_op (ev_var rfl) ev_c rv_I0)) (eo_some (ev_var rfl))) fun t q H8 hq ht e8 h8 h9 => ?_
      have E8 := E7.trans e8
      have hqq : ((ckNums l S).drop (l.last + 3 * (l.last + 1) + 3)).take (l.last + 3 * (l.last + 1) + 3 + S.queue.length - (l.last + 3 * (l.last + 1) + 3)) = S.queue := by
        rw [hd3, show l.last + 3 * (l.last + 1) + 3 + S.queue.length - (l.last + 3 * (l.last + 1) + 3) = S.queue.length by omega]
        simp
      rw [hqq] at h8
      have e08 := (e5.trans e6).trans (e7.trans e8)
      refine k _ _ E8 ⟨t, p, sl, q, vs, rfl, h9, hpH, e08 _ _ hp', hslH, e08 _ _ hs', rl.mono fun _ _ z => z.1.up e08, fresh_back E7 hq, h8, fun z => ?_⟩
      rw [z, e08 _ _ hs'] at h9
      cases h9
end
end Sg

set_option maxHeartbeats 4000000
/-! rules of our own: list.extend(tuple) -/
namespace PySem
open Sem (wp)
theorem AutoSeq1.sg_extend_tuple (l : Addr) (items : Array Value) (n : Nat) (b : Addr) (items2 : Array Value) (n2 : Nat) (dd : Option Addr) (sl : Array (Option Value)) (hs0 : ¬(!items.isEmpty && Builtin.List.listTooLong (items.size + items2.size)) = true) (hs1 : items.size ≤ sizeLine) (hs2 : items.size + items2.size ≤ sizeLine + 1 := by seq_fits) :
    Meets (Builtin.«list.extend» ⟨[.ref l, .ref b], []⟩) (fun _ R s => s.heap.get? l = some { cls := .type "list", dict := none, data := .seq items n, slots := #[] } ∧ s.heap.get? b = some { cls := .type "tuple", dict := dd, data := .seq items2 n2, slots := sl } ∧ R (.ok (.ret Value.none)) { s with heap := s.heap.update l (Obj.mapSeq fun x => x ++ items2), toks := s.toks }) :=
  .of_wp fun prog w A R s h => by
    obtain ⟨hp, g, d, tk, os⟩ := s; obtain ⟨hl, hb, h⟩ := h; have f1 := idx_int; have f2 := sub_tuple_tuple; have f3 := sub_list_list; have f4 := sub_tuple_list; have f5 := sub_list_tuple;
    have hz' : (items ++ items2).size ≤ sizeLine + 1 := by rw [Array.size_append]; exact hs2
    wp_walk using (wpAny_updateSeq hl rfl (hz := hs1) (_hz' := hz')), wpAny_loadPart' hl, wpAny_loadPart' hb; exact ⟨_, rfl, h⟩
end PySem
namespace Sg
open PySem PySem.Spec PyProof.Rows L2 Evl
def rExtendT : V → List V → Hp → VK → Prop := fun x vs H Q => ∃ l b xs zs, x = .ref l ∧ vs = [.ref b] ∧ H l = some (.lst xs) ∧ H b = some (.tup zs) ∧ xs.length + zs.length ≤ sizeLine ∧ Q .non (upd H l (.lst (xs ++ zs)))
theorem mt_extendT {X : Cx} : MtR X "list.extend" rExtendT := by
  intro pins s σ H x vs v us Q I rx rv h
  obtain ⟨l, b, xs, zs, rfl, rfl, hH, hB, hz, q⟩ := h
  cases rx
  obtain ⟨u, rfl, ru⟩ := rv.one
  cases ru
  obtain ⟨z, its, n, r, hl, e⟩ := I.lstM hH
  obtain ⟨_, its2, r2, ⟨oc, od, odt, osl⟩, e2, hc, n2, hd⟩ := I.hok _ _ hB
  simp only at hc hd
  subst hc hd
  have hl2 : zs.length = its2.length := r2.length
  have hsz : its.toArray.size + its2.toArray.size ≤ sizeLine := by rw [List.size_toArray, List.size_toArray]; omega
  have hlong : ¬ (!its.toArray.isEmpty && Builtin.List.listTooLong (its.toArray.size + its2.toArray.size)) = true := by
    rw [notLongL hsz, Bool.and_false]
    exact Bool.false_ne_true
  refine call_meets F.slot_list_extend ⟨_, e, rfl⟩ F.entry_list_extend (F.args_list_extend_2 _ _)
    (AutoSeq1.sg_extend_tuple l its.toArray n b its2.toArray n2 _ _ hlong (by rw [List.size_toArray]; omega) (by omega)) ⟨e, e2, ?_⟩
  refine ⟨.non, _, I.lset (its' := its ++ its2) hH e (by simp) (r.append r2) ?_, rfl, q⟩
  rw [List.length_append]
  omega
theorem s_extendT {K : PySem.W.Frag} {σ : L2.St} {H : Hp} {ta te : TE} {D : Ends} {l b : Addr} {xs ys : List V} (hl : H l = some (.lst xs)) (hb : H b = some (.tup ys)) (ha : Ev ta σ H (.ref l)) (h : Ev te σ H (.ref b)) (hz : xs.length + ys.length ≤ 100000)
    (k : ∀ H1, Ex H H1 → D.nx σ (upd H1 l (.lst (xs ++ ys)))) : tDrop (tBM K "list" rExtendT ta (tCons te tNil)) D σ H := ha H (Ex.refl H) _ fun H1 e1 =>
  ⟨Or.inl ⟨rfl, xs, sq_of (e1 l _ hl)⟩, h H1 e1 _ fun H2 e2 => ⟨l, b, xs, ys, rfl, rfl, e2 l _ (e1 l _ hl), e2 _ _ (e1 _ _ hb), sz_of hz, k H2 (e1.trans e2)⟩⟩
end Sg

set_option maxHeartbeats 4000000
namespace Sg
open PySem PySem.Spec PyProof.Rows L2 Evl
theorem flat_len {l : Lay} {T : TS} (wf : Wf l T) : ∀ ss : List (Option (List Nat)), (∀ s ∈ ss, s ∈ T.slots) → (ss.flatMap (slotNums l)).length = ss.length * (l.last + 1)
  | [], _ => by simp
  | s :: ss, h => by
    rw [List.flatMap_cons, List.length_append, slotNums_len wf (h s List.mem_cons_self), flat_len wf ss fun x hx => h x (List.mem_cons_of_mem _ hx), List.length_cons, Nat.add_mul]
    omega
theorem ckHead_len {l : Lay} {T : TS} (wf : Wf l T) : (ckHead l T).length = 4 * l.last + 6 + T.queue.length := by
  have : ckHead l T = T.pres.tail ++ (T.slots.flatMap (slotNums l) ++ ([T.head, T.place, T.queue.length] ++ T.queue)) := by
    unfold ckHead
    rw [foldl_app]
    simp [List.append_assoc]
  rw [this, List.length_append, List.length_append, flat_len wf _ fun _ h => h, wf.ls, List.length_tail, wf.lp]
  simp
  omega
theorem ckNums_len {l : Lay} {T : TS} (o : l.Ok) (g : GoodT l T) : (ckNums l T).length = l.rb * l.fan := by
  have h1 := ckHead_len g.wf
  have h2 := o.rb_fan
  have h3 := g.qlen
  unfold ckNums
  rw [List.length_append, List.length_replicate]
  unfold Lay.nums at h2
  omega
section
variable {P : Program} {w : World} {K : PySem.W.Frag} {mg : Str → Option Value} {base : Heap}
/-! ### checkpoint_in -/
/-- what stands in a region -/
def RegSt (l : Lay) (d : Dev) (reg : Nat) : Option (Nat × TS) → Prop
  | none => rd d (reg * l.rb) = none
  | some (c, T) => GoodT l T ∧ ∀ r, r < l.rb → rd d (reg * l.rb + r) = some (ckB l T c r)
def CkAt (l : Lay) (H : Hp) (o : Option (Nat × TS)) (v : V) (H2 : Hp) : Prop := match o with
  | none => v = .non
  | some (c, T) => ∃ t p, v = .ref t ∧ H t = none ∧ H p = none ∧ H2 t = some (.tup [nV c, .ref p]) ∧ H2 p = some (.lst (nL (ckNums l T)))
def sp_checkpoint_in (K : PySem.W.Frag) : Sp := fun vs H Q _ => ∃ (A : Ad) (l : Lay) (su se : Dev) (wa : List (Nat × Blk)) (reg : Nat) (o : Option (Nat × TS)), vs = [.ref A.dv, nV reg] ∧ DevAt K H A l su se wa ∧ reg ≤ 1 ∧ RegSt l se reg o ∧ RetP (CkAt l H o) H Q
abbrev nm_checkpoint_in : List Str := ["device", "region", "layout", "start", "first", "numbers", "rank", "block"]
theorem sc_checkpoint_in : FnScope nm_checkpoint_in ["device", "region"] (defScope s_checkpoint_in) := ⟨rfl, rfl, rfl, by decide +kernel, rfl, by decide +kernel, by decide +kernel⟩
theorem ok_checkpoint_in (T : Ctx K mg base) : Okd P w K mg base 2 (He.ga K "checkpoint_in") ["device", "region"] (sp_checkpoint_in K) := by
  obtain ⟨fd, F⟩ := T.def_checkpoint_in
  have b : Binds K fd ["device", "region"] [] := FunD.bindsN F fun _ _ _ _ _ _ us hl => match us, hl with | [_, _], _ => rfl
  obtain ⟨fd_read_numbers, G_read_numbers, b_read_numbers, k_read_numbers⟩ := ok_read_numbers (P := P) (w := w) T
  obtain ⟨fd_region_start, G_region_start, b_region_start, k_region_start⟩ := ok_region_start (P := P) (w := w) T
  obtain ⟨fd_read, G_Device_read, b_Device_read, k_Device_read⟩ := ok_Device_read (P := P) (w := w) T
  obtain ⟨tPART, hPART⟩ := T.int_PART
  refine ⟨fd, FunD.ok F sc_checkpoint_in (fun vs H Q E h => ?_) (fun cdv A outer s H vs Q E hr h => ?_), b, F.kp⟩
  · obtain ⟨A, l, su, se, wa, reg, o, rfl, _⟩ := h
    rfl
  · obtain ⟨A, l, su, se, wa, reg, o, rfl, hd, hreg, hst, k⟩ := h
    refine ⟨_, PSs.nox (pss_cons (ps_set (i := 2) sc_checkpoint_in.nd rfl (Or.inl rfl) (pe_fld (pv 0) rfl))
      (pss_cons (ps_set (i := 3) sc_checkpoint_in.nd rfl (Or.inl rfl) (pe_call G_region_start (hr.mono (by decide)) rfl T.glo_region_start k_region_start b_region_start .nil pass0 (pa_cons (pv 2) (pa_cons (pv 1) pa_nil))))
      (pss_cons (ps_set (i := 4) sc_checkpoint_in.nd rfl (Or.inl rfl) (pe_meth (pv 0) T.cls_Device T.m_Device_read G_Device_read (hr.mono (by decide)) b_Device_read .nil pass0 (pa_cons (pv 3) pa_nil)))
      (pss_cons (ps_set (i := 5) sc_checkpoint_in.nd rfl (Or.inl rfl) (pe_lst pa_nil))
      (pss_cons (ps_for PassesOwn.never rfl (pi_range1 rfl T.free_range (pa_cons (pe_fld (pv 2) rfl) pa_nil)) (pg_name (i := 6) sc_checkpoint_in.nd rfl (Or.inl rfl)) (pss_cons (ps_set (i := 7) sc_checkpoint_in.nd rfl (Or.inl rfl) (pe_meth (pv 0) T.cls_Device T.m_Device_read G_Device_read (hr.mono (by decide)) b_Device_read .nil pass0 (pa_cons (pe_op op_add (pv 3) (pv 6)) pa_nil)))
      (pss_cons (ps_if (PW.pt (pw_or (pt_cmp (pc_isN (pv 7)) rfl) (pw_or (pt_cmpR op_ne (pe_ix ix_tup (pv 7) pe_int (fun _ _ => rfl)) (pe_glob (v := .int 5) rfl hPART ⟨_, rfl⟩) (nomark _)) (pw_or (pt_cmpR op_ne (pe_ix ix_tup (pv 7) pe_int (fun _ _ => rfl)) (pe_ix ix_tup (pv 4) pe_int (fun _ _ => rfl)) (nomark _)) (pw_or1 (pt_cmpR op_ne (pe_ix ix_tup (pv 7) pe_int (fun _ _ => rfl)) (pv 6) (nomark _))))))) (pss_one (ps_ret pe_non)) pss_nil)
      (pss_one (ps_expr (pe_bm PySem.F.plainAttrs_list PySem.F.slot_list_extend PySem.F.type_list_extend mt_extendT (pv 5) (pa_cons (pe_ix ix_tup (pv 7) pe_int (fun _ _ => rfl)) pa_nil)))))))
      (pss_cons (ps_if (pt_cmp (pc_isN (pe_call G_read_numbers (hr.mono (by decide)) rfl T.glo_read_numbers k_read_numbers b_read_numbers .nil pass0 (pa_cons (pv 2) (pa_cons (pv 5) pa_nil)))) rfl) (pss_one (ps_ret pe_non)) pss_nil)
      (pss_one (ps_ret (pe_tup (pa_cons (pe_ix ix_tup (pv 4) pe_int (fun _ _ => rfl)) (pa_cons (pv 5) pa_nil))))))))))), ?_⟩
    have lo := hd.la.1
    have hrb := lo.rb1
    have hbs := lo.bs1
    refine q_asg (dv_layout T hd (ev_var rfl)) fun H1 e1 => ?_
    refine q_asg (ev_reg (l := l) (r := reg) (hd.mono e1).la (by omega) (ea_cons (ev_var rfl) (ea_cons (ev_var rfl) ea_nil))) fun H2 e2 => ?_
    have E2 := e1.trans e2
    refine q_asgP (evp_read (hd.mono E2) (ev_var rfl) (ea_cons (ev_var rfl) ea_nil)) fun v0 H3 e3 hv0 => ?_
    have E3 := E2.trans e3
    refine q_asgL (el_lst ea_nil (Nat.zero_le _)) fun n H4 hn0 e4 h4 => ?_
    have E4 := E3.trans e4
    have hnH := fresh_back E3 hn0
    have hv0 := hv0.mono (Ex.tx e4)
    cases o with
    | none =>
      have hst : rd se (reg * l.rb) = none := hst
      refine q_forR1 (n := (l.rb : Int)) (ea_cons (yv_region_blocks T (hd.mono E4).la (ev_var rfl)) ea_nil) (by omega) (fun j σ' H' => j = 0 ∧ σ' = [some (.ref A.dv), some (nV reg), some (.ref A.la), some (nV (reg * l.rb)), some v0, some (.ref n), none, none] ∧ Ex H H') (fun H5 e5 => ⟨rfl, rfl, E4.trans e5⟩) ?_ ?_
      · rintro j σ' H' hj ⟨rfl, rfl, e⟩
        refine q_asgP (evp_read (hd.mono e) (ad := reg * l.rb) (ev_var rfl) (ea_cons (ev_is (ev_op (ev_var rfl) (ev_var rfl) rv_I0) (nv_eq (by omega))) ea_nil)) fun v H5 e5 hv => ?_
        rw [hst] at hv
        obtain rfl : v = .non := hv
        refine q_when (b := true) (et_is (et_or (b := false) (et_isN (ev_var rfl)) fun z => by cases z) rfl) (fun _ H6 e6 => ?_) (fun z => by cases z)
        exact s_ret ev_c fun H7 e7 => k _ _ (e.trans (e5.trans (e6.trans e7))) rfl
      · rintro σ' H' ⟨z, _⟩
        omega
    | some ct =>
      obtain ⟨c, S⟩ := ct
      obtain ⟨g, hw⟩ := hst
      have hb0 := hw 0 (by omega)
      rw [Nat.add_zero] at hb0
      rw [hb0] at hv0
      obtain ⟨a0, b0, rfl, ha0, hb0'⟩ := hv0
      have hlen := ckNums_len lo g
      refine q_forR1 (n := (l.rb : Int)) (ea_cons (yv_region_blocks T (hd.mono E4).la (ev_var rfl)) ea_nil) (by omega) (fun j σ' H' => ∃ x y, σ' = [some (.ref A.dv), some (nV reg), some (.ref A.la), some (nV (reg * l.rb)), some (.ref a0), some (.ref n), x, y] ∧ Ex H H' ∧ Tx H4 H' ∧ H' n = some (.lst (nL ((ckNums l S).take (j * l.fan)))))
        (fun H5 e5 => ⟨none, none, rfl, E4.trans e5, Ex.tx e5, by rw [e5 _ _ h4, Nat.zero_mul]; rfl⟩) ?_ ?_
      · rintro j σ' H' hj ⟨x, y, rfl, e, tx, hn'⟩
        have hjr : j < l.rb := by omega
        refine q_asgP (evp_read (hd.mono e) (ad := reg * l.rb + j) (ev_var rfl) (ea_cons (ev_op (ev_var rfl) (ev_var rfl) rv_I0) ea_nil)) fun v H5 e5 hv => ?_
        rw [hw j hjr] at hv
        obtain ⟨a, bd, rfl, ha, hbd⟩ := hv
        have ha0' := e5 _ _ (tx _ _ ha0)
        have hbd : H5 bd = some (.tup (nL (((ckNums l S).drop (j * l.fan)).take l.fan))) := hbd
        refine q_when (b := false) (et_is (et_or (b := false) (et_isN (ev_var rfl)) fun _ => et_is (et_or (b := false) (et_cmp (ev_op (ev_var rfl) ev_c (rv_ixT (st_of ha) rfl)) ev_c (rv_ne rfl)) fun _ => et_is (et_or (b := false) (et_cmp (ev_op (ev_var rfl) ev_c (rv_ixT (st_of ha) rfl)) (ev_op (ev_var rfl) ev_c (rv_ixT (st_of ha0') rfl)) (rv_ne rfl)) fun _ => et_is (et_cmp (ev_op (ev_var rfl) ev_c (rv_ixT (st_of ha) rfl)) (ev_var rfl) (rv_ne rfl)) ?_) ?_) rfl) rfl) (fun z => by cases z) (fun _ H6 e6 => ?_)
        · show (!decide (nV j = V.int (j : Int))) = false
          simp
        · show ((!decide (nV c = nV c)) || false) = false
          simp
        · refine s_extendT (e6 _ _ (e5 _ _ hn')) (e6 _ _ hbd) (ev_var rfl) (ev_op (ev_var rfl) ev_c (rv_ixT (st_of (e6 _ _ ha)) rfl)) ?_ fun H7 e7 => ?_
          · have : l.rb * l.fan ≤ 59 * 128 := Nat.mul_le_mul hrb.2 (by omega)
            rw [nL_len, nL_len, List.length_take, List.length_take]
            omega
          · have E7 := e5.trans (e6.trans e7)
            have nt : ∀ xs, H' n ≠ some (.tup xs) := fun xs z => by rw [hn'] at z; cases z
            refine ⟨_, _, rfl, Ex.mut (e.trans E7) hnH, tx.trans ((Ex.tx E7).upd nt), ?_⟩
            rw [upd_same, ← nL_app]
            congr 2
            rw [Nat.add_mul, Nat.one_mul, List.take_add]
      · rintro σ' H' ⟨x, y, rfl, e, tx, hn'⟩
        have hn' : H' n = some (.lst (nL (ckNums l S))) := by
          rw [hn', show (l.rb : Int).toNat = l.rb by omega, List.take_of_length_le (by rw [hlen]; exact Nat.le_refl _)]
        have hdl := (hd.mono e).la
        refine (evp_call (P := fun v H3 => v ≠ .non) (ea_cons (ev_var rfl) (ea_cons (ev_var rfl) ea_nil)) fun H5 e5 Q E q => ⟨A.la, n, l, S, rfl, hdl.mono e5, g, e5 _ _ hn', fun v H6 e6 r => q v H6 e6 (by obtain ⟨t, p, s, q', vs, rfl, _⟩ := r; exact fun z => by cases z)⟩ : EvP (tCall (sp_read_numbers K) [] E0 (tCons (tVar 2) (tCons (tVar 5) tNil))) [some (.ref A.dv), some (nV reg), some (.ref A.la), some (nV (reg * l.rb)), some (.ref a0), some (.ref n), x, y] H' _) |> fun hrn => ?_
        refine q_when (b := false) (show EvT (tB (tIsN (tCall (sp_read_numbers K) [] E0 (tCons (tVar 2) (tCons (tVar 5) tNil))))) _ H' false from fun H5 e5 Q q => hrn H5 e5 _ fun v H6 e6 hv => ⟨false, by rw [decide_eq_false hv], q H6 e6⟩) (fun z => by cases z) (fun _ H5 e5 => ?_)
        refine s_retU (eu_tup (ea_cons (ev_op (ev_var rfl) ev_c (rv_ixT (st_of (e5 _ _ (tx _ _ ha0))) rfl)) (ea_cons (ev_var rfl) ea_nil)) (Nat.le_of_ble_eq_true rfl)) fun t H6 ht e6 h6 => ?_
        exact k _ _ (e.trans (e5.trans e6)) ⟨t, n, rfl, fresh_back (e.trans e5) ht, hnH, h6, e6 _ _ (e5 _ _ hn')⟩
end
end Sg

set_option maxHeartbeats 4000000
namespace Sg
open PySem PySem.Spec PyProof.Rows L2 Evl
section
variable {P : Program} {w : World} {K : PySem.W.Frag} {mg : Str → Option Value} {base : Heap}
/-! ### batch_at -/
def sp_batch_at (K : PySem.W.Frag) : Sp := fun vs H Q _ => ∃ (A : Ad) (l : Lay) (su se : Dev) (wa : List (Nat × Blk)) (s p sq : Nat), vs = [.ref A.dv, nV s, nV p, nV sq] ∧ DevAt K H A l su se wa ∧ RetP (fun v H2 => OBlk H2 v (batchAt l se s p sq)) H Q
abbrev nm_batch_at : List Str := ["device", "segment", "place", "sequence", "layout", "start", "summary", "count", "rank", "block"]
theorem sc_batch_at : FnScope nm_batch_at ["device", "segment", "place", "sequence"] (defScope s_batch_at) := ⟨rfl, rfl, rfl, by decide +kernel, rfl, by decide +kernel, by decide +kernel⟩
theorem ev_isPay {σ : L2.St} {H : Hp} {ta : TE} {E : XK} {v : V} {ob : Option Blk} (ha : Ev ta σ H v) (h : OBlk H v ob) : Ev (tCall spIsPay [] E (tCons ta tNil)) σ H (.bl (isPay ob)) :=
  ev_callV (ea_cons ha ea_nil) fun H1 e1 Q E q => spIsPay_of (h.mono (Ex.tx e1)) q
def payOk (d : Dev) (st sq r : Nat) : Bool := match rd d (st + r) with
  | some (.pay q rk _) => decide (q = sq) && decide (rk = r)
  | _ => false
theorem paysAt_all {d : Dev} {st sq n : Nat} : paysAt d st sq n = true ↔ ∀ i, i < n → payOk d st sq (i + 1) = true := by
  unfold paysAt
  rw [List.all_eq_true]
  exact ⟨fun h i hi => h i (List.mem_range.mpr hi), fun h i hi => h i (List.mem_range.mp hi)⟩
theorem ok_batch_at (T : Ctx K mg base) : Okd P w K mg base 2 (He.ga K "batch_at") ["device", "segment", "place", "sequence"] (sp_batch_at K) := by
  obtain ⟨fd, F⟩ := T.def_batch_at
  have b : Binds K fd ["device", "segment", "place", "sequence"] [] := FunD.bindsN F fun _ _ _ _ _ _ us hl => match us, hl with | [_, _, _, _], _ => rfl
  obtain ⟨fd_address_at, G_address_at, b_address_at, k_address_at⟩ := ok_address_at (P := P) (w := w) T
  obtain ⟨fd_is_payload, G_is_payload, b_is_payload, k_is_payload⟩ := ok_is_payload (P := P) (w := w) T
  obtain ⟨fd_read, G_Device_read, b_Device_read, k_Device_read⟩ := ok_Device_read (P := P) (w := w) T
  obtain ⟨tCOMMIT, hCOMMIT⟩ := T.int_COMMIT
  obtain ⟨tMOVE, hMOVE⟩ := T.int_MOVE
  refine ⟨fd, FunD.ok F sc_batch_at (fun vs H Q E h => ?_) (fun cdv A outer s H vs Q E hr h => ?_), b, F.kp⟩
  · obtain ⟨A, l, su, se, wa, s, p, sq, rfl, _⟩ := h
    rfl
  · obtain ⟨A, l, su, se, wa, s, p, sq, rfl, hd, k⟩ := h
    refine ⟨_, PSs.nox (pss_cons (ps_set (i := 4) sc_batch_at.nd rfl (Or.inl rfl) (pe_fld (pv 0) rfl))
      (pss_cons (ps_if (PW.pt (pw_or (pt_cmpR op_ge (pv 1) (pe_fld (pv 4) rfl) (nomark _)) (pw_or1 (pt_cmpR op_ge (pv 2) (pe_fld (pv 4) rfl) (nomark _))))) (pss_one (ps_ret pe_non)) pss_nil)
      (pss_cons (ps_set (i := 5) sc_batch_at.nd rfl (Or.inl rfl) (pe_call G_address_at (hr.mono (by decide)) rfl T.glo_address_at k_address_at b_address_at .nil pass0 (pa_cons (pv 4) (pa_cons (pv 1) (pa_cons (pv 2) pa_nil)))))
      (pss_cons (ps_set (i := 6) sc_batch_at.nd rfl (Or.inl rfl) (pe_meth (pv 0) T.cls_Device T.m_Device_read G_Device_read (hr.mono (by decide)) b_Device_read .nil pass0 (pa_cons (pv 5) pa_nil)))
      (pss_cons (ps_if (PW.pt (pw_or (pt_cmp (pc_isN (pv 6)) rfl) (pw_or (pt_cmpR op_notIn_seq (pe_ix ix_tup (pv 6) pe_int (fun _ _ => rfl)) (pe_tup (pa_cons (pe_glob (v := .int 1) rfl hCOMMIT ⟨_, rfl⟩) (pa_cons (pe_glob (v := .int 2) rfl hMOVE ⟨_, rfl⟩) pa_nil))) (by rfl)) (pw_or (pt_cmpR op_ne (pe_ix ix_tup (pv 6) pe_int (fun _ _ => rfl)) (pv 3) (nomark _)) (pw_or1 (pt_cmpR op_ne (pe_ix ix_tup (pv 6) pe_int (fun _ _ => rfl)) pe_int (nomark _))))))) (pss_one (ps_ret pe_non)) pss_nil)
      (pss_cons (ps_set (i := 7) sc_batch_at.nd rfl (Or.inl rfl) (pe_callB call_len_seq (by rfl) T.free_len PySem.boot_len (pa_cons (pe_ix ix_tup (pv 6) pe_int (fun _ _ => rfl)) pa_nil)))
      (pss_cons (ps_if (pt_cmpR op_eq (pe_ix ix_tup (pv 6) pe_int (fun _ _ => rfl)) (pe_glob (v := .int 1) rfl hCOMMIT ⟨_, rfl⟩) (nomark _)) (pss_one (ps_set (i := 7) sc_batch_at.nd rfl (Or.inl rfl) (pe_callB call_len_seq (by rfl) T.free_len PySem.boot_len (pa_cons (pe_ix ix_tup (pe_ix ix_tup (pv 6) pe_int (fun _ _ => rfl)) pe_int (fun _ _ => rfl)) pa_nil)))) pss_nil)
      (pss_cons (ps_if (pt_cmpR op_ge (pe_op op_add (pv 2) (pv 7)) (pe_fld (pv 4) rfl) (nomark _)) (pss_one (ps_ret pe_non)) pss_nil)
      (pss_cons (ps_for PassesOwn.never rfl (pi_range2 rfl T.free_range (pa_cons pe_int (pa_cons (pe_op op_add (pv 7) pe_int) pa_nil))) (pg_name (i := 8) sc_batch_at.nd rfl (Or.inl rfl)) (pss_cons (ps_set (i := 9) sc_batch_at.nd rfl (Or.inl rfl) (pe_meth (pv 0) T.cls_Device T.m_Device_read G_Device_read (hr.mono (by decide)) b_Device_read .nil pass0 (pa_cons (pe_op op_add (pv 5) (pv 8)) pa_nil)))
      (pss_one (ps_if (PW.pt (pw_or (pt_not (pt_val (pe_call G_is_payload (hr.mono (by decide)) rfl T.glo_is_payload k_is_payload b_is_payload .nil pass0 (pa_cons (pv 9) pa_nil)))) (pw_or (pt_cmpR op_ne (pe_ix ix_tup (pv 9) pe_int (fun _ _ => rfl)) (pv 3) (nomark _)) (pw_or1 (pt_cmpR op_ne (pe_ix ix_tup (pv 9) pe_int (fun _ _ => rfl)) (pv 8) (nomark _)))))) (pss_one (ps_ret pe_non)) pss_nil))))
      (pss_one (ps_ret (pv 6)))))))))))), ?_⟩
    have lo := hd.la.1
    have hs2 := lo.s2
    have hb2 := lo.b2
    refine q_asg (dv_layout T hd (ev_var rfl)) fun H1 e1 => ?_
    have l1 := (hd.mono e1).la
    refine q_when (b := decide (l.seg ≤ s ∨ l.sb ≤ p)) (et_is (et_or (et_cmp (ev_var rfl) (yv_segments T l1 (ev_var rfl)) rv_I0) fun _ => et_cmp (ev_var rfl) (yv_segment_blocks T l1 (ev_var rfl)) rv_I0) ?_) (fun hb H2 e2 => ?_) (fun hb H2 e2 => ?_)
    · rw [Bool.eq_iff_iff]
      simp only [Bool.or_eq_true, decide_eq_true_eq]
      omega
    · have hb := of_decide_eq_true hb
      have : batchAt l se s p sq = none := by unfold batchAt; rw [if_pos hb]
      rw [this] at k
      exact s_ret ev_c fun H3 e3 => k _ _ ((e1.trans e2).trans e3) rfl
    have hb := of_decide_eq_false hb
    have E2 := e1.trans e2
    refine q_asg (v := nV (l.adr s p)) (ev_adr (hd.mono E2).la (by omega) (ea_cons (ev_var rfl) (ea_cons (ev_var rfl) (ea_cons (ev_var rfl) ea_nil)))) fun H3 e3 => ?_
    have E3 := E2.trans e3
    refine q_asgP (evp_read (hd.mono E3) (ev_var rfl) (ea_cons (ev_var rfl) ea_nil)) fun v H4 e4 hv => ?_
    have E4 := E3.trans e4
    have non : batchAt l se s p sq = none → ∀ H', Ex H H' → Q .non H' := fun hn H' e => by
      rw [hn] at k
      exact k _ _ e rfl
    cases hx : rd se (l.adr s p) with
    | none =>
      rw [hx] at hv
      obtain rfl : v = .non := hv
      refine q_when (b := true) (et_is (et_or (b := false) (et_isN (ev_var rfl)) fun z => by cases z) rfl) (fun _ H5 e5 => ?_) (fun z => by cases z)
      exact s_ret ev_c fun H6 e6 => non (by unfold batchAt; rw [if_neg hb, hx]) _ (E4.trans (e5.trans e6))
    | some x =>
      rw [hx] at hv
      have hba : batchAt l se s p sq = if isSum x = true ∧ x.seq = sq ∧ p + cntOf x < l.sb ∧ paysAt se (l.adr s p) sq (cntOf x) = true then some x else none := by
        unfold batchAt
        rw [if_neg hb, hx]
      have shape : (isSum x = false ∧ ∃ a kd r y, v = .ref a ∧ H4 a = some (.tup [.int kd, nV x.seq, r, y]) ∧ inV (.int kd) [.int 1, .int 2] = false) ∨ (isSum x = true ∧ ∃ a kd bd xs3, v = .ref a ∧ H4 a = some (.tup [.int kd, nV x.seq, .int 0, .ref bd]) ∧ inV (.int kd) [.int 1, .int 2] = true ∧ H4 bd = some (.tup xs3) ∧
          ((kd = 1 ∧ ∃ i ids, xs3[0]? = some (.ref i) ∧ H4 i = some (.tup ids) ∧ ids.length = cntOf x) ∨ (kd = 2 ∧ xs3.length = cntOf x))) := by
        cases x with
        | com q ids used act =>
          obtain ⟨a, bb, rfl, h1, c, i, u, rfl, h2, h3, h4⟩ := hv
          exact .inr ⟨rfl, a, 1, c, _, rfl, h1, rfl, h2, .inl ⟨rfl, i, _, rfl, h3, nL_len _⟩⟩
        | mov q adrs =>
          obtain ⟨a, bb, rfl, h1, h2⟩ := hv
          exact .inr ⟨rfl, a, 2, bb, _, rfl, h1, rfl, h2, .inr ⟨rfl, nL_len _⟩⟩
        | pay q r pp =>
          obtain ⟨a, bb, rfl, h1, h2⟩ := hv
          refine .inl ⟨rfl, a, _, _, _, rfl, h1, ?_⟩
          unfold PayD.kind
          split <;> rfl
        | part q r ns =>
          obtain ⟨a, bb, rfl, h1, h2⟩ := hv
          exact .inl ⟨rfl, a, 5, _, _, rfl, h1, rfl⟩
      rcases shape with ⟨hs, a, kd, r, y, rfl, h1, h2⟩ | ⟨hs, a, kd, bd, xs3, rfl, h1, h2, h3, h4⟩
      · have hbn : batchAt l se s p sq = none := by rw [hba, if_neg (fun z => by rw [hs] at z; exact absurd z.1 (by decide))]
        refine q_when (b := true) (et_is (et_or (b := true) (et_isN (ev_var rfl)) fun _ => et_is (et_or (a := true) (b := false) (et_is (et_test (ev_niU (ev_op (ev_var rfl) ev_c (rv_ixT (st_of h1) rfl)) (eu_tup (ea_cons ev_c (ea_cons ev_c ea_nil)) (Nat.le_of_ble_eq_true rfl)) rfl rfl)) (by rw [h2]; rfl)) fun z => by cases z) rfl) rfl) (fun _ H5 e5 => ?_) (fun z => by cases z)
        exact s_ret ev_c fun H6 e6 => non hbn _ (E4.trans (e5.trans e6))
      · refine q_when (b := !decide (nV x.seq = nV sq)) (et_is (et_or (b := !decide (nV x.seq = nV sq)) (et_isN (ev_var rfl)) fun _ => et_is (et_or (a := false) (b := !decide (nV x.seq = nV sq)) (et_is (et_test (ev_niU (ev_op (ev_var rfl) ev_c (rv_ixT (st_of h1) rfl)) (eu_tup (ea_cons ev_c (ea_cons ev_c ea_nil)) (Nat.le_of_ble_eq_true rfl)) rfl rfl)) (by rw [h2]; rfl)) fun _ => et_is (et_or (b := false) (et_cmp (ev_op (ev_var rfl) ev_c (rv_ixT (st_of h1) rfl)) (ev_var rfl) (rv_ne rfl)) fun _ => et_is (et_cmp (ev_op (ev_var rfl) ev_c (rv_ixT (st_of h1) rfl)) ev_c (rv_ne rfl)) rfl) (Bool.or_false _)) rfl) rfl) (fun hq H5 e5 => ?_) (fun hq H5 e5 => ?_)
        · have hq : x.seq ≠ sq := fun z => by rw [z] at hq; simp at hq
          exact s_ret ev_c fun H6 e6 => non (by rw [hba, if_neg (fun z => hq z.2.1)]) _ (E4.trans (e5.trans e6))
        · have hq : x.seq = sq := by
            apply Classical.byContradiction
            intro z
            rw [decide_eq_false (fun y => z (by injection y with y; omega))] at hq
            cases hq
          have E5 := E4.trans e5
          refine q_asg (v := .int (xs3.length : Int)) (ev_len2 (ev_op (ev_var rfl) ev_c (rv_ixT (st_of (e5 _ _ h1)) rfl)) (st_of (e5 _ _ h3))) fun H6 e6 => ?_
          have E6 := e5.trans e6
          refine q_ifAsg (b := decide (V.int kd = V.int 1)) (v := nV (cntOf x)) (et_cmp (ev_op (ev_var rfl) ev_c (rv_ixT (st_of (E6 _ _ h1)) rfl)) ev_c (rv_eq rfl)) (fun hk => ?_) (fun hk => ?_) fun H7 e7 => ?_
          · rcases h4 with ⟨_, i, ids, i1, i2, i3⟩ | ⟨z, _⟩
            · exact ev_is (ev_len2 (ev_op (ev_op (ev_var rfl) ev_c (rv_ixT (st_of (E6 _ _ h1)) rfl)) ev_c (rv_ixT (st_of (E6 _ _ h3)) (atI_of (k := 0) i1))) (st_of (E6 _ _ i2))) (by rw [i3])
            · rw [z] at hk; cases hk
          · rcases h4 with ⟨z, _⟩ | ⟨_, z⟩
            · rw [z] at hk; cases hk
            · rw [z]; rfl
          have E7 := (E5.trans e6).trans e7
          have l7 := (hd.mono E7).la
          refine q_when (b := decide (l.sb ≤ p + cntOf x)) (et_is (et_cmp (ev_op (ev_var rfl) (ev_var rfl) rv_I0) (yv_segment_blocks T l7 (ev_var rfl)) rv_I0) ?_) (fun hc H8 e8 => ?_) (fun hc H8 e8 => ?_)
          · rw [Bool.eq_iff_iff, decide_eq_true_eq, decide_eq_true_eq]
            omega
          · have hc := of_decide_eq_true hc
            exact s_ret ev_c fun H9 e9 => non (by rw [hba, if_neg (fun z => by omega)]) _ (E7.trans (e8.trans e9))
          · have hc := of_decide_eq_false hc
            have E8 := E7.trans e8
            have h18 : H8 a = some (.tup [.int kd, nV x.seq, .int 0, .ref bd]) := e8 _ _ (e7 _ _ (E6 _ _ h1))
            have hv8 : OBlk H8 (.ref a) (some x) := OBlk.mono hv (Ex.tx ((E6.trans e7).trans e8))
            refine q_forR2 (lo := 1) (n := (cntOf x : Int) + 1) (ea_cons ev_c (ea_cons (ev_op (ev_var rfl) ev_c rv_I0) ea_nil)) (by omega) (fun j σ' H' => ∃ y z, σ' = [some (.ref A.dv), some (nV s), some (nV p), some (nV sq), some (.ref A.la), some (nV (l.adr s p)), some (.ref a), some (nV (cntOf x)), y, z] ∧ Ex H8 H' ∧ ∀ i, i < j → payOk se (l.adr s p) sq (i + 1) = true)
              (fun H9 e9 => ⟨none, none, rfl, e9, fun i hi => by omega⟩) ?_ ?_
            · rintro j σ' H' hj ⟨y, z, rfl, e, hall⟩
              have hjc : j < cntOf x := by omega
              have ej : (1 : Int) + (j : Int) = ((j + 1 : Nat) : Int) := by omega
              rw [ej]
              refine q_asgP (evp_read (hd.mono (E8.trans e)) (ad := l.adr s p + (j + 1)) (ev_var rfl) (ea_cons (ev_op (ev_var rfl) (ev_var rfl) rv_I0) ea_nil)) fun u H9 e9 hu => ?_
              have no : payOk se (l.adr s p) sq (j + 1) = false → batchAt l se s p sq = none := fun hf => by
                rw [hba, if_neg (fun z => ?_)]
                have := paysAt_all.mp z.2.2.2 j hjc
                rw [hf] at this
                cases this
              have E9 := (E8.trans e).trans e9
              have hpk : ∀ {ob : Option Blk}, rd se (l.adr s p + (j + 1)) = ob → payOk se (l.adr s p) sq (j + 1) = match ob with | some (.pay q rk _) => decide (q = sq) && decide (rk = j + 1) | _ => false := fun e => by rw [← e]; rfl
              cases hob : isPay (rd se (l.adr s p + (j + 1))) with
              | false =>
                refine s_when (b := true) (et_is (et_or (b := false) (et_not (et_val (ev_isPay (ev_var rfl) hu))) fun z => by rw [hob] at z; cases z) (by rw [hob]; rfl)) (fun _ H10 e10 => ?_) (fun z => by cases z)
                refine s_ret ev_c fun H11 e11 => non (no ?_) _ (E9.trans (e10.trans e11))
                cases e' : rd se (l.adr s p + (j + 1)) with
                | none => rw [hpk e']
                | some bk =>
                  rw [e'] at hob
                  cases bk with
                  | pay _ _ _ => cases hob
                  | _ => rw [hpk e']
              | true =>
                cases e' : rd se (l.adr s p + (j + 1)) with
                | none => rw [e'] at hob; cases hob
                | some bk =>
                  rw [e'] at hob hu
                  cases bk with
                  | com _ _ _ _ => cases hob
                  | mov _ _ => cases hob
                  | part _ _ _ => cases hob
                  | pay q rk pp =>
                    have hu0 : OBlk H9 u (some (.pay q rk pp)) := hu
                    obtain ⟨t, bb, rfl, t1, t2⟩ := hu
                    refine s_when (b := !(decide (q = sq) && decide (rk = j + 1))) (et_is (et_or (b := !(decide (q = sq) && decide (rk = j + 1))) (et_not (et_val (ev_isPay (ev_var rfl) hu0))) fun _ => et_is (et_or (et_cmp (ev_op (ev_var rfl) ev_c (rv_ixT (st_of t1) rfl)) (ev_var rfl) (rv_ne rfl)) fun _ => et_cmp (ev_op (ev_var rfl) ev_c (rv_ixT (st_of t1) rfl)) (ev_var rfl) (rv_ne rfl)) ?_) rfl) (fun hf H10 e10 => ?_) (fun hf H10 e10 => ?_)
                    · rw [Bool.not_and]
                      congr 1 <;> congr 1 <;> · rw [Bool.eq_iff_iff, decide_eq_true_eq, decide_eq_true_eq]; exact ⟨fun z => by injection z with z; omega, fun z => by rw [z]⟩
                    · exact s_ret ev_c fun H11 e11 => non (no (by rw [hpk e']; exact (Bool.not_eq_true' _).mp hf)) _ (E9.trans (e10.trans e11))
                    · refine ⟨_, _, rfl, (e.trans e9).trans e10, fun i hi => ?_⟩
                      by_cases z : i = j
                      · rw [z, hpk e']
                        simpa using hf
                      · exact hall i (by omega)
            · rintro σ' H' ⟨y, z, rfl, e, hall⟩
              rw [show ((cntOf x : Int) + 1 - 1).toNat = cntOf x by omega] at hall
              have hbs : batchAt l se s p sq = some x := by
                rw [hba, if_pos ⟨hs, hq, by omega, paysAt_all.mpr hall⟩]
              refine s_ret (ev_var rfl) fun H9 e9 => k _ _ ((E8.trans e).trans e9) ?_
              rw [hbs]
              exact OBlk.mono hv8 (Ex.tx (e.trans e9))
end
end Sg

set_option maxHeartbeats 4000000
namespace Sg
open PySem PySem.Spec PyProof.Rows L2 Evl
structure Wq (l : Lay) (T : TS) : Prop where
  wf : Wf l T
  qs : ∀ s ∈ T.queue, s < l.seg
theorem GoodT.wq {l : Lay} {T : TS} (g : GoodT l T) : Wq l T := ⟨g.wf, g.qs⟩
theorem Wq.enter {l : Lay} {T : TS} (h : Wq l T) (hq : T.queue ≠ []) : Wq l (enter T) := by
  obtain ⟨qh, qt, hqq⟩ := List.exists_cons_of_ne_nil hq
  refine ⟨⟨h.wf.lp, h.wf.ls, h.wf.lt, by unfold Sg.enter; rw [hqq]; exact h.qs qh (by rw [hqq]; simp)⟩, fun s hs => h.qs s ?_⟩
  have : s ∈ T.queue.tail := hs
  exact List.mem_of_mem_tail this
theorem Wq.takeB {l : Lay} {T : TS} (h : Wq l T) (x : Blk) : Wq l (takeB l T x) := by
  cases x with
  | com q ids used act =>
    refine ⟨⟨?_, ?_, fun t ht => ?_, h.wf.hs⟩, h.qs⟩
    · show (commitTab _ _ _ _).length = _
      rw [commitTab_len, h.wf.lp]
    · show (slotsAfter _ _ _).length = 3
      rw [slotsAfter_len, h.wf.ls]
    · have ht : some t ∈ slotsAfter T.slots (commitTab T.pres (l.adr T.head T.place + 1) ids used) act := ht
      unfold slotsAfter at ht
      split at ht
      · rcases List.mem_or_eq_of_mem_set ht with q | q
        · exact h.wf.lt t q
        · injection q with q
          rw [q, commitTab_len, h.wf.lp]
      · split at ht
        · rcases List.mem_or_eq_of_mem_set ht with q | q
          · exact h.wf.lt t q
          · cases q
        · exact h.wf.lt t ht
  | mov q adrs =>
    refine ⟨⟨?_, ?_, fun t ht => ?_, h.wf.hs⟩, h.qs⟩
    · show (moveTab _ _ _).length = _
      unfold moveTab
      rw [List.length_map, h.wf.lp]
    · show (T.slots.map _).length = 3
      rw [List.length_map, h.wf.ls]
    · have ht : some t ∈ T.slots.map (Option.map (moveTab (l.adr T.head T.place + 1) adrs)) := ht
      obtain ⟨o, ho, e⟩ := List.mem_map.mp ht
      cases o with
      | none => cases e
      | some t' =>
        injection e with e
        rw [← e]
        unfold moveTab
        rw [List.length_map, h.wf.lt t' ho]
  | pay _ _ _ => exact h
  | part _ _ _ => exact h
theorem takeNext_wq {l : Lay} {d : Dev} {T U : TS} {sq : Nat} (h : takeNext l d T sq = some U) (w : Wq l T) : Wq l U := by
  unfold takeNext at h
  split at h
  · rename_i q ids used act _
    injection h with h
    rw [← h]
    exact w.takeB (.com q ids used act)
  · split at h
    · cases h
    · rename_i s rest hq
      split at h
      · rename_i x _
        injection h with h
        rw [← h]
        exact (w.enter (by rw [hq]; simp)).takeB x
      · cases h
section
variable {P : Program} {w : World} {K : PySem.W.Frag} {mg : Str → Option Value} {base : Heap}
/-! ### take_next -/
def sp_take_next (K : PySem.W.Frag) : Sp := fun vs H Q _ => ∃ (A : Ad) (l : Lay) (L : Lg) (sq : Nat), vs = [.ref A.lg, nV sq] ∧ LogAt K H A l L ∧ Wq l L.T ∧
  (takeNext l L.seen L.T sq = none → Gives K H A l L (.bl false) Q) ∧ ∀ U, takeNext l L.seen L.T sq = some U → Gives K H A l { L with T := U } (.bl true) Q
abbrev nm_take_next : List Str := ["log", "sequence", "summary"]
theorem sc_take_next : FnScope nm_take_next ["log", "sequence"] (defScope s_take_next) := ⟨rfl, rfl, rfl, by decide +kernel, rfl, by decide +kernel, by decide +kernel⟩
theorem ok_take_next (T : Ctx K mg base) : Okd P w K mg base 3 (He.ga K "take_next") ["log", "sequence"] (sp_take_next K) := by
  obtain ⟨fd, F⟩ := T.def_take_next
  have b : Binds K fd ["log", "sequence"] [] := FunD.bindsN F fun _ _ _ _ _ _ us hl => match us, hl with | [_, _], _ => rfl
  obtain ⟨fd_batch_at, G_batch_at, b_batch_at, k_batch_at⟩ := ok_batch_at (P := P) (w := w) T
  obtain ⟨fd_enter_segment, G_enter_segment, b_enter_segment, k_enter_segment⟩ := ok_enter_segment (P := P) (w := w) T
  obtain ⟨fd_take_batch, G_take_batch, b_take_batch, k_take_batch⟩ := ok_take_batch (P := P) (w := w) T
  obtain ⟨tCOMMIT, hCOMMIT⟩ := T.int_COMMIT
  refine ⟨fd, FunD.ok F sc_take_next (fun vs H Q E h => ?_) (fun cdv A outer s H vs Q E hr h => ?_), b, F.kp⟩
  · obtain ⟨A, l, L, sq, rfl, _⟩ := h
    rfl
  · obtain ⟨A, l, L, sq, rfl, h, wq, k1, k2⟩ := h
    refine ⟨_, PSs.nox (pss_cons (ps_set (i := 2) sc_take_next.nd rfl (Or.inl rfl) (pe_call G_batch_at (hr.mono (by decide)) rfl T.glo_batch_at k_batch_at b_batch_at .nil pass0 (pa_cons (pe_fld (pv 0) rfl) (pa_cons (pe_fld (pv 0) rfl) (pa_cons (pe_fld (pv 0) rfl) (pa_cons (pv 1) pa_nil))))))
      (pss_cut (ps_if (PW.pt (pw_or (pt_cmp (pc_isN (pv 2)) rfl) (pw_or1 (pt_cmpR op_ne (pe_ix ix_tup (pv 2) pe_int (fun _ _ => rfl)) (pe_glob (v := .int 1) rfl hCOMMIT ⟨_, rfl⟩) (nomark _))))) (pss_cons (ps_if (pt_cmpR op_eq (pe_callB call_len_seq (by rfl) T.free_len PySem.boot_len (pa_cons (pe_fld (pv 0) rfl) pa_nil)) pe_int (nomark _)) (pss_one (ps_ret pe_bl)) pss_nil)
      (pss_cons (ps_set (i := 2) sc_take_next.nd rfl (Or.inl rfl) (pe_call G_batch_at (hr.mono (by decide)) rfl T.glo_batch_at k_batch_at b_batch_at .nil pass0 (pa_cons (pe_fld (pv 0) rfl) (pa_cons (pe_ix ix_list (pe_fld (pv 0) rfl) pe_int (fun _ _ => rfl)) (pa_cons pe_int (pa_cons (pv 1) pa_nil))))))
      (pss_cons (ps_if (pt_cmp (pc_isN (pv 2)) rfl) (pss_one (ps_ret pe_bl)) pss_nil)
      (pss_one (ps_expr (pe_call G_enter_segment (hr.mono (by decide)) rfl T.glo_enter_segment k_enter_segment b_enter_segment .nil pass0 (pa_cons (pv 0) pa_nil))))))) pss_nil)
      (pss_cons (ps_expr (pe_call G_take_batch (hr.mono (by decide)) rfl T.glo_take_batch k_take_batch b_take_batch .nil pass0 (pa_cons (pv 0) (pa_cons (pe_ix ix_tup (pv 2) pe_int (fun _ _ => rfl)) (pa_cons (pe_ix ix_tup (pv 2) pe_int (fun _ _ => rfl)) pa_nil)))))
      (pss_one (ps_ret pe_bl))))), ?_⟩
    have bat : ∀ {σ : L2.St} {H1 : Hp} {tA : TA} {E : XK} {s p : Nat}, Ex H H1 → EvA tA σ H1 [.ref A.dv, nV s, nV p, nV sq] → EvP (tCall (sp_batch_at K) [] E tA) σ H1 fun v H2 => OBlk H2 v (batchAt l L.seen s p sq) := fun e ea =>
      evp_call ea fun H2 e2 Q E q => ⟨A, l, _, _, _, _, _, sq, rfl, (h.mono (e.trans e2)).dev, q⟩
    refine q_asgP (bat (Ex.refl H) (ea_cons (lv_device T h (ev_var rfl)) (ea_cons (lv_head T h (ev_var rfl)) (ea_cons (lv_place T h (ev_var rfl)) (ea_cons (ev_var rfl) ea_nil))))) fun v H1 e1 hv => ?_
    have h1 := h.mono e1
    refine q_cut (M := fun σ' H' => ∃ w1 p1 s1 q1 v x T1, σ' = [some (.ref A.lg), some (nV sq), some v] ∧ Evo H A H' (A.at_ w1 p1 s1 q1) ∧ LogAt K H' (A.at_ w1 p1 s1 q1) l { L with T := T1 } ∧ BlkAt H' v x ∧ isSum x = true ∧ cntOf x ≤ 1000 ∧ Wf l T1 ∧ takeNext l L.seen L.T sq = some (takeB l T1 x)) ?_ ?_
    · have tree : ∀ b : Bool, (b = true ↔ isCom (batchAt l L.seen L.T.head L.T.place sq) = false) → EvT (tOr (tB (tIsN (tVar 2))) (tTest (tOp rNe (tOp (rIxT K) (tVar 2) (tC (.int 0))) (tC (.int 1))))) [some (.ref A.lg), some (nV sq), some v] H1 b := by
        intro b hb
        cases hx : batchAt l L.seen L.T.head L.T.place sq with
        | none =>
          rw [hx] at hb hv
          obtain rfl : v = .non := hv
          have : b = true := hb.mpr rfl
          rw [this]
          exact et_is (et_or (b := false) (et_isN (ev_var rfl)) fun z => by cases z) rfl
        | some x =>
          rw [hx] at hb hv
          have four : ∃ a k r y, v = .ref a ∧ H1 a = some (.tup [.int k, nV x.seq, r, y]) ∧ (k = 1 ↔ isCom (some x) = true) := by
            cases x with
            | com q ids used act => obtain ⟨a, bb, rfl, t1, _⟩ := hv; exact ⟨a, 1, _, _, rfl, t1, by simp [isCom]⟩
            | mov q adrs => obtain ⟨a, bb, rfl, t1, _⟩ := hv; exact ⟨a, 2, _, _, rfl, t1, by simp [isCom]⟩
            | pay q r pp =>
              obtain ⟨a, bb, rfl, t1, _⟩ := hv
              refine ⟨a, _, _, _, rfl, t1, ?_⟩
              unfold PayD.kind isCom
              split <;> simp
            | part q r ns => obtain ⟨a, bb, rfl, t1, _⟩ := hv; exact ⟨a, 5, _, _, rfl, t1, by simp [isCom]⟩
          obtain ⟨a, kd, r, y, rfl, t1, hk⟩ := four
          refine et_is (et_or (b := b) (et_isN (ev_var rfl)) fun _ => et_is (et_cmp (ev_op (ev_var rfl) ev_c (rv_ixT (st_of t1) rfl)) ev_c (rv_ne rfl)) ?_) (by cases b <;> rfl)
          cases hc : isCom (some x) with
          | true =>
            have : b ≠ true := fun z => by have := hb.mp z; rw [hc] at this; cases this
            rw [hk.mpr hc]
            cases b
            · rfl
            · exact absurd rfl this
          | false =>
            have : b = true := hb.mpr hc
            rw [this]
            have : kd ≠ 1 := fun z => by rw [hk.mp z] at hc; cases hc
            show (!decide (V.int kd = V.int 1)) = true
            rw [decide_eq_false (fun z => this (by injection z))]
            rfl
      refine s_when (b := !isCom (batchAt l L.seen L.T.head L.T.place sq)) (tree _ (by cases isCom (batchAt l L.seen L.T.head L.T.place sq) <;> simp)) (fun hb H2 e2 => ?_) (fun hb H2 e2 => ?_)
      · have hb : isCom (batchAt l L.seen L.T.head L.T.place sq) = false := by simpa using hb
        have h2 := h1.mono e2
        have tn : takeNext l L.seen L.T sq = match L.T.queue with
            | [] => none
            | s :: _ => match batchAt l L.seen s 0 sq with
              | some x => some (takeB l (enter L.T) x)
              | none => none := by
          unfold takeNext
          split
          · rename_i hx
            rw [hx] at hb
            cases hb
          · rfl
        refine q_when (b := decide (V.int ((nL L.T.queue).length : Int) = V.int 0)) (et_cmp (ev_len (lv_queue T h2 (ev_var rfl)) (sq_of h2.qu.1)) ev_c (rv_eq rfl)) (fun hq H3 e3 => ?_) (fun hq H3 e3 => ?_)
        · have hq : L.T.queue = [] := by
            have := of_decide_eq_true hq
            injection this with this
            rw [nL_len] at this
            exact List.length_eq_zero_iff.mp (by omega)
          refine s_ret ev_c fun H4 e4 => k1 (by rw [tn, hq]) H4 A.wt A.pr A.sl A.qu (Evo.ex ((e1.trans e2).trans (e3.trans e4))) ((h2.mono e3).mono e4)
        · have hqn : L.T.queue ≠ [] := fun z => by rw [z] at hq; cases hq
          obtain ⟨qh, qt, hqq⟩ := List.exists_cons_of_ne_nil hqn
          have h3 := h2.mono e3
          refine q_asgP (bat ((e1.trans e2).trans e3) (ea_cons (lv_device T h3 (ev_var rfl)) (ea_cons (ev_op (lv_queue T h3 (ev_var rfl)) ev_c (rv_ixL (sq_of h3.qu.1) (by rw [hqq]; exact atI_of (k := 0) rfl))) (ea_cons (ev_is ev_c (show V.int 0 = nV 0 from rfl)) (ea_cons (ev_var rfl) ea_nil))))) fun v2 H4 e4 hv2 => ?_
          have h4 := h3.mono e4
          cases hx : batchAt l L.seen qh 0 sq with
          | none =>
            rw [hx] at hv2
            obtain rfl : v2 = .non := hv2
            refine q_when (b := true) (et_is (et_isN (ev_var rfl)) rfl) (fun _ H5 e5 => ?_) (fun z => by cases z)
            exact s_ret ev_c fun H6 e6 => k1 (by rw [tn, hqq]; simp only [hx]) H6 A.wt A.pr A.sl A.qu (Evo.ex ((((e1.trans e2).trans e3).trans e4).trans (e5.trans e6))) ((h4.mono e5).mono e6)
          | some x =>
            rw [hx] at hv2
            obtain ⟨_, _, _, hs1, _, hs2, _⟩ := batchAt_some hx
            have hb2 := h.dev.la.1.b2
            obtain ⟨a, kk, r, y, hav, _⟩ := BlkAt.four hv2
            have hav' : v2 ≠ .non := by rw [hav]; simp
            refine q_when (b := false) (et_is (et_isN (ev_var rfl)) (decide_eq_false hav')) (fun z => by cases z) (fun _ H5 e5 => ?_)
            refine s_call (ea_cons (ev_var rfl) ea_nil) fun H6 e6 => ⟨A, l, L, rfl, (h4.mono e5).mono e6, hqn, fun H7 w7 p7 s7 q7 ev7 h7 => ⟨w7, p7, s7, q7, v2, x, enter L.T, rfl, (Evo.ex (((e1.trans e2).trans e3).trans (e4.trans (e5.trans e6)))).trans ev7, h7, BlkAt.mono hv2 ((Ex.tx (e5.trans e6)).trans ev7.tx), hs1, by omega, (wq.enter hqn).wf, by rw [tn, hqq]; simp only [hx]⟩⟩
      · have hb : isCom (batchAt l L.seen L.T.head L.T.place sq) = true := by simpa using hb
        cases hx : batchAt l L.seen L.T.head L.T.place sq with
        | none => rw [hx] at hb; cases hb
        | some x =>
          rw [hx] at hb hv
          cases x with
          | com q ids used act =>
            obtain ⟨_, _, _, hs1, _, hs2, _⟩ := batchAt_some hx
            have hb2 := h.dev.la.1.b2
            exact ⟨A.wt, A.pr, A.sl, A.qu, v, .com q ids used act, L.T, rfl, Evo.ex (e1.trans e2), (h1.mono e2).at0, BlkAt.mono hv (Ex.tx e2), rfl, by omega, wq.wf, by unfold takeNext; rw [hx]; rfl⟩
          | _ => cases hb
    · rintro σ' H' ⟨w1, p1, s1, q1, v, x, T1, rfl, ev, hL, hv, hs, hc, wf1, tn⟩
      have go : ∃ (a : Addr) (kd : Nat) (bd : V), v = .ref a ∧ H' a = some (.tup [nV kd, nV x.seq, .int 0, bd]) ∧ ((∃ ids used act, kd = 1 ∧ ComAt H' bd ids used act ∧ takeB l T1 x = takeC l T1 ids used act) ∨ (∃ b adrs, kd = 2 ∧ bd = .ref b ∧ H' b = some (.tup (nL adrs)) ∧ adrs.length ≤ 1000 ∧ takeB l T1 x = takeM l T1 adrs)) := by
        cases x with
        | com q ids used act => obtain ⟨a, bb, rfl, t1, t2⟩ := hv; exact ⟨a, 1, bb, rfl, t1, .inl ⟨ids, used, act, rfl, t2, rfl⟩⟩
        | mov q adrs => obtain ⟨a, bb, rfl, t1, t2⟩ := hv; exact ⟨a, 2, _, rfl, t1, .inr ⟨bb, adrs, rfl, rfl, t2, hc, rfl⟩⟩
        | pay _ _ _ => cases hs
        | part _ _ _ => cases hs
      obtain ⟨a, kd, bd, rfl, t1, hB⟩ := go
      refine q_call (ea_cons (ev_var rfl) (ea_cons (ev_op (ev_var rfl) ev_c (rv_ixT (st_of t1) rfl)) (ea_cons (ev_op (ev_var rfl) ev_c (rv_ixT (st_of t1) rfl)) ea_nil))) fun H2 e2 => ⟨A.at_ w1 p1 s1 q1, l, _, kd, bd, takeB l T1 x, rfl, hL.mono e2, wf1, ?_, fun H3 w3 p3 s3 q3 ev3 h3 => ?_⟩
      · rcases hB with ⟨ids, used, act, z1, z2, z3⟩ | ⟨b, adrs, z1, z2, z3, z4, z5⟩
        · exact .inl ⟨ids, used, act, z1, z2.mono (Ex.tx e2), z3⟩
        · exact .inr ⟨b, adrs, z1, z2, e2 _ _ z3, z4, z5⟩
      · exact s_ret ev_c fun H4 e4 => k2 _ tn H4 w3 p3 s3 q3 ((ev.trans (Evo.ex e2)).trans (ev3.trans (Evo.ex e4))) (h3.mono e4)
end
end Sg

set_option maxHeartbeats 4000000
namespace Sg
open PySem PySem.Spec PyProof.Rows L2 Evl
section
variable {P : Program} {w : World} {K : PySem.W.Frag} {mg : Str → Option Value} {base : Heap}
theorem el_listRg {σ : L2.St} {H : Hp} {ta tb : TE} {a b : Int} (ha : Ev ta σ H (.int a)) (hb : Ev tb σ H (.int b)) (h : RgOk a b) : EvL (tLstRg (tRg2 ta tb)) σ H (rgV a b) := fun H1 e Q q =>
  ha H1 e _ fun H2 e2 => hb H2 (e.trans e2) _ fun H3 e3 => ⟨a, b, rfl, rfl, h, fun p hp => q p _ (fresh_back (e2.trans e3) hp) ((e2.trans e3).trans (Ex.new hp)) upd_same⟩
/-- a device's four things -/
def Ad.four (A : Ad) : List Addr := [A.dv, A.sn, A.su, A.wt]
/-- a log made of a device -/
def Mounts (K : PySem.W.Frag) (H : Hp) (A : Ad) (l : Lay) (L' : Lg) (Q : VK) : Prop := ∀ H' A', (∀ b o, H b = some o → b ∉ A.four → H' b = some o) → (∀ b ∈ A'.own, H b = none ∨ b ∈ A.four) → A'.la = A.la → LogAt K H' A' l L' → Q (.ref A'.lg) H'
/-- so far -/
structure Made (H : Hp) (A : Ad) (H' : Hp) (A' : Ad) : Prop where
  kp : ∀ b o, H b = some o → b ∉ A.four → H' b = some o
  ow : ∀ b ∈ A'.own, H b = none ∨ b ∈ A.four
  la : A'.la = A.la
theorem Made.evo {H H1 H2 : Hp} {A A1 A2 : Ad} {l : Lay} {L : Lg} (m : Made H A H1 A1) (d : ∀ b ∈ A.four, ∃ o, H b = some o) (h : LogAt K H1 A1 l L) (e : Evo H1 A1 H2 A2) : Made H A H2 A2 := by
  have up : ∀ b o, H b = some o → b ∉ A.four → H1 b = some o ∧ b ∉ A1.own := fun b o hb n => ⟨m.kp b o hb n, fun z => by
    rcases m.ow b z with q | q
    · rw [hb] at q; cases q
    · exact n q⟩
  refine ⟨fun b o hb n => e.kp b o (up b o hb n).1 (up b o hb n).2, fun b hb => ?_, e.la.trans m.la⟩
  by_cases q : b ∈ A.four
  · exact .inr q
  · left
    cases z : H b with
    | none => rfl
    | some o => exact absurd hb (e.ni b o (up b o z q).1 (up b o z q).2)
theorem Made.go {H H' : Hp} {A A' : Ad} {l : Lay} {L' : Lg} {Q : VK} (m : Made H A H' A') (k : Mounts K H A l L' Q) (h : LogAt K H' A' l L') : Q (.ref A'.lg) H' := k H' A' m.kp m.ow m.la h
theorem DevAt.fourE {H : Hp} {A : Ad} {l : Lay} {su se : Dev} {wa : List (Nat × Blk)} (h : DevAt K H A l su se wa) : ∀ b ∈ A.four, ∃ o, H b = some o := by
  intro b hb
  obtain ⟨⟨dx, d1⟩, _, ⟨v1, a1, a2⟩, ⟨v2, b1, b2⟩, ⟨v3, c1, c2⟩, _⟩ := h
  unfold Ad.four at hb
  simp only [List.mem_cons, List.not_mem_nil, or_false] at hb
  rcases hb with z | z | z | z <;> rw [z] <;> exact ⟨_, by assumption⟩
/-- Log(device) -/
theorem evp_Log {σ : L2.St} {H : Hp} {tA : TA} {E : XK} {A : Ad} {l : Lay} {su se : Dev} {wa : List (Nat × Blk)} (hd : DevAt K H A l su se wa) (h : EvA tA σ H [.ref A.dv]) :
    EvP (tMake (He.ga K "Log") (sp_Log_init K) [] E tA) σ H fun v H2 => ∃ A', v = .ref A'.lg ∧ Made H A H2 A' ∧ A'.dv = A.dv ∧ LogAt K H2 A' l ⟨su, se, wa, emptyT l, 0, 1⟩ :=
  evp_make h fun H1 e1 x dx hx hdx hne Q E q => by
    have n1 : ∀ b o, H1 b = some o → b ≠ x ∧ b ≠ dx := fun b o h => ⟨fun z => (by rw [z, hx] at h; cases h), fun z => (by rw [z, hdx] at h; cases h)⟩
    have up : Ex H1 (upd (upd H1 dx (.own x)) x (.ins (He.ga K "Log") dx [])) := fun b o h => by
      rw [upd_ne (n1 b o h).1, upd_ne (n1 b o h).2]
      exact h
    refine ⟨x, dx, A, l, su, se, wa, rfl, upd_same, (hd.mono e1).mono up, fun H2 A' B1 h1 h2 h3 h4 h5 h6 h7 hl => ?_⟩
    have E2 := ExB.made hx hdx B1
    refine q H2 E2 ⟨A', by rw [h1], ⟨fun b o hb _ => E2 _ _ (e1 _ _ hb), fun b hb => ?_, h6⟩, h2, hl⟩
    unfold Ad.own at hb
    simp only [List.mem_cons, List.not_mem_nil, or_false] at hb
    rcases hb with z | z | z | z | z | z
    · rw [z, h1]; exact .inl (fresh_back e1 hx)
    · rw [z, h2]; exact .inr (by simp [Ad.four])
    · rw [z, h3]; exact .inr (by simp [Ad.four])
    · rw [z, h4]; exact .inr (by simp [Ad.four])
    · rw [z, h5]; exact .inr (by simp [Ad.four])
    · rw [z]; exact .inl (fresh_back (e1.trans up) h7)
/-! ### new_log -/
def sp_new_log (K : PySem.W.Frag) : Sp := fun vs H Q _ => ∃ (A : Ad) (l : Lay), vs = [.ref A.dv] ∧ DevAt K H A l (List.replicate l.db none) (List.replicate l.db none) [] ∧ Mounts K H A l (ckL l (newLg l)) Q
abbrev nm_new_log : List Str := ["device", "log"]
theorem sc_new_log : FnScope nm_new_log ["device"] (defScope s_new_log) := ⟨rfl, rfl, rfl, by decide +kernel, rfl, by decide +kernel, by decide +kernel⟩
theorem ok_new_log (T : Ctx K mg base) : Okd P w K mg base 5 (He.ga K "new_log") ["device"] (sp_new_log K) := by
  obtain ⟨fd, F⟩ := T.def_new_log
  have b : Binds K fd ["device"] [] := FunD.bindsN F fun _ _ _ _ _ _ us hl => match us, hl with | [_], _ => rfl
  obtain ⟨fd_write_checkpoint, G_write_checkpoint, b_write_checkpoint, k_write_checkpoint⟩ := ok_write_checkpoint (P := P) (w := w) T
  obtain ⟨fd_Log, G_Log_init, b_Log_init, k_Log_init⟩ := ok_Log_init (P := P) (w := w) T
  refine ⟨fd, FunD.ok F sc_new_log (fun vs H Q E h => ?_) (fun cdv A outer s H vs Q E hr h => ?_), b, F.kp⟩
  · obtain ⟨A, l, rfl, _⟩ := h
    rfl
  · obtain ⟨A, l, rfl, hd, k⟩ := h
    refine ⟨_, PSs.nox (pss_cons (ps_set (i := 1) sc_new_log.nd rfl (Or.inl rfl) (pe_make T.mkr_Log G_Log_init (hr.mono (by decide)) rfl T.glo_Log b_Log_init .nil pass0 (pa_cons (pv 0) pa_nil)))
      (pss_cons (ps_fld (pv 1) (pe_listRg rfl rfl T.free_list (prg_2 rfl T.free_range pe_int (pe_fld (pe_fld (pv 0) rfl) rfl))) rfl)
      (pss_cons (ps_expr (pe_call G_write_checkpoint (hr.mono (by decide)) rfl T.glo_write_checkpoint k_write_checkpoint b_write_checkpoint .nil pass0 (pa_cons (pv 1) pa_nil)))
      (pss_one (ps_ret (pv 1)))))), ?_⟩
    have lo := hd.la.1
    have hs2 := lo.s2
    have hs1 := lo.s1
    refine q_asgP (evp_Log hd (ea_cons (ev_var rfl) ea_nil)) fun v H1 e1 hv => ?_
    obtain ⟨A1, rfl, m1, hdv, h1⟩ := hv
    have hrg : rgV 1 (l.seg : Int) = nL ((List.range (l.seg - 1)).map (· + 1)) := by
      unfold rgV nL
      rw [List.map_map, show ((l.seg : Int) - 1).toNat = l.seg - 1 by omega]
      refine List.map_congr_left fun i _ => ?_
      show V.int (1 + (i : Int)) = V.int ((i + 1 : Nat) : Int)
      congr 1
      omega
    refine q_lgQueue T (qs := (List.range (l.seg - 1)).map (· + 1)) h1 (by rw [← hrg]; exact el_listRg ev_c (yv_segments T h1.dev.la (ev_is (dv_layout T h1.dev (ev_is (ev_var rfl) (by rw [hdv]))) rfl)) (RgOk.of_le (by decide) (by omega) (by decide) (by omega))) (fun _ _ => ev_var rfl) fun H2 p ev2 h2 => ?_
    have h2 : LogAt K H2 (A1.at_ A1.wt A1.pr A1.sl p) l (newLg l) := h2
    have hk := new_seen lo
    refine q_call (ea_cons (ev_var rfl) ea_nil) fun H3 e3 => ⟨A1.at_ A1.wt A1.pr A1.sl p, l, newLg l, rfl, h2.mono e3, hk.g, hk.rg, (fun x hx => (nomatch hx)), hk.sw, fun H4 w4 p4 s4 q4 ev4 h4 => ?_⟩
    refine s_ret (ev_var rfl) fun H5 e5 => ?_
    have ev := ev2.trans ((Evo.ex e3).trans (ev4.trans (Evo.ex e5)))
    exact (m1.evo hd.fourE h1 ev).go k (h4.mono e5)
end
end Sg

set_option maxHeartbeats 4000000
/-! rules of our own: an attribute as a target -/
namespace Sg
open PySem PySem.Spec PyProof.Rows L2 Evl
/-- o.f = .. among targets -/
def gFld (K : PySem.W.Frag) (ta : TE) (f : Str) : TG := fun v σ H Q => ta σ H fun x H2 => ∃ a C dx fs, x = .ref a ∧ H2 a = some (.ins C dx fs) ∧ Cls K C ∧ NoAttr K C f ∧ fs.length < 1000 ∧ Q σ (upd H2 a (.ins C dx (putF f v fs)))
section
variable {X : Cx}
theorem pg_att {o : Expr} {ta : TE} {f : Str} {pos : Pos} (ho : PE X o ta) : PG X (.Attribute o f pos) (gFld X.K ta f) := by
  refine ⟨fun pins s σ H v u Q I r h => ?_⟩
  rw [assign_Attribute]
  refine wpAny_bind (wpAny_holding (thn (ho.run pins s σ H _ I h) fun ov s1 ⟨x, H1, I1, r1, a, C, dx, fs, ex, ea, c, n, l, q⟩ => ?_))
  subst ex
  obtain rfl : ov = Value.ref a := r1
  refine wpAny_bind (wpAny_standAt ?_)
  refine wpAny_bind (wpAny_holding (setattr_ok I1 ea c n l r fun s2 I2 => ?_))
  first
    | exact wpAny_release ⟨σ, _, I2, q⟩
    | exact wpAny_pure ⟨σ, _, I2, q⟩
end
end Sg

set_option maxHeartbeats 4000000
/-! judgements that leave the table of generators as it is -/
namespace Sg
open PySem PySem.Spec PyProof.Rows L2 Evl
/-- and the table of generators is gs -/
def Gx {α : Type} (gs : Array GenState) (Q : α → Shared → Prop) (a : α) (s : Shared) : Prop := s.gens = gs ∧ Q a s
structure PEg (X : Cx) (e : Expr) (t : TE) : Prop where
  run : ∀ (pins : List (Addr × Obj)) (s : Shared) (σ : L2.St) (H : Hp) (Q : VK), Inv X pins σ H s → t σ H Q → wpAny (model X.prog X.w) X.A (eval e X.env) (Gx s.gens (EP X pins σ Q)) X.xe s
structure PTg (X : Cx) (e : Expr) (t : TT) : Prop where
  run : ∀ (pins : List (Addr × Obj)) (s : Shared) (σ : L2.St) (H : Hp) (Q : Bool → Hp → Prop), Inv X pins σ H s → t σ H Q → wpAny (model X.prog X.w) X.A (isTrue e X.env (eval e X.env)) (Gx s.gens (TP X pins σ Q)) X.xe s
structure PWg (X : Cx) (e : Expr) (t : TT) : Prop where
  run : ∀ (whole : Sem Value) (pins : List (Addr × Obj)) (s : Shared) (σ : L2.St) (H : Hp) (Q : Bool → Hp → Prop), Inv X pins σ H s → t σ H Q → wpAny (model X.prog X.w) X.A (isTrue e X.env whole) (Gx s.gens (TP X pins σ Q)) X.xe s
structure PAg (X : Cx) (es : List Expr) (t : TA) : Prop where
  run : ∀ (pos : Pos) (pins : List (Addr × Obj)) (s : Shared) (σ : L2.St) (H : Hp) (Q : List V → Hp → Prop), Inv X pins σ H s → t σ H Q → wpAny (model X.prog X.w) X.A (spliced (backTo pos (starEach es X.env))) (Gx s.gens (AP X pins σ Q)) X.xe s
structure PSg (X : Cx) (st : Stmt) (t : L2.TS) : Prop where
  run : ∀ (pins : List (Addr × Obj)) (s : Shared) (σ : L2.St) (H : Hp) (D : Ends), Inv X pins σ H s → t D σ H → wpAny (model X.prog X.w) X.A (exec st X.env) (Gx s.gens (SP X pins D)) X.xe s
structure PSsg (X : Cx) (st : List Stmt) (t : L2.TS) : Prop where
  run : ∀ (pins : List (Addr × Obj)) (s : Shared) (σ : L2.St) (H : Hp) (D : Ends), Inv X pins σ H s → t D σ H → wpAny (model X.prog X.w) X.A (execs st X.env) (Gx s.gens (SP X pins D)) X.xe s
theorem PWg.pt {X : Cx} {e : Expr} {t : TT} (h : PWg X e t) : PTg X e t := ⟨h.run _⟩
/-- .. in a row -/
theorem thg {α : Type} {t : Sem α} {gs : Array GenState} {Q Q' : α → Shared → Prop} {M : Model} {A : Around} {E : Value → Shared → Prop} {s : Shared} (h : wpAny M A t (Gx gs Q) E s) (hQ : ∀ a s, s.gens = gs → Q a s → Q' a s) : wpAny M A t Q' E s := wpAny_mono h (fun a s' z => hQ a s' z.1 z.2) fun _ _ x => x
section
variable {X : Cx} {pins : List (Addr × Obj)} {σ : L2.St} {H : Hp} {s : Shared} {a C dx : Addr} {fs : List (Str × V)} {f : Str} {v : V} {A : Around} {E : Value → Shared → Prop} {pos pos' : Pos}
theorem pvg (i : Nat) {x : Str} {pos : Pos} (hN : X.N[i]? = some x := by rfl) (hv : Vis X.env.scope x := by first | exact Or.inl rfl | exact Or.inr (Or.inl rfl) | exact Or.inr (Or.inr rfl)) (hd : (x == ("__debug__" : Str)) = false := by decide) (hcd : (x == ("__classdict__" : Str)) = false := by decide) : PEg X (.Name x pos) (tVar i) := by
  refine ⟨fun pins s σ H Q I h => ?_⟩
  obtain ⟨v, e, h⟩ := h
  obtain ⟨m, hn, hl⟩ := I.loc
  obtain ⟨u, r, l⟩ := hl i x v hN e hv
  have fin : Gx s.gens (EP X pins σ Q) u s := ⟨rfl, v, H, I, r, h⟩
  rcases l with ⟨hk, hm⟩ | ⟨hk, c, hc, hcell⟩
  · exact wpAny_Name (wpAny_loadName_local I.ok.kind hk hn hm fin) hd
  · rcases hk with hk | hk
    · exact wpAny_Name (wpAny_loadName_cell I.ok.kind hk hc hcell fin) hd
    · exact wpAny_Name (wpAny_loadName_free I.ok.kind hk hc hcell fin hcd) hd
theorem peg_int {i j pos} : PEg X (.Constant (.int i) j pos) (tC (.int i)) := ⟨fun _ _ _ H _ I h => wpAny_Constant_int ⟨rfl, .int i, H, I.tok _, ⟨_, rfl⟩, h⟩⟩
theorem peg_non {j pos} : PEg X (.Constant .none j pos) (tC .non) := ⟨fun _ _ _ H _ I h => Constant_none ⟨rfl, .non, H, I, rfl, h⟩⟩
theorem getattr_okg {b : Bool} {Q : Value → Shared → Prop} (I : Inv X pins σ H s) (e : H a = some (.ins C dx fs)) (c : Cls X.K C) (n : NoAttr X.K C f) (l : fs.lookup f = some v)
    (h : ∀ u s', s'.gens = s.gens → Inv X pins σ H s' → RelV v u → Q u s') : wpAny (model X.prog X.w) A (getAttr (.ref a) f b) Q E s := by
  obtain ⟨mA, O, r, _, _, _⟩ := ins_get I.hok e
  obtain ⟨u, hu, ru⟩ := RelO.some_of (v := v) (o := mA f) (by rw [← l]; exact r f)
  exact get_map I.kIn O (c.get f) c.hd n hu (handed_of ru) (h u _ rfl (I.tok _) ru)
theorem setattr_okg {y : V} {u : Value} {Q : Unit → Shared → Prop} (I : Inv X pins σ H s) (e : H a = some (.ins C dx fs)) (c : Cls X.K C) (n : NoAttr X.K C f) (hl : fs.length < 1000) (ry : RelV y u)
    (h : ∀ s', s'.gens = s.gens → Inv X pins σ (upd H a (.ins C dx (putF f y fs))) s' → Q () s') : wpAny (model X.prog X.w) A (setAttr (.ref a) f u) Q E s := by
  obtain ⟨mA, O, r, wi, _, ho⟩ := ins_get I.hok e
  have hz : (fs.map (·.1)).length ≤ sizeLine := by rw [List.length_map, sizeLine_eq]; omega
  refine set_map I.kIn O c.sa c.po n.taker c.hd wi hz fun h' O' sb => h _ rfl ?_
  have hd : ∃ o, h'.get? dx = some o := let ⟨o, _, _, e', _⟩ := O'.ns; ⟨o, e'⟩
  refine I.write (x := a) (e := dx) (by rw [e]; exact True.intro) (.inr ho) (fun b q hb z => (sb.2 b hb).trans z) hd ?_
  refine ⟨by rw [upd_ne O.ne]; exact ho, ?_, O.ne, O'.obj, _, O'.ns, fun g => ?_, fun g hg => ?_⟩
  · have := length_putF f y fs; omega
  · show RelO ((putF f y fs).lookup g) (if g = f then some u else mA g)
    rw [lookup_putF]
    by_cases q : g = f
    · rw [if_pos q, if_pos q]; exact ry
    · rw [if_neg q, if_neg q]; exact r g
  · by_cases q : g = f
    · rw [q]; exact (keys_putF f y fs).1
    · refine (keys_putF f y fs).2 g (wi g fun z => hg ?_)
      show (if g = f then some u else mA g) = none
      rw [if_neg q]; exact z
theorem peg_fld {e : Expr} {ta : TE} (he : PEg X e ta) (hb : attributeBase e f X.env (eval e X.env) = eval e X.env) : PEg X (.Attribute e f pos) (tFld X.K ta f) := by
  refine ⟨fun pins s σ H Q I h => ?_⟩
  refine attr_of hb (thg (he.run pins s σ H _ I h) fun u s1 g1 ⟨x, H1, I1, rx, a, C, dx, fs, v, ex, ea, c, n, l, q⟩ => ?_)
  subst ex
  obtain rfl : u = Value.ref a := rx
  exact getattr_okg I1 ea c n l fun u' s2 g2 I2 ru => ⟨g2.trans g1, v, H1, I2, ru, q⟩
theorem psg_fld {o value : Expr} {ta tv : TE} (ha : PEg X o ta) (hv : PEg X value tv) (hs : swapsWith value (some (.Attribute o f pos')) pos.line X.env = pure false) : PSg X (.Assign [.Attribute o f pos'] value pos) (sFld X.K ta tv f) := by
  refine ⟨fun pins s σ H D I h => ?_⟩
  refine plainObj_wpAny_Assign_Attribute (thg (hv.run pins s σ H _ I h) fun u s1 g1 ⟨y, H1, I1, ry, q⟩ => thg (ha.run pins s1 σ H1 _ I1 q) fun ov s2 g2 ⟨x, H2, I2, rx, a, C, dx, fs, ex, ea, c, n, l, q2⟩ => ?_) hs
  subst ex
  obtain rfl : ov = Value.ref a := rx
  exact setattr_okg I2 ea c n l ry fun s3 g3 I3 => ⟨g3.trans (g2.trans g1), σ, _, I3, q2⟩
/-! ### operators -/
def OpRg (X : Cx) (f : Value → Value → Sem Value) (r : R2) : Prop :=
  ∀ (pins : List (Addr × Obj)) (s : Shared) (σ : L2.St) (H : Hp) (x y : V) (v u : Value) (Q : VK), Inv X pins σ H s → RelV x v → RelV y u → r x y H Q →
    wpAny (model X.prog X.w) X.A (f v u) (Gx s.gens (EP X pins σ Q)) X.xe s
theorem opIg {f : Value → Value → Sem Value} {C : Int → Int → Prop} {g : Int → Int → Int}
    (rule : ∀ (i j : Int) (t u : Tok) (s : Shared) (Q : Value → Shared → Prop) (E : Value → Shared → Prop), C i j → Q (.int (g i j) s.toks) { s with toks := s.toks + 1 } → wpAny (model X.prog X.w) X.A (f (.int i t) (.int j u)) Q E s) :
    OpRg X f (rI C fun i j => .int (g i j)) := by
  intro pins s σ H x y v u Q I rx ry h
  obtain ⟨i, j, rfl, rfl, hc, q⟩ := h
  obtain ⟨t, rfl⟩ := rx
  obtain ⟨t', rfl⟩ := ry
  exact rule i j t t' s _ _ hc ⟨rfl, .int (g i j), H, I.tok _, ⟨_, rfl⟩, q⟩
theorem opI0g {f : Value → Value → Sem Value} {g : Int → Int → Int}
    (rule : ∀ (i j : Int) (t u : Tok) (s : Shared) (Q : Value → Shared → Prop) (E : Value → Shared → Prop), Q (.int (g i j) s.toks) { s with toks := s.toks + 1 } → wpAny (model X.prog X.w) X.A (f (.int i t) (.int j u)) Q E s) :
    OpRg X f (rI0 fun i j => .int (g i j)) := by
  intro pins s σ H x y v u Q I rx ry h
  obtain ⟨i, j, rfl, rfl, q⟩ := h
  obtain ⟨t, rfl⟩ := rx
  obtain ⟨t', rfl⟩ := ry
  exact rule i j t t' s _ _ ⟨rfl, .int (g i j), H, I.tok _, ⟨_, rfl⟩, q⟩
theorem opB0g {f : Value → Value → Sem Value} {g : Int → Int → Bool}
    (rule : ∀ (i j : Int) (t u : Tok) (s : Shared) (Q : Value → Shared → Prop) (E : Value → Shared → Prop), Q (.bool (g i j)) s → wpAny (model X.prog X.w) X.A (f (.int i t) (.int j u)) Q E s) :
    OpRg X f (rI0 fun i j => .bl (g i j)) := by
  intro pins s σ H x y v u Q I rx ry h
  obtain ⟨i, j, rfl, rfl, q⟩ := h
  obtain ⟨t, rfl⟩ := rx
  obtain ⟨t', rfl⟩ := ry
  exact rule i j t t' s _ _ ⟨rfl, .bl (g i j), H, I, rfl, q⟩
theorem opg_sub : OpRg X (binaryOp .Sub) (rI0 fun i j => .int (i - j)) := opI0g fun _ _ _ _ _ _ _ q => sub_int q
theorem opg_ge : OpRg X (compareOp .GtE) (rI0 fun i j => .bl (decide (j ≤ i))) := opB0g fun _ _ _ _ _ _ _ q => ge_int q
theorem opg_lt : OpRg X (compareOp .Lt) (rI0 fun i j => .bl (decide (i < j))) := opB0g fun _ _ _ _ _ _ _ q => lt_int q
theorem opg_mul : OpRg X (binaryOp .Mult) (rI CMul fun i j => .int (i * j)) := opIg fun _ _ _ _ _ _ _ hc q => mul_int q hc.ok
theorem opg_fdiv : OpRg X (binaryOp .FloorDiv) (rI CDiv fun i j => .int (i / j)) := opIg fun i j _ _ _ _ _ hc q => by
  have h1 : (0 : Int) < j := hc.1
  have h2 : j < 1073741824 := hc.2
  exact floordiv_int (by omega) (by rw [Int.fdiv_eq_ediv_of_nonneg i (by omega)]; exact q) (.inl (PyProof.noPylong_small (by omega)))
variable {ea eb ec : Expr} {ta tb tc : TE}
theorem peg_op {op : Operator} {r : R2} (ho : OpRg X (binaryOp op) r) (ha : PEg X ea ta) (hb : PEg X eb tb) : PEg X (.BinOp ea op eb pos) (tOp r ta tb) := by
  refine ⟨fun pins s σ H Q I h => ?_⟩
  refine wpAny_BinOp (thg (ha.run pins s σ H _ I h) fun v s1 g1 ⟨x, H1, I1, r1, q1⟩ => thg (hb.run pins s1 σ H1 _ I1 q1) fun u s2 g2 ⟨y, H2, I2, r2, q2⟩ => thg (ho pins s2 σ H2 x y v u Q I2 r1 r2 q2) fun w s3 g3 q => ⟨g3.trans (g2.trans g1), q⟩)
theorem ptg_cmpR {op : CmpOp} {r : R2} (ho : OpRg X (compareOp op) r) (ha : PEg X ea ta) (hb : PEg X eb tb) (hm : behindInMarks op eb = false) : PTg X (.Compare ea [op] [eb] pos) (tTest (tOp r ta tb)) := by
  refine ⟨fun pins s σ H Q I h => ?_⟩
  refine wpAny_isTrue_Compare1 (thg (ha.run pins s σ H _ I h) fun v s1 g1 ⟨x, H1, I1, r1, q1⟩ => thg (hb.run pins s1 σ H1 _ I1 q1) fun u s2 g2 ⟨y, H2, I2, r2, q2⟩ =>
    thg (ho pins s2 σ H2 x y v u _ I2 r1 r2 q2) fun c s3 g3 ⟨z, H3, I3, r3, k, e, q3⟩ => ?_) hm
  subst e
  cases r3
  exact wpAny_truthy_bool ⟨g3.trans (g2.trans g1), H3, I3, q3⟩
theorem ptg_notN {j : Nat} (ha : PEg X ea ta) : PTg X (.Compare ea [.IsNot] [.Constant .none j pos'] pos) (tB (tNotN ta)) := by
  refine ⟨fun pins s σ H Q I h => ?_⟩
  refine wpAny_isTrue_Compare1 (thg (ha.run pins s σ H _ I h) fun v s1 g1 ⟨x, H1, I1, r1, q1⟩ => ?_) (by rfl)
  refine Constant_none (isnot_none_gen ?_)
  obtain ⟨d, e, q⟩ := q1
  rw [r1.none_iff]
  refine wpAny_truthy_bool ⟨g1, H1, I1, ?_⟩
  injection e with e
  rw [e]
  exact q
theorem pwg_or1 {tA : TT} (ha : PTg X ea tA) : PWg X (.BoolOp .Or [ea] pos) tA := by
  refine ⟨fun wh pins s σ H Q I h => ?_⟩
  refine isTrue_or (thn (ha.run pins s σ H Q I h) fun c s1 e => ?_)
  cases c with
  | false => exact isTrue_or_nil e
  | true => exact e
theorem pwg_or {tA tB' : TT} {rest : List Expr} (ha : PTg X ea tA) (hb : PWg X (.BoolOp .Or (eb :: rest) pos) tB') : PWg X (.BoolOp .Or (ea :: eb :: rest) pos) (tOr tA tB') := by
  refine ⟨fun wh pins s σ H Q I h => ?_⟩
  refine isTrue_or (thg (ha.run pins s σ H _ I h) fun c s1 g1 ⟨H1, I1, q1⟩ => ?_)
  cases c with
  | true => exact ⟨g1, H1, I1, q1⟩
  | false => exact thg (hb.run wh pins s1 σ H1 Q I1 q1) fun b s2 g2 q => ⟨g2.trans g1, q⟩
theorem pag_nil : PAg X [] tNil := ⟨fun _ _ _ _ H Q I h => Calls.spliced_nil ⟨rfl, [], H, I, .nil, h⟩⟩
theorem pag_cons {e : Expr} {es : List Expr} {te : TE} {t : TA} (ha : PEg X e te) (hr : PAg X es t) (hs : starEach (e :: es) X.env = (false, eval e X.env) :: starEach es X.env := by rfl) : PAg X (e :: es) (tCons te t) := by
  refine ⟨fun pos pins s σ H Q I h => ?_⟩
  rw [hs]
  show wpAny _ _ (spliced ((false, eval e X.env) :: backTo pos (starEach es X.env))) _ _ s
  refine Calls.spliced_cons (thg (ha.run pins s σ H _ I h) fun u s1 g1 ⟨x, H1, I1, r1, q1⟩ => ?_)
  exact thg (hr.run pos pins s1 σ H1 _ I1 q1) fun us s2 g2 ⟨xs, H2, I2, r2, q2⟩ => ⟨g2.trans g1, x :: xs, H2, I2, .cons r1 r2, q2⟩
/-! ### max, subscripts -/
def CallRg (X : Cx) (f : Value) (r : List V → Hp → VK → Prop) : Prop :=
  ∀ (pins : List (Addr × Obj)) (s : Shared) (σ : L2.St) (H : Hp) (xs : List V) (us : List Value) (Q : VK), Inv X pins σ H s → Vals xs us → r xs H Q →
    wpAny (model X.prog X.w) X.A (call f us) (Gx s.gens (EP X pins σ Q)) X.xe s
theorem callg_max2 (hc : X.calm = true) : CallRg X (.builtin "max") (fun xs H Q => ∃ i j, xs = [.int i, .int j] ∧ Q (.int (if j > i then j else i)) H) := by
  intro pins s σ H xs us Q I r h
  obtain ⟨i, j, rfl, q⟩ := h
  obtain ⟨u, w', rfl, ⟨t, rfl⟩, ⟨t', rfl⟩⟩ := vals2 r
  refine max_two_ints (I.ok.hd hc) fun h' tk k => ⟨rfl, _, H, I.kept k, ?_, q⟩
  by_cases hj : j > i
  · rw [if_pos hj, if_pos hj]; exact ⟨_, rfl⟩
  · rw [if_neg hj, if_neg hj]; exact ⟨_, rfl⟩
theorem peg_callB {x : Str} {p : Pos} {id : String} {e : Expr} {es : List Expr} {t : TA} {r : List V → Hp → VK → Prop} (hc : CallRg X (.builtin id) r) (hg : Gl X x) (hm : X.mg x = none) (hv : bootBuiltins x = some (.builtin id)) (ha : PAg X (e :: es) t) (hn : x ≠ "__name__" := by decide) (hdb : (x == ("__debug__" : Str)) = false := by decide)
    (he : starEach (e :: es) X.env = (false, eval e X.env) :: starEach es X.env := by rfl) (hpl : (backTo pos (starEach es X.env)).any (·.1) = false := by rfl) : PEg X (.Call (.Name x p) (e :: es) [] pos) (tCB r t) := by
  refine ⟨fun pins s σ H Q I h => ?_⟩
  refine wpAny_Call_Name_kw (ld_blt I hg hm hv ?_ hn hdb)
  exact PyProof.Rows.callWith_builtin1 (thg (ha.run pos pins s σ H _ I h) fun us s1 g1 ⟨vs, H1, I1, r1, q1⟩ => thg (hc pins s1 σ H1 vs us Q I1 r1 q1) fun u s2 g2 q => ⟨g2.trans g1, q⟩) he hpl
def IxRg (X : Cx) (r : R2) : Prop :=
  ∀ (value slice : Expr) (pins : List (Addr × Obj)) (s : Shared) (σ : L2.St) (H : Hp) (x y : V) (v u : Value) (Q : VK), Inv X pins σ H s → RelV x v → RelV y u → r x y H Q →
    subscripted slice false v u = operate [v, u] (getItem v u) → wpAny (model X.prog X.w) X.A (subscriptTail value slice v u) (Gx s.gens (EP X pins σ Q)) X.xe s
theorem peg_ix {r : R2} (hr : IxRg X r) (ha : PEg X ea ta) (hb : PEg X eb tb) (hs : PlainIx eb) : PEg X (.Subscript ea eb pos) (tOp r ta tb) := by
  refine ⟨fun pins s σ H Q I h => ?_⟩
  exact Subscript_ (thg (ha.run pins s σ H _ I h) fun v s1 g1 ⟨x, H1, I1, r1, q1⟩ => thg (hb.run pins s1 σ H1 _ I1 q1) fun u s2 g2 ⟨y, H2, I2, r2, q2⟩ => thg (hr ea eb pins s2 σ H2 x y v u Q I2 r1 r2 q2 (hs _ _)) fun w s3 g3 q => ⟨g3.trans (g2.trans g1), q⟩)
theorem ixg_list : IxRg X (rIxL X.K) := by
  intro value slice pins s σ H x y v u Q I rx ry h hs
  obtain ⟨p, xs, i, z, rfl, rfl, hq, he, q⟩ := h
  cases rx
  obtain ⟨t, rfl⟩ := ry
  obtain ⟨its, r, pl, hz⟩ := I.list hq
  obtain ⟨j, h1, h2, h3, h4, h5⟩ := atI_get he
  obtain ⟨w, ew, rw'⟩ := r.get h2
  have hl := r.length
  have hn := line63
  have fin : Gx s.gens (EP X pins σ Q) w s := ⟨rfl, z, H, I, rw', q⟩
  by_cases h0 : 0 ≤ i
  · have hj : i.toNat = j := by
      rw [seqIndex_of h0 h5] at h1
      exact Option.some.inj h1
    exact item_listR pl.isList h0 (by omega) (by rw [hj]; simpa using ew) fin hs
  · have hj : (i + (its.toArray.size : Int)).toNat = j := by
      rw [seqIndex_neg (by omega) h4] at h1
      rw [List.size_toArray, ← hl]
      exact Option.some.inj h1
    exact subscriptTail_builtinR (x := w) pl.isList.typeIs slot_list_getitem.lookup
      (wpAny_getItem_list_neg (Q := fun r s' => r = w ∧ Gx s.gens (EP X pins σ Q) r s') pl.isList (by omega) (by rw [List.size_toArray] <;> omega) (by omega) (by rw [hj]; simpa using ew) ⟨rfl, fin⟩) hs
theorem ixg_tup : IxRg X (rIxT X.K) := by
  intro value slice pins s σ H x y v u Q I rx ry h hs
  obtain ⟨p, xs, i, z, rfl, rfl, hq, he, q⟩ := h
  cases rx
  obtain ⟨t, rfl⟩ := ry
  obtain ⟨its, r, pl, hz⟩ := I.tuple hq
  obtain ⟨j, h1, h2, h3, h4, h5⟩ := atI_get he
  obtain ⟨w, ew, rw'⟩ := r.get h2
  have hl := r.length
  have hn := line63
  have fin : Gx s.gens (EP X pins σ Q) w s := ⟨rfl, z, H, I, rw', q⟩
  exact subscriptTail_builtinR (x := w) pl.typeIs slot_tuple_getitem.lookup
    (getItem_tuple (j := j) (Q := fun r s' => r = w ∧ Gx s.gens (EP X pins σ Q) r s') pl (by omega) (by omega) (by rw [List.size_toArray, ← hl]; exact h1) (by simpa using ew) ⟨rfl, fin⟩) hs
/-! ### targets -/
structure PGg (X : Cx) (target : Expr) (t : TG) : Prop where
  run : ∀ (pins : List (Addr × Obj)) (s : Shared) (σ : L2.St) (H : Hp) (v : V) (u : Value) (Q : L2.St → Hp → Prop), Inv X pins σ H s → RelV v u → t v σ H Q →
    wpAny (model X.prog X.w) X.A (assign target X.env u) (Gx s.gens fun _ s' => ∃ σ' H', Inv X pins σ' H' s' ∧ Q σ' H') X.xe s
structure PGsg (X : Cx) (ts : List Expr) (t : TGs) : Prop where
  run : ∀ (pins : List (Addr × Obj)) (s : Shared) (σ : L2.St) (H : Hp) (vs : List V) (us : List Value) (Q : L2.St → Hp → Prop), Inv X pins σ H s → Vals vs us → t vs σ H Q →
    wpAny (model X.prog X.w) X.A (assignInOrder ((assignEach ts X.env).map (·.2)) us) (Gx s.gens fun _ s' => ∃ σ' H', Inv X pins σ' H' s' ∧ Q σ' H') X.xe s
/-- a local name is stored -/
theorem store_okg {M : Model} {i : Nat} {x : Str} {v : V} {u : Value} {Q : Unit → Shared → Prop} (I : Inv X pins σ H s) (hN : X.N.Nodup) (hi : X.N[i]? = some x) (hx : X.env.scope.names.lookup x = some .local) (r : RelV v u)
    (h : ∀ s', s'.gens = s.gens → Inv X pins (σ.set i (some v)) H s' → Q () s') : wpAny M A (storeName X.env x u) Q E s := by
  have hl : Loc X.env.scope x := .inl hx
  obtain ⟨m, hn, hl'⟩ := id I.loc
  have hcls : (X.env.scope.kind == .class || (X.env.scope.kind == .module && X.env.locals != X.env.globals)) = false := by rw [I.ok.kind]; rfl
  refine wpAny_storeName_local hx hn (fun h' hn' hs => ?_) hcls
  obtain ⟨oL, _, _, hoL, _⟩ := id hn
  have hiσ : i < σ.length := by rw [I.len]; exact (List.getElem?_eq_some_iff.mp hi).1
  have cne := I.cne
  have away : ∀ b o, X.s_0.heap.get? b = some o → b ≠ X.env.locals := fun b o e => Nat.ne_of_lt (Nat.lt_of_lt_of_le (Heap.lt_size e) I.ok.above)
  refine h _ rfl ⟨I.ok, I.os, I.bare, ⟨fun b o e n hb hx => (hs.2 b (away b o e)).trans (I.base.keep b o e n hb hx), fun b o e n hb hx => ?_, I.base.free, fun b o e hx => ?_, I.base.tups, I.base.frzs, I.base.tbls⟩, ⟨_, hn', fun j y v' e1 e2 e3 => ?_⟩, fun y c e => ?_, I.free, I.freeC, fun p hp => ?_, fun b ob e => ?_, by simpa using I.len⟩
  · obtain ⟨sl, e1⟩ := I.base.slot b o e n hb hx
    exact ⟨sl, (hs.2 b (away b o e)).trans e1⟩
  · obtain ⟨o', e1⟩ := I.base.there b o e hx
    exact ⟨o', (hs.2 b (away b o e)).trans e1⟩
  · by_cases hj : j = i
    · subst hj
      rw [hi] at e1; cases e1
      rw [List.getElem?_set_self hiσ] at e2
      cases e2
      exact ⟨u, r, .inl ⟨hx, by simp⟩⟩
    · rw [List.getElem?_set_ne (Ne.symm hj)] at e2
      obtain ⟨u', r', q⟩ := hl' j y v' e1 e2 e3
      refine ⟨u', r', ?_⟩
      rcases q with ⟨k, e⟩ | ⟨k, c, e, z⟩
      · have ne : y ≠ x := fun e => hj (nodup_ix hN e1 (e ▸ hi))
        exact .inl ⟨k, by simp [ne, e]⟩
      · exact .inr ⟨k, c, e, z.sameBut hs (cne y c e)⟩
  · obtain ⟨w', z⟩ := I.cell y c e
    exact ⟨w', z.sameBut hs (cne y c e)⟩
  · obtain ⟨e, n, ne, nf, d⟩ := I.pin p hp
    exact ⟨(hs.2 p.1 ne).trans e, n, ne, nf, d⟩
  · refine (I.hok b ob e).stay (fun c w' hc q => (hs.2 c ?_).trans q) (fun _ q => q) fun _ _ q => q
    rintro rfl
    rcases hc with rfl | hc
    · rw [I.free] at e; cases e
    · rw [I.free] at hc; cases hc
theorem pgg_name {i : Nat} {x : Str} (hN : X.N.Nodup) (hi : X.N[i]? = some x) (hx : X.env.scope.names.lookup x = some .local) : PGg X (.Name x pos) (gName i) := by
  refine ⟨fun pins s σ H v u Q I r h => ?_⟩
  exact wpAny_assign_Name (store_okg I hN hi hx r (fun s' g I' => ⟨g, _, H, I', h⟩))
theorem pgsg_nil : PGsg X [] gNil := by
  refine ⟨fun pins s σ H vs us Q I r h => ?_⟩
  obtain ⟨e, h⟩ := h
  subst e
  cases r
  exact assignInOrder_nil ⟨rfl, σ, H, I, h⟩
theorem pgsg_cons {e : Expr} {es : List Expr} {t : TG} {u : TGs} (h1 : PGg X e t) (h2 : PGsg X es u)
    (hs : (assignEach (e :: es) X.env).map (·.2) = assign e X.env :: (assignEach es X.env).map (·.2) := by rfl) : PGsg X (e :: es) (gCons t u) := by
  refine ⟨fun pins s σ H vs us Q I r h => ?_⟩
  obtain ⟨v, vr, e1, h⟩ := h
  subst e1
  cases r with
  | cons r rr =>
    rw [hs]
    refine assignInOrder_cons (thg (h1.run pins s σ H _ _ _ I r h) fun _ s1 g1 ⟨σ1, H1, I1, q1⟩ => ?_)
    exact thg (h2.run pins s1 σ1 H1 _ _ Q I1 rr q1) fun _ s2 g2 q => ⟨g2.trans g1, q⟩
theorem pgg_tup {es : List Expr} {k : Nat} {t : TGs} {n : Nat} (hc : X.calm = true) (h : PGsg X es t)
    (hn : (assignEach es X.env).length = n := by rfl) (hst : (assignEach es X.env).findIdx? (·.1) = none := by rfl) : PGg X (.Tuple es k pos) (gTup X.K n t) := by
  refine ⟨fun pins s σ H v u Q I r hw => ?_⟩
  obtain ⟨a, xs, e1, hq, hl, hw⟩ := hw
  subst e1
  cases r
  obtain ⟨its, rv, ht, hz⟩ := I.tuple hq
  refine assign_Tuple_tuple (I.ok.hd hc) ht (by simp [hn, ← hl, rv.length]) hst fun h' hx => ?_
  have I1 : Inv X pins σ H { s with heap := h' } := I.kept (t' := s.toks) fun b o e => hx b o (Nat.ne_of_lt (Heap.lt_size e)) e
  exact h.run pins _ σ H xs _ Q I1 (by simpa using rv) hw
/-- o[i] = v, by values -/
def PSetg (X : Cx) (t : TSet) : Prop :=
  ∀ (pins : List (Addr × Obj)) (s : Shared) (σ : L2.St) (H : Hp) (o i v : V) (ov iv u : Value) (Q : Hp → Prop), Inv X pins σ H s → RelV o ov → RelV i iv → RelV v u → t o i v H Q →
    wpAny (model X.prog X.w) X.A (setItem ov iv u) (Gx s.gens fun _ s' => ∃ H', Inv X pins σ H' s' ∧ Q H') X.xe s
theorem setg_list : PSetg X rSetL := by
  intro pins s σ H o i v ov iv u Q I ro ri rv h
  obtain ⟨p, xs, k, j, rfl, rfl, hp, hj, q⟩ := h
  cases ro
  obtain ⟨t, rfl⟩ := ri
  obtain ⟨its, n, r, ho, hz⟩ := I.lst hp
  obtain ⟨h1, h2, h3, h4⟩ := ixN_seq hj
  have hl := r.length
  have hn := line63
  have I' : Inv X pins σ (upd H p (.lst (xs.set j v))) { s with heap := s.heap.update p (Obj.mapSeq (·.setIfInBounds j u)) } :=
    I.lstUpd hp ho (mapSeq_set its n j u) (r.set rv j) (by rw [List.length_set]; exact hz) s.toks
  by_cases h0 : 0 ≤ k
  · have hk : k.toNat = j := by
      rw [seqIndex_of h0 h4] at h1
      exact Option.some.inj h1
    exact PySem.W.ki_setAt ho h0 (by omega) (by rw [List.size_toArray, ← hl]; exact h4) (by rw [hk]; exact ⟨rfl, _, I', q⟩)
  · have hk : (k + (its.toArray.size : Int)).toNat = j := by
      rw [seqIndex_neg (by omega) h3] at h1
      rw [List.size_toArray, ← hl]
      exact Option.some.inj h1
    exact PySem.W.ki_setBack ho (by omega) (by rw [List.size_toArray, ← hl]; exact h3) (by omega) (by rw [hk]; exact ⟨rfl, _, I', q⟩)
theorem pgg_sub {o i : Expr} {to ti : TE} {t : TSet} (ho : PEg X o to) (hi : PEg X i ti) (hs : PSetg X t)
    (ha : ∀ v, assign (.Subscript o i pos) X.env v = (do
      let ov ← holding [v] (eval o X.env)
      let iv ← holding [v, ov] (eval i X.env)
      standAt pos
      holding [v, ov, iv] (setItem ov iv v)
      release [v, ov, iv] []) := by intro _; rfl) : PGg X (.Subscript o i pos) (gSub to ti t) := by
  refine ⟨fun pins s σ H v u Q I r h => ?_⟩
  rw [ha]
  refine wpAny_bind (wpAny_holding (thg (ho.run pins s σ H _ I h) fun ov s1 g1 ⟨x, H1, I1, r1, q1⟩ => ?_))
  refine wpAny_bind (wpAny_holding (thg (hi.run pins s1 σ H1 _ I1 q1) fun iv s2 g2 ⟨y, H2, I2, r2, q2⟩ => ?_))
  refine wpAny_bind (wpAny_standAt (wpAny_bind (wpAny_holding (thg (hs pins s2 σ H2 x y v ov iv u _ I2 r1 r2 r q2) fun _ s3 g3 ⟨H3, I3, q3⟩ => ?_))))
  exact wpAny_release ⟨g3.trans (g2.trans g1), σ, H3, I3, q3⟩
/-! ### statements -/
theorem psg_asg {tg e : Expr} {te : TE} {g : TG} (he : PEg X e te) (hg : PGg X tg g) (hs : swapsWithSole [tg] e pos.line X.env = pure false := by rfl) (hw : swappedStores [tg] e X.env = pure none := by rfl)
    (h1 : (assignEach [tg] X.env).map (·.2) = [assign tg X.env] := by rfl) : PSg X (.Assign [tg] e pos) (tAsg te g) := by
  refine ⟨fun pins s σ H D I h => ?_⟩
  refine wpAny_Assign_stores (thg (he.run pins s σ H _ I h) fun v s1 g1 ⟨x, H1, I1, r1, q1⟩ => ?_) hs hw
  rw [h1]
  exact thg (hg.run pins s1 σ H1 x v _ I1 r1 q1) fun _ s2 g2 q => ⟨g2.trans g1, q⟩
theorem psg_set {i : Nat} {x : Str} {e : Expr} {te : TE} {pos' : Pos} (hN : X.N.Nodup) (hi : X.N[i]? = some x) (hx : X.env.scope.names.lookup x = some .local) (he : PEg X e te) (hs : swapsWith e (some (.Name x pos')) pos.line X.env = pure false := by rfl) :
    PSg X (.Assign [.Name x pos'] e pos) (tAsg te (gName i)) := by
  refine ⟨fun pins s σ H D I h => ?_⟩
  refine wpAny_Assign_Name (thg (he.run pins s σ H _ I h) fun v s1 g1 ⟨y, H1, I1, r1, q1⟩ => ?_) hs
  exact store_okg I1 hN hi hx r1 (fun s2 g2 I2 => ⟨g2.trans g1, _, H1, I2, q1⟩)
theorem psg_ret {e : Expr} {te : TE} (he : PEg X e te) : PSg X (.Return (some e) pos) (tRet te) := by
  refine ⟨fun pins s σ H D I h => ?_⟩
  exact wpAny_Return_some (thg (he.run pins s σ H _ I h) fun v s1 g1 ⟨x, H1, I1, r1, q1⟩ => ⟨g1, x, σ, H1, I1, r1, q1⟩)
theorem pssg_nil : PSsg X [] tNext := ⟨fun _ _ σ H _ I h => wpAny_execs_nil ⟨rfl, σ, H, I, h⟩⟩
theorem pssg_cons {st : Stmt} {rest : List Stmt} {t u : L2.TS} (h1 : PSg X st t) (h2 : PSsg X rest u) : PSsg X (st :: rest) (tSeq t u) := by
  refine ⟨fun pins s σ H D I h => ?_⟩
  refine wpAny_execs_cons (thg (h1.run pins s σ H { D with nx := u D } I h) fun f s1 g1 q => ?_)
  cases f with
  | next =>
    obtain ⟨σ', H', I', q⟩ := q
    exact thg (h2.run pins s1 σ' H' D I' q) fun _ s2 g2 q => ⟨g2.trans g1, q⟩
  | ret v => exact ⟨g1, q⟩
  | brk => exact ⟨g1, q⟩
  | cont => exact ⟨g1, q⟩
theorem pssg_one {st : Stmt} {t : L2.TS} (h1 : PSg X st t) : PSsg X [st] t := by
  refine ⟨fun pins s σ H D I h => ?_⟩
  refine wpAny_execs_cons (thg (h1.run pins s σ H D I h) fun f s1 g1 q => ?_)
  cases f with
  | next => exact wpAny_execs_nil ⟨g1, q⟩
  | ret v => exact ⟨g1, q⟩
  | brk => exact ⟨g1, q⟩
  | cont => exact ⟨g1, q⟩
theorem psg_if {c : Expr} {a b : List Stmt} {tc : TT} {t u : L2.TS} (hc : PTg X c tc) (ha : PSsg X a t) (hb : PSsg X b u) : PSg X (.If c a b pos) (tIfS tc t u) := by
  refine ⟨fun pins s σ H D I h => ?_⟩
  refine wpAny_If (thg (hc.run pins s σ H _ I h) fun d s1 g1 ⟨H1, I1, q1⟩ => ?_)
  cases d with
  | true => exact thg (ha.run pins s1 σ H1 D I1 q1) fun _ s2 g2 q => ⟨g2.trans g1, q⟩
  | false => exact thg (hb.run pins s1 σ H1 D I1 q1) fun _ s2 g2 q => ⟨g2.trans g1, q⟩
/-! ### a def that makes no generators -/
structure FnG (P : Program) (w : World) (K : PySem.W.Frag) (mg : Str → Option Value) (base : Heap) (k : Nat) (f : Addr) (fd : FuncData) (ps : List Str) (sp : Sp) : Prop where
  len : ∀ vs H Q E, sp vs H Q E → vs.length = ps.length
  run : ∀ (A : Around) (outer : List Env) (s : Shared) (H : Hp) (args : Args) (us : List Value) (vs : List V) (Q : VK) (E : XK), Room k A → Env0 P w K mg base A outer s H → BindsTo s fd args (ps.zip us) → Vals vs us → sp vs H Q E →
    codeAny (model P w) A (.call (.ref f) args) (fun r s' => s'.gens = s.gens ∧ CR CX0 outer P w H s Q E r s' ∧ ∃ u, r = .ok (.ret u)) s
theorem fnG_of {P : Program} {w : World} {K : PySem.W.Frag} {mg : Str → Option Value} {base : Heap} {k : Nat} {f : Addr} {x qual : Str} {params : Arguments} {body : List Stmt} {scope : Scope} {dvs : List V} {kws : List (Str × V)} {fd : FuncData} {N ps : List Str} {sp : Sp} (F : FunD K x qual params body scope dvs kws f fd) (S : FnScope N ps scope)
    (len : ∀ vs H Q E, sp vs H Q E → vs.length = ps.length)
    (hbody : ∀ (cdv : Value) (A : Around) (outer : List Env) (s : Shared) (H : Hp) (vs : List V) (Q : VK) (E : XK), Room k (A.deeper (envOfC qual scope s.heap.objs.size f cdv)) → sp vs H Q E →
      ∃ t, PSsg ({ cxOf CX0 P w K mg base N qual scope f cdv A outer s H E with xe := fun _ _ => False }) body t ∧ t { nx := fun _ H' => Q .non H', rt := Q } (start N vs) H) : FnG P w K mg base (k + 1) f fd ps sp := by
  obtain ⟨oc, od, dV, kV, doc, pm, an, cdv, ct, osl, rfl, lk, hcd, _, _⟩ := F.ex
  refine ⟨len, fun A outer s H args us vs Q E hr e0 hb r hsp => ?_⟩
  have hl := len _ _ _ _ hsp
  have KX : K.In s.heap := e0.mod.kin.keeps fun b o e => (e0.bs b o e).1
  have lim : s.heap.NoLimit := e0.mod.nolimit.keeps fun b o e => (e0.bs b o e).1
  have hkind : ∀ y ∈ ps.zip us, scope.names.lookup y.1 = some .local ∨ (scope.names.lookup y.1 = some .cell ∧ ((cellsFrom (s.heap.objs.size + 1) scope.names []).lookup y.1).isSome = true) := fun ⟨n, v⟩ hy => by
    rcases S.par n (List.of_mem_zip hy).1 with q | q
    · exact .inl q
    · exact .inr ⟨q, PySem.W.cellsFrom_some _ _ _ (.inl q)⟩
  refine codeAny_call_function hr.depth (KX _ _ lk) rfl S.co S.gen rfl (PySem.W.codeRec_of KX hcd) (hb _ _ _ _ ?_)
  refine wpAny_newFunctionEnv_cells S.kind hkind fun env he s1 x => ?_
  subst he
  refine ⟨lim.keeps x.toInCall.keep, codeAny_func ?_⟩
  obtain ⟨t, ht, hq⟩ := hbody cdv A outer s H vs Q E (hr.deeper _) hsp
  have gen1 : s1.gens = s.gens := by
    obtain ⟨h1, tk, es1, hk1⟩ := x.done
    rw [es1]
  have I0 : Inv (cxOf CX0 P w K mg base N qual scope f cdv A outer s H E) [] (start N vs) H s1 := inv_start S hr.hd e0 hl r x
  have I : Inv ({ cxOf CX0 P w K mg base N qual scope f cdv A outer s H E with xe := fun _ _ => False }) [] (start N vs) H s1 :=
    ⟨⟨I0.ok.mod, I0.ok.kind, I0.ok.glob, I0.ok.blt, I0.ok.above, I0.ok.inj, I0.ok.has, I0.ok.cab, I0.ok.hd, I0.ok.frames, I0.ok.stk, I0.ok.exf, I0.ok.bs, I0.ok.bsz, I0.ok.noex, I0.ok.exfs, I0.ok.funs, I0.ok.frf⟩, I0.os, I0.bare, I0.base, I0.loc, I0.cell, I0.free, I0.freeC, I0.pin, I0.hok, I0.len⟩
  refine wpAny_mono (ht.run [] s1 (start N vs) H _ I hq) (fun fl s' hs => ?_) fun e s' hs => hs.elim
  obtain ⟨gg, hs⟩ := hs
  have fin : ∀ {σ' : L2.St} {H' : Hp} {v : V} {u : Value}, Inv ({ cxOf CX0 P w K mg base N qual scope f cdv A outer s H E with xe := fun _ _ => False }) [] σ' H' s' → RelV v u → Q v H' → CE outer P w H s Q u s' :=
    fun {σ' H' v u} J rv q => ⟨v, H', J.os, J.bare, J.base, J.hok, rv, q⟩
  cases fl with
  | ret u =>
    obtain ⟨v, σ', H', J, rv, q⟩ := hs
    exact ⟨gg.trans gen1, fin J rv q, _, rfl⟩
  | next =>
    obtain ⟨σ', H', J, q⟩ := hs
    exact ⟨gg.trans gen1, fin (v := V.non) (u := Value.none) J rfl q, _, rfl⟩
  | brk =>
    obtain ⟨_, _, _, q⟩ := hs
    exact False.elim q
  | cont =>
    obtain ⟨_, _, _, q⟩ := hs
    exact False.elim q
theorem peg_call {x : Str} {p : Pos} {k : Nat} {f : Addr} {fd : FuncData} {ps : List Str} {sp : Sp} {dvs : List V} {ds : List Value} {EX : XK} {e : Expr} {es : List Expr} {t : TA} (F : FnG X.prog X.w X.K X.mg X.base k f fd ps sp) (hr : Room k X.A) (hg : Gl X x) (hm : X.mg x = some (.ref f)) (hk : PySem.W.keepIn X.K (.ref f) = true) (hb : Binds X.K fd ps ds) (hd : Vals dvs ds)
    (ha : PAg X (e :: es) t) (hdb : (x == ("__debug__" : Str)) = false := by decide) (he : starEach (e :: es) X.env = (false, eval e X.env) :: starEach es X.env := by rfl) (hpl : (backTo pos (starEach es X.env)).any (·.1) = false := by rfl) :
    PEg X (.Call (.Name x p) (e :: es) [] pos) (tCall sp dvs EX t) := by
  refine ⟨fun pins s σ H Q I h => ?_⟩
  refine wpAny_Call_Name_kw (ld_glob I hg hm ?_ hdb)
  refine PySem.W.callWith_K (h₀ := X.base) I.ok.mod.kin hk (thg (ha.run pos pins s σ H _ I h) fun us s1 g1 ⟨vs, H1, I1, r, q⟩ => ⟨I1.kIn, ?_⟩) he hpl
  have r2 : Vals (vs ++ dvs) (us ++ ds) := r.append hd
  have hl : (us ++ ds).length = ps.length := by rw [← r2.length]; exact F.len _ _ _ _ q
  refine wpAny_call (codeAny_mono (F.run X.A X.stack s1 H1 ⟨us, []⟩ (us ++ ds) (vs ++ dvs) Q EX hr I1.env0 (hb s1 us I1.kIn hl) r2 q) fun r s' hq => ?_)
  obtain ⟨g2, hq, u, rfl⟩ := hq
  exact ⟨g2.trans g1, I1.after hq⟩
end
end Sg

set_option maxHeartbeats 4000000
/-! a generator of our own kind: a for-loop over enumerate(list) that hands out what is not None -/
namespace Sg
open PySem PySem.Spec PyProof.Rows L2 Evl GenW
section
variable {prog : Program} {w : World} {A : Around} {R : GenEnd} {Y : Protocol} {n : Nat} {s₀ : Shared} {fs : List Frame} {s : Shared} {env : Env}
/-- what follows a turn's body -/
def forK (target : Expr) (it : Value) (body : List Stmt) (env : Env) : Flow → Sem PySem.Fin := fun f => match f with
  | .next | .cont => .pure (.again (.forLoop target it body [] env))
  | .brk => .pure (.done .next)
  | .ret v => .pure (.done (.ret v))
def forJ (env : Env) : Value → Sem PySem.Fin := fun e => (do noteFrame e env; theTreesLotGoes e : Sem Unit).wrap (fun _ => .raise e) .raise id id
theorem seg_forLoop {target : Expr} {it : Value} {body : List Stmt}
    (h : wpAny (model prog w) (A.over (.forLoop target it body [] env) fs) (pyNext it) (fun r s1 => match r with
      | none => Seg (model prog w) A R Y n s₀ (.forLoop target it body [] env) (.pure (.again (.block [] env))) fs s1
      | some v => wpAny (model prog w) (A.over (.forLoop target it body [] env) fs) (letOwnedTupleGo target it v) (fun _ s2 => wpAny (model prog w) (A.over (.forLoop target it body [] env) fs) (assign target env v) (fun _ s3 =>
          Seg (model prog w) A R Y n s₀ (.forLoop target it body [] env) ((execs body env).wrap (forK target it body env) (forJ env) id id) fs s3) (fun _ _ => False) s2) (fun _ _ => False) s1)
      (fun _ _ => False) s) :
    Seg (model prog w) A R Y n s₀ (.forLoop target it body [] env) ((model prog w).den (.forLoop target it body [] env)) fs s := by
  show Seg _ A R Y n s₀ _ ((forTurn target it body [] env).onRaise (fun x => do noteFrame x env; theTreesLotGoes x)) fs s
  unfold forTurn
  rw [Sem.onRaise_eq_wrap]
  refine seg_bind_wrap (wpAny_standAt ?_)
  refine seg_bind_wrap (wpAny_onRaise (wpAny_mono h (fun r s1 h1 => ?_) fun _ _ z => z.elim))
  cases r with
  | none => exact h1
  | some v =>
    refine seg_bind_wrap (wpAny_mono h1 (fun _ s2 h2 => ?_) fun _ _ z => z.elim)
    refine seg_bind_wrap (wpAny_mono h2 (fun _ s3 h3 => ?_) fun _ _ z => z.elim)
    rw [Sem.bind_eq_wrap', Sem.wrap_wrap]
    rw [Sem.wrap_congr (execs body env) _ _ (K' := forK target it body env) (H' := forJ env) (fun f => by cases f <;> rfl)
      (fun e => by first | exact Sem.bind_eq_wrap _ _ | (show (do noteFrame e env; theTreesLotGoes e : Sem Unit).bind (fun _ => .raise e) = _; rw [Sem.bind_eq_wrap]; rfl))]
    exact h3
theorem isNotNone_eq {u : Value} (h : u ≠ .none) : (u == Value.none) = false := by cases u <;> first | rfl | exact absurd rfl h
/-- where the generator stands: the next index is i -/
structure GnSt (e it sn L : Addr) (items : Array Value) (i : Nat) (h : Heap) : Prop where
  en : ∃ old, IsEnum h e it ((i : Nat) : Int) old
  li : h.IsListIter it sn i
  ls : h.IsList sn items
  ns : ∃ m, h.Ns L m
structure GnNe (e it sn L : Addr) : Prop where
  a : e ≠ it
  b : L ≠ e
  c : L ≠ it
  d : sn ≠ e
  f : sn ≠ it
  g : sn ≠ L
/-- nothing else has changed -/
structure GnKp (e it L : Addr) (s s' : Shared) : Prop where
  os : s'.os = s.os
  gn : s'.gens = s.gens
  kp : ∀ b o, b ≠ e → b ≠ it → b ≠ L → s.heap.get? b = some o → s'.heap.get? b = some o
theorem GnKp.refl {e it L : Addr} {s : Shared} : GnKp e it L s s := ⟨rfl, rfl, fun _ _ _ _ _ h => h⟩
theorem GnKp.trans {e it L : Addr} {s s1 s2 : Shared} (a : GnKp e it L s s1) (b : GnKp e it L s1 s2) : GnKp e it L s s2 := ⟨b.os.trans a.os, b.gn.trans a.gn, fun x o h1 h2 h3 h => b.kp x o h1 h2 h3 (a.kp x o h1 h2 h3 h)⟩
/-- the index at which it was woken -/
def GnJ (e it : Addr) (i0 : Nat) (s : Shared) : Prop := (∃ old, IsEnum s.heap e it ((i0 : Nat) : Int) old) ∨ (i0 = 0 ∧ s.heap.get? e = none)
def GnR (e it L : Addr) (items : Array Value) : GenEnd := fun n s₀ r s1 => ((r = .ok (.ret .none) ∨ r = .ok .next) ∧ (GnKp e it L s₀ s1 ∧ ∃ i0, GnJ e it i0 s₀ ∧ ∀ j, i0 ≤ j → j < items.size → items[j]? = some .none)) ∨ ∃ x, r = .error x ∧ False
def GnY (e it sn L : Addr) (items : Array Value) : Protocol := fun n s₀ v s1 kap => GnKp e it L s₀ s1 ∧ ∃ (i0 i : Nat) (t : Addr) (tk : Tok) (u : Value), GnJ e it i0 s₀ ∧ i0 ≤ i ∧ (∀ j, i0 ≤ j → j < i → items[j]? = some .none) ∧ items[i]? = some u ∧ u ≠ .none ∧ v = .ref t ∧
  s₀.heap.objs.size ≤ t ∧ s1.heap.get? t = some { cls := .type "tuple", data := .seq #[.int i tk, u] } ∧ items.size ≤ n + (i + 1) ∧ GnSt e it sn L items (i + 1) s1.heap ∧ ∀ s', GnSt e it sn L items (i + 1) s'.heap → kap (.send .none) s'
/-- the turns -/
theorem gen_turns {e it sn L : Addr} {items : Array Value} {p1 p2 p3 p4 p5 p6 p7 p8 p9 p10 p11 p12 : Pos} {k1 k2 k3 : Nat} (D : GnNe e it sn L) (hL : env.locals = L) (hk : env.scope.kind = .function) (ka : env.kindOf "address" = some .local) (kb : env.kindOf "block" = some .local)
    (hco : env.scope.isCoroutine = false) (hi : interactive env = false) (hh : ∀ c, (A.over c fs).handled = none) (hfs : splitAtGen fs = none) (hfg : fs.any Frame.guarded = false)
    (hend : ∀ (n : Nat) (s₀ s : Shared), (GnKp e it L s₀ s ∧ ∃ i0, GnJ e it i0 s₀ ∧ ∀ j, i0 ≤ j → j < items.size → items[j]? = some .none) → Seg (model prog w) A (GnR e it L items) (GnY e it sn L items) n s₀ (.block [] env) (.pure (.done .next)) fs s) :
    ∀ (r i n : Nat) (s₀ s : Shared) (i0 : Nat), i + r = items.size → r ≤ n → GnJ e it i0 s₀ → i0 ≤ i → (∀ j, i0 ≤ j → j < i → items[j]? = some .none) → GnKp e it L s₀ s → GnSt e it sn L items i s.heap → s₀.heap.objs.size ≤ s.heap.objs.size →
      Seg (model prog w) A (GnR e it L items) (GnY e it sn L items) n s₀ (.forLoop (.Tuple [.Name "address" p1, .Name "block" p2] k1 p3) (.ref e) [.If (.Compare (.Name "block" p4) [.IsNot] [.Constant .none k2 p5] p6) [.Expr (.Yield (some (.Tuple [.Name "address" p7, .Name "block" p8] k3 p9)) p10) p11] [] p12] [] env)
        ((model prog w).den (.forLoop (.Tuple [.Name "address" p1, .Name "block" p2] k1 p3) (.ref e) [.If (.Compare (.Name "block" p4) [.IsNot] [.Constant .none k2 p5] p6) [.Expr (.Yield (some (.Tuple [.Name "address" p7, .Name "block" p8] k3 p9)) p10) p11] [] p12] [] env)) fs s := by
  have hcls : (env.scope.kind == .class || (env.scope.kind == .module && env.locals != env.globals)) = false := by rw [hk]; rfl
  intro r
  induction r with
  | zero =>
    intro i n s₀ s i0 hr hn hJ h0 hs kp st hz
    obtain ⟨⟨old, he⟩, hit, hl, m, hm⟩ := st
    refine seg_forLoop (wpAny_pyNext_enum_end (hh _) he hit hl (by rw [Array.getElem?_eq_none]; omega) fun h' eb => ?_)
    refine seg_again rfl ?_
    refine hend n s₀ _ ⟨kp.trans ⟨rfl, rfl, fun b o _ h2 _ hb => eb b o h2 hb⟩, i0, hJ, fun j h1 h2 => hs j h1 (by omega)⟩
  | succ r ih =>
    intro i n s₀ s i0 hr hn hJ h0 hs kp st hz
    obtain ⟨⟨old, he⟩, hit, hl, m, hm⟩ := st
    obtain ⟨u, hu⟩ : ∃ u, items[i]? = some u := ⟨items[i]'(by omega), Array.getElem?_eq_getElem (by omega)⟩
    refine seg_forLoop (wpAny_pyNext_enum_item he hit hl hu D.a fun h' ho hit' hT hsz hkp => ?_)
    refine wpAny_letOwnedTupleGo_enum (s := { s with heap := h', toks := s.toks + 1 }) ho fun h'' he' sb => ?_
    have hel : e < s.heap.objs.size := Heap.lt_size he
    have hT2 : h''.get? s.heap.objs.size = some { cls := .type "tuple", data := .seq #[.int i s.toks, u] } := (sb.2 _ (Nat.ne_of_gt hel)).trans hT
    refine assign_Tuple_tuple (hh _) (items := #[.int i s.toks, u]) ⟨_, hT2, rfl, _, rfl⟩ rfl rfl fun h3 ex3 => ?_
    have hLl : L < s.heap.objs.size := by
      obtain ⟨_, _, _, q, _⟩ := hm
      exact Heap.lt_size q
    have hil : it < s.heap.objs.size := by
      obtain ⟨_, q, _⟩ := hit
      exact Heap.lt_size q
    have up : ∀ b o, b ≠ e → b ≠ it → s.heap.get? b = some o → h3.get? b = some o := fun b o h1 h2 h => ex3 b o (Nat.ne_of_lt (by
      have q := hkp b o h1 h2 h
      have q2 : h''.get? b = some o := (sb.2 b h1).trans q
      exact Heap.lt_size q2)) ((sb.2 b h1).trans (hkp b o h1 h2 h))
    have old2 : ∀ {b : Addr} {o : Obj}, h''.get? b = some o → h3.get? b = some o := fun {b o} h => ex3 b o (Nat.ne_of_lt (Heap.lt_size h)) h
    have he3 : IsEnum h3 e it ((i + 1 : Nat) : Int) u := old2 (by
      have q : IsEnum h'' e it ((i : Int) + 1) u := he'
      rw [show ((i + 1 : Nat) : Int) = (i : Int) + 1 by omega]
      exact q)
    have hit3 : h3.IsListIter it sn (i + 1) := by
      obtain ⟨o, q1, q2⟩ := hit'
      exact ⟨o, old2 ((sb.2 it (Ne.symm D.a)).trans q1), q2⟩
    have hl3 : h3.IsList sn items := by
      obtain ⟨o, q1, q2⟩ := hl
      exact ⟨o, up sn o D.d D.f q1, q2⟩
    have hm3 : h3.Ns env.locals m := by
      rw [hL]
      obtain ⟨o, es, ep, q1, q2⟩ := hm
      exact ⟨o, es, ep, up L o D.b D.c q1, q2⟩
    show wpAny _ _ (assignInOrder [assign (.Name "address" p1) env, assign (.Name "block" p2) env] [.int i s.toks, u]) _ _ _
    refine assignInOrder_cons (wpAny_assign_Name (wpAny_storeName_local ka hm3 (fun h4 hm4 sb4 => ?_) hcls))
    refine assignInOrder_cons (wpAny_assign_Name (wpAny_storeName_local kb hm4 (fun h5 hm5 sb5 => ?_) hcls))
    refine assignInOrder_nil ?_
    have up5 : ∀ {b : Addr} {o : Obj}, b ≠ L → h3.get? b = some o → h5.get? b = some o := fun {b o} hb h => by
      rw [← hL] at hb
      exact (sb5.2 b hb).trans ((sb4.2 b hb).trans h)
    have st5 : GnSt e it sn L items (i + 1) h5 := by
      refine ⟨⟨u, up5 (Ne.symm D.b) he3⟩, ?_, ?_, ⟨_, by rw [← hL]; exact hm5⟩⟩
      · obtain ⟨o, q1, q2⟩ := hit3
        exact ⟨o, up5 (Ne.symm D.c) q1, q2⟩
      · obtain ⟨o, q1, q2⟩ := hl3
        exact ⟨o, up5 D.g q1, q2⟩
    have kp5 : ∀ tk, GnKp e it L s₀ { s with heap := h5, toks := tk } := fun tk => kp.trans ⟨rfl, rfl, fun b o h1 h2 h3' h => up5 h3' (up b o h1 h2 h)⟩
    have sz5 : s₀.heap.objs.size ≤ h5.objs.size := by
      have e1 : h5.objs.size = h4.objs.size := sb5.1
      have e2 : h4.objs.size = h3.objs.size := sb4.1
      have e3 : s.heap.objs.size < h3.objs.size := Heap.lt_size (old2 hT2)
      omega
    refine seg_execs_cons ?_
    rw [arm_exec_If]
    refine seg_bind_wrap (wpAny_standAt ?_)
    refine seg_bind_wrap (wpAny_isTrue_Compare1 (wpAny_Name (wpAny_loadName_local hk kb hm5 (v := u) (by simp) (Constant_none (isnot_none_gen (wpAny_truthy_bool ?_)))) (by decide)) (by rfl))
    by_cases hun : u = .none
    · subst hun
      rw [show (!(Value.none == Value.none)) = false from rfl, if_neg Bool.false_ne_true]
      refine seg_execs_nil (env := env) ?_
      refine seg_execs_nil (env := env) ?_
      refine seg_again rfl ?_
      exact ih (i + 1) n s₀ _ i0 (by omega) (by omega) hJ (by omega) (fun j h1 h2 => by
        by_cases z : j = i
        · rw [z]; exact hu
        · exact hs j h1 (by omega)) (kp5 _) st5 sz5
    · rw [isNotNone_eq hun]
      rw [show (!false) = true from rfl, if_pos rfl]
      obtain ⟨n, rfl⟩ : ∃ m, n = m + 1 := ⟨n - 1, by omega⟩
      refine seg_execs_cons ?_
      refine seg_Expr_Yield hfs rfl hfg ?_ hco hi
      refine wpAny_Tuple_spliced ?_
      show wpAny _ _ (spliced ((false, eval (.Name "address" p7) env) :: (false, eval (.Name "block" p8) env) :: [])) _ _ _
      refine Calls.spliced_cons (wpAny_Name (wpAny_loadName_local hk ka hm5 (v := .int i s.toks) ?_ ?_) (by decide))
      · rw [if_neg (by decide), if_pos rfl]
      refine Calls.spliced_cons (wpAny_Name (wpAny_loadName_local hk kb hm5 (v := u) (by simp) ?_) (by decide))
      refine Calls.spliced_nil ⟨by show 2 ≤ sizeLine; decide, ?_⟩
      intro kap hkap
      have lt5 : ∀ {b : Addr} {o : Obj}, h5.get? b = some o → (h5.push { cls := .type "tuple", data := .seq #[.int i s.toks, u] }).get? b = some o := fun {b o} h => Heap.get?_push_of_some _ h
      have fr : s₀.heap.objs.size ≤ h5.objs.size := sz5
      refine ⟨kp.trans ⟨rfl, rfl, fun b o h1 h2 h3' h => lt5 (up5 h3' (up b o h1 h2 h))⟩, i0, i, h5.objs.size, s.toks, u, hJ, h0, hs, hu, hun, rfl, fr, Heap.get?_push_size _ rfl, by omega, ?_, fun s' st' => ?_⟩
      · obtain ⟨⟨x1, q1⟩, ⟨o2, q2, q2'⟩, ⟨o3, q3, q3'⟩, ⟨m4, o4, es4, ep4, q4, q4'⟩⟩ := st5
        exact ⟨⟨x1, lt5 q1⟩, ⟨o2, lt5 q2, q2'⟩, ⟨o3, lt5 q3, q3'⟩, ⟨m4, o4, es4, ep4, lt5 q4, q4'⟩⟩
      · refine hkap .none s' ?_
        refine seg_execs_nil (env := env) ?_
        refine seg_execs_nil (env := env) ?_
        refine seg_again rfl ?_
        exact ih (i + 1) n s' s' (i + 1) (by omega) (by omega) (.inl st'.en) (Nat.le_refl _) (fun j h1 h2 => absurd h1 (by omega)) GnKp.refl st' (Nat.le_refl _)
/-- the generator's body -/
def genBody (p1 p2 p3 p4 p5 p6 p7 p8 p9 p10 p11 p12 q1 q2 q3 q4 q5 : Pos) (k1 k2 k3 : Nat) : List Stmt := [.For (.Tuple [.Name "address" p1, .Name "block" p2] k1 p3) (.Call (.Name "enumerate" q1) [.Attribute (.Name "self" q2) "seen" q3] [] q4)
  [.If (.Compare (.Name "block" p4) [.IsNot] [.Constant .none k2 p5] p6) [.Expr (.Yield (some (.Tuple [.Name "address" p7, .Name "block" p8] k3 p9)) p10) p11] [] p12] [] q5]
/-- what its first turn makes -/
structure GnMk (sn : Addr) (s s1 : Shared) (v : Value) : Prop where
  v : v = .ref (s.heap.objs.size + 1)
  en : IsEnum s1.heap (s.heap.objs.size + 1) s.heap.objs.size ((0 : Nat) : Int) .none
  li : s1.heap.IsListIter s.heap.objs.size sn 0
  os : s1.os = s.os
  gn : s1.gens = s.gens
  kp : ∀ b o, s.heap.get? b = some o → s1.heap.get? b = some o
theorem gen_first {sn L : Addr} {items : Array Value} {p1 p2 p3 p4 p5 p6 p7 p8 p9 p10 p11 p12 q1 q2 q3 q4 q5 : Pos} {k1 k2 k3 : Nat} (hL : env.locals = L) (hk : env.scope.kind = .function) (ka : env.kindOf "address" = some .local) (kb : env.kindOf "block" = some .local)
    (hco : env.scope.isCoroutine = false) (hi : interactive env = false) (hA : A.handled = none) (hsn : sn ≠ L) (hl : s.heap.IsList sn items) (hm : ∃ m, s.heap.Ns L m) (hn : items.size ≤ n)
    (hev : ∀ E, wpAny (model prog w) (A.deeper env) (eval (.Call (.Name "enumerate" q1) [.Attribute (.Name "self" q2) "seen" q3] [] q4) env) (fun v s1 => GnMk sn s s1 v) E s) :
    Seg (model prog w) A (GnR (s.heap.objs.size + 1) s.heap.objs.size L items) (GnY (s.heap.objs.size + 1) s.heap.objs.size sn L items) n s (.func (genBody p1 p2 p3 p4 p5 p6 p7 p8 p9 p10 p11 p12 q1 q2 q3 q4 q5 k1 k2 k3) env) ((model prog w).den (.func (genBody p1 p2 p3 p4 p5 p6 p7 p8 p9 p10 p11 p12 q1 q2 q3 q4 q5 k1 k2 k3) env)) [] s := by
  refine seg_func ?_
  unfold genBody
  refine seg_execs_cons ?_
  rw [exec_For]
  refine seg_bind_wrap (wpAny_standAt ?_)
  refine seg_bind_wrap ?_
  rw [over_func]
  refine wpAny_mono (hev _) (fun v s1 hv => ?_) fun _ _ z => z
  obtain ⟨rfl, en, li, os1, gn1, kp1⟩ := hv
  refine seg_bind_wrap (wpAny_pure ?_)
  refine seg_bind_wrap (wpAny_standAt ?_)
  refine seg_bind_wrap (wpAny_holding (wpAny_pyIter_enum en ?_))
  refine seg_call fun p => ?_
  have lt : L < s.heap.objs.size := by
    obtain ⟨_, _, _, _, q, _⟩ := hm
    exact Heap.lt_size q
  have lt2 : sn < s.heap.objs.size := by
    obtain ⟨_, q, _⟩ := hl
    exact Heap.lt_size q
  have D : GnNe (s.heap.objs.size + 1) s.heap.objs.size sn L := ⟨Nat.succ_ne_self _, Nat.ne_of_lt (Nat.lt_succ_of_lt lt), Nat.ne_of_lt lt, Nat.ne_of_lt (Nat.lt_succ_of_lt lt2), Nat.ne_of_lt lt2, hsn⟩
  have st : GnSt (s.heap.objs.size + 1) s.heap.objs.size sn L items 0 s1.heap := by
    refine ⟨⟨_, en⟩, li, ?_, ?_⟩
    · obtain ⟨o, q1, q2⟩ := hl
      exact ⟨o, kp1 _ _ q1, q2⟩
    · obtain ⟨m, o, es, ep, q1, q2⟩ := hm
      exact ⟨m, o, es, ep, kp1 _ _ q1, q2⟩
  refine gen_turns (prog := prog) (w := w) (A := A) D hL hk ka kb hco hi (fun c => ?_) rfl rfl (fun n s₀ s2 hR => ?_) items.size 0 n s s1 0 (by omega) hn (.inr ⟨rfl, ?_⟩) (Nat.le_refl _) (fun j h1 h2 => absurd h2 (by omega)) ⟨os1, gn1, fun b o _ _ _ h => kp1 b o h⟩ st (Nat.le_of_lt (Nat.lt_of_succ_lt (Heap.lt_size en)))
  · exact hA
  · refine seg_leaf (.ok .next) ?_
    show Seg _ _ _ _ _ _ _ ((execs [] env).wrap _ _ id id) _ _
    refine seg_execs_nil (env := env) ?_
    exact seg_end (.ok (.ret .none)) (.inl ⟨.inl rfl, hR⟩)
  · cases q : s.heap.get? (s.heap.objs.size + 1) with
    | none => rfl
    | some o =>
      exact absurd (Heap.lt_size q) (Nat.not_lt_of_le (Nat.le_succ _))
end
end Sg

set_option maxHeartbeats 4000000
/-! Device.written_blocks: for .. in it -/
namespace Sg
open PySem PySem.Spec PyProof.Rows L2 Evl GenW
theorem wb_body : ∃ (p1 p2 p3 p4 p5 p6 p7 p8 p9 p10 p11 p12 q1 q2 q3 q4 q5 : Pos) (k1 k2 k3 : Nat), d_Device_written_blocks.body = genBody p1 p2 p3 p4 p5 p6 p7 p8 p9 p10 p11 p12 q1 q2 q3 q4 q5 k1 k2 k3 := ⟨_, _, _, _, _, _, _, _, _, _, _, _, _, _, _, _, _, _, _, _, rfl⟩
abbrev nm_wb : List Str := ["self", "address", "block"]
theorem wb_scope : GScope nm_wb ["self"] d_Device_written_blocks.scope := ⟨rfl, rfl, rfl, by decide +kernel, rfl, by decide +kernel, by decide +kernel⟩
/-- a row of blocks or None -/
def Blks (vs : List V) : Prop := ∀ v ∈ vs, v = .non ∨ ∃ a, v = .ref a
def valOf : V → Value
  | .ref a => .ref a
  | _ => .none
theorem blks_vals {vs : List V} (h : Blks vs) {its : List Value} (r : Vals vs its) : its = vs.map valOf := by
  induction r with
  | nil => rfl
  | cons r rr ih =>
    rename_i v u vs us
    rw [List.map_cons, ← ih fun v hv => h v (List.mem_cons_of_mem _ hv)]
    congr 1
    rcases h v List.mem_cons_self with z | ⟨a, z⟩
    · rw [z] at r ⊢
      exact r
    · rw [z] at r ⊢
      exact r
/-- the generator sleeps (or has not begun): the next index is i -/
structure GenAt (X : Cx) (pins : List (Addr × Obj)) (H : Hp) (sn : Addr) (items : Array Value) (a : Addr) (g i : Nat) (s : Shared) : Prop where
  hg : s.heap.IsGen a g
  go : ∃ (gs : GenState) (e it L : Addr) (m : Nat), s.gens[g]? = some gs ∧ gs.Goes (model X.prog X.w) X.A.in1 (GnR e it L items) (GnY e it sn L items) m (.send .none) (s.setGen g .running) ∧ GnJ e it i s ∧ GnNe e it sn L ∧ (∀ b ∈ [a, e, it, L], FpOk X pins H b) ∧ a ≠ e ∧ a ≠ it ∧ a ≠ L
section
variable {X : Cx} {pins : List (Addr × Obj)} {σ : L2.St} {H : Hp} {s : Shared}
/-- a context that lets nothing out -/
theorem Inv.shut {X : Cx} {pins : List (Addr × Obj)} {σ : L2.St} {H : Hp} {s : Shared} (I : Inv X pins σ H s) (E : Value → Shared → Prop) : Inv { X with xe := E } pins σ H s :=
  ⟨⟨I.ok.mod, I.ok.kind, I.ok.glob, I.ok.blt, I.ok.above, I.ok.inj, I.ok.has, I.ok.cab, I.ok.hd, I.ok.frames, I.ok.stk, I.ok.exf, I.ok.bs, I.ok.bsz, I.ok.noex, I.ok.exfs, I.ok.funs, I.ok.frf⟩, I.os, I.bare, I.base, I.loc, I.cell, I.free, I.freeC, I.pin, I.hok, I.len⟩
/-- enumerate(self.seen) -/
theorem wb_eval (T : Ctx X.K X.mg X.base) {A : Ad} {dx : Addr} {vs : List V} {q1 q2 q3 q4 : Pos} (hN : X.N[0]? = some ("self" : Str)) (hv : X.env.kindOf "self" = some .local) (hge : Gl X "enumerate")
    (I : Inv X pins σ H s) (hσ : σ[0]? = some (some (.ref A.dv))) (hd : H A.dv = some (.ins (He.ga X.K "Device") dx (devF A))) (hs : H A.sn = some (.lst vs)) (E : Value → Shared → Prop) :
    wpAny (model X.prog X.w) X.A (eval (.Call (.Name "enumerate" q1) [.Attribute (.Name "self" q2) "seen" q3] [] q4) X.env) (fun v s1 => GnMk A.sn s s1 v) E s := by
  have hm : X.mg "enumerate" = none := T.free_enumerate
  refine Call_ (ld_blt I hge hm boot_enumerate (PyProof.Rows.callWith_type1 ?_ rfl rfl))
  show wpAny _ _ (spliced ((false, eval (.Attribute (.Name "self" q2) "seen" q3) X.env) :: [])) _ _ _
  refine Calls.spliced_cons ?_
  refine attr_of rfl ?_
  obtain ⟨m, hn, hl⟩ := id I.loc
  obtain ⟨u, r, l⟩ := hl 0 "self" (.ref A.dv) hN hσ (.inl hv)
  obtain rfl : u = Value.ref A.dv := r
  have hmv : m "self" = some (.ref A.dv) := by
    rcases l with ⟨_, z⟩ | ⟨z, _⟩
    · exact z
    · rw [hv] at z
      rcases z with z | z <;> cases z
  refine wpAny_Name (wpAny_loadName_local I.ok.kind hv hn hmv ?_) (by decide)
  obtain ⟨mA, O, rr, _, _, _⟩ := ins_get I.hok hd
  obtain ⟨u, hu, ru⟩ := RelO.some_of (v := .ref A.sn) (o := mA "seen") (by rw [← dev_seen A]; exact rr "seen")
  obtain rfl : u = Value.ref A.sn := ru
  refine get_map I.kIn O (T.cls_Device.get "seen") T.cls_Device.hd T.na_Device_seen hu rfl ?_
  refine Calls.spliced_nil ?_
  obtain ⟨its, n, rv, ho, hz⟩ := I.lst hs
  have hL : s.heap.IsList A.sn its.toArray := ⟨_, ho, rfl, n, rfl⟩
  exact call_enumerate_list (s := { s with toks := s.toks + 1 }) hL fun h' he hit hsz hk => ⟨rfl, he, hit, rfl, rfl, hk⟩
theorem gen_made (T : Ctx X.K X.mg X.base) (I : Inv X pins σ H s) (hr : Room 2 X.A) {A : Ad} {dx : Addr} {vs : List V} (hd : H A.dv = some (.ins (He.ga X.K "Device") dx (devF A))) (hs : H A.sn = some (.lst vs)) (hv : Blks vs) {E : Value → Shared → Prop} :
    wpAny (model X.prog X.w) X.A (call (.ref (He.fAd X.K d_Device_written_blocks.at_)) [.ref A.dv]) (fun u s' => ∃ a g, u = .ref a ∧ Inv X pins σ H s' ∧ GenAt X pins H A.sn (vs.map valOf).toArray a g 0 s') E s := by
  obtain ⟨fd, F⟩ := T.def_Device_written_blocks
  have b : Binds X.K fd ["self"] [] := FunD.bindsN F fun _ _ _ _ _ _ us hl => match us, hl with | [_], _ => rfl
  obtain ⟨oc, od, dV, kV, doc, pm, an, cdv, ct, osl, rfl, lk, hcd, _, _⟩ := F.ex
  have e0 := I.env0
  have S := wb_scope
  have KX : X.K.In s.heap := I.kIn
  have lim : s.heap.NoLimit := I.nolimit
  have hkind : ∀ y ∈ (["self"] : List Str).zip [Value.ref A.dv], d_Device_written_blocks.scope.names.lookup y.1 = some .local ∨ (d_Device_written_blocks.scope.names.lookup y.1 = some .cell ∧ ((cellsFrom (s.heap.objs.size + 1) d_Device_written_blocks.scope.names []).lookup y.1).isSome = true) := fun ⟨n, v⟩ hy => by
    rcases S.par n (List.of_mem_zip hy).1 with q | q
    · exact .inl q
    · exact .inr ⟨q, PySem.W.cellsFrom_some _ _ _ (.inl q)⟩
  have hb := b s [.ref A.dv] KX rfl
  refine wpAny_call (codeAny_call_generator hr.depth (KX _ _ lk) rfl S.co S.gen rfl (PySem.W.codeRec_of KX hcd) (hb _ _ _ _ ?_))
  refine wpAny_newFunctionEnv_cells S.kind hkind fun env he s1 x => ?_
  subst he
  refine ⟨lim.keeps x.toInCall.keep, ?_⟩
  obtain ⟨h1, tk, es1, hk1⟩ := id x.done
  have os1 : s1.os = s.os := by rw [es1]
  have gen1 : s1.gens = s.gens := by rw [es1]
  have lt1 : s.heap.objs.size < s1.heap.objs.size := x.toInCall.ns.lt
  have kp1 : ∀ b o, s.heap.get? b = some o → s1.heap.get? b = some o := x.toInCall.keep
  have main : ∀ (go : Obj) (nm qn : Value) (tk2 : Nat), go.cls = .type "generator" → go.data = .fields #[.int s1.gens.size 0, nm, qn] → go.slots = #[] → (∀ h : Heap, (h.push go).get? h.objs.size = some go) →
      ∃ a g, Value.ref s1.heap.objs.size = .ref a ∧ Inv X pins σ H { s1 with gens := s1.gens.push (.fresh (.func d_Device_written_blocks.body (envOfC d_Device_written_blocks.qual d_Device_written_blocks.scope s.heap.objs.size (He.fAd X.K d_Device_written_blocks.at_) cdv))), toks := tk2, heap := s1.heap.push go } ∧
        GenAt X pins H A.sn (vs.map valOf).toArray a g 0 { s1 with gens := s1.gens.push (.fresh (.func d_Device_written_blocks.body (envOfC d_Device_written_blocks.qual d_Device_written_blocks.scope s.heap.objs.size (He.fAd X.K d_Device_written_blocks.at_) cdv))), toks := tk2, heap := s1.heap.push go } := by
    intro go nm qn tk2 hgc hgd0 hgs hgp
    have hpushed : (s1.heap.push go).get? s1.heap.objs.size = some go := hgp _
    have kp2 : ∀ b o, s.heap.get? b = some o → (s1.heap.push go).get? b = some o := fun b o e => Heap.get?_push_of_some _ (kp1 b o e)
    have I1 : Inv X pins σ H { s1 with gens := s1.gens.push (.fresh (.func d_Device_written_blocks.body (envOfC d_Device_written_blocks.qual d_Device_written_blocks.scope s.heap.objs.size (He.fAd X.K d_Device_written_blocks.at_) cdv))), toks := tk2, heap := s1.heap.push go } :=
      I.call' (ch := []) os1 (Un.kept kp2) (I.hok.kept kp2) (AllBare.push (by rw [gen1]; exact I.bare) rfl) (fun b z => by simp at z)
    refine ⟨s1.heap.objs.size, s1.gens.size, rfl, I1, ⟨go, nm, qn, hpushed, hgc, hgd0, hgs⟩, ?_⟩
    refine ⟨_, (s1.heap.push go).objs.size + 1, (s1.heap.push go).objs.size, s.heap.objs.size, (vs.map valOf).toArray.size, Array.getElem?_push_size .., ⟨rfl, ?_⟩, .inr ⟨rfl, ?_⟩, ?_, ?_, ?_, ?_, ?_⟩
    · obtain ⟨p1, p2, p3, p4, p5, p6, p7, p8, p9, p10, p11, p12, q1, q2, q3, q4, q5, k1, k2, k3, hbody⟩ := wb_body
      obtain ⟨its, nn, rv, ho, hz⟩ := I.lst hs
      have hits : its = vs.map valOf := blks_vals hv rv
      rw [hits] at ho
      have hfr : X.A.in1.frames = some X.stack := e0.frames
      have e0w : Env0 X.prog X.w X.K X.mg X.base X.A.in1 X.stack s H := ⟨hfr, e0.mod, e0.bs, e0.bsz, e0.funs, e0.frf, e0.hok, e0.bare⟩
      have J1 : Inv (gcxOf X.prog X.w X.K X.mg X.base nm_wb d_Device_written_blocks.qual d_Device_written_blocks.scope (He.fAd X.K d_Device_written_blocks.at_) cdv X.A.in1 X.stack s H (fun _ _ _ => False) []) [] (start nm_wb [.ref A.dv]) H s1 :=
        inv_startG S hr.hd e0w (us := [.ref A.dv]) rfl (.cons rfl .nil) x
      have J2 : Inv (gcxOf X.prog X.w X.K X.mg X.base nm_wb d_Device_written_blocks.qual d_Device_written_blocks.scope (He.fAd X.K d_Device_written_blocks.at_) cdv X.A.in1 X.stack s H (fun _ _ _ => False) []) [] (start nm_wb [.ref A.dv]) H
          (({ s1 with gens := s1.gens.push (.fresh (.func d_Device_written_blocks.body (envOfC d_Device_written_blocks.qual d_Device_written_blocks.scope s.heap.objs.size (He.fAd X.K d_Device_written_blocks.at_) cdv))), toks := tk2, heap := s1.heap.push go } : Shared).setGen s1.gens.size .running) :=
        J1.call' (ch := []) rfl (Un.kept fun b o e => Heap.get?_push_of_some _ e) (J1.hok.kept fun b o e => Heap.get?_push_of_some _ e) (allBare_setGen I1.bare rfl) fun b z => by simp at z
      have lt : A.sn < s.heap.objs.size := Heap.lt_size ho
      have hL : (s1.heap.push go).IsList A.sn (vs.map valOf).toArray := ⟨_, kp2 _ _ ho, rfl, nn, rfl⟩
      rw [hbody] at J2 ⊢
      refine gen_first (A := X.A.in1) (s := Shared.setGen { s1 with gens := s1.gens.push (.fresh (.func _ _)), toks := tk2, heap := s1.heap.push go } s1.gens.size .running) rfl S.kind rfl rfl S.co rfl hr.hd (Nat.ne_of_lt lt) hL ?_ (Nat.le_refl _) fun E => ?_
      · obtain ⟨m, q⟩ := J2.loc
        exact ⟨m, q.1⟩
      · exact wb_eval (X := gcxOf X.prog X.w X.K X.mg X.base nm_wb d_Device_written_blocks.qual d_Device_written_blocks.scope (He.fAd X.K d_Device_written_blocks.at_) cdv X.A.in1 X.stack s H (fun _ _ _ => False) []) T rfl rfl rfl J2 rfl hd hs E
    · cases q : (s1.heap.push go).get? ((s1.heap.push go).objs.size + 1) with
      | none => rfl
      | some o => exact absurd (Heap.lt_size q) (Nat.not_lt_of_le (Nat.le_succ _))
    · have lt2 : s.heap.objs.size < (s1.heap.push go).objs.size := by
        rw [Heap.size_push]
        exact Nat.lt_succ_of_lt lt1
      obtain ⟨its, nn, rv, ho, hz⟩ := I.lst hs
      have lt : A.sn < s.heap.objs.size := Heap.lt_size ho
      exact ⟨Nat.succ_ne_self _, Nat.ne_of_lt (Nat.lt_succ_of_lt lt2), Nat.ne_of_lt lt2, Nat.ne_of_lt (Nat.lt_succ_of_lt (Nat.lt_trans lt lt2)), Nat.ne_of_lt (Nat.lt_trans lt lt2), Nat.ne_of_lt lt⟩
    · have lt2 : s.heap.objs.size < (s1.heap.push go).objs.size := by
        rw [Heap.size_push]
        exact Nat.lt_succ_of_lt lt1
      intro b hb
      have hle : s.heap.objs.size ≤ b := by
        simp only [List.mem_cons, List.not_mem_nil, or_false] at hb
        rcases hb with z | z | z | z <;> rw [z]
        · exact Nat.le_of_lt lt1
        · exact Nat.le_succ_of_le (Nat.le_of_lt lt2)
        · exact Nat.le_of_lt lt2
        · exact Nat.le_refl _
      exact I.fpOk hle (I.hok.fresh hle)
    · rw [Heap.size_push]
      exact Nat.ne_of_lt (Nat.lt_succ_of_lt (Nat.lt_succ_self _))
    · rw [Heap.size_push]
      exact Nat.ne_of_lt (Nat.lt_succ_self _)
    · exact Nat.ne_of_gt lt1
  exact main _ _ _ _ rfl rfl rfl fun h => Heap.get?_push_size _ rfl
/-- records of ours have turned, a new thing is laid -/
theorem Inv.turnedG {ch : List Addr} {T : Addr} {ob : HO} {s' : Shared} (I : Inv X pins σ H s) (os : s'.os = s.os) (hb : AllBare s'.gens) (k : ∀ b o, b ∉ ch → s.heap.get? b = some o → s'.heap.get? b = some o) (hf : ∀ b ∈ ch, FpOk X pins H b) (hT : s.heap.objs.size ≤ T)
    (new : ObjOk X.prog X.w (upd H T ob) s'.heap T ob) : Inv X pins σ (upd H T ob) s' := by
  have J := Inv.turnedNew (t' := s'.toks) (h' := s'.heap) I k hf hT new
  obtain ⟨hh, g, d, t, o⟩ := s'
  have ho : o = s.os := os
  subst ho
  exact ⟨J.ok, J.os, hb, J.base, J.loc, J.cell, J.free, J.freeC, J.pin, J.hok, J.len⟩
theorem Inv.turnedE {ch : List Addr} {s' : Shared} (I : Inv X pins σ H s) (os : s'.os = s.os) (hb : AllBare s'.gens) (k : ∀ b o, b ∉ ch → s.heap.get? b = some o → s'.heap.get? b = some o) (hf : ∀ b ∈ ch, FpOk X pins H b) : Inv X pins σ H s' := by
  have nit : ∀ b u, H b = some u → b ∉ ch := fun b u e z => by
    have q := (hf b z).1
    rw [q] at e; cases e
  have J : Inv X pins σ H { s with heap := s'.heap, gens := s'.gens, drawn := s'.drawn, toks := s'.toks } := by
    refine I.step (ch := ch) (fun b hb => ⟨(hf b hb).2.2.2.1, (hf b hb).2.1, (hf b hb).2.2.2.2.1, (hf b hb).2.2.2.2.2⟩) (fun b o _ _ hc e _ => k b o hc e) (fun b o _ _ hc e _ => ⟨o.slots, k b o hc e⟩)
      (fun b o _ e n => n) (fun b o hc e => ⟨o, k b o hc e⟩) (fun b xs e => e) (fun b o u e => e) (fun b ps e => ⟨#[], by rw [e]; simp⟩) (fun m hm => ?_) (fun b u e => ?_) hb
    · obtain ⟨o, es, ep, ho, r⟩ := hm
      exact ⟨o, es, ep, k _ o (fun z => (hf _ z).2.1 rfl) ho, r⟩
    · refine (I.hok b u e).stay (fun c v hc q => k c v ?_ q) (fun c q => q) fun c xs q => q
      rcases hc with z | z
      · rw [z]; exact nit b u e
      · exact nit c _ z
  obtain ⟨hh, g, d, t, o⟩ := s'
  have ho : o = s.os := os
  subst ho
  exact J
theorem wpAny_letOwned_gen {M : Model} {A : Around} {E : Value → Shared → Prop} {elts : List Expr} {kk : Nat} {tpos : Pos} {a t : Addr} {g : Nat} {Q : Unit → Shared → Prop} (hg : s.heap.IsGen a g) (h : Q () s) : wpAny M A (letOwnedTupleGo (.Tuple elts kk tpos) (.ref a) (.ref t)) Q E s := by
  obtain ⟨o, nm, qn, ho, hc, hd, _⟩ := hg
  unfold letOwnedTupleGo
  refine wpAny_bind (wpAny_load ho ?_)
  obtain ⟨c, dct, dt, sl⟩ := o
  have hc : c = .type "generator" := hc
  have hd : dt = .fields #[.int g 0, nm, qn] := hd
  subst hc hd
  show wpAny M A (if (["enumerate", "zip", "dict_itemiterator", "dict_reverseitemiterator", "odict_iterator", "itertools.zip_longest", "itertools.pairwise"].contains "generator" && _) = true then _ else _) Q E s
  rw [if_neg (by rw [show (["enumerate", "zip", "dict_itemiterator", "dict_reverseitemiterator", "odict_iterator", "itertools.zip_longest", "itertools.pairwise"] : List String).contains "generator" = false from by decide, Bool.false_and]; exact Bool.false_ne_true)]
  exact wpAny_pure h
theorem gnJ_inj {e it : Addr} {i j : Nat} {s s' : Shared} (h : s'.heap = s.heap) (a : GnJ e it i s) (b : GnJ e it j s') : i = j := by
  rcases a with ⟨o1, a⟩ | ⟨a, a'⟩ <;> rcases b with ⟨o2, b⟩ | ⟨b, b'⟩
  · rw [h] at b
    unfold IsEnum at a b
    rw [a] at b
    simp only [Option.some.injEq, Obj.mk.injEq, Data.fields.injEq, rawInt] at b
    have := b.2.2.1
    simp at this
    exact Int.ofNat.inj this.1
  · rw [h] at b'
    rw [show s.heap.get? e = _ from a] at b'
    cases b'
  · rw [h] at b
    rw [show s.heap.get? e = _ from b] at a'
    cases a'
  · rw [a, b]
/-- for .. in o.written_blocks(): Pv by the index -/
def tForW (K : PySem.W.Frag) (ta : TE) (g : TG) (tb : L2.TS) : L2.TS := fun D σ H => ta σ H fun x H1 => ∃ (A : Ad) (dx : Addr) (vs : List V) (Pv : Nat → L2.St → Hp → Prop), x = .ref A.dv ∧ H1 A.dv = some (.ins (He.ga K "Device") dx (devF A)) ∧ Blks vs ∧ Pv 0 σ H1 ∧
  (∀ i σ H, Pv i σ H → H A.sn = some (.lst vs)) ∧ (∀ i σ H, Pv i σ H → vs[i]? = some .non → Pv (i + 1) σ H) ∧
  (∀ i v σ H, Pv i σ H → vs[i]? = some v → v ≠ .non → ∀ t, H t = none → g (.ref t) σ (upd H t (.tup [nV i, v])) fun σ2 H2 => tb { nx := Pv (i + 1), rt := fun _ _ => False, ct := Pv (i + 1) } σ2 H2) ∧ ∀ σ H, Pv vs.length σ H → D.nx σ H
theorem pv_skip {vs : List V} {Pv : Nat → Prop} (h : ∀ i, Pv i → vs[i]? = some .non → Pv (i + 1)) : ∀ (r i : Nat), (∀ j, i ≤ j → j < i + r → vs[j]? = some .non) → Pv i → Pv (i + r)
  | 0, i, _, p => p
  | r + 1, i, hs, p => by
    have := pv_skip h r (i + 1) (fun j h1 h2 => hs j (by omega) (by omega)) (h i p (hs i (Nat.le_refl _) (by omega)))
    rwa [show i + 1 + r = i + (r + 1) by omega] at this
theorem items_at {vs : List V} (hv : Blks vs) {j : Nat} {u : Value} (h : (vs.map valOf).toArray[j]? = some u) : ∃ v, vs[j]? = some v ∧ RelV v u ∧ (u ≠ .none → v ≠ .non) ∧ (u = .none → v = .non) := by
  rw [List.getElem?_toArray, List.getElem?_map] at h
  cases e : vs[j]? with
  | none => rw [e] at h; cases h
  | some v =>
    rw [e] at h
    have h : valOf v = u := Option.some.inj h
    refine ⟨v, rfl, ?_⟩
    rcases hv v (List.mem_of_getElem? e) with z | ⟨a, z⟩
    · rw [z] at h ⊢
      refine ⟨h.symm, fun n => absurd h.symm n, fun _ => rfl⟩
    · rw [z] at h ⊢
      exact ⟨h.symm, fun _ => fun z => (by cases z), fun n => (by rw [← h] at n; cases n)⟩
theorem ps_forW {o : Expr} {ta : TE} {g : TG} {tb : L2.TS} {elts : List Expr} {kk : Nat} {tpos apos cpos pos : Pos} {body : List Stmt} {pl : Sem Bool} (T : Ctx X.K X.mg X.base) (hp : PassesOwn (model X.prog X.w) X.A X.env X.xe) (hc : X.calm = true) (hr : Room 2 X.A) (ho : PE X o ta) (hg : PGg X (.Tuple elts kk tpos) g) (hb : PSsg X body tb)
    (ht : eval (.Call (.Attribute o "written_blocks" apos) [] [] cpos) X.env = (do
      let ov ← eval o X.env
      standAt apos.atName
      let (f, first) ← holding [ov] (getMethod ov "written_blocks" pl)
      callWith cpos f first (backTo cpos (starEach [] X.env)) (backToKw cpos (keywordEach [] X.env))) := by rfl) :
    PS X (.For (.Tuple elts kk tpos) (.Call (.Attribute o "written_blocks" apos) [] [] cpos) body [] pos) (tForW X.K ta g tb) := by
  refine ⟨fun pins s σ H D I h => ?_⟩
  refine wpAny_For (PySem.W.methodCall_KW (pl := pl) (thn (ho.run pins s σ H _ I h) fun u s1 ⟨x, H1, I1, rx, A, dx, vs, Pv, ex, hd, hv, p0, psn, pnon, pstep, pend⟩ => ?_) ht) (by intro _; rfl)
  subst ex
  obtain rfl : u = Value.ref A.dv := rx
  refine getmeth_ok I1 hd T.cls_Device T.m_Device_written_blocks rfl ?_
  refine PySem.W.callWith_K0 (first := [.ref A.dv]) I1.kIn T.m_Device_written_blocks.kp ?_
  refine thn (gen_made T I1 hr hd (psn 0 σ H1 p0) hv) fun u s2 ⟨a, gn, eu, I2, G2⟩ => ?_
  subst eu
  refine wpAny_pyIter_gen G2.hg ?_
  refine codeAny_forLoop_any (fun n s' => ∃ i σ' H', Inv X pins σ' H' s' ∧ GenAt X pins H' A.sn (vs.map valOf).toArray a gn i s' ∧ Pv i σ' H' ∧ i ≤ vs.length ∧ n + i = vs.length) ?_ vs.length ⟨0, σ, H1, I2, G2, p0, Nat.zero_le _, rfl⟩
  rintro n s3 ⟨i, σ3, H3, I3, ⟨hgen, gs, e, it, L, m, hgs, hgo, hJ, hne, hfp, n1, n2, n3⟩, hP, hi, hn⟩
  have hsz : (vs.map valOf).toArray.size = vs.length := by simp
  have goes : ∀ {gs : GenState} {B : Around} {n : Nat} {r : Resume} {s : Shared}, gs.Goes (model X.prog X.w) B (GnR e it L (vs.map valOf).toArray) (GnY e it A.sn L (vs.map valOf).toArray) n r s →
      gs.Goes (model X.prog X.w) B (fun n s₀ r s1 => ((r = .ok (.ret .none) ∨ r = .ok .next) ∧ (GnKp e it L s₀ s1 ∧ ∃ i0, GnJ e it i0 s₀ ∧ ∀ j, i0 ≤ j → j < (vs.map valOf).toArray.size → (vs.map valOf).toArray[j]? = some .none)) ∨ ∃ x, r = .error x ∧ False) (GnY e it A.sn L (vs.map valOf).toArray) n r s := fun h => h
  have hnon : ∀ j, (vs.map valOf).toArray[j]? = some Value.none → vs[j]? = some V.non := fun j q => by
    obtain ⟨v, e1, _, _, e2⟩ := items_at hv q
    rw [e1, e2 rfl]
  refine wpAny_passesOwn hp (next_genG (F := fun n s₀ s1 => GnKp e it L s₀ s1 ∧ ∃ i0, GnJ e it i0 s₀ ∧ ∀ j, i0 ≤ j → j < (vs.map valOf).toArray.size → (vs.map valOf).toArray[j]? = some .none) (Er := fun _ _ => False) (I3.ok.hd hc) I3.nolimit hr.depth hgen hgs (goes hgo) (fun v s₁ gs' hbare hy => ?_) (fun s₁ hF h' hk => ?_) fun x s₁ hx => hx.elim)
  · obtain ⟨kp, i0, j, t, tk, u, hJ0, h0, hskip, hu, hun, rfl, hfr, htup, hle, st, hkap⟩ := hy
    obtain rfl : i = i0 := gnJ_inj rfl hJ hJ0
    obtain ⟨m', rfl⟩ : ∃ m', m = m' + 1 := by
      cases m with
      | zero => exact (hkap s₁ st).elim
      | succ m' => exact ⟨m', rfl⟩
    obtain ⟨w, hw, rw', hwn, _⟩ := items_at hv hu
    have hwn := hwn hun
    have hlt : j < vs.length := (List.getElem?_eq_some_iff.mp hw).1
    have gl : gn < s3.gens.size := (Array.getElem?_eq_some_iff.mp hgs).1
    have gl1 : gn < s₁.gens.size := by
      rw [kp.gn, show (s3.setGen gn .running).gens.size = s3.gens.size from setGen_size _ _ _]
      exact gl
    have hb3 : AllBare (s₁.setGen gn gs').gens := allBare_setGen (by rw [kp.gn]; exact allBare_setGen I3.bare rfl) hbare
    have hfp3 : ∀ b ∈ [e, it, L], FpOk X pins H3 b := fun b q => hfp b (List.mem_cons_of_mem _ q)
    have I5 : Inv X pins σ3 (upd H3 t (.tup [nV j, w])) (s₁.setGen gn gs') := by
      refine Inv.turnedG (ch := [e, it, L]) I3 kp.os hb3 (fun b o hb q => kp.kp b o (fun z => hb (by simp [z])) (fun z => hb (by simp [z])) (fun z => hb (by simp [z])) q) hfp3 hfr ?_
      exact ⟨by show 2 ≤ sizeLine; decide, [.int j tk, u], .cons ⟨_, rfl⟩ (.cons rw' .nil), ⟨_, htup, rfl, _, rfl⟩⟩
    have hTn : H3 t = none := I3.hok.fresh hfr
    have gen5 : (s₁.setGen gn gs').heap.IsGen a gn := by
      obtain ⟨ob, nm, qn, q1, q2⟩ := hgen
      exact ⟨ob, nm, qn, kp.kp a ob n1 n2 n3 q1, q2⟩
    refine wpAny_passesOwn hp (wpAny_letOwned_gen gen5 ?_)
    have obj5 : ∀ b ∈ [a, e, it, L], ∃ ob, (s₁.setGen gn gs').heap.get? b = some ob ∧ (∀ v, ob.data ≠ .cell v) ∧ b ≠ t := fun b hb => by
      simp only [List.mem_cons, List.not_mem_nil, or_false] at hb
      have ne : ∀ {b : Addr} {ob : Obj}, s₁.heap.get? b = some ob → (∀ its n, ob.data ≠ .seq its n) → b ≠ t := fun {b ob} q1 q2 z => by
        rw [z, htup] at q1
        cases q1
        exact q2 _ _ rfl
      obtain ⟨⟨old, e1⟩, ⟨o2, e2, e2', e2''⟩, _, ⟨mm, o4, es4, ep4, e4, e4', _⟩⟩ := st
      rcases hb with z | z | z | z
      · rw [z]
        obtain ⟨ob, nm, qn, q1, q2, q3, _⟩ := gen5
        exact ⟨ob, q1, fun v q => (by rw [q3] at q; cases q), ne q1 fun _ _ q => (by rw [q3] at q; cases q)⟩
      · rw [z]
        exact ⟨_, e1, fun v q => (nomatch q), ne e1 fun _ _ q => (nomatch q)⟩
      · rw [z]
        exact ⟨_, e2, fun v q => (by rw [e2''] at q; cases q), ne e2 fun _ _ q => (by rw [e2''] at q; cases q)⟩
      · rw [z]
        exact ⟨_, e4, fun v q => (by rw [e4'] at q; cases q), ne e4 fun _ _ q => (by rw [e4'] at q; cases q)⟩
    have fp5 : ∀ {H' : Hp}, (∀ b ∈ [a, e, it, L], H' b = none) → ∀ b ∈ [a, e, it, L], FpOk X pins H' b := fun hn b hb => ⟨hn b hb, (hfp b hb).2⟩
    have I5' := I5.pinned (fp := [a, e, it, L]) (fp5 fun b hb => by rw [upd_ne (obj5 b hb).choose_spec.2.2]; exact (hfp b hb).1) fun b hb => let ⟨ob, q1, q2, _⟩ := obj5 b hb; ⟨ob, q1, q2⟩
    have pj : Pv j σ3 H3 := by
      have := pv_skip (Pv := fun i => Pv i σ3 H3) (vs := vs) (fun i p q => pnon i σ3 H3 p q) (j - i) i (fun k h1 h2 => hnon k (hskip k h1 (by omega))) hP
      rwa [show i + (j - i) = j by omega] at this
    refine wpAny_passesOwn hp (thg (hg.run _ _ σ3 _ (.ref t) (.ref t) _ I5' rfl (pstep j w σ3 H3 pj hw hwn t hTn)) fun _ s6 g6 ⟨σ6, H6, I6, q6⟩ => ?_)
    refine wpAny_passesOwn hp (thg (hb.run _ s6 σ6 H6 _ I6 q6) fun f s7 g7 q7 => ?_)
    have again : ∀ {σ7 : L2.St} {H7 : Hp}, Inv X (pins ++ pinsAt [a, e, it, L] (s₁.setGen gn gs').heap) σ7 H7 s7 → Pv (j + 1) σ7 H7 → ∃ m, m < n ∧ ∃ i σ' H', Inv X pins σ' H' s7 ∧ GenAt X pins H' A.sn (vs.map valOf).toArray a gn i s7 ∧ Pv i σ' H' ∧ i ≤ vs.length ∧ m + i = vs.length := fun {σ7 H7} I7 p7 => by
      have pin : ∀ b ∈ [a, e, it, L], ∀ ob, (s₁.setGen gn gs').heap.get? b = some ob → s7.heap.get? b = some ob ∧ H7 b = none := fun b hb ob q => by
        obtain ⟨q1, q2, _⟩ := I7.pin (b, ob) (List.mem_append_right _ (List.mem_append_right _ (mem_pinsAt hb q)))
        exact ⟨q1, q2⟩
      have st7 : GnSt e it A.sn L (vs.map valOf).toArray (j + 1) s7.heap := by
        obtain ⟨⟨old, e1⟩, ⟨o2, e2, e2'⟩, _, ⟨mm, o4, es4, ep4, e4, e4'⟩⟩ := st
        refine ⟨⟨old, (pin e (by simp) _ e1).1⟩, ⟨o2, (pin it (by simp) _ e2).1, e2'⟩, ?_, ⟨mm, o4, es4, ep4, (pin L (by simp) _ e4).1, e4'⟩⟩
        obtain ⟨its, nn, rv, ho, _⟩ := I7.lst (psn _ _ _ p7)
        rw [blks_vals hv rv] at ho
        exact ⟨_, ho, rfl, nn, rfl⟩
      have g57 : s7.gens = (s₁.setGen gn gs').gens := g7.trans g6
      refine ⟨vs.length - (j + 1), by omega, j + 1, σ7, H7, I7.unpinned, ⟨?_, gs', e, it, L, m', ?_, hkap _ st7, .inl st7.en, hne, fp5 (fun b hb => (pin b hb _ (obj5 b hb).choose_spec.1).2), n1, n2, n3⟩, p7, hlt, by omega⟩
      · obtain ⟨ob, nm, qn, q1, q2⟩ := gen5
        exact ⟨ob, nm, qn, (pin a (by simp) _ q1).1, q2⟩
      · rw [g57]
        exact setGen_at gl1
    cases f with
    | next => obtain ⟨σ7, H7, I7, n7⟩ := q7; exact again I7 n7
    | cont => obtain ⟨σ7, H7, I7, n7⟩ := q7; exact again I7 n7
    | brk => obtain ⟨σ7, H7, I7, q7⟩ := q7; exact q7.elim
    | ret v => obtain ⟨x7, σ7, H7, I7, r7, q7⟩ := q7; exact q7.elim
  · obtain ⟨kp, i0, hJ0, hskip⟩ := hF
    obtain rfl : i = i0 := gnJ_inj rfl hJ hJ0
    have hfp3 : ∀ b ∈ [e, it, L], FpOk X pins H3 b := fun b q => hfp b (List.mem_cons_of_mem _ q)
    have I5 : Inv X pins σ3 H3 { s₁.setGen gn .finished with heap := h' } :=
      Inv.turnedE (ch := [e, it, L]) I3 kp.os (allBare_setGen (by rw [kp.gn]; exact allBare_setGen I3.bare rfl) rfl) (fun b o hb q => hk b o (kp.kp b o (fun z => hb (by simp [z])) (fun z => hb (by simp [z])) (fun z => hb (by simp [z])) q)) hfp3
    have pj : Pv vs.length σ3 H3 := by
      have := pv_skip (Pv := fun i => Pv i σ3 H3) (vs := vs) (fun i p q => pnon i σ3 H3 p q) (vs.length - i) i (fun k h1 h2 => hnon k (hskip k h1 (by rw [hsz]; omega))) hP
      rwa [show i + (vs.length - i) = vs.length by omega] at this
    exact wpAny_execs_nil ⟨σ3, H3, I5, pend σ3 H3 pj⟩
end
end Sg

set_option maxHeartbeats 4000000
namespace Sg
open PySem PySem.Spec PyProof.Rows L2 Evl
section
variable {P : Program} {w : World} {K : PySem.W.Frag} {mg : Str → Option Value} {base : Heap}
/-- segment_of makes no generators -/
theorem okg_segment_of (T : Ctx K mg base) : ∃ fd, FnG P w K mg base 1 (He.ga K "segment_of") fd ["layout", "address"] (spSeg K) ∧ Binds K fd ["layout", "address"] [] ∧ PySem.W.keepIn K (.ref (He.ga K "segment_of")) = true := by
  obtain ⟨fd, F⟩ := T.def_segment_of
  have b : Binds K fd ["layout", "address"] [] := FunD.bindsN F fun _ _ _ _ _ _ us hl => match us, hl with | [_, _], _ => rfl
  refine ⟨fd, fnG_of F sc_segment_of (fun vs H Q E h => ?_) (fun cdv A outer s H vs Q E hr h => ?_), b, F.kp⟩
  · obtain ⟨a, l, n, rfl, _⟩ := h
    rfl
  · obtain ⟨a, l, n, rfl, ⟨lo, dx, ha⟩, k⟩ := h
    refine ⟨_, (pssg_cons (psg_set (i := 2) sc_segment_of.nd rfl rfl (peg_op opg_mul peg_int (peg_fld (pvg 0) rfl)))
      (pssg_cons (psg_if (PWg.pt (pwg_or (ptg_cmpR opg_lt (pvg 1) (pvg 2) (nomark _)) (pwg_or1 (ptg_cmpR opg_ge (pvg 1) (peg_fld (pvg 0) rfl) (nomark _))))) (pssg_one (psg_ret peg_non)) pssg_nil)
      (pssg_one (psg_ret (peg_op opg_fdiv (peg_op opg_sub (pvg 1) (pvg 2)) (peg_fld (pvg 0) rfl)))))), ?_⟩
    have f1 := ev_fld (K := K) (ta := tVar 0) (σ := start nm_segment_of [.ref a, nV n]) (ev_var rfl) ha T.cls_Layout T.na_Layout_region_blocks (lay_rb l)
    refine q_asg (ev_op ev_c f1 (rv_I (.inl (by decide)))) fun H1 e1 => ?_
    refine q_when (b := decide (n < 2 * l.rb ∨ l.db ≤ n)) (et_is (et_or (et_cmp (ev_var rfl) (ev_var rfl) rv_I0) fun _ => et_cmp (ev_var rfl) (ev_fld (ev_var rfl) (e1 _ _ ha) T.cls_Layout T.na_Layout_device_blocks (lay_db l)) rv_I0) ?_) (fun hb H2 e2 => ?_) (fun hb H2 e2 => ?_)
    · rw [Bool.eq_iff_iff]
      simp only [Bool.or_eq_true, decide_eq_true_eq]
      omega
    · have hb := of_decide_eq_true hb
      refine s_ret ev_c (RetV.at (v := .non) ?_ (e1.trans e2))
      unfold segV at k
      rw [if_pos hb] at k
      exact k
    · have hb := of_decide_eq_false hb
      have hsb := lo.b1
      have hsb2 := lo.b2
      unfold segV at k
      rw [if_neg hb] at k
      refine s_ret (v := nV (l.sg n)) (ev_is (ev_op (ev_op (ev_var rfl) (ev_var rfl) rv_I0) (ev_fld (ev_var rfl) ((e1.trans e2) _ _ ha) T.cls_Layout T.na_Layout_segment_blocks (lay_sb l)) (rv_I ⟨by omega, by omega⟩)) (nv_eq ?_)) (RetV.at k (e1.trans e2))
      unfold Lay.sg
      rw [Int.natCast_ediv]
      congr 1
      omega
end
end Sg

set_option maxHeartbeats 4000000
namespace Sg
open PySem PySem.Spec PyProof.Rows L2 Evl
section
variable {P : Program} {w : World} {K : PySem.W.Frag} {mg : Str → Option Value} {base : Heap}
theorem blks_of {H : Hp} {vs : List V} {d : Dev} (h : Rl (OBlk H) vs d) : Blks vs := fun v hv => by
  obtain ⟨i, hi, e⟩ := List.getElem_of_mem hv
  have e : vs[i]? = some v := by rw [List.getElem?_eq_getElem hi, e]
  obtain ⟨o, _, r⟩ := h.get' e
  cases o with
  | none => exact .inl r
  | some b => obtain ⟨a, _, _, _, q, _⟩ := BlkAt.four r; exact .inr ⟨a, q⟩
theorem q_forW {ta : TE} {g : TG} {tb tz : L2.TS} {D : Ends} {σ : L2.St} {H : Hp} {A : Ad} {dx : Addr} {vs : List V} (hta : Ev ta σ H (.ref A.dv)) (hd : H A.dv = some (.ins (He.ga K "Device") dx (devF A))) (hb : Blks vs) (Pv : Nat → L2.St → Hp → Prop) (h0 : ∀ H1, Ex H H1 → Pv 0 σ H1)
    (hs : ∀ i σ H, Pv i σ H → H A.sn = some (.lst vs)) (hn : ∀ i σ H, Pv i σ H → vs[i]? = some .non → Pv (i + 1) σ H)
    (st : ∀ i v σ H, Pv i σ H → vs[i]? = some v → v ≠ .non → ∀ t, H t = none → g (.ref t) σ (upd H t (.tup [nV i, v])) fun σ2 H2 => tb { nx := Pv (i + 1), rt := fun _ _ => False, ct := Pv (i + 1) } σ2 H2) (he : ∀ σ H, Pv vs.length σ H → tz D σ H) : tSeq (tForW K ta g tb) tz D σ H :=
  hta H (Ex.refl H) _ fun H2 e2 => ⟨A, dx, vs, Pv, rfl, e2 _ _ hd, hb, h0 H2 e2, hs, hn, st, he⟩
/-! ### ages -/
def sp_ages (K : PySem.W.Frag) : Sp := fun vs H Q _ => ∃ (A : Ad) (l : Lay) (L : Lg), vs = [.ref A.lg] ∧ LogAt K H A l L ∧ RetP (fun v H2 => ∃ (p : Addr) (zs : List Int), v = .ref p ∧ H p = none ∧ H2 p = some (.lst (zs.map V.int)) ∧ zs.length = l.seg) H Q
abbrev nm_ages : List Str := ["log", "newest", "address", "block", "segment", "sequence"]
theorem sc_ages : FnScope nm_ages ["log"] (defScope s_ages) := ⟨rfl, rfl, rfl, by decide +kernel, rfl, by decide +kernel, by decide +kernel⟩
theorem ok_ages (T : Ctx K mg base) : Okd P w K mg base 3 (He.ga K "ages") ["log"] (sp_ages K) := by
  obtain ⟨fd, F⟩ := T.def_ages
  have b : Binds K fd ["log"] [] := FunD.bindsN F fun _ _ _ _ _ _ us hl => match us, hl with | [_], _ => rfl
  obtain ⟨fd_segment_of, G_segment_of, b_segment_of, k_segment_of⟩ := okg_segment_of (P := P) (w := w) T
  refine ⟨fd, FunD.ok F sc_ages (fun vs H Q E h => ?_) (fun cdv A outer s H vs Q E hr h => ?_), b, F.kp⟩
  · obtain ⟨A, l, L, rfl, _⟩ := h
    rfl
  · obtain ⟨A, l, L, rfl, h, k⟩ := h
    refine ⟨_, PSs.nox (pss_cons (ps_set (i := 1) sc_ages.nd rfl (Or.inl rfl) (pe_op op_rep (pe_lst (pa_cons pe_int pa_nil)) (pe_fld (pe_fld (pv 0) rfl) rfl)))
      (pss_cons (ps_forW T PassesOwn.never rfl (hr.mono (by decide)) (pe_fld (pv 0) rfl) (pgg_tup rfl (pgsg_cons (pgg_name (i := 2) sc_ages.nd rfl rfl) (pgsg_cons (pgg_name (i := 3) sc_ages.nd rfl rfl) pgsg_nil)))
        (pssg_cons (psg_set (i := 4) sc_ages.nd rfl rfl (peg_call G_segment_of (hr.mono (by decide)) rfl T.glo_segment_of k_segment_of b_segment_of (EX := fun _ _ _ => False) .nil (pag_cons (peg_fld (pvg 0) rfl) (pag_cons (pvg 2) pag_nil))))
      (pssg_one (psg_if (ptg_notN (pvg 4)) (pssg_one (psg_asg (peg_callB (callg_max2 rfl) (by rfl) T.free_max (by decide +kernel) (pag_cons (peg_ix ixg_list (pvg 1) (pvg 4) (fun _ _ => rfl)) (pag_cons (peg_ix ixg_tup (pvg 3) peg_int (fun _ _ => rfl)) pag_nil))) (pgg_sub (pvg 1) (pvg 4) setg_list))) pssg_nil))))
      (pss_one (ps_ret (pe_lc (own := [("sequence", 5)]) rfl sc_ages.nd (pi_list (pv 1)) (blkOk_by (own := [("sequence", 5)]) (N := nm_ages) (sc := defScope s_ages) (by decide +kernel)) (fun _ _ _ _ _ => (pg_name (i := 5) sc_ages.nd rfl (Or.inl rfl) (hf := .inr rfl))) (fun _ _ _ _ _ => pts_nil) (fun _ _ _ _ _ => (pe_op op_sub (show PE _ _ (tFld K _ _) from pe_fld (pv 0) rfl) (pv 5)))))))), ?_⟩
    have lo := h.dev.la.1
    have hs2 := lo.s2
    obtain ⟨vs, hvs, rvs⟩ := h.dev.sn
    obtain ⟨dx, hdv⟩ := h.dev.dv
    have hvl : vs.length = l.db := rvs.1.trans h.dev.l2
    refine q_asgL (el_rep (n := l.seg) (el_lst (ea_cons ev_c ea_nil) (Nat.le_of_ble_eq_true rfl)) (fun H1 e1 => yv_segments T (h.mono e1).dev.la (lv_layout T (h.mono e1) (ev_var rfl))) (by omega)) fun c H1 hc e1 h1 => ?_
    refine q_forW (A := A) (dx := dx) (vs := vs) (lv_device T (h.mono e1) (ev_var rfl)) (e1 _ _ hdv) (blks_of rvs) (fun i σ' H' => ∃ x2 x3 x4 x5, σ' = [some (.ref A.lg), some (.ref c), x2, x3, x4, x5] ∧ Ex H H' ∧ ∃ zs : List Int, H' c = some (.lst (zs.map V.int)) ∧ zs.length = l.seg)
      (fun H2 e2 => ⟨none, none, none, none, rfl, e1.trans e2, List.replicate l.seg 0, ?_, by simp⟩) ?_ ?_ ?_ ?_
    · rw [e2 _ _ h1, List.map_replicate]
    · rintro i σ' H' ⟨_, _, _, _, rfl, e3, _⟩
      exact e3 _ _ hvs
    · exact fun i σ' H' p _ => p
    · rintro i v σ' H' ⟨x2, x3, x4, x5, rfl, e3, zs, hz, hzl⟩ hv hne t ht
      refine g_pair upd_same ?_
      obtain ⟨o, _, r⟩ := rvs.get' hv
      cases o with
      | none => exact absurd r hne
      | some bk =>
        obtain ⟨a, kd, rk, y, rfl, ha⟩ := BlkAt.four r
        have e4 := e3.trans (Ex.new (o := .tup [nV i, V.ref a]) ht)
        have h4 := h.mono e4
        have hz4 : (upd H' t (.tup [nV i, V.ref a])) c = some (.lst (zs.map V.int)) := by
          rw [upd_ne (ne_of_none hz ht)]
          exact hz
        have hil : i < l.db := by rw [← hvl]; exact (List.getElem?_eq_some_iff.mp hv).1
        refine q_asg (ev_seg h4.dev.la (ea_cons (lv_layout T h4 (ev_var rfl)) (ea_cons (ev_is (ev_var rfl) rfl) ea_nil))) fun H5 e5 => ?_
        by_cases hout : i < 2 * l.rb ∨ l.db ≤ i
        · have hsv : segV l i = .non := by unfold segV; rw [if_pos hout]
          rw [hsv]
          refine s_when (b := false) (et_is (et_notN (ev_var rfl)) rfl) (fun z => by cases z) (fun _ H6 e6 => ?_)
          exact ⟨_, _, _, _, rfl, e4.trans (e5.trans e6), zs, e6 _ _ (e5 _ _ hz4), hzl⟩
        · have hsv : segV l i = nV (l.sg i) := by unfold segV; rw [if_neg hout]
          rw [hsv]
          have hsg : l.sg i < l.seg := Lay.sg_lt lo (by omega) (by omega)
          refine s_when (b := true) (et_is (et_notN (ev_var rfl)) rfl) (fun _ H6 e6 => ?_) (fun z => by cases z)
          have e56 := e5.trans e6
          have hz6 := e56 _ _ hz4
          have hlt : l.sg i < zs.length := by omega
          refine s_setL (j := l.sg i) hz6 (ev_max2 (i := zs[l.sg i]) (j := (bk.seq : Int)) (ev_op (ev_var rfl) (ev_var rfl) (rv_ixL (sq_of hz6) (atI_of (by rw [List.getElem?_map, List.getElem?_eq_getElem hlt]; rfl)))) (ev_op (ev_var rfl) ev_c (rv_ixT (st_of (e56 _ _ (e4 _ _ ha))) rfl))) (ev_var rfl) (ev_var rfl) (by rw [List.length_map]; exact hlt) fun H7 e7 => ?_
          exact ⟨_, _, _, _, rfl, Ex.mut (e4.trans (e56.trans e7)) hc, zs.set (l.sg i) _, by rw [upd_same, List.map_set], by rw [List.length_set, hzl]⟩
    · rintro σ' H' ⟨x2, x3, x4, x5, rfl, e3, zs, hz, hzl⟩
      have h3 := h.mono e3
      refine s_retL (el_lcL (a := c) (xs := zs.map V.int) (fun _ => true) (fun i => V.int ((L.lseq : Int) - zs.getD i 0)) (ev_var rfl) (sq_of hz) (by rw [List.length_map]; omega) (fun _ => rfl) (fun i x H4 e4 hx => et_yes) (fun i x H4 e4 hx _ => ?_)) fun p H4 hp e4 h4 => ?_
      · rw [List.getElem?_map] at hx
        have hil : i < zs.length := by
          cases q : zs[i]? with
          | none => rw [q] at hx; cases hx
          | some _ => exact (List.getElem?_eq_some_iff.mp q).1
        rw [List.getElem?_eq_getElem hil] at hx
        have hx : V.int zs[i] = x := Option.some.inj hx
        rw [← hx]
        refine ev_is (ev_op (lv_last_sequence T (h3.mono e4) (ev_var rfl)) (ev_var rfl) rv_I0) ?_
        rw [List.getD_eq_getElem?_getD, List.getElem?_eq_getElem hil]
        rfl
      · refine k _ _ (e3.trans e4) ⟨p, (List.range zs.length).map fun i => (L.lseq : Int) - zs.getD i 0, rfl, fresh_back e3 hp, ?_, by simp [hzl]⟩
        rw [h4, given_all, List.length_map, List.map_map]
        rfl
end
end Sg

set_option maxHeartbeats 4000000
/-! a log's attributes among the targets of an unpacking -/
namespace Sg
open PySem PySem.Spec PyProof.Rows L2 Evl
section
variable {K : PySem.W.Frag} {mg : Str → Option Value} {base : Heap} {σ : L2.St} {H H' H2 : Hp} {ta tv : TE} {A : Ad} {l : Lay} {L : Lg} {D : Ends} {tz : L2.TS} {Q : L2.St → Hp → Prop}
theorem gl_present (T : Ctx K mg base) {p : Addr} {t : List Nat} (h : LogAt K H A l L) (hp : H p = some (.lst (nL t))) (ho : p ∉ A.own) (ha : Ev ta σ H (.ref A.lg)) (k : ∀ H', Evo H A H' (A.at_ A.wt p A.sl A.qu) → LogAt K H' (A.at_ A.wt p A.sl A.qu) l { L with T := { L.T with pres := t } } → Q σ H') : gFld K ta "present" (.ref p) σ H Q :=
  ha H (Ex.refl H) _ fun H1 e1 => by
    obtain ⟨dx, hx⟩ := h.lg
    obtain ⟨vs, s1, s2, s3⟩ := (h.mono e1).sl
    have r := h.setL e1 (e1 _ _ hx) p A.sl A.qu { L.T with pres := t } L.lseq L.reg ⟨e1 _ _ hp, ho⟩ ⟨vs, s1, s2, s3⟩ (h.mono e1).qu
    exact ⟨A.lg, _, dx, _, rfl, e1 _ _ hx, T.cls_Log, T.na_Log_present, Nat.le_of_ble_eq_true rfl, k _ r.2 r.1⟩
theorem gl_slots (T : Ctx K mg base) {p : Addr} {us : List V} {os : List (Option (List Nat))} (h : LogAt K H A l L) (hp : H p = some (.lst us)) (hr : Rl (SlotAt H A.own) us os) (ho : p ∉ A.own) (ha : Ev ta σ H (.ref A.lg)) (k : ∀ H', Evo H A H' (A.at_ A.wt A.pr p A.qu) → LogAt K H' (A.at_ A.wt A.pr p A.qu) l { L with T := { L.T with slots := os } } → Q σ H') : gFld K ta "slots" (.ref p) σ H Q :=
  ha H (Ex.refl H) _ fun H1 e1 => by
    obtain ⟨dx, hx⟩ := h.lg
    have r := h.setL e1 (e1 _ _ hx) A.pr p A.qu { L.T with slots := os } L.lseq L.reg (h.mono e1).pr ⟨us, e1 _ _ hp, hr.mono fun v o q => q.mono fun b o z _ => e1 b o z, ho⟩ (h.mono e1).qu
    exact ⟨A.lg, _, dx, _, rfl, e1 _ _ hx, T.cls_Log, T.na_Log_slots, Nat.le_of_ble_eq_true rfl, k _ r.2 r.1⟩
theorem gl_queue (T : Ctx K mg base) {p : Addr} {t : List Nat} (h : LogAt K H A l L) (hp : H p = some (.lst (nL t))) (ho : p ∉ A.own) (ha : Ev ta σ H (.ref A.lg)) (k : ∀ H', Evo H A H' (A.at_ A.wt A.pr A.sl p) → LogAt K H' (A.at_ A.wt A.pr A.sl p) l { L with T := { L.T with queue := t } } → Q σ H') : gFld K ta "queue" (.ref p) σ H Q :=
  ha H (Ex.refl H) _ fun H1 e1 => by
    obtain ⟨dx, hx⟩ := h.lg
    obtain ⟨vs, s1, s2, s3⟩ := (h.mono e1).sl
    have r := h.setL e1 (e1 _ _ hx) A.pr A.sl p { L.T with queue := t } L.lseq L.reg (h.mono e1).pr ⟨vs, s1, s2, s3⟩ ⟨e1 _ _ hp, ho⟩
    exact ⟨A.lg, _, dx, _, rfl, e1 _ _ hx, T.cls_Log, T.na_Log_queue, Nat.le_of_ble_eq_true rfl, k _ r.2 r.1⟩
theorem gl_head (T : Ctx K mg base) {n : Nat} (h : LogAt K H A l L) (ha : Ev ta σ H (.ref A.lg)) (k : ∀ H', Evo H A H' A → LogAt K H' A l { L with T := { L.T with head := n } } → Q σ H') : gFld K ta "head" (nV n) σ H Q :=
  ha H (Ex.refl H) _ fun H1 e1 => by
    obtain ⟨dx, hx⟩ := h.lg
    obtain ⟨vs, s1, s2, s3⟩ := (h.mono e1).sl
    have r := h.setL e1 (e1 _ _ hx) A.pr A.sl A.qu { L.T with head := n } L.lseq L.reg (h.mono e1).pr ⟨vs, s1, s2, s3⟩ (h.mono e1).qu
    exact ⟨A.lg, _, dx, _, rfl, e1 _ _ hx, T.cls_Log, T.na_Log_head, Nat.le_of_ble_eq_true rfl, k _ r.2 r.1⟩
theorem gl_place (T : Ctx K mg base) {n : Nat} (h : LogAt K H A l L) (ha : Ev ta σ H (.ref A.lg)) (k : ∀ H', Evo H A H' A → LogAt K H' A l { L with T := { L.T with place := n } } → Q σ H') : gFld K ta "place" (nV n) σ H Q :=
  ha H (Ex.refl H) _ fun H1 e1 => by
    obtain ⟨dx, hx⟩ := h.lg
    obtain ⟨vs, s1, s2, s3⟩ := (h.mono e1).sl
    have r := h.setL e1 (e1 _ _ hx) A.pr A.sl A.qu { L.T with place := n } L.lseq L.reg (h.mono e1).pr ⟨vs, s1, s2, s3⟩ (h.mono e1).qu
    exact ⟨A.lg, _, dx, _, rfl, e1 _ _ hx, T.cls_Log, T.na_Log_place, Nat.le_of_ble_eq_true rfl, k _ r.2 r.1⟩
/-- .. and all but the log's own object stays -/
theorem s_lgLseqB (T : Ctx K mg base) {n : Nat} (h : LogAt K H A l L) (hv : Ev tv σ H (nV n)) (ha : ∀ H1, Ex H H1 → Ev ta σ H1 (.ref A.lg)) (k : ∀ H', ExB A.lg H H' → Evo H A H' A → LogAt K H' A l { L with lseq := n } → D.nx σ H') : sFld K ta tv "last_sequence" D σ H := by
  obtain ⟨dx, hx⟩ := h.lg
  refine s_fld hv (ha H (Ex.refl H)) hx T.cls_Log T.na_Log_last_sequence (Nat.le_of_ble_eq_true rfl) fun H1 e1 => ?_
  obtain ⟨vs, s1, s2, s3⟩ := (h.mono e1).sl
  have r := h.setL e1 (e1 _ _ hx) A.pr A.sl A.qu { L.T with head := L.T.head, place := L.T.place } n L.reg (h.mono e1).pr ⟨vs, s1, s2, s3⟩ (h.mono e1).qu
  exact k _ (ExB.put ExB.refl e1) r.2 r.1
end
end Sg

set_option maxHeartbeats 4000000
namespace Sg
open PySem PySem.Spec PyProof.Rows L2 Evl
section
variable {P : Program} {w : World} {K : PySem.W.Frag} {mg : Str → Option Value} {base : Heap}
/-! ### recover -/
structure RecOk (l : Lay) (D : Dev) (reg c n : Nat) (T0 T' : TS) : Prop where
  rg : reg ≤ 1
  g : GoodT l T0
  at_ : ∀ r, r < l.rb → rd D (reg * l.rb + r) = some (ckB l T0 c r)
  ot : RegOk l D (1 - reg) c
  fo : Follows l D n T0 c T'
def sp_recover (K : PySem.W.Frag) : Sp := fun vs H Q _ => ∃ (A : Ad) (l : Lay) (D : Dev) (reg c n : Nat) (T0 T' : TS), vs = [.ref A.dv] ∧ DevAt K H A l D D [] ∧ RecOk l D reg c n T0 T' ∧ ∀ m, (∀ a x, rd D a = some x → x.seq ≤ m) → Mounts K H A l ⟨D, D, [], T', m, reg⟩ Q
abbrev nm_recover : List Str := ["device", "found", "region", "number", "checkpoint", "log", "sequence", "_", "block"]
theorem sc_recover : FnScope nm_recover ["device"] (defScope s_recover) := ⟨rfl, rfl, rfl, by decide +kernel, rfl, by decide +kernel, by decide +kernel⟩
theorem RecOk.regs {l : Lay} {D : Dev} {reg c n : Nat} {T0 T' : TS} (h : RecOk l D reg c n T0 T') : ∃ o : Nat → Option (Nat × TS), (∀ k, k ≤ 1 → RegSt l D k (o k)) ∧ o reg = some (c, T0) ∧ ∀ k, k ≤ 1 → k ≠ reg → ∀ c' T, o k = some (c', T) → c' < c := by
  have h1 := h.rg
  rcases h.ot with z | ⟨T, c', g, hc, z⟩
  · refine ⟨fun k => if k = reg then some (c, T0) else none, fun k hk => ?_, by simp, fun k hk ne c' T e => by simp [ne] at e⟩
    by_cases e : k = reg
    · simp only [e, if_true]
      exact ⟨h.g, h.at_⟩
    · simp only [e, if_false]
      rw [show k = 1 - reg by omega]
      exact z
  · refine ⟨fun k => if k = reg then some (c, T0) else some (c', T), fun k hk => ?_, by simp, fun k hk ne c'' T'' e => ?_⟩
    · by_cases e : k = reg
      · simp only [e, if_true]
        exact ⟨h.g, h.at_⟩
      · simp only [e, if_false]
        rw [show k = 1 - reg by omega]
        exact ⟨g, z⟩
    · simp only [ne, if_false, Option.some.injEq, Prod.mk.injEq] at e
      omega
theorem CkAt.up {l : Lay} {H H2 H3 : Hp} {o : Option (Nat × TS)} {v : V} (h : CkAt l H o v H2) (e : Ex H2 H3) : CkAt l H o v H3 := by
  cases o with
  | none => exact h
  | some p => obtain ⟨t, q, h1, h2, h3, h4, h5⟩ := h; exact ⟨t, q, h1, h2, h3, e _ _ h4, e _ _ h5⟩
theorem CkAt.dn {l : Lay} {H0 H H2 : Hp} {o : Option (Nat × TS)} {v : V} (h : CkAt l H o v H2) (e : Ex H0 H) : CkAt l H0 o v H2 := by
  cases o with
  | none => exact h
  | some p => obtain ⟨t, q, h1, h2, h3, h4, h5⟩ := h; exact ⟨t, q, h1, fresh_back e h2, fresh_back e h3, h4, h5⟩
theorem q_asgPG {σ : L2.St} {H : Hp} {te : TE} {g : TG} {tz : L2.TS} {D : Ends} {P : V → Hp → Prop} (h : EvP te σ H P) (k : ∀ v H1, Ex H H1 → P v H1 → g v σ H1 (tz D)) : tSeq (tAsg te g) tz D σ H := h H (Ex.refl H) _ k
theorem tt_callB {sp : Sp} {dvs vs : List V} {E : XK} {tA : TA} {σ : L2.St} {H : Hp} {Q : Bool → Hp → Prop} (h : EvA tA σ H vs) (k : ∀ H1, Ex H H1 → sp (vs ++ dvs) H1 (fun x H2 => ∃ c, x = .bl c ∧ Q c H2) E) : tB (tCall sp dvs E tA) σ H Q := h H (Ex.refl H) _ k
theorem Made.dn {H0 H H' : Hp} {A A' : Ad} (m : Made H A H' A') (e : Ex H0 H) : Made H0 A H' A' := ⟨fun b o hb n => m.kp b o (e _ _ hb) n, fun b hb => (m.ow b hb).elim (fun z => .inl (fresh_back e z)) .inr, m.la⟩
theorem ReadAt.dn {H0 H H2 : Hp} {T : TS} {v : V} (h : ReadAt H H2 T v) (e : Ex H0 H) : ReadAt H0 H2 T v := by
  obtain ⟨t, p, s, q, vs, h1, h2, h3, h4, h5, h6, h7, h8, h9, h10⟩ := h
  exact ⟨t, p, s, q, vs, h1, h2, fresh_back e h3, h4, fresh_back e h5, h6, h7.mono fun _ _ z => z.dn e, fresh_back e h8, h9, h10⟩
theorem ok_recover (T : Ctx K mg base) : Okd P w K mg base 5 (He.ga K "recover") ["device"] (sp_recover K) := by
  obtain ⟨fd, F⟩ := T.def_recover
  have b : Binds K fd ["device"] [] := FunD.bindsN F fun _ _ _ _ _ _ us hl => match us, hl with | [_], _ => rfl
  obtain ⟨fd_checkpoint_in, G_checkpoint_in, b_checkpoint_in, k_checkpoint_in⟩ := ok_checkpoint_in (P := P) (w := w) T
  obtain ⟨fd_read_numbers, G_read_numbers, b_read_numbers, k_read_numbers⟩ := ok_read_numbers (P := P) (w := w) T
  obtain ⟨fd_take_next, G_take_next, b_take_next, k_take_next⟩ := ok_take_next (P := P) (w := w) T
  obtain ⟨fd_Log, G_Log_init, b_Log_init, k_Log_init⟩ := ok_Log_init (P := P) (w := w) T
  refine ⟨fd, FunD.ok F sc_recover (fun vs H Q E h => ?_) (fun cdv A outer s H vs Q E hr h => ?_), b, F.kp⟩
  · obtain ⟨A, l, D, reg, c, n, T0, T', rfl, _⟩ := h
    rfl
  · obtain ⟨A, l, D, reg, c, n, T0, T', rfl, hd, ro, k⟩ := h
    refine ⟨_, PSs.nox (pss_cons (ps_set (i := 1) sc_recover.nd rfl (Or.inl rfl) pe_non)
      (pss_cons (ps_set (i := 2) sc_recover.nd rfl (Or.inl rfl) pe_int)
      (pss_cons (ps_for PassesOwn.never rfl (pi_range1 rfl T.free_range (pa_cons pe_int pa_nil)) (pg_name (i := 3) sc_recover.nd rfl (Or.inl rfl)) (pss_cons (ps_set (i := 4) sc_recover.nd rfl (Or.inl rfl) (pe_call G_checkpoint_in (hr.mono (by decide)) rfl T.glo_checkpoint_in k_checkpoint_in b_checkpoint_in .nil pass0 (pa_cons (pv 0) (pa_cons (pv 3) pa_nil))))
      (pss_one (ps_if (PW.pt (pw_and (pt_cmp (pc_notN (pv 4)) rfl) (pw_and1 (PW.pt (pw_or (pt_cmp (pc_isN (pv 1)) rfl) (pw_or1 (pt_cmpR op_gt (pe_ix ix_tup (pv 4) pe_int (fun _ _ => rfl)) (pe_ix ix_tup (pv 1) pe_int (fun _ _ => rfl)) (nomark _)))))))) (pss_cons (ps_set (i := 1) sc_recover.nd rfl (Or.inl rfl) (pv 4))
      (pss_one (ps_set (i := 2) sc_recover.nd rfl (Or.inl rfl) (pv 3)))) pss_nil))))
      (pss_cons (ps_if (pt_cmp (pc_isN (pv 1)) rfl) (pss_one ps_never) pss_nil)
      (pss_cons (ps_set (i := 5) sc_recover.nd rfl (Or.inl rfl) (pe_make T.mkr_Log G_Log_init (hr.mono (by decide)) rfl T.glo_Log b_Log_init .nil pass0 (pa_cons (pv 0) pa_nil)))
      (pss_cons (ps_fld (pv 5) (pv 2) rfl)
      (pss_cons (ps_asg (pe_call G_read_numbers (hr.mono (by decide)) rfl T.glo_read_numbers k_read_numbers b_read_numbers .nil pass0 (pa_cons (pe_fld (pv 0) rfl) (pa_cons (pe_ix ix_tup (pv 1) pe_int (fun _ _ => rfl)) pa_nil))) (pg_tup rfl (pgs_cons (pg_att (pv 5)) (pgs_cons (pg_att (pv 5)) (pgs_cons (pg_att (pv 5)) (pgs_cons (pg_att (pv 5)) (pgs_cons (pg_att (pv 5)) pgs_nil)))))))
      (pss_cons (ps_set (i := 6) sc_recover.nd rfl (Or.inl rfl) (pe_op op_add (pe_ix ix_tup (pv 1) pe_int (fun _ _ => rfl)) pe_int))
      (pss_cons (ps_while PassesOwn.never (pt_val (pe_call G_take_next (hr.mono (by decide)) rfl T.glo_take_next k_take_next b_take_next .nil pass0 (pa_cons (pv 5) (pa_cons (pv 6) pa_nil)))) (pss_one (ps_set (i := 6) sc_recover.nd rfl (Or.inl rfl) (pe_op op_add (pv 6) pe_int))))
      (pss_cons (ps_forW T PassesOwn.never rfl (hr.mono (by decide)) (pv 0) (pgg_tup rfl (pgsg_cons (pgg_name (i := 7) sc_recover.nd rfl rfl) (pgsg_cons (pgg_name (i := 8) sc_recover.nd rfl rfl) pgsg_nil)))
        (pssg_one (psg_fld (pvg 5) (peg_callB (callg_max2 rfl) (by rfl) T.free_max (by decide +kernel) (pag_cons (peg_fld (pvg 5) rfl) (pag_cons (peg_ix ixg_tup (pvg 8) peg_int (fun _ _ => rfl)) pag_nil))) rfl)))
      (pss_one (ps_ret (pv 5))))))))))))), ?_⟩
    have lo := hd.la.1
    obtain ⟨o, ho, hor, hot⟩ := ro.regs
    have hr1 := ro.rg
    refine q_asg (ev_c (v := .non)) fun H1 e1 => ?_
    refine q_asg (v := nV 0) (ev_is ev_c rfl) fun H2 e2 => ?_
    have E2 := e1.trans e2
    refine q_forR1 (n := 2) (ea_cons ev_c ea_nil) (by decide) (fun i σ' H' => ∃ fv rv x3 x4, σ' = [some (.ref A.dv), some fv, some (nV rv), x3, x4, none, none, none, none] ∧ Ex H H' ∧ (reg < i → CkAt l H (some (c, T0)) fv H' ∧ rv = reg) ∧ (i ≤ reg → fv = .non ∨ ∃ c' U, c' < c ∧ CkAt l H (some (c', U)) fv H'))
      (fun H3 e3 => ⟨.non, 0, none, none, rfl, E2.trans e3, fun z => absurd z (by omega), fun _ => .inl rfl⟩) ?_ ?_
    · rintro i σ' H' hi ⟨fv, rv, x3, x4, rfl, e3, p1, p2⟩
      have hi2 : i ≤ 1 := by omega
      refine q_asgP (P := CkAt l H' (o i)) (evp_call (ea_cons (ev_var rfl) (ea_cons (ev_is (ev_var rfl) rfl) ea_nil)) fun H4 e4 Q E q => ⟨A, l, D, D, [], i, o i, rfl, (hd.mono e3).mono e4, hi2, ho i hi2, fun v H5 e5 p => q v H5 e5 (p.dn e4)⟩) fun v H4 e4 hv => ?_
      have E4 := e3.trans e4
      have keep : ¬ i = reg → ∀ (x3 x4 : Option V) H5, Ex H4 H5 → ∃ fv' rv' x3' x4', [some (V.ref A.dv), some fv, some (nV rv), x3, x4, none, none, none, none] = [some (.ref A.dv), some fv', some (nV rv'), x3', x4', none, none, none, none] ∧ Ex H H5 ∧ (reg < i + 1 → CkAt l H (some (c, T0)) fv' H5 ∧ rv' = reg) ∧ (i + 1 ≤ reg → fv' = .non ∨ ∃ c' U, c' < c ∧ CkAt l H (some (c', U)) fv' H5) := fun hne x3 x4 H5 e5 =>
        ⟨fv, rv, x3, x4, rfl, E4.trans e5, fun z => ⟨(p1 (by omega)).1.up (e4.trans e5), (p1 (by omega)).2⟩, fun z => by
          rcases p2 (by omega) with q | ⟨c', U, q1, q2⟩
          · exact .inl q
          · exact .inr ⟨c', U, q1, q2.up (e4.trans e5)⟩⟩
      cases hoi : o i with
      | none =>
        rw [hoi] at hv
        obtain rfl : v = .non := hv
        have hne : ¬ i = reg := fun z => by rw [z, hor] at hoi; cases hoi
        exact s_when (b := false) (et_is (et_and (b := false) (et_notN (ev_var rfl)) fun z => by cases z) rfl) (fun z => by cases z) fun _ H5 e5 => keep hne _ _ H5 e5
      | some pr =>
        obtain ⟨ci, Ui⟩ := pr
        rw [hoi] at hv
        have hvd := hv.dn e3
        have take : i ≤ reg → ∀ (x3 x4 : Option V) H5, Ex H4 H5 → ∃ fv' rv' x3' x4', [some (V.ref A.dv), some v, some (nV i), x3, x4, none, none, none, none] = [some (.ref A.dv), some fv', some (nV rv'), x3', x4', none, none, none, none] ∧ Ex H H5 ∧ (reg < i + 1 → CkAt l H (some (c, T0)) fv' H5 ∧ rv' = reg) ∧ (i + 1 ≤ reg → fv' = .non ∨ ∃ c' U, c' < c ∧ CkAt l H (some (c', U)) fv' H5) := fun hle x3 x4 H5 e5 =>
          ⟨v, i, x3, x4, rfl, E4.trans e5, fun z => by
            have : i = reg := by omega
            rw [this, hor] at hoi
            rw [← hoi] at hvd
            exact ⟨hvd.up e5, this⟩, fun z => .inr ⟨ci, Ui, hot i hi2 (by omega) ci Ui hoi, hvd.up e5⟩⟩
        obtain ⟨t, p, rfl, t0, p0, t1, p3⟩ := hv
        have go : ∀ H5, Ex H4 H5 → i ≤ reg → tSeq (tAsg (tVar 4) (gName 1)) (tAsg (tVar 3) (gName 2)) { nx := fun σ' H' => ∃ fv rv x3 x4, σ' = [some (.ref A.dv), some fv, some (nV rv), x3, x4, none, none, none, none] ∧ Ex H H' ∧ (reg < i + 1 → CkAt l H (some (c, T0)) fv H' ∧ rv = reg) ∧ (i + 1 ≤ reg → fv = .non ∨ ∃ c' U, c' < c ∧ CkAt l H (some (c', U)) fv H'), rt := Q } [some (V.ref A.dv), some fv, some (nV rv), some (V.int (i : Int)), some (V.ref t), none, none, none, none] H5 := fun H5 e5 hle =>
          q_asg (v := .ref t) (ev_var rfl) fun H6 e6 => s_asg (v := nV i) (ev_is (ev_var rfl) rfl) fun H7 e7 => take hle _ _ H7 (e5.trans (e6.trans e7))
        by_cases hfv : fv = .non
        · subst hfv
          have hle : i ≤ reg := Nat.le_of_not_lt fun z => by
            obtain ⟨⟨t', p', q, _⟩, _⟩ := p1 z
            cases q
          exact s_when (b := true) (et_is (et_and (b := true) (et_notN (ev_var rfl)) fun _ => et_or (a := true) (b := true) (et_is (et_isN (ev_var rfl)) rfl) fun z => by cases z) rfl) (fun _ H5 e5 => go H5 e5 hle) fun z => by cases z
        · obtain ⟨c2, U2, q1, q2, q3⟩ : ∃ c2 U2, CkAt l H (some (c2, U2)) fv H' ∧ (i = reg → c2 < c) ∧ (reg < i → c2 = c) := by
            by_cases hri : reg < i
            · exact ⟨c, T0, (p1 hri).1, fun z => absurd z (by omega), fun _ => rfl⟩
            · rcases p2 (by omega) with q | ⟨c', U, q1, q2⟩
              · exact absurd q hfv
              · exact ⟨c', U, q2, fun _ => q1, fun z => absurd z hri⟩
          obtain ⟨t', p', rfl, _, _, t1', _⟩ := q1.up e4
          refine s_when (b := decide (c2 < ci)) (et_is (et_and (b := decide (c2 < ci)) (et_notN (ev_var rfl)) fun _ => et_is (et_or (a := false) (b := decide ((c2 : Int) < (ci : Int))) (et_is (et_isN (ev_var rfl)) rfl) fun _ => et_cmp (ev_op (ev_var rfl) ev_c (rv_ixT (st_of t1) rfl)) (ev_op (ev_var rfl) ev_c (rv_ixT (st_of t1') rfl)) rv_I0) ?_) ?_) (fun hb H5 e5 => go H5 e5 ?_) (fun hb H5 e5 => keep ?_ _ _ H5 e5)
          · simp
          · simp
          · have hb := of_decide_eq_true hb
            by_cases z : i ≤ reg
            · exact z
            · have := hot i hi2 (by omega) ci Ui hoi
              have := q3 (by omega)
              omega
          · have hb := of_decide_eq_false hb
            intro z
            have := q2 z
            rw [z, hor] at hoi
            have hoi := Option.some.inj hoi
            have : c = ci := congrArg Prod.fst hoi
            omega
    · rintro σ' H3 ⟨fv, rv, x3, x4, rfl, e3, p1, _⟩
      obtain ⟨hck, rfl⟩ := p1 (by show reg < 2; omega)
      obtain ⟨t, p, rfl, t0, p0, t1, p3⟩ := hck
      refine q_when (b := false) (et_is (et_isN (ev_var rfl)) rfl) (fun z => by cases z) fun _ H4 e4 => ?_
      have hd4 := (hd.mono e3).mono e4
      refine q_asgP (evp_Log hd4 (ea_cons (ev_var rfl) ea_nil)) fun v H5 e5 hv => ?_
      obtain ⟨A1, rfl, m1, hdv, h1⟩ := hv
      refine q_lgReg T (n := rv) h1 (ev_var rfl) (fun _ _ => ev_var rfl) fun H6 ev6 h6 => ?_
      have m6 : Made H4 A H6 A1 := m1.evo hd4.fourE h1 ev6
      have nf : ∀ b, H b = none → b ∉ A.four := fun b hb hm => by
        obtain ⟨o, q⟩ := hd.fourE b hm
        rw [hb] at q
        cases q
      have t4 := e4 _ _ t1
      have p4 := e4 _ _ p3
      have t6 := m6.kp _ _ t4 (nf _ t0)
      have p6 := m6.kp _ _ p4 (nf _ p0)
      have own6 : ∀ b, H6 b = none → b ∉ A1.own := fun b hb hm => by
        obtain ⟨o, q⟩ := h6.wtL b hm
        rw [hb] at q
        cases q
      refine q_asgPG (P := fun v H2 => ReadAt H6 H2 T0 v) (evp_call (ea_cons (dv_layout T h6.dev (ev_is (ev_var rfl) (by rw [hdv]))) (ea_cons (ev_op (ev_var rfl) ev_c (rv_ixT (st_of t6) rfl)) ea_nil)) (fun H7 e7 Q E q => ⟨A1.la, p, l, T0, rfl, h6.dev.la.mono e7, ro.g, e7 _ _ p6, fun v H8 e8 z => q v H8 e8 (z.dn e7)⟩)) fun v H7 e7 hv => ?_
      · obtain ⟨tt, pp, ss, qq, us, rfl, tt1, pp0, pp1, ss0, ss1, rl, qq0, qq1, _⟩ := hv
        have h7 := h6.mono e7
        refine ⟨tt, _, rfl, SqT.of tt1, rfl, _, _, rfl, ?_⟩
        refine gl_present T h7 pp1 (own6 _ pp0) (ev_var rfl) fun H8 ev8 h8 => ⟨_, _, rfl, ?_⟩
        refine gl_slots T h8 (ev8.kp _ _ ss1 (own6 _ ss0)) (rl.mono fun v o z => ?_) (own6 _ ss0) (ev_var rfl) fun H9 ev9 h9 => ⟨_, _, rfl, ?_⟩
        · cases o with
          | none => exact z
          | some tb => obtain ⟨a, z1, z2, z3⟩ := z; exact ⟨a, z1, ev8.kp _ _ z3 (own6 _ z2), own6 _ z2⟩
        refine gl_head T h9 (ev_var rfl) fun H10 ev10 h10 => ⟨_, _, rfl, ?_⟩
        refine gl_place T h10 (ev_var rfl) fun H11 ev11 h11 => ⟨_, _, rfl, ?_⟩
        have ev811 := (ev8.trans (ev9.trans (ev10.trans ev11)))
        refine gl_queue T h11 (ev811.kp _ _ qq1 (own6 _ qq0)) (own6 _ qq0) (ev_var rfl) fun H12 ev12 h12 => ⟨rfl, ?_⟩
        have m12 := m6.evo hd4.fourE h6 ((Evo.ex e7).trans (ev811.trans ev12))
        have h12 : LogAt K H12 (A1.at_ A1.wt pp ss qq) l ⟨D, D, [], T0, 0, rv⟩ := h12
        have t12 := m12.kp _ _ t4 (nf _ t0)
        refine q_asg (v := nV (c + 1)) (ev_is (ev_op (ev_op (ev_var rfl) ev_c (rv_ixT (st_of t12) rfl)) ev_c rv_I0) (nv_eq (by omega))) fun H13 e13 => ?_
        have m13 := m12.evo hd4.fourE h12 (Evo.ex e13)
        obtain ⟨W, hW⟩ : ∃ W : Nat → L2.St → Hp → Prop, W = fun m σ' H' => ∃ U sq A', σ' = [some (V.ref A.dv), some (.ref t), some (nV rv), x3, x4, some (.ref A'.lg), some (nV (sq + 1)), none, none] ∧ Follows l D m U sq T' ∧ Wq l U ∧ LogAt K H' A' l ⟨D, D, [], U, 0, rv⟩ ∧ Made H4 A H' A' ∧ A'.dv = A.dv := ⟨_, rfl⟩
        refine ⟨W, ⟨n, by rw [hW]; exact ⟨T0, c, A1.at_ A1.wt pp ss qq, rfl, ro.fo, ro.g.wq, h12.mono e13, m13, hdv⟩⟩, ?_⟩
        intro m σ' H14 hw
        rw [hW] at hw
        obtain ⟨U, sq, A', rfl, fo, wq, h14, m14, dv14⟩ := hw
        refine tt_callB (ea_cons (ev_var rfl) (ea_cons (ev_var rfl) ea_nil)) fun H15 e15 => ⟨A', l, _, sq + 1, rfl, h14.mono e15, wq, fun hn => ?_, fun U' hU => ?_⟩
        · intro H16 w16 p16 s16 q16 ev16 h16
          refine ⟨false, rfl, ?_⟩
          rw [if_neg Bool.false_ne_true]
          have m16 := m14.evo hd4.fourE h14 ((Evo.ex e15).trans ev16)
          have hTU : T' = U := by
            cases m with
            | zero => exact fo.2
            | succ m =>
              obtain ⟨U2, f1, _⟩ := fo
              rw [show takeNext l D U (sq + 1) = none from hn] at f1
              cases f1
          subst hTU
          obtain ⟨vs, hvs, rvs⟩ := h16.dev.sn
          obtain ⟨dx, hdx⟩ := h16.dev.dv
          have hvl : vs.length = D.length := rvs.1
          have same : ∀ {H' : Hp} {mm : Nat}, LogAt K H' (A'.at_ w16 p16 s16 q16) l ⟨D, D, [], T', mm, rv⟩ → H' (A'.at_ w16 p16 s16 q16).sn = some (.lst vs) → Rl (OBlk H') vs D := fun h e => by
            obtain ⟨vs', h1, h2⟩ := h.dev.sn
            rw [h1] at e
            injection e with e
            injection e with e
            rw [← e]
            exact h2
          refine q_forW (A := A'.at_ w16 p16 s16 q16) (dx := dx) (vs := vs) (ev_is (ev_var rfl) (by show V.ref A.dv = V.ref A'.dv; rw [dv14])) hdx (blks_of rvs)
            (fun i σ' H' => ∃ x7 x8 mm, σ' = [some (V.ref A.dv), some (.ref t), some (nV rv), x3, x4, some (.ref A'.lg), some (nV (sq + 1)), x7, x8] ∧ LogAt K H' (A'.at_ w16 p16 s16 q16) l ⟨D, D, [], T', mm, rv⟩ ∧ Made H4 A H' (A'.at_ w16 p16 s16 q16) ∧ H' (A'.at_ w16 p16 s16 q16).sn = some (.lst vs) ∧ ∀ j b, j < i → rd D j = some b → b.seq ≤ mm)
            (fun H17 e17 => ⟨none, none, 0, rfl, h16.mono e17, m16.evo hd4.fourE h16 (Evo.ex e17), e17 _ _ hvs, fun j b hj => absurd hj (Nat.not_lt_zero _)⟩) ?_ ?_ ?_ ?_
          · rintro i σ' H' ⟨_, _, _, _, _, _, q, _⟩
            exact q
          · rintro i σ' H' ⟨x7, x8, mm, rfl, hl, hm, hs, hb⟩ hv
            refine ⟨x7, x8, mm, rfl, hl, hm, hs, fun j b hj hr => ?_⟩
            by_cases z : j = i
            · rw [z] at hr
              obtain ⟨o, ho1, ho2⟩ := (same hl hs).get' hv
              have : o = some b := by
                unfold rd at hr
                rw [ho1] at hr
                exact hr
              rw [this] at ho2
              obtain ⟨_, _, _, _, z2, _⟩ := BlkAt.four (show BlkAt H' V.non b from ho2)
              cases z2
            · exact hb j b (by omega) hr
          · rintro i v σ' H' ⟨x7, x8, mm, rfl, hl, hm, hs, hb⟩ hv hne tq htq
            refine g_pair upd_same ?_
            obtain ⟨o, ho1, ho2⟩ := (same hl hs).get' hv
            cases o with
            | none => exact absurd ho2 hne
            | some bk =>
              obtain ⟨a, kd, rk, y, rfl, ha⟩ := BlkAt.four (show BlkAt H' v bk from ho2)
              have eN := Ex.new (H := H') (o := .tup [nV i, V.ref a]) htq
              have hl2 := hl.mono eN
              refine s_lgLseqB T (n := if bk.seq > mm then bk.seq else mm) hl2 (ev_is (ev_max2 (lv_last_sequence T hl2 (ev_var rfl)) (ev_op (ev_var rfl) ev_c (rv_ixT (st_of (eN _ _ ha)) rfl))) ?_) (fun _ _ => ev_var rfl) fun H18 eb ev18 hl18 => ?_
              · show V.int (if (bk.seq : Int) > (mm : Int) then (bk.seq : Int) else (mm : Int)) = V.int ((if bk.seq > mm then bk.seq else mm : Nat) : Int)
                congr 1
                split <;> split <;> omega
              · refine ⟨_, _, _, rfl, hl18, hm.evo hd4.fourE hl ((Evo.ex eN).trans ev18), eb _ _ (eN _ _ hs) ?_, fun j b hj hr => ?_⟩
                · have nd : (A'.at_ w16 p16 s16 q16).own.Nodup := hl.nd
                  intro z
                  have := (List.nodup_cons.mp (show ((A'.at_ w16 p16 s16 q16).lg :: [(A'.at_ w16 p16 s16 q16).dv, (A'.at_ w16 p16 s16 q16).sn, (A'.at_ w16 p16 s16 q16).su, (A'.at_ w16 p16 s16 q16).wt, (A'.at_ w16 p16 s16 q16).ct]).Nodup from nd)).1
                  rw [← z] at this
                  exact this (by simp)
                · by_cases z : j = i
                  · rw [z] at hr
                    unfold rd at hr
                    rw [ho1] at hr
                    have hr : bk = b := Option.some.inj hr
                    rw [← hr]
                    split <;> omega
                  · have := hb j b (by omega) hr
                    split <;> omega
          · rintro σ' H' ⟨x7, x8, mm, rfl, hl, hm, hs, hb⟩
            refine s_ret (ev_var rfl) fun H18 e18 => ?_
            have hk := k mm fun a x hx => hb a x (by
              unfold rd at hx
              rw [hvl]
              by_cases z : a < D.length
              · exact z
              · rw [List.getElem?_eq_none (by omega)] at hx
                cases hx) hx
            exact ((hm.evo hd4.fourE hl (Evo.ex e18)).dn (e3.trans e4)).go hk (hl.mono e18)
        · intro H16 w16 p16 s16 q16 ev16 h16
          refine ⟨true, rfl, ?_⟩
          rw [if_pos rfl]
          cases m with
          | zero =>
            rw [show takeNext l D U (sq + 1) = none from fo.1] at hU
            cases hU
          | succ m =>
            obtain ⟨U2, f1, f2⟩ := fo
            have : U' = U2 := Option.some.inj ((show takeNext l D U (sq + 1) = some U' from hU).symm.trans f1)
            subst this
            refine ⟨W m, fun σ2 H2 hw => ⟨m, Nat.lt_succ_self _, hw⟩, ?_⟩
            refine s_asg (v := nV (sq + 1 + 1)) (ev_is (ev_op (ev_var rfl) ev_c rv_I0) (nv_eq (by omega))) fun H17 e17 => ?_
            rw [hW]
            exact ⟨U', sq + 1, A'.at_ w16 p16 s16 q16, rfl, f2, takeNext_wq hU wq, h16.mono e17, m14.evo hd4.fourE h14 ((Evo.ex e15).trans (ev16.trans (Evo.ex e17))), dv14⟩
end
end Sg

set_option maxHeartbeats 4000000
namespace Sg
open PySem PySem.Spec PyProof.Rows L2 Evl
section
variable {P : Program} {w : World} {K : PySem.W.Frag} {mg : Str → Option Value} {base : Heap}
/-! ### mount_log -/
def sp_mount_log (K : PySem.W.Frag) : Sp := fun vs H Q _ => ∃ (A : Ad) (l : Lay) (D : Dev) (reg c n : Nat) (T0 T' : TS), vs = [.ref A.dv] ∧ DevAt K H A l D D [] ∧ RecOk l D reg c n T0 T' ∧
  ∀ m, (∀ a x, rd D a = some x → x.seq ≤ m) → SeenOk l ⟨D, D, [], T', m, reg⟩ ∧ Mounts K H A l (ckL l ⟨D, D, [], T', m, reg⟩) Q
abbrev nm_mount_log : List Str := ["device", "log"]
theorem sc_mount_log : FnScope nm_mount_log ["device"] (defScope s_mount_log) := ⟨rfl, rfl, rfl, by decide +kernel, rfl, by decide +kernel, by decide +kernel⟩
theorem ok_mount_log (T : Ctx K mg base) : Okd P w K mg base 6 (He.ga K "mount_log") ["device"] (sp_mount_log K) := by
  obtain ⟨fd, F⟩ := T.def_mount_log
  have b : Binds K fd ["device"] [] := FunD.bindsN F fun _ _ _ _ _ _ us hl => match us, hl with | [_], _ => rfl
  obtain ⟨fd_recover, G_recover, b_recover, k_recover⟩ := ok_recover (P := P) (w := w) T
  obtain ⟨fd_write_checkpoint, G_write_checkpoint, b_write_checkpoint, k_write_checkpoint⟩ := ok_write_checkpoint (P := P) (w := w) T
  refine ⟨fd, FunD.ok F sc_mount_log (fun vs H Q E h => ?_) (fun cdv A outer s H vs Q E hr h => ?_), b, F.kp⟩
  · obtain ⟨A, l, D, reg, c, n, T0, T', rfl, _⟩ := h
    rfl
  · obtain ⟨A, l, D, reg, c, n, T0, T', rfl, hd, ro, k⟩ := h
    refine ⟨_, PSs.nox (pss_cons (ps_set (i := 1) sc_mount_log.nd rfl (Or.inl rfl) (pe_call G_recover (hr.mono (by decide)) rfl T.glo_recover k_recover b_recover .nil pass0 (pa_cons (pv 0) pa_nil)))
      (pss_cons (ps_expr (pe_call G_write_checkpoint (hr.mono (by decide)) rfl T.glo_write_checkpoint k_write_checkpoint b_write_checkpoint .nil pass0 (pa_cons (pv 1) pa_nil)))
      (pss_one (ps_ret (pv 1))))), ?_⟩
    refine q_asgC (ea_cons (ev_var rfl) ea_nil) fun H1 e1 => ⟨A, l, D, reg, c, n, T0, T', rfl, hd.mono e1, ro, fun m hm => ?_⟩
    obtain ⟨so, kk⟩ := k m hm
    intro H2 A2 kp2 ow2 la2 h2
    have m2 : Made H1 A H2 A2 := ⟨kp2, ow2, la2⟩
    refine q_call (ea_cons (ev_var rfl) ea_nil) fun H3 e3 => ⟨A2, l, _, rfl, h2.mono e3, so.g, so.rg, fun x hx => (nomatch hx), so.sw, fun H4 w4 p4 s4 q4 ev4 h4 => ?_⟩
    refine s_ret (ev_var rfl) fun H5 e5 => ?_
    exact ((m2.evo (hd.mono e1).fourE h2 ((Evo.ex e3).trans (ev4.trans (Evo.ex e5)))).dn e1).go kk (h4.mono e5)
end
end Sg

set_option maxHeartbeats 4000000
/-! rules of our own: list(zip(a, b)) -/
namespace Sg
open PySem PySem.Spec PyProof.Rows L2 Evl
/-- a zip that has handed out the tuple at T -/
abbrev IsZipM (h : Heap) (z TI TO T : Addr) (m : Bool) : Prop :=
  h.get? z = some { cls := .type "zip", dict := none, data := .fields #[rawInt T, .bool m, .bool false, .ref TI, .ref TO], slots := #[] }
section
variable {prog : Program} {w : World} {A : Around} {E : Value → Shared → Prop} {s : Shared}
theorem wpAny_alive {M : Model} {a : Addr} {α : Type} {k : Option Obj → Sem α} {Q : α → Shared → Prop} (h : wpAny M A (k (s.heap.get? a)) Q E s) : wpAny M A (Sem.loadIfAlive a k) Q E s := fun Γ p hΓ => by
  rw [Sem.wp_loadIfAlive]
  exact h Γ p hΓ
theorem zipM_free {z TI TO T : Addr} {m : Bool} {o : Obj} {Q : Bool → Shared → Prop} (hz : IsZipM s.heap z TI TO T m) (hT : s.heap.get? T = some o)
    (h : ∀ h', IsZipM h' z TI TO T true → (∀ b o, b ≠ z → s.heap.get? b = some o → h'.get? b = some o) → h'.objs.size = s.heap.objs.size → Q false { s with heap := h' }) : wpAny (model prog w) A (Builtin.SmallTypes.ownedTupleIsFree (.ref z)) Q E s := by
  unfold Builtin.SmallTypes.ownedTupleIsFree
  refine wpAny_bind (wpAny_field hz rfl (x := rawInt T) rfl ?_)
  show wpAny _ _ (Sem.loadIfAlive (Int.toNat (T : Int)) Sem.pure >>= _) _ _ _
  refine wpAny_bind (wpAny_alive (wpAny_pure ?_))
  rw [Int.toNat_natCast, hT]
  show wpAny _ _ (field (.ref z) 1 >>= _) _ _ _
  refine wpAny_bind (wpAny_field hz rfl (x := .bool m) rfl ?_)
  cases m with
  | true =>
    exact wpAny_pure (h s.heap hz (fun _ _ _ q => q) rfl)
  | false =>
    refine wpAny_bind (wpAny_setField_rec hz (by simp) fun h₁ hz₁ hs₁ => wpAny_pure (h h₁ hz₁ (fun b o hb q => (hs₁.2 b hb).trans q) hs₁.1))
theorem zipM_item {z TI TO i1 i2 l1 l2 T : Addr} {m : Bool} {o : Obj} {k1 k2 : Nat} {xs ys : Array Value} {x y : Value} {Q : Value → Shared → Prop} (D : ZipApart z TI TO i1 i2 l1 l2)
    (hz : IsZipM s.heap z TI TO T m) (hT : s.heap.get? T = some o) (hTI : IsPair s.heap TI (.ref i1) (.ref i2))
    (h1 : s.heap.IsListIter i1 l1 k1) (h2 : s.heap.IsListIter i2 l2 k2) (hl1 : s.heap.IsList l1 xs) (hl2 : s.heap.IsList l2 ys) (hx : xs[k1]? = some x) (hy : ys[k2]? = some y)
    (hQ : ∀ h', IsZipM h' z TI TO T true → h'.IsListIter i1 l1 (k1 + 1) → h'.IsListIter i2 l2 (k2 + 1) → IsPair h' s.heap.objs.size x y → h'.objs.size = s.heap.objs.size + 1 →
      (∀ c o, c ≠ z → c ≠ i1 → c ≠ i2 → s.heap.get? c = some o → h'.get? c = some o) → Q (.ref s.heap.objs.size) { s with heap := h' }) :
    wpAny (model prog w) A (Builtin.«zip.__next__» ⟨[.ref z], []⟩) (fun fin s' => ∃ v, fin = .done (.ret v) ∧ Q v s') E s := by
  show wpAny _ _ (field (.ref z) 2 >>= _) _ _ _
  refine wpAny_bind (wpAny_field hz rfl (x := .bool false) rfl ?_)
  show wpAny _ _ (field (.ref z) 3 >>= _) _ _ _
  refine wpAny_bind (wpAny_field hz rfl (x := .ref TI) rfl ?_)
  refine wpAny_bind (wpAny_seqItems hTI rfl ?_)
  show wpAny _ _ (Builtin.SmallTypes.ownedTupleIsFree (.ref z) >>= _) _ _ _
  refine wpAny_bind (zipM_free hz hT fun h₁ hz₁ hk₁ sz₁ => ?_)
  simp only [Bool.false_eq_true, if_false]
  refine wpAny_bind ?_
  rw [← Array.forIn_toList]
  simp only [List.forIn_cons, List.forIn_nil]
  have k1' : ∀ {b : Addr} {ob : Obj}, b ≠ z → s.heap.get? b = some ob → h₁.get? b = some ob := fun {b ob} hb q => hk₁ b ob hb q
  have g1 : h₁.IsListIter i1 l1 k1 := by obtain ⟨ob, q1, q2⟩ := h1; exact ⟨ob, k1' D.i1z q1, q2⟩
  have g2 : h₁.IsListIter i2 l2 k2 := by obtain ⟨ob, q1, q2⟩ := h2; exact ⟨ob, k1' D.i2z q1, q2⟩
  have gl1 : h₁.IsList l1 xs := by obtain ⟨ob, q1, q2⟩ := hl1; exact ⟨ob, k1' D.l1z q1, q2⟩
  have gl2 : h₁.IsList l2 ys := by obtain ⟨ob, q1, q2⟩ := hl2; exact ⟨ob, k1' D.l2z q1, q2⟩
  refine wpAny_bind (wpAny_bind (wpAny_holding ?_))
  show wpAny _ _ (Builtin.SmallTypes.nextOf (.ref i1) >>= _) _ _ _
  refine wpAny_bind (wpAny_nextOf_list_item g1 gl1 hx fun h₂ g1₂ hs₂ => wpAny_pure ?_)
  refine wpAny_pure ?_
  refine wpAny_bind (wpAny_bind (wpAny_holding ?_))
  show wpAny _ _ (Builtin.SmallTypes.nextOf (.ref i2) >>= _) _ _ _
  refine wpAny_bind (wpAny_nextOf_list_item (g2.extBut hs₂.extBut D.i12.symm) (gl2.extBut hs₂.extBut D.l2i1) hy fun h₃ g2₃ hs₃ => wpAny_pure ?_)
  refine wpAny_pure (wpAny_pure ?_)
  have sz3 : h₃.objs.size = s.heap.objs.size := by rw [hs₃.1, hs₂.1, sz₁]
  refine wpAny_bind (wpAny_newTuple ?_ (by show 2 ≤ sizeLine; decide))
  refine wpAny_pure ⟨_, rfl, ?_⟩
  show Q (.ref h₃.objs.size) _
  rw [sz3]
  have up : ∀ {b : Addr} {ob : Obj}, h₃.get? b = some ob → (h₃.push { cls := .type "tuple", data := .seq #[x, y] }).get? b = some ob := fun {b ob} q => Heap.get?_push_of_some _ q
  refine hQ _ (up (hs₃.extBut _ _ D.i2z.symm (hs₂.extBut _ _ D.i1z.symm hz₁))) ?_ ?_ ?_ ?_ fun c ob c1 c2 c3 q => up (hs₃.extBut _ _ c3 (hs₂.extBut _ _ c2 (hk₁ c ob c1 q)))
  · obtain ⟨ob, q1, q2⟩ := g1₂.extBut hs₃.extBut D.i12
    exact ⟨ob, up q1, q2⟩
  · obtain ⟨ob, q1, q2⟩ := g2₃
    exact ⟨ob, up q1, q2⟩
  · rw [← sz3]
    exact Heap.get?_push_size _ rfl
  · rw [Heap.size_push, sz3]
theorem zipM_end {z TI TO i1 i2 l1 l2 T : Addr} {m : Bool} {o : Obj} {k1 k2 : Nat} {xs ys : Array Value} {Q : PySem.Fin → Shared → Prop} (hh : A.handled = none) (D : ZipApart z TI TO i1 i2 l1 l2)
    (hz : IsZipM s.heap z TI TO T m) (hT : s.heap.get? T = some o) (hTI : IsPair s.heap TI (.ref i1) (.ref i2))
    (h1 : s.heap.IsListIter i1 l1 k1) (h2 : s.heap.IsListIter i2 l2 k2) (hl1 : s.heap.IsList l1 xs) (hl2 : s.heap.IsList l2 ys) (hend : xs[k1]? = none)
    (hE : ∀ h' e, (∀ c o, c ≠ z → c ≠ i1 → c ≠ i2 → s.heap.get? c = some o → h'.get? c = some o) → (∃ o, h'.get? e = some o ∧ o.cls = .type "StopIteration") → E (.ref e) { s with heap := h' }) :
    wpAny (model prog w) A (Builtin.«zip.__next__» ⟨[.ref z], []⟩) Q E s := by
  show wpAny _ _ (field (.ref z) 2 >>= _) _ _ _
  refine wpAny_bind (wpAny_field hz rfl (x := .bool false) rfl ?_)
  show wpAny _ _ (field (.ref z) 3 >>= _) _ _ _
  refine wpAny_bind (wpAny_field hz rfl (x := .ref TI) rfl ?_)
  refine wpAny_bind (wpAny_seqItems hTI rfl ?_)
  show wpAny _ _ (Builtin.SmallTypes.ownedTupleIsFree (.ref z) >>= _) _ _ _
  refine wpAny_bind (zipM_free hz hT fun h₁ hz₁ hk₁ sz₁ => ?_)
  simp only [Bool.false_eq_true, if_false]
  refine wpAny_bind ?_
  rw [← Array.forIn_toList]
  simp only [List.forIn_cons, List.forIn_nil]
  have k1' : ∀ {b : Addr} {ob : Obj}, b ≠ z → s.heap.get? b = some ob → h₁.get? b = some ob := fun {b ob} hb q => hk₁ b ob hb q
  have g1 : h₁.IsListIter i1 l1 k1 := by obtain ⟨ob, q1, q2⟩ := h1; exact ⟨ob, k1' D.i1z q1, q2⟩
  have gl1 : h₁.IsList l1 xs := by obtain ⟨ob, q1, q2⟩ := hl1; exact ⟨ob, k1' D.l1z q1, q2⟩
  refine wpAny_bind (wpAny_bind (wpAny_holding ?_))
  show wpAny _ _ (Builtin.SmallTypes.nextOf (.ref i1) >>= _) _ _ _
  refine wpAny_bind (wpAny_nextOf_list_end hh g1 gl1 hend fun h₂ e hs₂ he => ?_)
  exact hE h₂ e (fun c ob c1 c2 c3 q => hs₂ _ _ c2 (hk₁ c ob c1 q)) he
/-- where a zip of two lists stands, between two of its turns -/
structure ZSt (z TI TO i1 i2 l1 l2 : Addr) (xs ys : Array Value) (k : Nat) (h : Heap) : Prop where
  ti : IsPair h TI (.ref i1) (.ref i2)
  to : ∃ a b, IsPair h TO a b
  a1 : h.IsListIter i1 l1 k
  a2 : h.IsListIter i2 l2 k
  b1 : h.IsList l1 xs
  b2 : h.IsList l2 ys
  zz : IsZip h z TI TO .none ∨ ∃ T m u v, IsZipM h z TI TO T m ∧ IsPair h T u v
theorem zst_item {z TI TO i1 i2 l1 l2 : Addr} {k : Nat} {xs ys : Array Value} {x y : Value} {Q : Option Value → Shared → Prop} (D : ZipApart z TI TO i1 i2 l1 l2) (st : ZSt z TI TO i1 i2 l1 l2 xs ys k s.heap) (hx : xs[k]? = some x) (hy : ys[k]? = some y)
    (hQ : ∀ h', ZSt z TI TO i1 i2 l1 l2 xs ys (k + 1) h' → IsPair h' s.heap.objs.size x y → h'.objs.size = s.heap.objs.size + 1 →
      (∀ c o, c ≠ z → c ≠ TO → c ≠ i1 → c ≠ i2 → s.heap.get? c = some o → h'.get? c = some o) → Q (some (.ref s.heap.objs.size)) { s with heap := h' }) : wpAny (model prog w) A (pyNext (.ref z)) Q E s := by
  obtain ⟨ti, ⟨a, b, to⟩, a1, a2, b1, b2, zz⟩ := st
  rcases zz with zz | ⟨T, m, u, v, zz, hT⟩
  · refine wpAny_pyNext_zip_item D zz ti to a1 a2 b1 b2 hx hy fun h' q1 q2 q3 q4 q5 q6 q7 => hQ h' ⟨q7 _ _ D.TIz D.TITO D.TIi1 D.TIi2 ti, ⟨_, _, q2⟩, q3, q4, ?_, ?_, .inr ⟨_, _, _, _, q1, q5⟩⟩ q5 q6 q7
    · obtain ⟨o, r1, r2⟩ := b1
      exact ⟨o, q7 _ _ D.l1z D.l1TO D.l1i1 D.l1i2 r1, r2⟩
    · obtain ⟨o, r1, r2⟩ := b2
      exact ⟨o, q7 _ _ D.l2z D.l2TO D.l2i1 D.l2i2 r1, r2⟩
  · have hTy : s.TypeIs (.ref z) "zip" := ⟨_, zz, rfl⟩
    unfold pyNext
    refine wpAny_bind (wpAny_attempt (wpAny_callSpecial?_slot (name := Str.ofString "__next__") hTy F.slot_zip_next
      (wpAny_call_entry F.slot_zip_next hTy F.entry_zip_next
        (zipM_item D zz hT ti a1 a2 b1 b2 hx hy fun h' q1 q3 q4 q5 q6 q7 => wpAny_pure (hQ h' ⟨q7 _ _ D.TIz D.TIi1 D.TIi2 ti, ⟨_, _, q7 _ _ D.TOz D.TOi1 D.TOi2 to⟩, q3, q4, ?_, ?_, .inr ⟨T, true, u, v, q1, q7 _ _ ?_ ?_ ?_ hT⟩⟩ q5 q6 fun c o c1 _ c3 c4 e => q7 c o c1 c3 c4 e)) (F.args_zip_next_1 _))))
    · obtain ⟨o, r1, r2⟩ := b1
      exact ⟨o, q7 _ _ D.l1z D.l1i1 D.l1i2 r1, r2⟩
    · obtain ⟨o, r1, r2⟩ := b2
      exact ⟨o, q7 _ _ D.l2z D.l2i1 D.l2i2 r1, r2⟩
    · intro e
      rw [e] at hT
      have q := Option.some.inj ((show s.heap.get? z = _ from zz).symm.trans (show s.heap.get? z = _ from hT))
      exact absurd (congrArg Obj.cls q) (by simp)
    · intro e
      obtain ⟨o, r1, r2, _⟩ := a1
      rw [e] at hT
      have q := Option.some.inj (r1.symm.trans hT)
      rw [q] at r2
      exact absurd r2 (by simp)
    · intro e
      obtain ⟨o, r1, r2, _⟩ := a2
      rw [e] at hT
      have q := Option.some.inj (r1.symm.trans hT)
      rw [q] at r2
      exact absurd r2 (by simp)
theorem zst_end {z TI TO i1 i2 l1 l2 : Addr} {k : Nat} {xs ys : Array Value} {Q : Option Value → Shared → Prop} (hh : A.handled = none) (D : ZipApart z TI TO i1 i2 l1 l2) (st : ZSt z TI TO i1 i2 l1 l2 xs ys k s.heap) (hx : xs[k]? = none)
    (hQ : ∀ h', (∀ c o, c ≠ z → c ≠ TO → c ≠ i1 → c ≠ i2 → s.heap.get? c = some o → h'.get? c = some o) → Q none { s with heap := h' }) : wpAny (model prog w) A (pyNext (.ref z)) Q E s := by
  obtain ⟨ti, ⟨a, b, to⟩, a1, a2, b1, b2, zz⟩ := st
  rcases zz with zz | ⟨T, m, u, v, zz, hT⟩
  · exact wpAny_pyNext_zip_end hh D zz ti to a1 a2 b1 b2 (.inl hx) hQ
  · have hTy : s.TypeIs (.ref z) "zip" := ⟨_, zz, rfl⟩
    unfold pyNext
    refine wpAny_bind (wpAny_attempt (wpAny_callSpecial?_slot (name := Str.ofString "__next__") hTy F.slot_zip_next
      (wpAny_call_entry F.slot_zip_next hTy F.entry_zip_next (zipM_end hh D zz hT ti a1 a2 b1 b2 hx fun h' e hk he => ?_) (F.args_zip_next_1 _))))
    obtain ⟨o, ho, hc⟩ := he
    refine wpAny_bind (wpAny_isInstance (T := "StopIteration") (b := true) ⟨o, ho, hc⟩ isSubtype_stop ?_)
    exact wpAny_pure (hQ _ fun c o c1 _ c3 c4 q => hk c o c1 c3 c4 q)
end
end Sg

set_option maxHeartbeats 4000000
namespace Sg
open PySem PySem.Spec PyProof.Rows L2 Evl
section
variable {X : Cx} {pins : List (Addr × Obj)} {σ : L2.St}
/-- the tuples made so far -/
def Pairs (H : Hp) (vs us : List V) (Ts : List Addr) : Prop := ∀ (i : Nat) (T : Addr), Ts[i]? = some T → ∃ x y, vs[i]? = some x ∧ us[i]? = some y ∧ H T = some (.tup [x, y])
theorem ext_zip {z TI TO i1 i2 l1 l2 S : Addr} {xs ys : List Value} {vs us : List V} {res : Value} {A : Around} {R : Result → Shared → Prop} {H1 : Hp} (hh : A.handled = none) (D : ZipApart z TI TO i1 i2 l1 l2) (rv : Vals vs xs) (ru : Vals us ys) (hlen : vs.length = us.length) (hz : vs.length ≤ sizeLine)
    (nS : ∀ b ∈ [z, TI, TO, i1, i2, l1, l2], S ≠ b)
    (hend : ∀ (s : Shared) (H' : Hp) (Ts : List Addr) (acc : Array Value) (c : Nat), Inv X pins σ H' s → (∀ b ∈ [z, TO, i1, i2, S], FpOk X pins H' b) → s.heap.get? S = some (lstObj acc c) → acc.toList = Ts.map Value.ref → Ts.length = vs.length → Pairs H' vs us Ts → Ex H1 H' → R (.ok (.ret res)) s) :
    ∀ (r k : Nat) (s : Shared) (H' : Hp) (Ts : List Addr) (acc : Array Value) (c : Nat), k + r = vs.length → Inv X pins σ H' s → (∀ b ∈ [z, TO, i1, i2, S], FpOk X pins H' b) → ZSt z TI TO i1 i2 l1 l2 xs.toArray ys.toArray k s.heap → s.heap.get? S = some (lstObj acc c) → acc.toList = Ts.map Value.ref → Ts.length = k → Pairs H' vs us Ts → Ex H1 H' →
      codeAny (model X.prog X.w) A (.builtin "list.extend.loop" ⟨[.ref S, .ref z, res], []⟩) R s := by
  intro r
  induction r with
  | zero =>
    intro k s H' Ts acc c hk I hf st hS ha hl hp e
    refine codeAny_builtin F.entry_extend_loop ?_
    rw [Around.under_plainId F.plain_extend_loop _]
    show wpAny _ A.in1 (pyNext (.ref z) >>= _) _ _ s
    refine wpAny_bind (zst_end hh D st (by rw [List.getElem?_toArray, List.getElem?_eq_none]; rw [← rv.length]; omega) fun h' hkp => ?_)
    have I2 : Inv X pins σ H' { s with heap := h' } := Inv.turnedE (ch := [z, TO, i1, i2, S]) I rfl I.bare (fun b o hb q => hkp b o (fun w => hb (by simp [w])) (fun w => hb (by simp [w])) (fun w => hb (by simp [w])) (fun w => hb (by simp [w])) q) hf
    exact wpAny_pure (hend _ H' Ts acc c I2 hf (hkp _ _ (nS z (by simp)) (nS TO (by simp)) (nS i1 (by simp)) (nS i2 (by simp)) hS) ha (by omega) hp e)
  | succ r ih =>
    intro k s H' Ts acc c hk I hf st hS ha hl hp e
    have hkl : k < vs.length := by omega
    obtain ⟨x, hx⟩ : ∃ x, vs[k]? = some x := ⟨vs[k], List.getElem?_eq_getElem hkl⟩
    obtain ⟨y, hy⟩ : ∃ y, us[k]? = some y := ⟨us[k]'(by omega), List.getElem?_eq_getElem (by omega)⟩
    obtain ⟨u, hu, rx⟩ := rv.get hx
    obtain ⟨w, hw, ry⟩ := ru.get hy
    refine codeAny_builtin F.entry_extend_loop ?_
    rw [Around.under_plainId F.plain_extend_loop _]
    show wpAny _ A.in1 (pyNext (.ref z) >>= _) _ _ s
    refine wpAny_bind (zst_item D st (x := u) (y := w) (by rw [List.getElem?_toArray]; exact hu) (by rw [List.getElem?_toArray]; exact hw) fun h' st' hT hsz hkp => ?_)
    have hS' := hkp _ _ (nS z (by simp)) (nS TO (by simp)) (nS i1 (by simp)) (nS i2 (by simp)) hS
    have hacc : acc.size = k := by rw [← Array.length_toList, ha, List.length_map, hl]
    show wpAny _ A.in1 (updateSeq S (·.push (Value.ref s.heap.objs.size)) >>= _) _ _ _
    refine wpAny_bind ?_
    refine wpAny_updateSeq hS' rfl (wpAny_pure ⟨plainId_quiet F.plain_extend_loop _, ?_⟩) (by rw [hacc]; omega) (by show (acc.push _).size ≤ sizeLine + 1; rw [Array.size_push]; omega)
    have oth : ∀ b o, b ≠ S → h'.get? b = some o → (h'.update S (Obj.mapSeq (·.push (Value.ref s.heap.objs.size)))).get? b = some o := fun b o hb q => (Heap.get?_update_other _ _ (Ne.symm hb)).trans q
    have hSl : S < s.heap.objs.size := Heap.lt_size hS
    have hTn : H' s.heap.objs.size = none := I.hok.fresh (Nat.le_refl _)
    have hT2 := oth _ _ (Nat.ne_of_gt hSl) hT
    have I2 : Inv X pins σ (upd H' s.heap.objs.size (.tup [x, y])) { s with heap := h'.update S (Obj.mapSeq (·.push (Value.ref s.heap.objs.size))) } := by
      refine Inv.turnedG (ch := [z, TO, i1, i2, S]) I rfl I.bare (fun b o hb q => oth b o (fun w => hb (by simp [w])) (hkp b o (fun w => hb (by simp [w])) (fun w => hb (by simp [w])) (fun w => hb (by simp [w])) (fun w => hb (by simp [w])) q)) hf (Nat.le_refl _) ?_
      exact ⟨by show 2 ≤ sizeLine; decide, [u, w], .cons rx (.cons ry .nil), ⟨_, hT2, rfl, _, rfl⟩⟩
    have old : ∀ b ∈ [z, TO, i1, i2, S], b ≠ s.heap.objs.size := fun b hb => by
      obtain ⟨_, ⟨_, _, to⟩, ⟨_, e1, _⟩, ⟨_, e2, _⟩, _, _, zz⟩ := st
      simp only [List.mem_cons, List.not_mem_nil, or_false] at hb
      rcases hb with q | q | q | q | q <;> rw [q]
      · rcases zz with zz | ⟨_, _, _, _, zz, _⟩
        · exact Nat.ne_of_lt (Heap.lt_size zz)
        · exact Nat.ne_of_lt (Heap.lt_size zz)
      · exact Nat.ne_of_lt (Heap.lt_size to)
      · exact Nat.ne_of_lt (Heap.lt_size e1)
      · exact Nat.ne_of_lt (Heap.lt_size e2)
      · exact Nat.ne_of_lt hSl
    refine ih (k + 1) _ (upd H' s.heap.objs.size (.tup [x, y])) (Ts ++ [s.heap.objs.size]) (acc.push (.ref s.heap.objs.size)) _ (by omega) I2 (fun b hb => ⟨by rw [upd_ne (old b hb)]; exact (hf b hb).1, (hf b hb).2⟩) ?_ (Heap.get?_update_self _ hS' rfl) (by rw [Array.toList_push, ha, List.map_append]; rfl) (by simp [hl]) (fun i T hi => ?_) (e.trans (Ex.new hTn))
    · obtain ⟨q1, ⟨a, b, q2⟩, ⟨o3, q3, q3'⟩, ⟨o4, q4, q4'⟩, ⟨o5, q5, q5'⟩, ⟨o6, q6, q6'⟩, q7⟩ := st'
      refine ⟨oth _ _ (Ne.symm (nS TI (by simp))) q1, ⟨a, b, oth _ _ (Ne.symm (nS TO (by simp))) q2⟩, ⟨o3, oth _ _ (Ne.symm (nS i1 (by simp))) q3, q3'⟩, ⟨o4, oth _ _ (Ne.symm (nS i2 (by simp))) q4, q4'⟩, ⟨o5, oth _ _ (Ne.symm (nS l1 (by simp))) q5, q5'⟩, ⟨o6, oth _ _ (Ne.symm (nS l2 (by simp))) q6, q6'⟩, ?_⟩
      rcases q7 with q7 | ⟨T, m, a', b', q7, q8⟩
      · exact .inl (oth _ _ (Ne.symm (nS z (by simp))) q7)
      · refine .inr ⟨T, m, a', b', oth _ _ (Ne.symm (nS z (by simp))) q7, oth _ _ (fun w => ?_) q8⟩
        rw [w] at q8
        have q := Option.some.inj (hS'.symm.trans (show h'.get? S = _ from q8))
        exact absurd (congrArg Obj.cls q) (by simp)
    · by_cases hi2 : i < Ts.length
      · rw [List.getElem?_append_left hi2] at hi
        obtain ⟨x', y', r1, r2, r3⟩ := hp i T hi
        exact ⟨x', y', r1, r2, by rw [upd_ne (ne_of_none r3 hTn)]; exact r3⟩
      · rw [List.getElem?_append_right (by omega)] at hi
        have : i = Ts.length := by
          have := (List.getElem?_eq_some_iff.mp hi).1
          simp at this
          omega
        subst this
        simp at hi
        rw [← hi, hl]
        exact ⟨x, y, hx, hy, upd_same⟩
/-- a list of ours that was not tracked -/
theorem Inv.track {H : Hp} {s : Shared} {S : Addr} {acc : Array Value} {c : Nat} {ws : List V} (I : Inv X pins σ H s) (hS : FpOk X pins H S) (e : s.heap.get? S = some (lstObj acc c)) (r : Vals ws acc.toList) (hz : ws.length ≤ sizeLine) : Inv X pins σ (upd H S (.lst ws)) s := by
  obtain ⟨f0, f1, f2, f3, f4, f5⟩ := hS
  refine I.step (h' := s.heap) (g' := s.gens) (t' := s.toks) (d' := s.drawn) (ch := [S]) (fun b hb => ?_) (fun b o _ _ hc q _ => q) (fun b o _ _ hc q _ => ⟨o.slots, q⟩) (fun b o hc q n => ?_) (fun b o hc q => ⟨o, q⟩) (fun b xs q => ?_) (fun b o u q => ?_) (fun b ps q => ⟨#[], ?_⟩) (fun m hm => hm) (fun b u q => ?_) I.bare
  · rw [List.mem_singleton.mp hb]
    exact ⟨f3, f1, f4, f5⟩
  · rw [upd_ne fun w => hc (by simp [w])]
    exact n
  · rw [upd_ne (ne_of_none q f0)]; exact q
  · rw [upd_ne (ne_of_none q f0)]; exact q
  · rw [upd_ne (ne_of_none q f0), q]; simp
  · by_cases hb : b = S
    · subst hb
      rw [upd_same] at q
      cases q
      exact ⟨hz, acc.toList, c, r, by rw [e]⟩
    · rw [upd_ne hb] at q
      exact (I.hok b u q).stay (fun _ _ _ w => w) (fun d w => by rw [upd_ne (ne_of_none w f0)]; exact w) fun d xs w => by rw [upd_ne (ne_of_none w f0)]; exact w
theorem vals_refs : ∀ (Ts : List Addr), Vals (Ts.map V.ref) (Ts.map Value.ref)
  | [] => .nil
  | _ :: Ts => .cons rfl (vals_refs Ts)
theorem zip_no_len : typeLookup (.type "zip") "__len__" = pure none := by rw [typeLookup_type, builtinLookup_eq_fast]; kernel_rfl
theorem zip_no_hint : typeLookup (.type "zip") "__length_hint__" = pure none := by rw [typeLookup_type, builtinLookup_eq_fast]; kernel_rfl
/-- list(z) -/
theorem list_zip {H : Hp} {s : Shared} {z TI TO i1 i2 l1 l2 : Addr} {xs ys : List Value} {vs us : List V} {Q : VK} (I : Inv X pins σ H s) (hh : X.A.handled = none) (D : ZipApart z TI TO i1 i2 l1 l2) (rv : Vals vs xs) (ru : Vals us ys) (hlen : vs.length = us.length) (hz : vs.length ≤ sizeLine)
    (hf : ∀ b ∈ [z, TO, i1, i2], FpOk X pins H b) (st : ZSt z TI TO i1 i2 l1 l2 xs.toArray ys.toArray 0 s.heap) (zz : IsZip s.heap z TI TO .none)
    (q : ∀ p Ts H', H p = none → Ex H H' → H' p = none → Ts.length = vs.length → Pairs H' vs us Ts → Q (.ref p) (upd H' p (.lst (Ts.map V.ref)))) {E : Value → Shared → Prop} :
    wpAny (model X.prog X.w) X.A (call (.type "list") [.ref z]) (EP X pins σ Q) E s := by
  have hTy : s.TypeIs (.ref z) "zip" := ⟨_, zz, rfl⟩
  refine callType_codes (Q₁ := fun obj s₁ => obj = .ref s.heap.objs.size ∧ s₁ = { s with heap := s.heap.push { cls := .type "list", data := .seq #[] } }) F.called_list (F.typeCall_list_1 _) F.entry_list_init
    (code_list_new _ ⟨rfl, rfl⟩) fun obj s₁ h₁ => ?_
  obtain ⟨rfl, rfl⟩ := h₁
  have hS : (s.heap.push { cls := .type "list", data := .seq #[] }).get? s.heap.objs.size = some { cls := .type "list", data := .seq #[] } := Heap.get?_push_size _ rfl
  refine ⟨⟨_, hS, rfl⟩, F.args_list_init_2 _ _, ?_⟩
  show wpAny _ X.A.in1.in1 (do let old ← Builtin.List.listItems (.ref s.heap.objs.size); Builtin.List.listUpdate (.ref s.heap.objs.size) (fun _ => #[]); letGo old.toList.reverse; Builtin.List.listExtendWith (.ref s.heap.objs.size) (.ref z) .none) _ _ _
  refine wpAny_bind ?_
  unfold Builtin.List.listItems
  refine wpAny_bind (wpAny_seqItems hS rfl (wpAny_pure ?_))
  show wpAny _ X.A.in1.in1 (updateSeq s.heap.objs.size (fun _ => #[]) >>= fun _ => letGo (#[] : Array Value).toList.reverse >>= fun _ => Builtin.List.listExtendWith (.ref s.heap.objs.size) (.ref z) .none) _ _ _
  refine wpAny_bind (wpAny_updateSeq hS rfl ?_)
  have hS2 := Heap.get?_update_self (Obj.mapSeq (fun _ => (#[] : Array Value))) hS rfl
  refine wpAny_bind (wpAny_letGo ?_)
  unfold Builtin.List.listExtendWith
  have up : ∀ (h : Heap) (f : Obj → Obj), (∀ b o, s.heap.get? b = some o → h.get? b = some o) → ∀ b o, s.heap.get? b = some o → (h.update s.heap.objs.size f).get? b = some o := fun h f q b o e =>
    (Heap.get?_update_other _ _ (Ne.symm (Nat.ne_of_lt (Heap.lt_size e)))).trans (q b o e)
  have k1 : ∀ b o, s.heap.get? b = some o → (s.heap.push { cls := .type "list", data := .seq #[] }).get? b = some o := fun b o e => Heap.get?_push_of_some _ e
  have k2 := up _ (Obj.mapSeq (fun _ => (#[] : Array Value))) k1
  have hzl : z < s.heap.objs.size := Heap.lt_size zz
  have hSz : s.heap.objs.size ≠ z := Nat.ne_of_gt hzl
  have ty2 : ({ s with heap := (s.heap.push { cls := .type "list", data := .seq #[] }).update s.heap.objs.size (Obj.mapSeq (fun _ => (#[] : Array Value))) } : Shared).TypeIs (.ref z) "zip" := ⟨_, k2 _ _ zz, rfl⟩
  refine wpAny_bind (wpAny_typeOf ty2 ?_)
  have h1 : Builtin.List.listSameRef (.ref s.heap.objs.size) (.ref z) = false := by simp [Builtin.List.listSameRef, hSz]
  have h2 : (Value.type "zip" == Value.type "list") = false := by decide
  have h3 : (Value.type "zip" == Value.type "tuple") = false := by decide
  simp only [h1, h2, h3, Bool.or_false, Bool.false_eq_true, if_false]
  refine wpAny_bind (wpAny_pyIter_zip (s := { s with heap := _ }) (k2 _ _ zz) ?_)
  refine wpAny_bind (wpAny_holding ?_)
  unfold Builtin.List.listLengthHint
  refine wpAny_bind (wpAny_specialOf ty2 zip_no_len ?_)
  show wpAny _ X.A.in1.in1 (specialOf (Value.ref z) (Str.ofString "__length_hint__") >>= _) _ _ _
  refine wpAny_bind (wpAny_specialOf ty2 zip_no_hint ?_)
  refine wpAny_pure ?_
  show wpAny _ X.A.in1.in1 (rule "list.extend.makes-room" >>= fun _ => Builtin.List.listTouch (.ref s.heap.objs.size) >>= fun _ =>
    again (.builtin "list.extend.loop" ⟨[.ref s.heap.objs.size, .ref z, .none], []⟩)) _ _ _
  refine wpAny_bind (wpAny_rule ?_)
  refine wpAny_bind ?_
  show wpAny _ X.A.in1.in1 (updateSeq s.heap.objs.size (·.push .none) >>= fun _ => updateSeq s.heap.objs.size (·.pop)) _ _ _
  refine wpAny_bind (wpAny_updateSeq hS2 rfl ?_)
  have hS3 := Heap.get?_update_self (Obj.mapSeq (·.push Value.none)) hS2 rfl
  refine wpAny_updateSeq (hz := by seq_fits) hS3 rfl ?_
  have hS4 := Heap.get?_update_self (Obj.mapSeq (·.pop)) hS3 rfl
  have k4 := up _ (Obj.mapSeq (·.pop)) (up _ (Obj.mapSeq (·.push Value.none)) k2)
  refine wpAny_pure ⟨plainId_quiet F.plain_extend_loop _, ?_⟩
  have I4 : Inv X pins σ H { s with heap := (((s.heap.push { cls := .type "list", data := .seq #[] }).update s.heap.objs.size (Obj.mapSeq (fun _ => (#[] : Array Value)))).update s.heap.objs.size (Obj.mapSeq (·.push Value.none))).update s.heap.objs.size (Obj.mapSeq (·.pop)) } := I.kept (t' := s.toks) k4
  have ltA : ∀ b ∈ [z, TI, TO, i1, i2, l1, l2], b < s.heap.objs.size := fun b hb => by
    obtain ⟨ti, ⟨_, _, to⟩, ⟨_, e1, _⟩, ⟨_, e2, _⟩, ⟨_, e3, _⟩, ⟨_, e4, _⟩, _⟩ := st
    simp only [List.mem_cons, List.not_mem_nil, or_false] at hb
    rcases hb with w | w | w | w | w | w | w <;> rw [w]
    · exact hzl
    · exact Heap.lt_size ti
    · exact Heap.lt_size to
    · exact Heap.lt_size e1
    · exact Heap.lt_size e2
    · exact Heap.lt_size e3
    · exact Heap.lt_size e4
  have hn := I.hok.fresh (Nat.le_refl s.heap.objs.size)
  have fS := I.fpOk (Nat.le_refl s.heap.objs.size) hn
  refine ext_zip (X := X) (pins := pins) (σ := σ) (H1 := H) (A := X.A.in1) hh D rv ru hlen hz (fun b hb => Nat.ne_of_gt (ltA b hb)) (fun s' H' Ts acc c I' hf' e ha hl hp ex => ?_) vs.length 0 _ H [] #[] _ (by omega) I4 (fun b hb => ?_) ?_ hS4 rfl rfl (fun i T h => by simp at h) (Ex.refl H)
  · have fS' := hf' s.heap.objs.size (by simp)
    exact ⟨rfl, .ref s.heap.objs.size, _, Inv.track I' fS' e (by rw [ha]; exact vals_refs Ts) (by rw [List.length_map, hl]; exact hz), rfl, q _ Ts H' hn ex fS'.1 hl hp⟩
  · simp only [List.mem_cons, List.not_mem_nil, or_false] at hb
    rcases hb with w | w | w | w | w
    · exact hf b (by simp [w])
    · exact hf b (by simp [w])
    · exact hf b (by simp [w])
    · exact hf b (by simp [w])
    · rw [w]; exact fS
  · obtain ⟨q1, ⟨a, b, q2⟩, ⟨o3, q3, q3'⟩, ⟨o4, q4, q4'⟩, ⟨o5, q5, q5'⟩, ⟨o6, q6, q6'⟩, _⟩ := st
    exact ⟨k4 _ _ q1, ⟨a, b, k4 _ _ q2⟩, ⟨o3, k4 _ _ q3, q3'⟩, ⟨o4, k4 _ _ q4, q4'⟩, ⟨o5, k4 _ _ q5, q5'⟩, ⟨o6, k4 _ _ q6, q6'⟩, .inl (k4 _ _ zz)⟩
end
end Sg

set_option maxHeartbeats 4000000
namespace Sg
open PySem PySem.Spec PyProof.Rows L2 Evl
def tListZip (K : PySem.W.Frag) (ta : TA) : TE := fun σ H Q => ta σ H fun ws H1 => ∃ a b vs us, ws = [.ref a, .ref b] ∧ SqL K H1 a vs ∧ SqL K H1 b us ∧ vs.length = us.length ∧
  ∀ p Ts H', H1 p = none → Ex H1 H' → H' p = none → Ts.length = vs.length → Pairs H' vs us Ts → Q (.ref p) (upd H' p (.lst (Ts.map V.ref)))
theorem pe_listZip {X : Cx} {e e2 : Expr} {ta : TA} {p p2 pos pos2 : Pos} (hc : X.calm = true) (hg : Gl X "zip") (hm : X.mg "zip" = none) (hg2 : Gl X "list") (hm2 : X.mg "list" = none) (ha : PA X [e, e2] ta)
    (hs : starEach [e, e2] X.env = (false, eval e X.env) :: starEach [e2] X.env := by rfl) (hpl : (backTo pos (starEach [e2] X.env)).any (·.1) = false := by rfl) :
    PE X (.Call (.Name "list" p2) [.Call (.Name "zip" p) [e, e2] [] pos] [] pos2) (tListZip X.K ta) := by
  refine ⟨fun pins s σ H Q I h => ?_⟩
  refine Call_ (ld_blt I hg2 hm2 (by decide +kernel : bootBuiltins ("list" : Str) = some (.type "list")) (PyProof.Rows.callWith_type1 ?_ rfl rfl))
  show wpAny _ _ (spliced ((false, eval (.Call (.Name "zip" p) [e, e2] [] pos) X.env) :: [])) _ _ _
  refine Calls.spliced_cons ?_
  refine Call_ (ld_blt I hg hm PyProof.Rows.boot_zip (PyProof.Rows.callWith_type1 (thn (ha.run pos pins s σ H _ I h) fun us s1 ⟨vs, H1, I1, r1, q1⟩ => ?_) hs hpl))
  obtain ⟨a, b, xs, ys, ex, hqx, hqy, hl, q⟩ := q1
  subst ex
  cases r1 with
  | cons r rr =>
    cases rr with
    | cons r' rr =>
      cases rr
      cases r
      cases r'
      obtain ⟨its, rv, p1, hz1⟩ := I1.list hqx
      obtain ⟨its2, rv2, p2, _⟩ := I1.list hqy
      refine call_zip_2 p1.isList p2.isList fun h' hz hTI hTO h1 h2 hsz hk => ?_
      have I2 : Inv X pins σ H1 { s1 with heap := h' } := I1.kept (t' := s1.toks) hk
      refine Calls.spliced_nil ?_
      refine list_zip (X := X) I2 (I2.ok.hd hc) (PySem.W.ktu_apart s1.heap.objs.size a b p1.lt p2.lt) rv rv2 hl hz1 (fun c hcm => ?_) ⟨hTI, ⟨_, _, hTO⟩, h1, h2, ?_, ?_, .inl hz⟩ hz q
      · have hle : s1.heap.objs.size ≤ c := by
          simp only [List.mem_cons, List.not_mem_nil, or_false] at hcm
          rcases hcm with w | w | w | w <;> rw [w]
          · exact Nat.le_add_right _ _
          · exact Nat.le_add_right _ _
          · exact Nat.le_refl _
          · exact Nat.le_add_right _ _
        exact I1.fpOk hle (I1.hok.fresh hle)
      · obtain ⟨o, w1, w2⟩ := p1.isList
        exact ⟨o, hk _ _ w1, w2⟩
      · obtain ⟨o, w1, w2⟩ := p2.isList
        exact ⟨o, hk _ _ w1, w2⟩
end Sg

set_option maxHeartbeats 4000000
namespace Sg
open PySem PySem.Spec PyProof.Rows L2 Evl
section
variable {P : Program} {w : World} {K : PySem.W.Frag} {mg : Str → Option Value} {base : Heap}
/-! ### order_candidates -/
abbrev nm_order_candidates : List Str := ["log", "policy", "rows", "order", "segment", "at"]
theorem sc_order_candidates : FnScope nm_order_candidates ["log", "policy"] (defScope s_order_candidates) := ⟨rfl, rfl, rfl, by decide +kernel, rfl, by decide +kernel, by decide +kernel⟩
def rIns : V → List V → Hp → VK → Prop := fun x vs H Q => ∃ (l : Addr) (xs : List V) (i : Int) (y : V), x = .ref l ∧ vs = [.int i, y] ∧ H l = some (.lst xs) ∧ xs.length < sizeLine ∧ 0 ≤ i ∧ i < 2 ^ 63 ∧
    Q .non (upd H l (.lst (xs.take i.toNat ++ [y] ++ xs.drop i.toNat)))
theorem s_ins {σ : L2.St} {H : Hp} {ta tb tc : TE} {D : Ends} {l : Addr} {xs : List V} {i : Nat} {y : V} (hl : H l = some (.lst xs)) (ha : Ev ta σ H (.ref l)) (h1 : Ev tb σ H (nV i)) (h2 : Ev tc σ H y) (hz : xs.length < 100000) (hi : i ≤ 100000)
    (k : ∀ H1, Ex H H1 → D.nx σ (upd H1 l (.lst (xs.take i ++ [y] ++ xs.drop i)))) : tDrop (tBM K "list" rIns ta (tCons tb (tCons tc tNil))) D σ H := ha H (Ex.refl H) _ fun H1 e1 =>
  ⟨Or.inl ⟨rfl, xs, sq_of (e1 l _ hl)⟩, h1 H1 e1 _ fun H2 e2 => h2 H2 (e1.trans e2) _ fun H3 e3 => ⟨l, xs, (i : Int), y, rfl, rfl, e3 _ _ (e2 _ _ (e1 _ _ hl)), sz_lt hz, by omega, by omega, k H3 (e1.trans (e2.trans e3))⟩⟩
theorem ok_order_candidates (T : Ctx K mg base) : Okd P w K mg base 6 (He.ga K "order_candidates") ["log", "policy"] (sp_order_candidates K) := by
  obtain ⟨fd, F⟩ := T.def_order_candidates
  have b : Binds K fd ["log", "policy"] [] := FunD.bindsN F fun _ _ _ _ _ _ us hl => match us, hl with | [_, _], _ => rfl
  obtain ⟨fd_ages, G_ages, b_ages, k_ages⟩ := ok_ages (P := P) (w := w) T
  obtain ⟨fd_candidates, G_candidates, b_candidates, k_candidates⟩ := ok_candidates (P := P) (w := w) T
  obtain ⟨fd_is_better, G_is_better, b_is_better, k_is_better⟩ := ok_is_better (P := P) (w := w) T
  obtain ⟨fd_live_counts, G_live_counts, b_live_counts, k_live_counts⟩ := ok_live_counts (P := P) (w := w) T
  refine ⟨fd, FunD.ok F sc_order_candidates (fun vs H Q E h => ?_) (fun cdv A outer s H vs Q E hr h => ?_), b, F.kp⟩
  · obtain ⟨A, l, L, pol, rfl, _⟩ := h
    rfl
  · obtain ⟨A, l, L, pol, rfl, h, so, k⟩ := h
    refine ⟨_, PSs.nox (pss_cons (ps_set (i := 2) sc_order_candidates.nd rfl (Or.inl rfl) (pe_listZip rfl (by rfl) T.free_zip (by rfl) T.free_list (pa_cons (pe_call G_live_counts (hr.mono (by decide)) rfl T.glo_live_counts k_live_counts b_live_counts .nil pass0 (pa_cons (pv 0) pa_nil)) (pa_cons (pe_call G_ages (hr.mono (by decide)) rfl T.glo_ages k_ages b_ages .nil pass0 (pa_cons (pv 0) pa_nil)) pa_nil))))
      (pss_cons (ps_set (i := 3) sc_order_candidates.nd rfl (Or.inl rfl) (pe_lst pa_nil))
      (pss_cons (ps_for PassesOwn.never rfl (pi_list (pe_call G_candidates (hr.mono (by decide)) rfl T.glo_candidates k_candidates b_candidates .nil pass0 (pa_cons (pv 0) pa_nil))) (pg_name (i := 4) sc_order_candidates.nd rfl (Or.inl rfl)) (pss_cons (ps_set (i := 5) sc_order_candidates.nd rfl (Or.inl rfl) (pe_callB call_len_seq (by rfl) T.free_len PySem.boot_len (pa_cons (pv 3) pa_nil)))
      (pss_cons (ps_while PassesOwn.never (PW.pt (pw_and (pt_cmpR op_gt (pv 5) pe_int (nomark _)) (pw_and1 (pt_val (pe_call G_is_better (hr.mono (by decide)) rfl T.glo_is_better k_is_better b_is_better .nil pass0 (pa_cons (pv 1) (pa_cons (pe_fld (pe_fld (pv 0) rfl) rfl) (pa_cons (pe_ix ix_list (pv 2) (pv 4) (fun _ _ => rfl)) (pa_cons (pe_ix ix_list (pv 2) (pe_ix ix_list (pv 3) (pe_op op_sub (pv 5) pe_int) (fun _ _ => rfl)) (fun _ _ => rfl)) pa_nil))))))))) (pss_one (ps_set (i := 5) sc_order_candidates.nd rfl (Or.inl rfl) (pe_op op_sub (pv 5) pe_int))))
      (pss_one (ps_expr (pe_bm PySem.F.plainAttrs_list PySem.F.slot_list_insert PySem.F.type_list_insert mt_insert (pv 3) (pa_cons (pv 5) (pa_cons (pv 4) pa_nil))))))))
      (pss_one (ps_ret (pv 3)))))), ?_⟩
    have lo := h.dev.la.1
    have hs2 := lo.s2
    have g := so.g
    refine el_counts h g (ev_var rfl) H (Ex.refl H) _ fun c H1 hc e1 h1 => ?_
    refine evp_call (P := fun v H2 => ∃ (p : Addr) (zs : List Int), v = .ref p ∧ H2 p = some (.lst (zs.map V.int)) ∧ zs.length = l.seg) (ea_cons (ev_var rfl) ea_nil) (fun H2 e2 Q E q => ⟨A, l, L, rfl, (h.mono e1).mono e2, fun v H3 e3 ⟨p, zs, z1, _, z2, z3⟩ => q v H3 e3 ⟨p, zs, z1, z2, z3⟩⟩) H1 (Ex.refl H1) _ fun v H2 e2 hv => ?_
    obtain ⟨p, zs, rfl, h2, hzl⟩ := hv
    refine ⟨c, p, _, _, rfl, sq_of (e2 _ _ h1), sq_of h2, ?_, fun pr Ts H3 hpr e3 hpr3 hl hprs => ?_⟩
    · rw [nL_len, List.length_map, List.length_map, List.length_range, hzl]
    have hlT : Ts.length = l.seg := by rw [hl, nL_len, List.length_map, List.length_range]
    have E3 : Ex H (upd H3 pr (.lst (Ts.map V.ref))) := e1.trans (e2.trans (e3.trans (Ex.new hpr3)))
    have row : ∀ i, i < l.seg → ∃ (Tq : Addr) (cn : Nat) (ag : Int), Ts[i]? = some Tq ∧ cn ≤ 1000 ∧ (upd H3 pr (.lst (Ts.map V.ref))) Tq = some (.tup [nV cn, .int ag]) := fun i hi => by
      obtain ⟨x, y, q1, q2, q3⟩ := hprs i Ts[i] (List.getElem?_eq_getElem (by omega))
      obtain ⟨cn, q1', rfl⟩ := nL_get q1
      rw [List.getElem?_map] at q1' q2
      rw [List.getElem?_range hi] at q1'
      have q1' : cnt l L.T i = cn := Option.some.inj q1'
      have hcl := cnt_le lo g i
      have hpy := lo.pay1
      cases hz : zs[i]? with
      | none => rw [hz] at q2; cases q2
      | some ag =>
        rw [hz] at q2
        have q2 : V.int ag = y := Option.some.inj q2
        exact ⟨Ts[i], cn, ag, List.getElem?_eq_getElem (by omega), by omega, by rw [q2, upd_ne (ne_of_none q3 hpr3)]; exact q3⟩
    refine q_asgL (el_lst ea_nil (Nat.le_of_ble_eq_true rfl)) fun od H4 hod e4 h4 => ?_
    have h4' := (h.mono E3).mono e4
    have row4 : ∀ (H' : Hp), Ex (upd H3 pr (.lst (Ts.map V.ref))) H' → ∀ i, i < l.seg → ∃ (Tq : Addr) (cn : Nat) (ag : Int), Ts[i]? = some Tq ∧ cn ≤ 1000 ∧ H' Tq = some (.tup [nV cn, .int ag]) := fun H' e i hi => by
      obtain ⟨Tq, cn, ag, r1, r2, r3⟩ := row i hi
      exact ⟨Tq, cn, ag, r1, r2, e _ _ r3⟩
    refine q_forNLn (xs := nL (cands l L.T)) (el_call2 (ea_cons (ev_var rfl) ea_nil) fun H5 e5 Q E q => ⟨A, l, L, rfl, h4'.mono e5, g, q⟩)
      (fun pc j σ' H' => ∃ x4 x5 order, σ' = [some (.ref A.lg), some (.str pol), some (.ref pr), some (.ref od), x4, x5] ∧ Ex (upd H3 pr (.lst (Ts.map V.ref))) H' ∧ H' pc = some (.lst (nL (cands l L.T))) ∧ pc ≠ od ∧ H' od = some (.lst (nL order)) ∧ order.length = j ∧ ∀ s ∈ order, s < l.seg)
      (fun pc H5 hpc e5 h5 => ⟨none, none, [], rfl, e4.trans e5, h5, (fun z => by rw [z, h4] at hpc; cases hpc), e5 _ _ h4, rfl, fun s hs => (nomatch hs)⟩) (fun pc j σ' H' _ ⟨_, _, _, _, _, q, _⟩ => sq_of q) ?_ ?_
    · rintro pc j x σ' H' hj ⟨x4, x5, order, rfl, eH, hpc, hne, hod', hlo, hls⟩
      obtain ⟨sg, hsg, rfl⟩ := nL_get hj
      have hsl : sg < l.seg := (mem_cands.mp (List.mem_of_getElem? hsg)).1
      have hjl : j < l.seg := by
        have q1 := (List.getElem?_eq_some_iff.mp hsg).1
        have := List.length_filter_le (fun s => decide (s ∉ L.T.queue ∧ 1 ≤ cnt l L.T s ∧ cnt l L.T s ≤ l.pay - 1)) (List.range l.seg)
        rw [List.length_range] at this
        have : (cands l L.T).length ≤ l.seg := this
        omega
      refine q_asg (v := nV order.length) (ev_is (ev_len (ev_var rfl) (sq_of hod')) (by rw [nL_len])) fun H6 e6 => ?_
      refine ⟨fun m σ2 H2 => m ≤ order.length ∧ σ2 = [some (.ref A.lg), some (.str pol), some (.ref pr), some (.ref od), some (nV sg), some (nV m)] ∧ Ex H' H2, ⟨order.length, Nat.le_refl _, rfl, e6⟩, ?_⟩
      rintro m σ2 H2 ⟨hle, rfl, e7⟩
      refine (et_cmp (b := decide (0 < (m : Int))) (ev_var rfl) ev_c rv_I0) H2 (Ex.refl H2) _ fun H8 e8 => ?_
      have fin : ∀ (D : Ends) (H9 : Hp), Ex H' H9 → (∀ x4 x5 (order : List Nat) H'', Ex (upd H3 pr (.lst (Ts.map V.ref))) H'' → H'' pc = some (.lst (nL (cands l L.T))) → H'' od = some (.lst (nL order)) → order.length = j + 1 → (∀ s ∈ order, s < l.seg) → D.nx [some (.ref A.lg), some (.str pol), some (.ref pr), some (.ref od), x4, x5] H'') →
          tDrop (tBM K "list" rIns (tVar 3) (tCons (tVar 5) (tCons (tVar 4) tNil))) D [some (.ref A.lg), some (.str pol), some (.ref pr), some (.ref od), some (nV sg), some (nV m)] H9 := fun D H9 e9 kn => by
        refine s_ins (i := m) (e9 _ _ hod') (ev_var rfl) (ev_var rfl) (ev_var rfl) (by rw [nL_len]; omega) (by omega) fun H10 e10 => ?_
        refine kn _ _ (order.take m ++ [sg] ++ order.drop m) _ (Ex.mut ((eH.trans e9).trans e10) hod) ?_ ?_ ?_ ?_
        · rw [upd_ne hne]
          exact e10 _ _ (e9 _ _ hpc)
        · rw [upd_same]
          simp
        · simp
          omega
        · intro s hs
          rcases List.mem_append.mp hs with hs | hs
          · rcases List.mem_append.mp hs with hs | hs
            · exact hls s (List.mem_of_mem_take hs)
            · rw [List.mem_singleton.mp hs]; exact hsl
          · exact hls s (List.mem_of_mem_drop hs)
      by_cases hm : 0 < m
      · rw [if_pos (decide_eq_true (by omega))]
        have E8 := e7.trans e8
        have hl8 := h4'.dev.la
        have hod8 := E8 _ _ hod'
        have hat : m - 1 < order.length := by omega
        obtain ⟨Tq, cn, ag, r1, r2, r3⟩ := row4 H8 (eH.trans E8) sg hsl
        obtain ⟨Tr, cr, ar, t1, t2, t3⟩ := row4 H8 (eH.trans E8) (order[m - 1]) (hls _ (List.getElem_mem hat))
        have hpr8 : H8 pr = some (.lst (Ts.map V.ref)) := E8 _ _ (eH _ _ upd_same)
        have hla8 := (h.mono E3).mono (eH.trans E8)
        refine tt_callB (vs := [.str pol, nV l.pay, .ref Tq, .ref Tr]) (ea_cons (ev_var rfl) (ea_cons (yv_payload T hla8.dev.la (lv_layout T hla8 (ev_var rfl))) (ea_cons (ev_op (ev_var rfl) (ev_var rfl) (rv_ixL (sq_of hpr8) (atI_of (by rw [List.getElem?_map, r1]; rfl))))
          (ea_cons (ev_op (ev_var rfl) (ev_op (ev_var rfl) (ev_is (ev_op (ev_var rfl) ev_c rv_I0) (show V.int ((m : Int) - 1) = nV (m - 1) by rw [show ((m : Int) - 1) = ((m - 1 : Nat) : Int) by omega])) (rv_ixL (sq_of hod8) (atI_of (x := nV order[m - 1]) (by rw [List.getElem?_map, List.getElem?_eq_getElem hat]; rfl)))) (rv_ixL (sq_of hpr8) (atI_of (by rw [List.getElem?_map, t1]; rfl)))) ea_nil)))) fun H9 e9 => ?_
        refine ⟨pol, l.pay, cn, cr, ag, ar, Tq, Tr, rfl, by have := lo.pay1; omega, r2, t2, e9 _ _ r3, e9 _ _ t3, fun v H10 e10 hv => ?_⟩
        obtain ⟨r, rfl⟩ := hv
        refine ⟨r, rfl, ?_⟩
        cases r with
        | true =>
          refine iteT ?_
          refine ⟨fun σ' H'' => σ' = [some (.ref A.lg), some (.str pol), some (.ref pr), some (.ref od), some (nV sg), some (nV (m - 1))] ∧ Ex H' H'', fun σ' H'' ⟨q1, q2⟩ => ⟨m - 1, by omega, by omega, q1, q2⟩, ?_⟩
          exact s_asg (ev_is (ev_op (ev_var rfl) ev_c rv_I0) (show V.int ((m : Int) - 1) = nV (m - 1) by rw [show ((m : Int) - 1) = ((m - 1 : Nat) : Int) by omega])) fun H11 e11 => ⟨rfl, E8.trans (e9.trans (e10.trans e11))⟩
        | false =>
          refine iteF ?_
          exact fin _ _ (E8.trans (e9.trans e10)) fun x4 x5 order H'' q1 q2 q3 q4 q5 => ⟨x4, x5, order, rfl, q1, q2, hne, q3, q4, q5⟩
      · rw [if_neg (by simp; omega)]
        refine iteF ?_
        exact fin _ _ (e7.trans e8) fun x4 x5 order H'' q1 q2 q3 q4 q5 => ⟨x4, x5, order, rfl, q1, q2, hne, q3, q4, q5⟩
    · rintro pc σ' H' ⟨x4, x5, order, rfl, eH, hpc, hne, hod', hlo, hls⟩
      refine s_ret (ev_var rfl) fun H5 e5 => k _ _ (E3.trans (eH.trans e5)) ⟨od, order, rfl, fresh_back E3 hod, e5 _ _ hod', ?_⟩
      rw [hlo, nL_len]
      have := List.length_filter_le (fun s => decide (s ∉ L.T.queue ∧ 1 ≤ cnt l L.T s ∧ cnt l L.T s ≤ l.pay - 1)) (List.range l.seg)
      rw [List.length_range] at this
      have : (cands l L.T).length ≤ l.seg := this
      omega
end
end Sg

set_option maxHeartbeats 4000000
/-! rules of our own: == and in of lists, for one program; None against a dict -/
namespace Sg
open PySem PySem.Spec PyProof.Rows
open AutoSeq1 (wpAny_loadPart')
open MeetsSeq MeetsSeq2 MeetsSeq3 SeqRoads2 SeqAt
section
variable {prog : Program} {w : World}
theorem has_loopIn (l : Addr) (items : Array Value) (n : Nat) (dd : Option Addr) (sl : Array (Option Value)) (x : Value) (e : Nat → Bool) (k : Nat) :
    ∀ i : Nat, items.size - i = k → MeetsIn prog w (Builtin.«list.__contains__.loop» ⟨[.ref l, x, rawInt i], []⟩)
      (fun A R s => s.heap.get? l = some { cls := .type "list", dict := dd, data := .seq items n, slots := sl } ∧ (∀ j (h1 : j < items.size), EqP prog w A.in1 s items[j] x (e j)) ∧ R (.ok (.ret (.bool (((List.range items.size).drop i).any e)))) s) := by
  induction k with
  | zero =>
    intro i hk A R s h
    obtain ⟨hp, g, d, tk, os⟩ := s; obtain ⟨hl, he, h⟩ := h
    wp_walk using wpAny_loadPart' hl
    have hi : items[((i : Nat) : Int).toNat]? = none := by simp; omega
    have hd : (List.range items.size).drop i = [] := by simp; omega
    rw [hd] at h
    rw [hi]
    wp_walk
    exact h
  | succ k ih =>
    intro i hk A R s h
    obtain ⟨hp, g, d, tk, os⟩ := s; obtain ⟨hl, he, h⟩ := h
    wp_walk using wpAny_loadPart' hl
    have hlt : i < items.size := by omega
    have hi : items[((i : Nat) : Int).toNat]? = some items[i] := by simp [hlt]
    have hd : (List.range items.size).drop i = i :: (List.range items.size).drop (i + 1) := by simp [List.drop_eq_getElem_cons, hlt]
    rw [hd, List.any_cons] at h
    rw [hi]
    refine wpAny_bind (he i hlt _ _ ?_)
    cases hb : e i with
    | true =>
      rw [hb] at h
      wp_walk
      exact h
    | false =>
      rw [hb] at h
      have hc : ((i : Int) + 1) = ((i + 1 : Nat) : Int) := by push_cast; rfl
      wp_walk
      rw [hc]
      exact ⟨plainId_quiet plain_contains_loop _, codeAny_builtin entry_contains_loop (by
        rw [Around.under_plainId plain_contains_loop _]
        exact ih (i + 1) (by omega) A R _ ⟨hl, he, by simpa using h⟩)⟩
theorem list_containsIn (l : Addr) (items : Array Value) (n : Nat) (dd : Option Addr) (sl : Array (Option Value)) (x : Value) (e : Nat → Bool) :
    MeetsIn prog w (Builtin.«list.__contains__» ⟨[.ref l, x], []⟩)
      (fun A R s => s.heap.get? l = some { cls := .type "list", dict := dd, data := .seq items n, slots := sl } ∧ (∀ j (h1 : j < items.size), EqP prog w A.in1 s items[j] x (e j)) ∧ R (.ok (.ret (.bool ((List.range items.size).any e)))) s) := by
  intro A R s h
  obtain ⟨hp, g, d, tk, os⟩ := s; obtain ⟨hl, he, h⟩ := h
  wp_walk using wpAny_loadPart' hl
  exact ⟨plainId_quiet plain_contains_loop _, codeAny_builtin entry_contains_loop (by
    rw [Around.under_plainId plain_contains_loop _]
    exact has_loopIn l items n dd sl x e _ 0 rfl A R _ ⟨hl, he, by simpa using h⟩)⟩
section
variable {A : Around} {E : Value → Shared → Prop} {s : Shared}
theorem notIn_listP {l : Addr} {items : Array Value} {x : Value} {Q : Value → Shared → Prop} (e : Nat → Bool) (hl : s.heap.IsList l items) (he : ∀ j (h1 : j < items.size), EqP prog w A.in1 s items[j] x (e j))
    (h : Q (.bool (!(List.range items.size).any e)) s) : wpAny (model prog w) A (compareOp .NotIn x (.ref l)) Q E s := by
  obtain ⟨⟨cls, dd, data, sl⟩, ho, hc, n, hd⟩ := id hl
  simp only at hc hd
  subst hc hd
  have hT : s.TypeIs (.ref l) "list" := ⟨_, ho, rfl⟩
  show wpAny _ A (do return .bool (!(← contains (.ref l) x))) Q E s
  refine wpAny_bind (wpAny_contains_slot hT F.slot_list_contains (wpAny_mono (call_meetsIn (E := E) (Q := fun v s' => ∃ b, v = .bool b ∧ Q (.bool (!b)) s') F.slot_list_contains hT F.entry_list_contains (F.args_list_contains_2 _ _) (list_containsIn l items n dd sl x e) ⟨ho, he, _, rfl, h⟩) (fun v s' hv => ?_) fun _ _ e => e))
  obtain ⟨b, rfl, hq⟩ := hv
  exact wpAny_truthy_bool (wpAny_pure hq)
end
theorem ne_loopIn (l b : Addr) (items items2 : Array Value) (n n2 : Nat) (dd dd2 : Option Addr) (sl sl2 : Array (Option Value)) (hsz : items.size = items2.size) (e : Nat → Bool) (k : Nat) :
    ∀ i : Nat, items.size - i = k → MeetsIn prog w (Builtin.«list.__eq__.loop» ⟨[.ref l, .ref b, rawInt i, rawInt 3], []⟩)
      (fun A R s => s.heap.get? l = some { cls := .type "list", dict := dd, data := .seq items n, slots := sl } ∧ s.heap.get? b = some { cls := .type "list", dict := dd2, data := .seq items2 n2, slots := sl2 } ∧
        (∀ j (h1 : j < items.size) (h2 : j < items2.size), EqP prog w A.in1 s items[j] items2[j] (e j)) ∧
        R (.ok (.ret (.bool (!((List.range items.size).drop i).all e)))) s) := by
  induction k with
  | zero =>
    intro i hk A R s h
    obtain ⟨hp, g, d, tk, os⟩ := s; obtain ⟨hl, hb, he, h⟩ := h
    wp_walk using wpAny_loadPart' hl, wpAny_loadPart' hb
    have hi1 : items[((i : Nat) : Int).toNat]? = none := by simp; omega
    have hi2 : items2[((i : Nat) : Int).toNat]? = none := by simp; omega
    have hd : (List.range items.size).drop i = [] := by simp; omega
    rw [hd] at h
    rw [hi1, hi2]
    wp_walk using wpAny_loadPart' hl, wpAny_loadPart' hb
    show R (.ok (.ret (.bool (items.size != items2.size)))) _
    rw [hsz]
    simpa using h
  | succ k ih =>
    intro i hk A R s h
    obtain ⟨hp, g, d, tk, os⟩ := s; obtain ⟨hl, hb, he, h⟩ := h
    wp_walk using wpAny_loadPart' hl, wpAny_loadPart' hb
    have hlt : i < items.size := by omega
    have hlt2 : i < items2.size := by omega
    have hi1 : items[((i : Nat) : Int).toNat]? = some items[i] := by simp [hlt]
    have hi2 : items2[((i : Nat) : Int).toNat]? = some items2[i] := by simp [hlt2]
    have hd : (List.range items.size).drop i = i :: (List.range items.size).drop (i + 1) := by simp [List.drop_eq_getElem_cons, hlt]
    have hc : ((i : Int) + 1) = ((i + 1 : Nat) : Int) := by push_cast; rfl
    rw [hd, List.all_cons] at h
    rw [hi1, hi2]
    refine wpAny_bind (he i hlt hlt2 _ _ ?_)
    cases hb' : e i with
    | true =>
      rw [hb'] at h
      wp_walk
      rw [hc]
      exact ⟨plainId_quiet plain_eq_loop _, codeAny_builtin entry_eq_loop (by
        rw [Around.under_plainId plain_eq_loop _]
        exact ih (i + 1) (by omega) A R _ ⟨hl, hb, he, by simpa using h⟩)⟩
    | false =>
      rw [hb'] at h
      wp_walk using wpAny_loadPart' hl, wpAny_loadPart' hb
      rw [hi1, hi2]
      wp_walk
      simpa using h
theorem list_neIn (l b : Addr) (items items2 : Array Value) (n n2 : Nat) (dd dd2 : Option Addr) (sl sl2 : Array (Option Value)) (hsz : items.size = items2.size) (e : Nat → Bool) :
    MeetsIn prog w (Builtin.«list.__ne__» ⟨[.ref l, .ref b], []⟩)
      (fun A R s => s.heap.get? l = some { cls := .type "list", dict := dd, data := .seq items n, slots := sl } ∧ s.heap.get? b = some { cls := .type "list", dict := dd2, data := .seq items2 n2, slots := sl2 } ∧
        (∀ j (h1 : j < items.size) (h2 : j < items2.size), EqP prog w A.in1 s items[j] items2[j] (e j)) ∧
        R (.ok (.ret (.bool (!(List.range items.size).all e)))) s) := by
  intro A R s h
  obtain ⟨hp, g, d, tk, os⟩ := s; obtain ⟨hl, hb, he, h⟩ := h
  have f3 := AutoSeq1.sub_list_list
  have hne : ¬ (items.size != items2.size) = true := by simp [hsz]
  wp_walk using wpAny_loadPart' hl, wpAny_loadPart' hb
  exact ⟨plainId_quiet plain_eq_loop _, codeAny_builtin entry_eq_loop (by
    rw [Around.under_plainId plain_eq_loop _]
    exact ne_loopIn l b items items2 n n2 dd dd2 sl sl2 hsz e _ 0 rfl A R _ ⟨hl, hb, he, by simpa using h⟩)⟩
theorem rcN_lists {A : Around} {s : Shared} {l b : Addr} {items items2 : Array Value} {e : Nat → Bool} (hl : s.heap.IsList l items) (hb : s.heap.IsList b items2) (hsz : items.size = items2.size) (hu : A.units < cLine)
    (he : ∀ j (h1 : j < items.size) (h2 : j < items2.size), EqP prog w A.in1 s items[j] items2[j] (e j)) (E Q : Value → Shared → Prop) (h : Q (.bool (!(List.range items.size).all e)) s) : wpAny (model prog w) A (richCompare .NotEq (.ref l) (.ref b)) Q E s := by
  obtain ⟨⟨cls, dd, data, sl⟩, ho, hc, n, hd⟩ := id hl
  obtain ⟨⟨cls2, dd2, data2, sl2⟩, ho2, hc2, n2, hd2⟩ := id hb
  simp only at hc hd hc2 hd2
  subst hc hd hc2 hd2
  have ta : s.TypeIs (.ref l) "list" := ⟨_, ho, rfl⟩
  have tb : s.TypeIs (.ref b) "list" := ⟨_, ho2, rfl⟩
  exact wpAny_richCompare_same_room (op := .NotEq) ta tb F.slot_list_ne (call_meetsIn F.slot_list_ne ta F.entry_list_ne (F.args_list_ne_2 _ _) (list_neIn l b items items2 n n2 dd dd2 sl sl2 hsz e)
    ⟨ho, ho2, he, show Value.bool (!(List.range items.size).all e) ≠ Value.notImplemented ∧ Q (.bool (!(List.range items.size).all e)) s from ⟨(fun x => nomatch x), h⟩⟩) hu
/-- dict.__eq__ of a dict and None declines -/
theorem dict_eq_none {A : Around} {E : Value → Shared → Prop} {s : Shared} {a : Addr} (ha : s.TypeIs (.ref a) "dict") {Q : Value → Shared → Prop} (h : Q .notImplemented s) : wpAny (model prog w) A (call (.builtin "dict.__eq__") [.ref a, .none]) Q E s := by
  refine wpAny_call_entry PySem.F.slot_dict_eq ha PySem.F.entry_dict_eq ?_ (PySem.F.args_dict_eq_2 _ _)
  show wpAny _ _ (Builtin.Dict.dictSlotArgs "__eq__" ⟨[.ref a, .none], []⟩ >>= _) _ _ s
  refine wpAny_bind ?_
  unfold Builtin.Dict.dictSlotArgs
  refine wpAny_bind (wpAny_notOrdered_dict ha ?_)
  show wpAny _ _ (pure (Value.ref a, Value.none)) _ _ s
  refine wpAny_pure ?_
  have tn : s.TypeIs Value.none "NoneType" := rfl
  refine wpAny_bind (wpAny_isInstance (T := "NoneType") tn PySem.F.sub_NoneType_dict ?_)
  simp only [Bool.not_false, if_true]
  exact wpAny_bind (wpAny_rule (wpAny_pure ⟨_, rfl, h⟩))
theorem rcP_dict_none {A : Around} {s : Shared} {a : Addr} (ha : s.TypeIs (.ref a) "dict") (hu : A.units < cLine) (E Q : Value → Shared → Prop) (h : Q (.bool false) s) : wpAny (model prog w) A (richCompare .Eq (.ref a) .none) Q E s :=
  rc_eq_decline_or (k := false) ha rfl (by decide) F.sub_NoneType_dict F.slot_dict_eq F.slot_NoneType_eq_refl
    (fun _ hq => dict_eq_none ha hq)
    (fun _ hq => call_gives F.slot_NoneType_eq_refl rfl F.entry_NoneType_eq (F.args_NoneType_eq_2 _ _) (NoneType___eq___none_ref_0 a) hq)
    (fun _ hq => wpAny_of_eq (rfl : isSame (.ref a) .none = pure false) hq) (.inr hu) h
theorem rcP_none_dict {A : Around} {s : Shared} {a : Addr} (ha : s.TypeIs (.ref a) "dict") (hu : A.units < cLine) (E Q : Value → Shared → Prop) (h : Q (.bool false) s) : wpAny (model prog w) A (richCompare .Eq .none (.ref a)) Q E s :=
  rc_eq_decline_or (k := false) rfl ha (by decide) F.sub_dict_NoneType F.slot_NoneType_eq F.slot_dict_eq_refl
    (fun _ hq => call_gives F.slot_NoneType_eq rfl F.entry_NoneType_eq (F.args_NoneType_eq_2 _ _) (NoneType___eq___none_ref_0 a) hq)
    (fun _ hq => dict_eq_none ha hq)
    (fun _ hq => wpAny_of_eq (rfl : isSame .none (.ref a) = pure false) hq) (.inr hu) h
theorem eqP_dict_none {A : Around} {s : Shared} {a : Addr} (ha : s.TypeIs (.ref a) "dict") (hu : A.units < cLine) : EqP prog w A s (.ref a) .none false := fun E Q hq => by
  unfold eqBool
  refine wpAny_holding ?_
  refine wpAny_ite_split (fun hab => absurd (eq_of_beq hab) nofun) (fun _ => ?_)
  exact wpAny_bind (rcP_dict_none ha hu E _ (wpAny_truthy_bool hq))
theorem eqP_none_dict {A : Around} {s : Shared} {a : Addr} (ha : s.TypeIs (.ref a) "dict") (hu : A.units < cLine) : EqP prog w A s .none (.ref a) false := fun E Q hq => by
  unfold eqBool
  refine wpAny_holding ?_
  refine wpAny_ite_split (fun hab => absurd (eq_of_beq hab) nofun) (fun _ => ?_)
  exact wpAny_bind (rcP_none_dict ha hu E _ (wpAny_truthy_bool hq))
end
end Sg

set_option maxHeartbeats 4000000
namespace Sg
open PySem PySem.Spec PyProof.Rows L2 Evl
section
variable {P : Program} {w : World} {K : PySem.W.Frag} {mg : Str → Option Value} {base : Heap}
/-! ### _law_row -/
def rInt1 : List V → Hp → VK → Prop := fun xs H Q => (∃ i, xs = [.int i] ∧ Q (.int i) H) ∨ ∃ k, xs = [.bl k] ∧ Q (.int (if k then 1 else 0)) H
theorem rc_int {H : Hp} {i : Int} : RC rInt1 [.int i] H (.int i) := fun H1 _ _ q => .inl ⟨i, rfl, q H1 (Ex.refl H1)⟩
theorem rc_intB {H : Hp} {b : Bool} : RC rInt1 [.bl b] H (.int (if b then 1 else 0)) := fun H1 _ _ q => .inr ⟨b, rfl, q H1 (Ex.refl H1)⟩
theorem ev_int {σ : L2.St} {H : Hp} {te : TE} {i : Int} (h : Ev te σ H (.int i)) : Ev (tCB rInt1 (tCons te tNil)) σ H (.int i) := ev_cb (ea_cons h ea_nil) rc_int
theorem ev_modN {σ : L2.St} {H : Hp} {ta tb : TE} {i j : Nat} (ha : Ev ta σ H (nV i)) (hb : Ev tb σ H (nV j)) (hj : 0 < j) : Ev (tOp (rI (fun _ j => 0 < j) fun i j => .int (i % j)) ta tb) σ H (nV (i % j)) :=
  ev_is (ev_op ha hb (rv_I (by show (0 : Int) < _; omega))) (by rw [← Int.natCast_emod])
theorem ev_divN {σ : L2.St} {H : Hp} {ta tb : TE} {i j : Nat} (ha : Ev ta σ H (nV i)) (hb : Ev tb σ H (nV j)) (hj : 0 < j) (hj2 : j < 1073741824) : Ev (tOp (rI CDiv fun i j => .int (i / j)) ta tb) σ H (nV (i / j)) :=
  ev_is (ev_op ha hb (rv_I ⟨by omega, by omega⟩)) (by rw [← Int.natCast_ediv])
theorem ev_addN {σ : L2.St} {H : Hp} {ta tb : TE} {i j : Nat} (ha : Ev ta σ H (nV i)) (hb : Ev tb σ H (nV j)) : Ev (tOp (rI0 fun i j => .int (i + j)) ta tb) σ H (nV (i + j)) :=
  ev_is (ev_op ha hb rv_I0) (by rw [← Int.natCast_add])
theorem ev_mulN {σ : L2.St} {H : Hp} {ta tb : TE} {i j : Nat} (ha : Ev ta σ H (nV i)) (hb : Ev tb σ H (nV j)) (hj : i < 18446744073709551616 ∨ j < 18446744073709551616) : Ev (tOp (rI CMul fun i j => .int (i * j)) ta tb) σ H (nV (i * j)) :=
  ev_is (ev_op ha hb (rv_I (hj.imp (fun h => ⟨by omega, by omega⟩) fun h => ⟨by omega, by omega⟩))) (by rw [← Int.natCast_mul])
theorem ev_nC {σ : L2.St} {H : Hp} (n : Nat) : Ev (tC (.int (n : Int))) σ H (nV n) := ev_c
def sp_law_row (K : PySem.W.Frag) : Sp := fun vs H Q _ => ∃ (p : Addr) (ns : List Int) (k : Nat), vs = [.ref p, nV k] ∧ SqL K H p (ns.map V.int) ∧ ns.length ≤ 63 ∧ k ≤ 100000 ∧ RetP (fun v _ => ∃ n : Nat, v = nV n) H Q
abbrev nm_law_row : List Str := ["_law_script", "_law_k", "_law_cell", "_law_first", "_law_second"]
theorem sc_law_row : FnScope nm_law_row ["_law_script", "_law_k"] (defScope s_law_row) := ⟨rfl, rfl, rfl, by decide +kernel, rfl, by decide +kernel, by decide +kernel⟩
theorem ok_law_row (T : Ctx K mg base) : Okd P w K mg base 1 (He.ga K "_law_row") ["_law_script", "_law_k"] (sp_law_row K) := by
  obtain ⟨fd, F⟩ := T.def_law_row
  have b : Binds K fd ["_law_script", "_law_k"] [] := FunD.bindsN F fun _ _ _ _ _ _ us hl => match us, hl with | [_, _], _ => rfl
  refine ⟨fd, FunD.ok F sc_law_row (fun vs H Q E h => ?_) (fun cdv A outer s H vs Q E hr h => ?_), b, F.kp⟩
  · obtain ⟨p, ns, k, rfl, _⟩ := h
    rfl
  · obtain ⟨p, ns, k, rfl, hp, hl, hk, q⟩ := h
    refine ⟨_, PSs.nox (pss_cons (ps_set (i := 2) sc_law_row.nd rfl (Or.inl rfl) pe_int)
      (pss_cons (ps_if (pt_cmpR op_gt (pe_callB call_len_seq (by rfl) T.free_len PySem.boot_len (pa_cons (pv 0) pa_nil)) pe_int (nomark _)) (pss_one (ps_set (i := 2) sc_law_row.nd rfl (Or.inl rfl) (pe_ix ix_list (pv 0) (pe_op op_mod (pe_callTy call_int1 (by rfl) T.free_int (by decide +kernel) (pa_cons (pv 1) pa_nil)) (pe_callB call_len_seq (by rfl) T.free_len PySem.boot_len (pa_cons (pv 0) pa_nil))) (fun _ _ => rfl)))) pss_nil)
      (pss_cons (ps_if (pt_cmpR op_lt (pv 2) pe_int (nomark _)) (pss_one (ps_set (i := 2) sc_law_row.nd rfl (Or.inl rfl) (pe_op op_sub pe_int (pe_op op_mul pe_int (pv 2))))) pss_nil)
      (pss_cons (ps_if (PW.pt (pw_and (pt_cmpR op_ge (pv 2) (pe_op op_pow pe_int pe_int) (nomark _)) (pw_and1 (pt_cmpR op_lt (pv 1) (pe_callB call_len_seq (by rfl) T.free_len PySem.boot_len (pa_cons (pv 0) pa_nil)) (nomark _))))) (pss_one (ps_ret (pv 2))) pss_nil)
      (pss_cons (ps_set (i := 3) sc_law_row.nd rfl (Or.inl rfl) (pe_op op_mod (pe_callTy call_int1 (by rfl) T.free_int (by decide +kernel) (pa_cons (pe_op op_add (pe_op op_add (pe_op op_mul (pv 2) pe_int) (pe_op op_mul (pe_op op_add (pv 1) pe_int) pe_int)) (pe_callB call_len_seq (by rfl) T.free_len PySem.boot_len (pa_cons (pv 0) pa_nil))) pa_nil)) pe_int))
      (pss_cons (ps_set (i := 4) sc_law_row.nd rfl (Or.inl rfl) (pe_op op_mod (pe_callTy call_int1 (by rfl) T.free_int (by decide +kernel) (pa_cons (pe_op op_add (pe_op op_add (pe_op op_mul (pv 3) (pv 3)) (pe_op op_mul (pv 2) pe_int)) (pv 1)) pa_nil)) pe_int))
      (pss_one (ps_ret (pe_op op_add (pe_op op_mul (pv 4) pe_int) (pe_op op_mod (pe_callTy call_int1 (by rfl) T.free_int (by decide +kernel) (pa_cons (pe_op op_mul (pv 3) pe_int) pa_nil)) pe_int)))))))))), ?_⟩
    have ln : ∀ {σ : L2.St} {H'}, Ex H H' → σ[0]? = some (some (.ref p)) → Ev (tCB (rLenS K) (tCons (tVar 0) tNil)) σ H' (nV ns.length) := fun e hs => ev_is (ev_len (ev_var hs) (ex_l e hp)) (by rw [List.length_map])
    refine q_asg ev_c fun H1 e1 => ?_
    refine q_whenAsg (b := decide ((ns.length : Int) > 0)) (R := fun v _ => ∃ c : Int, v = .int c) (et_cmp (ln e1 rfl) ev_c rv_I0) (fun hb => ?_) (fun σ' H2 e2 h2 => ?_)
    · have hpos : 0 < ns.length := by have := of_decide_eq_true hb; omega
      have hlt : k % ns.length < ns.length := Nat.mod_lt _ hpos
      refine Ev.p (v := .int ns[k % ns.length]) (ev_op (ev_var rfl) (ev_modN (ev_int (ev_var rfl)) (ln e1 rfl) hpos) (rv_ixL (ex_l e1 hp) (atI_of (by rw [List.getElem?_map, List.getElem?_eq_getElem hlt]; rfl)))) fun _ _ => ⟨_, rfl⟩
    have h2' : ∃ c : Int, σ' = [some (.ref p), some (nV k), some (.int c), none, none] := by
      rcases h2 with ⟨_, v, rfl, c, rfl⟩ | ⟨_, rfl⟩
      · exact ⟨c, rfl⟩
      · exact ⟨0, rfl⟩
    obtain ⟨c, rfl⟩ := h2'
    refine q_whenAsg (b := decide (c < 0)) (R := fun v _ => v = .int (1 - 2 * c)) (et_cmp (ev_var rfl) ev_c rv_I0) (fun hb => ?_) (fun σ' H3 e3 h3 => ?_)
    · exact Ev.p (ev_op ev_c (ev_op ev_c (ev_var rfl) (rv_I (.inl ⟨by decide, by decide⟩))) rv_I0) fun _ _ => rfl
    have h3' : ∃ n : Nat, σ' = [some (.ref p), some (nV k), some (nV n), none, none] := by
      rcases h3 with ⟨hb, v, rfl, rfl⟩ | ⟨hb, rfl⟩
      · have hb := of_decide_eq_true hb
        refine ⟨(1 - 2 * c).toNat, ?_⟩
        show [some (V.ref p), some (nV k), some (V.int (1 - 2 * c)), none, none] = [some (V.ref p), some (nV k), some (V.int ((1 - 2 * c).toNat : Int)), none, none]
        rw [show (((1 - 2 * c).toNat : Nat) : Int) = 1 - 2 * c by omega]
      · have hb := of_decide_eq_false hb
        refine ⟨c.toNat, ?_⟩
        show [some (V.ref p), some (nV k), some (V.int c), none, none] = [some (V.ref p), some (nV k), some (V.int (c.toNat : Int)), none, none]
        rw [show ((c.toNat : Nat) : Int) = c by omega]
    obtain ⟨n, rfl⟩ := h3'
    have E3 := e1.trans (e2.trans e3)
    refine q_when (et_and (et_cmp (ev_var rfl) (ev_op ev_c ev_c (rv_I ⟨by decide, by decide, by decide⟩)) rv_I0) fun _ => et_cmp (ev_var rfl) (ln E3 rfl) rv_I0) (fun _ H4 e4 => ?_) (fun _ H4 e4 => ?_)
    · exact s_ret (ev_var rfl) fun H5 e5 => q _ _ (E3.trans (e4.trans e5)) ⟨n, rfl⟩
    have E4 := E3.trans e4
    refine q_asg (ev_modN (ev_int (ev_addN (ev_addN (ev_mulN (ev_var rfl) (ev_nC 48271) (.inr (by decide))) (ev_mulN (ev_addN (ev_var rfl) (ev_nC 1)) (ev_nC 69621) (.inr (by decide)))) (ln E4 rfl))) (ev_nC 2147483647) (by decide)) fun H5 e5 => ?_
    have hf := Nat.mod_lt (n * 48271 + (k + 1) * 69621 + ns.length) (show 0 < 2147483647 by decide)
    generalize (n * 48271 + (k + 1) * 69621 + ns.length) % 2147483647 = f at hf ⊢
    refine q_asg (ev_modN (ev_int (ev_addN (ev_addN (ev_mulN (ev_var rfl) (ev_var rfl) (.inr (by omega))) (ev_mulN (ev_var rfl) (ev_nC 16807) (.inr (by decide)))) (ev_var rfl))) (ev_nC 2147483629) (by decide)) fun H6 e6 => ?_
    exact s_ret (ev_addN (ev_mulN (ev_var rfl) (ev_nC 2147483647) (.inr (by decide))) (ev_modN (ev_int (ev_mulN (ev_var rfl) (ev_nC 40692) (.inr (by decide)))) (ev_nC 2147483399) (by decide))) fun H7 e7 => q _ _ (E4.trans (e5.trans (e6.trans e7))) ⟨_, rfl⟩
/-! ### _law_digits -/
def Dig : List Nat → List Nat → Prop
  | [], [] => True
  | r :: rs, d :: ds => r < d ∧ Dig rs ds
  | _, _ => False
theorem Dig.snoc {r d : Nat} : ∀ {rs ds : List Nat}, Dig rs ds → r < d → Dig (rs ++ [r]) (ds ++ [d])
  | [], [], _, h => ⟨h, trivial⟩
  | _ :: _, _ :: _, h1, h => ⟨h1.1, Dig.snoc h1.2 h⟩
theorem Dig.cons {rs ds : List Nat} {d : Nat} (h : Dig rs (d :: ds)) : ∃ r rs', rs = r :: rs' ∧ r < d ∧ Dig rs' ds := by
  cases rs with
  | nil => exact h.elim
  | cons r rs => exact ⟨r, rs, rfl, h.1, h.2⟩
theorem Dig.nil {rs : List Nat} (h : Dig rs []) : rs = [] := by
  cases rs with
  | nil => rfl
  | cons r rs => exact h.elim
def sp_law_digits (K : PySem.W.Frag) : Sp := fun vs H Q _ => ∃ (n : Nat) (p : Addr) (ds : List Nat), vs = [nV n, .ref p] ∧ H p = some (.lst (nL ds)) ∧ ds.length ≤ 20 ∧ (∀ d ∈ ds, 1 ≤ d ∧ d < 1073741824) ∧
  RetP (fun v H2 => ∃ (q : Addr) (rs : List Nat), v = .ref q ∧ H q = none ∧ H2 q = some (.lst (nL rs)) ∧ Dig rs ds) H Q
abbrev nm_law_digits : List Str := ["_law_row_here", "_law_sizes", "_law_digits_here", "_law_size"]
theorem sc_law_digits : FnScope nm_law_digits ["_law_row_here", "_law_sizes"] (defScope s_law_digits) := ⟨rfl, rfl, rfl, by decide +kernel, rfl, by decide +kernel, by decide +kernel⟩
theorem ok_law_digits (T : Ctx K mg base) : Okd P w K mg base 1 (He.ga K "_law_digits") ["_law_row_here", "_law_sizes"] (sp_law_digits K) := by
  obtain ⟨fd, F⟩ := T.def_law_digits
  have b : Binds K fd ["_law_row_here", "_law_sizes"] [] := FunD.bindsN F fun _ _ _ _ _ _ us hl => match us, hl with | [_, _], _ => rfl
  refine ⟨fd, FunD.ok F sc_law_digits (fun vs H Q E h => ?_) (fun cdv A outer s H vs Q E hr h => ?_), b, F.kp⟩
  · obtain ⟨n, p, ds, rfl, _⟩ := h
    rfl
  · obtain ⟨n, p, ds, rfl, hp, hl, hd, k⟩ := h
    refine ⟨_, PSs.nox (pss_cons (ps_set (i := 2) sc_law_digits.nd rfl (Or.inl rfl) (pe_lst pa_nil))
      (pss_cons (ps_for PassesOwn.never rfl (pi_list (pv 1)) (pg_name (i := 3) sc_law_digits.nd rfl (Or.inl rfl)) (pss_cons (ps_expr (pe_bm PySem.F.plainAttrs_list PySem.F.slot_list_append PySem.F.type_list_append mt_append (pv 2) (pa_cons (pe_op op_mod (pe_callTy call_int1 (by rfl) T.free_int (by decide +kernel) (pa_cons (pv 0) pa_nil)) (pv 3)) pa_nil)))
      (pss_one (ps_set (i := 0) sc_law_digits.nd rfl (Or.inl rfl) (pe_op op_fdiv (pv 0) (pv 3))))))
      (pss_one (ps_ret (pv 2))))), ?_⟩
    refine q_asgL (el_lst ea_nil (Nat.le_of_ble_eq_true rfl)) fun q H1 hq e1 h1 => ?_
    have hpq : p ≠ q := ne_of_none hp hq
    refine q_forLn (a := p) (xs := nL ds) (ev_var rfl) (sq_of (e1 _ _ hp)) (fun j σ' H' => ∃ n' x rs, σ' = [some (nV n'), some (.ref p), some (.ref q), x] ∧ Ex H H' ∧ H' q = some (.lst (nL rs)) ∧ rs.length = j ∧ Dig rs (ds.take j))
      (fun H2 e2 => ⟨n, none, [], rfl, e1.trans e2, e2 _ _ h1, rfl, trivial⟩) (fun j σ' H' _ ⟨_, _, _, _, e, _⟩ => sq_of (e _ _ hp)) ?_ ?_
    · rintro j x σ' H' hj ⟨n', x0, rs, rfl, e, hq', hrl, dg⟩
      obtain ⟨d, hdj, rfl⟩ := nL_get hj
      have hd1 := hd d (List.mem_of_getElem? hdj)
      have hjl := (List.getElem?_eq_some_iff.mp hdj).1
      refine q_app hq' (ev_var rfl) (ev_modN (ev_int (ev_var rfl)) (ev_var rfl) hd1.1) (by rw [nL_len]; omega) fun H2 e2 => ?_
      refine s_asg (ev_divN (ev_var rfl) (ev_var rfl) hd1.1 hd1.2) fun H3 e3 => ?_
      refine ⟨_, _, rs ++ [n' % d], rfl, (Ex.mut (e.trans e2) hq).trans e3, ?_, by simp [hrl], ?_⟩
      · rw [e3 _ _ upd_same]
        simp
      · rw [take_snoc hdj]
        exact dg.snoc (Nat.mod_lt _ hd1.1)
    · rintro σ' H' ⟨n', x0, rs, rfl, e, hq', hrl, dg⟩
      rw [nL_len, List.take_length] at dg
      exact s_ret (ev_var rfl) fun H3 e3 => k _ _ (e.trans e3) ⟨q, rs, rfl, hq, e3 _ _ hq', dg⟩
end
end Sg

set_option maxHeartbeats 4000000
/-! readings of numbers that are not told whole; unpacking of new lists -/
namespace Sg
open PySem PySem.Spec PyProof.Rows L2 Evl
/-- some natural number with P -/
def EvN (te : TE) (σ : L2.St) (H : Hp) (P : Nat → Prop) : Prop := EvP te σ H fun v _ => ∃ n : Nat, v = nV n ∧ P n
section
variable {K : PySem.W.Frag} {σ : L2.St} {H H' : Hp} {ta tb te tx : TE} {t u : TT} {x y z v : V} {r : R2} {P P' : Nat → Prop} {D : Ends} {tu tw tz : L2.TS} {tA : TA} {vs : List V} {i j n : Nat}
theorem en_of (h : Ev te σ H (nV n)) (p : P n) : EvN te σ H P := Ev.p h fun _ _ => ⟨n, rfl, p⟩
theorem en_mono (h : EvN te σ H P) (m : ∀ n, P n → P' n) : EvN te σ H P' := EvP.mono h fun v H ⟨n, e, p⟩ => ⟨n, e, m n p⟩
theorem en_op {f : Nat → Nat} (h : EvN ta σ H P) (hb : Ev tb σ H y) (hr : ∀ n, P n → ∀ H1, RV r (nV n) y H1 (nV (f n))) (hq : ∀ n, P n → P' (f n)) : EvN (tOp r ta tb) σ H P' := fun H1 e Q q =>
  h H1 e _ fun v H2 e2 ⟨n, hv, p⟩ => by
    subst hv
    exact hb H2 (e.trans e2) _ fun H3 e3 => hr n p H3 H3 (Ex.refl H3) _ fun H4 e4 => q _ H4 ((e2.trans e3).trans e4) ⟨_, rfl, hq n p⟩
theorem en_mod (h : EvN ta σ H P) (hb : Ev tb σ H (nV j)) (hj : 0 < j) : EvN (tOp (rI (fun _ j => 0 < j) fun i j => .int (i % j)) ta tb) σ H (· < j) :=
  en_op (f := fun n => n % j) h hb (fun n _ H1 H2 e2 Q q => by
    refine ⟨(n : Int), (j : Int), rfl, rfl, by omega, ?_⟩
    show Q (V.int ((n : Int) % (j : Int))) H2
    rw [← Int.natCast_emod]
    exact q H2 (Ex.refl H2)) fun n _ => Nat.mod_lt _ hj
theorem en_div (h : EvN ta σ H P) (hb : Ev tb σ H (nV j)) (hj : 0 < j) (hj2 : j < 1073741824) : EvN (tOp (rI CDiv fun i j => .int (i / j)) ta tb) σ H (fun _ => True) :=
  en_op (f := fun n => n / j) h hb (fun n _ H1 H2 e2 Q q => by
    refine ⟨(n : Int), (j : Int), rfl, rfl, ⟨by omega, by omega⟩, ?_⟩
    show Q (V.int ((n : Int) / (j : Int))) H2
    rw [← Int.natCast_ediv]
    exact q H2 (Ex.refl H2)) fun n _ => trivial
theorem en_int (h : EvN te σ H P) : EvN (tCB rInt1 (tCons te tNil)) σ H P := fun H1 e Q q => h H1 e _ fun v H2 e2 ⟨n, hv, p⟩ => .inl ⟨(n : Int), by rw [hv], q _ H2 e2 ⟨n, rfl, p⟩⟩
theorem q_asgN {i : Nat} (h : EvN te σ H P) (k : ∀ n H1, Ex H H1 → P n → tz D (σ.set i (some (nV n))) H1) : tSeq (tAsg te (gName i)) tz D σ H := q_asgP h fun v H1 e ⟨n, hv, p⟩ => by rw [hv]; exact k n H1 e p
theorem set_self {α : Type} {xs : List α} {i : Nat} {x : α} (h : xs[i]? = some x) : xs.set i x = xs := by
  refine List.ext_getElem? fun k => ?_
  rw [List.getElem?_set]
  split
  · rename_i e
    subst e
    rw [if_pos (List.getElem?_eq_some_iff.mp h).1, h]
  · rfl
theorem q_whenN {i : Nat} {b : Bool} (hi : σ[i]? = some (some (nV n))) (hp : b = false → P n) (h : EvT t σ H b) (h1 : b = true → EvN te σ H P) (k : ∀ n' H1, Ex H H1 → P n' → tz D (σ.set i (some (nV n'))) H1) : tSeq (tIfS t (tAsg te (gName i)) tNext) tz D σ H :=
  q_whenAsg h (fun hb => h1 hb) fun σ' H1 e1 hh => by
    rcases hh with ⟨_, v, rfl, m, rfl, p⟩ | ⟨hb, rfl⟩
    · exact k m H1 e1 p
    · have := k n H1 e1 (hp hb)
      rw [set_self hi] at this
      exact this
theorem ea_ep (h : EvA tA σ H vs) : EvAP tA σ H fun us _ => us = vs := ep_ev h
/-- a number, then a new list -/
theorem ep_nl {ys : List V} (ha : EvN ta σ H P) (hb : ∀ H1, Ex H H1 → EvL tb σ H1 ys) : EvAP (tCons ta (tCons tb tNil)) σ H fun us H2 => ∃ (n : Nat) (q : Addr), us = [nV n, .ref q] ∧ P n ∧ H2 q = some (.lst ys) := fun H1 e Q q =>
  ha H1 e _ fun v H2 e2 ⟨n, hv, p⟩ => hb H2 (e.trans e2) H2 (Ex.refl H2) _ fun a H3 ha e3 h3 => q _ H3 (e2.trans e3) ⟨n, a, by rw [hv], p, h3⟩
theorem evp_digits {E : XK} {ds : List Nat} (ha : EvN ta σ H P) (hb : ∀ H1, Ex H H1 → EvL tb σ H1 (nL ds)) (hl : ds.length ≤ 20) (hd : ∀ d ∈ ds, 1 ≤ d ∧ d < 1073741824) :
    EvP (tCall (sp_law_digits K) [] E (tCons ta (tCons tb tNil))) σ H fun v H2 => ∃ (q : Addr) (rs : List Nat), v = .ref q ∧ H2 q = some (.lst (nL rs)) ∧ Dig rs ds :=
  evp_callP (ep_nl ha hb) fun us H1 e1 ⟨n, p, hu, _, hp⟩ Q E q => ⟨n, p, ds, by rw [hu]; rfl, hp, hl, hd, fun v H2 e2 ⟨a, rs, q1, _, q2, q3⟩ => q v H2 e2 ⟨a, rs, q1, q2, q3⟩⟩
theorem en_row {E : XK} {p : Addr} {ns : List Int} (ha : Ev ta σ H (.ref p)) (hb : Ev tb σ H (nV n)) (hp : SqL K H p (ns.map V.int)) (hl : ns.length ≤ 63) (hn : n ≤ 100000) : EvN (tCall (sp_law_row K) [] E (tCons ta (tCons tb tNil))) σ H fun _ => True :=
  evp_call (ea_cons ha (ea_cons hb ea_nil)) fun H1 e1 Q E q => ⟨p, ns, n, rfl, ex_l e1 hp, hl, hn, fun v H2 e2 ⟨m, hm⟩ => q v H2 e2 ⟨m, hm, trivial⟩⟩
section
variable {Q : L2.St → Hp → Prop} {q : Addr} {x1 x2 x3 x4 x5 x6 : V} {i1 i2 i3 i4 i5 i6 : Nat}
theorem g_un2 (h : H q = some (.lst [x1, x2])) (k : Q ((σ.set i1 (some x1)).set i2 (some x2)) H) : gUnl K 2 (gCons (gName i1) (gCons (gName i2) gNil)) (.ref q) σ H Q := ⟨q, _, rfl, sq_of h, rfl, x1, _, rfl, x2, _, rfl, rfl, k⟩
theorem g_un3 (h : H q = some (.lst [x1, x2, x3])) (k : Q (((σ.set i1 (some x1)).set i2 (some x2)).set i3 (some x3)) H) : gUnl K 3 (gCons (gName i1) (gCons (gName i2) (gCons (gName i3) gNil))) (.ref q) σ H Q := ⟨q, _, rfl, sq_of h, rfl, x1, _, rfl, x2, _, rfl, x3, _, rfl, rfl, k⟩
theorem g_un4 (h : H q = some (.lst [x1, x2, x3, x4])) (k : Q ((((σ.set i1 (some x1)).set i2 (some x2)).set i3 (some x3)).set i4 (some x4)) H) : gUnl K 4 (gCons (gName i1) (gCons (gName i2) (gCons (gName i3) (gCons (gName i4) gNil)))) (.ref q) σ H Q := ⟨q, _, rfl, sq_of h, rfl, x1, _, rfl, x2, _, rfl, x3, _, rfl, x4, _, rfl, rfl, k⟩
theorem g_un5 (h : H q = some (.lst [x1, x2, x3, x4, x5])) (k : Q (((((σ.set i1 (some x1)).set i2 (some x2)).set i3 (some x3)).set i4 (some x4)).set i5 (some x5)) H) : gUnl K 5 (gCons (gName i1) (gCons (gName i2) (gCons (gName i3) (gCons (gName i4) (gCons (gName i5) gNil))))) (.ref q) σ H Q := ⟨q, _, rfl, sq_of h, rfl, x1, _, rfl, x2, _, rfl, x3, _, rfl, x4, _, rfl, x5, _, rfl, rfl, k⟩
theorem g_un6 (h : H q = some (.lst [x1, x2, x3, x4, x5, x6])) (k : Q ((((((σ.set i1 (some x1)).set i2 (some x2)).set i3 (some x3)).set i4 (some x4)).set i5 (some x5)).set i6 (some x6)) H) : gUnl K 6 (gCons (gName i1) (gCons (gName i2) (gCons (gName i3) (gCons (gName i4) (gCons (gName i5) (gCons (gName i6) gNil)))))) (.ref q) σ H Q := ⟨q, _, rfl, sq_of h, rfl, x1, _, rfl, x2, _, rfl, x3, _, rfl, x4, _, rfl, x5, _, rfl, x6, _, rfl, rfl, k⟩
end
theorem dig2 {rs : List Nat} {a b : Nat} (h : Dig rs [a, b]) : ∃ x y, rs = [x, y] ∧ x < a ∧ y < b := by
  obtain ⟨x, r1, rfl, h1, h⟩ := h.cons
  obtain ⟨y, r2, rfl, h2, h⟩ := h.cons
  rw [h.nil]
  exact ⟨x, y, rfl, h1, h2⟩
theorem dig3 {rs : List Nat} {a b c : Nat} (h : Dig rs [a, b, c]) : ∃ x y z, rs = [x, y, z] ∧ x < a ∧ y < b ∧ z < c := by
  obtain ⟨x, r1, rfl, h1, h⟩ := h.cons
  obtain ⟨y, z, rfl, h2⟩ := dig2 h
  exact ⟨x, y, z, rfl, h1, h2⟩
theorem dig4 {rs : List Nat} {a b c d : Nat} (h : Dig rs [a, b, c, d]) : ∃ x y z u, rs = [x, y, z, u] ∧ x < a ∧ y < b ∧ z < c ∧ u < d := by
  obtain ⟨x, r1, rfl, h1, h⟩ := h.cons
  obtain ⟨y, z, u, rfl, h2⟩ := dig3 h
  exact ⟨x, y, z, u, rfl, h1, h2⟩
theorem dig5 {rs : List Nat} {a b c d e : Nat} (h : Dig rs [a, b, c, d, e]) : ∃ x y z u v, rs = [x, y, z, u, v] ∧ x < a ∧ y < b ∧ z < c ∧ u < d ∧ v < e := by
  obtain ⟨x, r1, rfl, h1, h⟩ := h.cons
  obtain ⟨y, z, u, v, rfl, h2⟩ := dig4 h
  exact ⟨x, y, z, u, v, rfl, h1, h2⟩
theorem dig6 {rs : List Nat} {a b c d e f : Nat} (h : Dig rs [a, b, c, d, e, f]) : ∃ x y z u v w, rs = [x, y, z, u, v, w] ∧ x < a ∧ y < b ∧ z < c ∧ u < d ∧ v < e ∧ w < f := by
  obtain ⟨x, r1, rfl, h1, h⟩ := h.cons
  obtain ⟨y, z, u, v, w, rfl, h2⟩ := dig5 h
  exact ⟨x, y, z, u, v, w, rfl, h1, h2⟩
end
end Sg

set_option maxHeartbeats 4000000
namespace Sg
open PySem PySem.Spec PyProof.Rows L2 Evl
section
variable {P : Program} {w : World} {K : PySem.W.Frag} {mg : Str → Option Value} {base : Heap}
/-! ### _law_failure -/
def sp_law_failure (K : PySem.W.Frag) : Sp := fun vs H Q _ => ∃ (p : Addr) (ns : List Int) (at_ n : Nat), vs = [.ref p, nV at_, nV n] ∧ SqL K H p (ns.map V.int) ∧ ns.length ≤ 63 ∧ at_ ≤ 10000 ∧ n ≤ 90000 ∧
  RetP (fun v H2 => ∃ (q a b : Addr) (kept torn : List Nat), v = .ref q ∧ H2 q = some (.lst [.ref a, .ref b]) ∧ H2 a = some (.lst (nL kept)) ∧ H2 b = some (.lst (nL torn))) H Q
abbrev nm_law_failure : List Str := ["_law_script", "_law_at", "_law_waiting", "_law_mode", "_law_more", "_law_kept", "_law_torn", "_law_k", "_law_fate"]
theorem sc_law_failure : FnScope nm_law_failure ["_law_script", "_law_at", "_law_waiting"] (defScope s_law_failure) := ⟨rfl, rfl, rfl, by decide +kernel, rfl, by decide +kernel, by decide +kernel⟩
theorem ok_law_failure (T : Ctx K mg base) : Okd P w K mg base 2 (He.ga K "_law_failure") ["_law_script", "_law_at", "_law_waiting"] (sp_law_failure K) := by
  obtain ⟨fd, F⟩ := T.def_law_failure
  have b : Binds K fd ["_law_script", "_law_at", "_law_waiting"] [] := FunD.bindsN F fun _ _ _ _ _ _ us hl => match us, hl with | [_, _, _], _ => rfl
  obtain ⟨fd_law_digits, G_law_digits, b_law_digits, k_law_digits⟩ := ok_law_digits (P := P) (w := w) T
  obtain ⟨fd_law_row, G_law_row, b_law_row, k_law_row⟩ := ok_law_row (P := P) (w := w) T
  refine ⟨fd, FunD.ok F sc_law_failure (fun vs H Q E h => ?_) (fun cdv A outer s H vs Q E hr h => ?_), b, F.kp⟩
  · obtain ⟨p, ns, at_, n, rfl, _⟩ := h
    rfl
  · obtain ⟨p, ns, at_, n, rfl, hp, hl, hat, hn, k⟩ := h
    refine ⟨_, PSs.nox (pss_cons (ps_asg (pe_call G_law_digits (hr.mono (by decide)) rfl T.glo_law_digits k_law_digits b_law_digits .nil pass0 (pa_cons (pe_call G_law_row (hr.mono (by decide)) rfl T.glo_law_row k_law_row b_law_row .nil pass0 (pa_cons (pv 0) (pa_cons (pv 1) pa_nil))) (pa_cons (pe_lst (pa_cons pe_int (pa_cons (pe_op op_pow pe_int pe_int) pa_nil))) pa_nil))) (pg_unl rfl (pgs_cons (pg_name (i := 3) sc_law_failure.nd rfl (Or.inl rfl)) (pgs_cons (pg_name (i := 4) sc_law_failure.nd rfl (Or.inl rfl)) pgs_nil))))
      (pss_cons (ps_set (i := 5) sc_law_failure.nd rfl (Or.inl rfl) (pe_lst pa_nil))
      (pss_cons (ps_set (i := 6) sc_law_failure.nd rfl (Or.inl rfl) (pe_lst pa_nil))
      (pss_cons (ps_for PassesOwn.never rfl (pi_range1 rfl T.free_range (pa_cons (pv 2) pa_nil)) (pg_name (i := 7) sc_law_failure.nd rfl (Or.inl rfl)) (pss_cons (ps_set (i := 8) sc_law_failure.nd rfl (Or.inl rfl) (pe_op op_mod (pe_callTy call_int1 (by rfl) T.free_int (by decide +kernel) (pa_cons (pe_op op_fdiv (pe_call G_law_row (hr.mono (by decide)) rfl T.glo_law_row k_law_row b_law_row .nil pass0 (pa_cons (pv 0) (pa_cons (pe_op op_add (pe_op op_add (pv 1) pe_int) (pe_op op_mod (pv 7) pe_int)) pa_nil))) (pe_op op_add (pv 7) pe_int)) pa_nil)) pe_int))
      (pss_cons (ps_if (pt_cmpR op_eq (pv 3) pe_int (nomark _)) (pss_one (ps_set (i := 8) sc_law_failure.nd rfl (Or.inl rfl) pe_int)) pss_nil)
      (pss_cons (ps_if (pt_cmpR op_eq (pv 3) pe_int (nomark _)) (pss_one (ps_set (i := 8) sc_law_failure.nd rfl (Or.inl rfl) (pe_op op_add pe_int (pe_op op_mod (pv 4) pe_int)))) pss_nil)
      (pss_cons (ps_if (pt_cmpR op_eq (pv 3) pe_int (nomark _)) (pss_one (ps_set (i := 8) sc_law_failure.nd rfl (Or.inl rfl) (pe_callTy call_int1 (by rfl) T.free_int (by decide +kernel) (pa_cons (pe_cmpR op_lt (pv 7) (pe_op op_mod (pv 4) (pe_op op_add (pv 2) pe_int)) (nomark _)) pa_nil)))) pss_nil)
      (pss_cons (ps_if (PW.pt (pw_and (pt_cmpR op_eq (pv 3) pe_int (nomark _)) (pw_and1 (pt_cmpR op_lt (pe_op op_add (pv 7) pe_int) (pv 2) (nomark _))))) (pss_one (ps_set (i := 8) sc_law_failure.nd rfl (Or.inl rfl) pe_int)) pss_nil)
      (pss_one (ps_if (pt_cmpR op_eq (pv 8) pe_int (nomark _)) (pss_one (ps_expr (pe_bm PySem.F.plainAttrs_list PySem.F.slot_list_append PySem.F.type_list_append mt_append (pv 5) (pa_cons (pv 7) pa_nil)))) (pss_one (ps_if (pt_cmpR op_eq (pv 8) pe_int (nomark _)) (pss_one (ps_expr (pe_bm PySem.F.plainAttrs_list PySem.F.slot_list_append PySem.F.type_list_append mt_append (pv 6) (pa_cons (pv 7) pa_nil)))) pss_nil))))))))))
      (pss_one (ps_ret (pe_lst (pa_cons (pv 5) (pa_cons (pv 6) pa_nil))))))))), ?_⟩
    refine q_asgPG (evp_digits (ds := [6, 1000000]) (en_row (ev_var rfl) (ev_var rfl) hp hl (by omega)) (fun H1 e1 => el_lst (ea_cons ev_c (ea_cons (ev_is (ev_op ev_c ev_c (rv_I ⟨by decide, by decide, by decide⟩)) (by rfl)) ea_nil)) (Nat.le_of_ble_eq_true rfl)) (by decide) (by decide)) fun v H1 e1 hv => ?_
    obtain ⟨q, rs, rfl, hq, dg⟩ := hv
    obtain ⟨mode, more, rfl, hmode, hmore⟩ := dig2 dg
    refine g_un2 hq ?_
    refine q_asgL (el_lst ea_nil (Nat.le_of_ble_eq_true rfl)) fun a H2 ha e2 h2 => ?_
    refine q_asgL (el_lst ea_nil (Nat.le_of_ble_eq_true rfl)) fun b H3 hb e3 h3 => ?_
    have hab : a ≠ b := ne_of_none h2 hb
    have E3 := e1.trans (e2.trans e3)
    refine q_forR1 (n := (n : Int)) (ea_cons (ev_var rfl) ea_nil) (by omega)
      (fun j σ' H' => ∃ x y kept torn, σ' = [some (.ref p), some (nV at_), some (nV n), some (nV mode), some (nV more), some (.ref a), some (.ref b), x, y] ∧ Ex H H' ∧ H' a = some (.lst (nL kept)) ∧ H' b = some (.lst (nL torn)) ∧ kept.length ≤ j ∧ torn.length ≤ j)
      (fun H4 e4 => ⟨none, none, [], [], rfl, E3.trans e4, e4 _ _ (e3 _ _ h2), e4 _ _ h3, Nat.le_refl _, Nat.le_refl _⟩) ?_ ?_
    · rintro j σ' H' hj ⟨x, y, kept, torn, rfl, eH, hka, htb, hkl, htl⟩
      refine q_asgN (P := (· < 3)) (en_mod (en_int (en_div (j := j + 1) (en_row (n := at_ + 1 + j % 7) (ev_var rfl) (ev_addN (ev_addN (ev_var rfl) (ev_nC 1)) (ev_modN (ev_var rfl) (ev_nC 7) (by decide))) (ex_l eH hp) hl (by omega)) (ev_addN (ev_var rfl) (ev_nC 1)) (by omega) (by omega))) (ev_nC 3) (by decide)) fun f H4 e4 _ => ?_
      refine q_whenN (i := 8) (n := f) (P := fun _ => True) rfl (fun _ => trivial) (et_cmp (ev_var rfl) ev_c (rv_eq rfl)) (fun _ => en_of (n := 0) ev_c trivial) fun f1 H5 e5 _ => ?_
      refine q_whenN (i := 8) (n := f1) (P := fun _ => True) rfl (fun _ => trivial) (et_cmp (ev_var rfl) ev_c (rv_eq rfl)) (fun _ => en_of (ev_addN (ev_nC 1) (ev_modN (ev_var rfl) (ev_nC 2) (by decide))) trivial) fun f2 H6 e6 _ => ?_
      refine q_whenN (i := 8) (n := f2) (P := fun _ => True) rfl (fun _ => trivial) (et_cmp (ev_var rfl) ev_c (rv_eq rfl)) (fun _ => ?_) fun f3 H7 e7 _ => ?_
      · refine en_of (n := if decide ((j : Int) < ((more % (n + 1) : Nat) : Int)) = true then 1 else 0) (ev_is (ev_cb (ea_cons (ev_op (ev_var rfl) (ev_modN (ev_var rfl) (ev_addN (ev_var rfl) (ev_nC 1)) (by omega)) rv_I0) ea_nil) rc_intB) ?_) trivial
        split <;> rfl
      refine q_whenN (i := 8) (n := f3) (P := fun _ => True) rfl (fun _ => trivial) (et_and (et_cmp (ev_var rfl) ev_c (rv_eq rfl)) fun _ => et_cmp (ev_addN (ev_var rfl) (ev_nC 2)) (ev_var rfl) rv_I0) (fun _ => en_of (n := 0) ev_c trivial) fun f4 H8 e8 _ => ?_
      have E8 : Ex H' H8 := e4.trans (e5.trans (e6.trans (e7.trans e8)))
      refine s_if (et_cmp (ev_var rfl) ev_c (rv_eq rfl)) (fun _ H9 e9 => ?_) (fun _ H9 e9 => s_when (et_cmp (ev_var rfl) ev_c (rv_eq rfl)) (fun _ H10 e10 => ?_) (fun _ H10 e10 => ?_))
      · refine s_app (e9 _ _ (E8 _ _ hka)) (ev_var rfl) (ev_var rfl) (by rw [nL_len]; omega) fun H11 e11 => ?_
        refine ⟨_, _, kept ++ [j], torn, rfl, Ex.mut (eH.trans (E8.trans (e9.trans e11))) (fresh_back e1 ha), ?_, ?_, ?_, by omega⟩
        · rw [upd_same]
          simp
        · rw [upd_ne hab.symm]
          exact e11 _ _ (e9 _ _ (E8 _ _ htb))
        · simp
          omega
      · refine s_app (e10 _ _ (e9 _ _ (E8 _ _ htb))) (ev_var rfl) (ev_var rfl) (by rw [nL_len]; omega) fun H11 e11 => ?_
        refine ⟨_, _, kept, torn ++ [j], rfl, Ex.mut (eH.trans (E8.trans (e9.trans (e10.trans e11)))) (fresh_back (e1.trans e2) hb), ?_, ?_, by omega, ?_⟩
        · rw [upd_ne hab]
          exact e11 _ _ (e10 _ _ (e9 _ _ (E8 _ _ hka)))
        · rw [upd_same]
          simp
        · simp
          omega
      · exact ⟨_, _, kept, torn, rfl, eH.trans (E8.trans (e9.trans e10)), e10 _ _ (e9 _ _ (E8 _ _ hka)), e10 _ _ (e9 _ _ (E8 _ _ htb)), by omega, by omega⟩
    · rintro σ' H' ⟨x, y, kept, torn, rfl, eH, hka, htb, _, _⟩
      exact s_retL (el_lst (ea_cons (ev_var rfl) (ea_cons (ev_var rfl) ea_nil)) (Nat.le_of_ble_eq_true rfl)) fun r H4 hr e4 h4 => k _ _ (eH.trans e4) ⟨r, a, b, kept, torn, rfl, h4, e4 _ _ hka, e4 _ _ htb⟩
end
end Sg


set_option maxHeartbeats 4000000
namespace Sg
open PySem PySem.Spec PyProof.Rows L2 Evl
section
variable {P : Program} {w : World} {K : PySem.W.Frag} {mg : Str → Option Value} {base : Heap}
/-! ### _law_ids -/
structure IdsOk (l : Lay) (ids : List Nat) : Prop where
  nd : ids.Nodup
  ir : ∀ k ∈ ids, 1 ≤ k ∧ k ≤ l.last
  le : ids.length ≤ l.pay
def sp_law_ids (K : PySem.W.Frag) : Sp := fun vs H Q _ => ∃ (la : Addr) (l : Lay) (n : Nat), vs = [.ref la, nV n] ∧ LayAt K H la l ∧ RetP (fun v H2 => ∃ (q : Addr) (ids : List Nat), v = .ref q ∧ H q = none ∧ H2 q = some (.lst (nL ids)) ∧ IdsOk l ids) H Q
abbrev nm_law_ids : List Str := ["_law_layout_here", "_law_row_here", "_law_last", "_law_size", "_law_many", "_law_more", "_law_near", "_law_first", "_law_step", "_law_span", "_law_ids_here", "_law_k", "_law_key"]
theorem sc_law_ids : FnScope nm_law_ids ["_law_layout_here", "_law_row_here"] (defScope s_law_ids) := ⟨rfl, rfl, rfl, by decide +kernel, rfl, by decide +kernel, by decide +kernel⟩
theorem ok_law_ids (T : Ctx K mg base) : Okd P w K mg base 2 (He.ga K "_law_ids") ["_law_layout_here", "_law_row_here"] (sp_law_ids K) := by
  obtain ⟨fd, F⟩ := T.def_law_ids
  have b : Binds K fd ["_law_layout_here", "_law_row_here"] [] := FunD.bindsN F fun _ _ _ _ _ _ us hl => match us, hl with | [_, _], _ => rfl
  obtain ⟨fd_law_digits, G_law_digits, b_law_digits, k_law_digits⟩ := ok_law_digits (P := P) (w := w) T
  refine ⟨fd, FunD.ok F sc_law_ids (fun vs H Q E h => ?_) (fun cdv A outer s H vs Q E hr h => ?_), b, F.kp⟩
  · obtain ⟨la, l, n, rfl, _⟩ := h
    rfl
  · obtain ⟨la, l, n, rfl, hla, k⟩ := h
    refine ⟨_, PSs.nox (pss_cons (ps_set (i := 2) sc_law_ids.nd rfl (Or.inl rfl) (pe_fld (pv 0) rfl))
      (pss_cons (ps_asg (pe_call G_law_digits (hr.mono (by decide)) rfl T.glo_law_digits k_law_digits b_law_digits .nil pass0 (pa_cons (pv 1) (pa_cons (pe_lst (pa_cons pe_int (pa_cons pe_int (pa_cons (pe_op op_add (pe_fld (pv 0) rfl) pe_int) (pa_cons pe_int (pa_cons (pv 2) (pa_cons (pv 2) pa_nil))))))) pa_nil))) (pg_unl rfl (pgs_cons (pg_name (i := 3) sc_law_ids.nd rfl (Or.inl rfl)) (pgs_cons (pg_name (i := 4) sc_law_ids.nd rfl (Or.inl rfl)) (pgs_cons (pg_name (i := 5) sc_law_ids.nd rfl (Or.inl rfl)) (pgs_cons (pg_name (i := 6) sc_law_ids.nd rfl (Or.inl rfl)) (pgs_cons (pg_name (i := 7) sc_law_ids.nd rfl (Or.inl rfl)) (pgs_cons (pg_name (i := 8) sc_law_ids.nd rfl (Or.inl rfl)) pgs_nil))))))))
      (pss_cons (ps_if (pt_cmpR op_eq (pv 4) pe_int (nomark _)) (pss_one (ps_set (i := 3) sc_law_ids.nd rfl (Or.inl rfl) (pv 5))) pss_nil)
      (pss_cons (ps_set (i := 9) sc_law_ids.nd rfl (Or.inl rfl) (pv 2))
      (pss_cons (ps_if (pt_cmpR op_gt (pv 6) pe_int (nomark _)) (pss_one (ps_set (i := 9) sc_law_ids.nd rfl (Or.inl rfl) pe_int)) pss_nil)
      (pss_cons (ps_set (i := 10) sc_law_ids.nd rfl (Or.inl rfl) (pe_lst pa_nil))
      (pss_cons (ps_for PassesOwn.never rfl (pi_range1 rfl T.free_range (pa_cons (pv 3) pa_nil)) (pg_name (i := 11) sc_law_ids.nd rfl (Or.inl rfl)) (pss_cons (ps_set (i := 12) sc_law_ids.nd rfl (Or.inl rfl) (pe_op op_add pe_int (pe_op op_mod (pe_callTy call_int1 (by rfl) T.free_int (by decide +kernel) (pa_cons (pe_op op_add (pv 7) (pe_op op_mul (pv 11) (pe_op op_add (pv 8) pe_int))) pa_nil)) (pv 9))))
      (pss_one (ps_if (pt_cmpR op_notIn_seq (pv 12) (pv 10) (by rfl)) (pss_one (ps_expr (pe_bm PySem.F.plainAttrs_list PySem.F.slot_list_append PySem.F.type_list_append mt_append (pv 10) (pa_cons (pv 12) pa_nil)))) pss_nil))))
      (pss_one (ps_ret (pv 10)))))))))), ?_⟩
    have lo := hla.1
    have hp1 := lo.pay1
    have hl1 := lo.last1
    refine q_asg (yv_last_id T hla (ev_var rfl)) fun H1 e1 => ?_
    have hla1 := hla.mono e1
    refine q_asgPG (evp_digits (ds := [5, 6, l.pay + 1, 3, l.last, l.last]) (en_of (P := fun _ => True) (ev_var rfl) trivial) (fun H2 e2 => el_lst (ea_cons ev_c (ea_cons ev_c (ea_cons (ev_addN (yv_payload T (hla1.mono e2) (ev_var rfl)) (ev_nC 1)) (ea_cons ev_c (ea_cons (ev_var rfl) (ea_cons (ev_var rfl) ea_nil)))))) (Nat.le_of_ble_eq_true rfl)) (by simp) (by intro d hd; simp at hd; omega)) fun v H2 e2 hv => ?_
    obtain ⟨q, rs, rfl, hq, dg⟩ := hv
    obtain ⟨size, many, more, near, first, step, rfl, d1, d2, d3, d4, d5, d6⟩ := dig6 dg
    refine g_un6 hq ?_
    refine q_whenN (i := 3) (n := size) (P := (· ≤ l.pay)) rfl (fun _ => by omega) (et_cmp (ev_var rfl) ev_c (rv_eq rfl)) (fun _ => en_of (ev_var rfl) (by omega)) fun size H3 e3 hsz => ?_
    refine q_asg (ev_var rfl) fun H4 e4 => ?_
    refine q_whenN (i := 9) (n := l.last) (P := fun s => 1 ≤ s ∧ s ≤ l.last) rfl (fun _ => by omega) (et_cmp (ev_var rfl) ev_c rv_I0) (fun _ => en_of (n := 12) ev_c (by omega)) fun span H5 e5 hsp => ?_
    refine q_asgL (el_lst ea_nil (Nat.le_of_ble_eq_true rfl)) fun a H6 ha e6 h6 => ?_
    have E5 := e1.trans (e2.trans (e3.trans (e4.trans e5)))
    refine q_forR1 (n := (size : Int)) (ea_cons (ev_var rfl) ea_nil) (by omega)
      (fun j σ' H' => ∃ x y ids, σ' = [some (.ref la), some (nV n), some (nV l.last), some (nV size), some (nV many), some (nV more), some (nV near), some (nV first), some (nV step), some (nV span), some (.ref a), x, y] ∧ Ex H H' ∧ H' a = some (.lst (nL ids)) ∧ ids.length ≤ j ∧ ids.Nodup ∧ ∀ k ∈ ids, 1 ≤ k ∧ k ≤ l.last)
      (fun H7 e7 => ⟨none, none, [], rfl, E5.trans (e6.trans e7), e7 _ _ h6, Nat.le_refl _, List.nodup_nil, fun k hk => (nomatch hk)⟩) ?_ ?_
    · rintro j σ' H' hj ⟨x, y, ids, rfl, eH, hi, hil, hnd, hir⟩
      refine q_asg (v := nV (1 + (first + j * (step + 1)) % span)) (ev_addN (ev_nC 1) (ev_modN (ev_int (ev_addN (ev_var rfl) (ev_mulN (ev_var rfl) (ev_addN (ev_var rfl) (ev_nC 1)) (.inl (by omega))))) (ev_var rfl) (by omega))) fun H8 e8 => ?_
      have hm := Nat.mod_lt (first + j * (step + 1)) (show 0 < span by omega)
      generalize (first + j * (step + 1)) % span = f at hm ⊢
      refine s_when (et_cmp (ev_var rfl) (ev_var rfl) (rv_niL (sq_of (e8 _ _ hi)) rfl (flat_nL _))) (fun hb H9 e9 => ?_) (fun hb H9 e9 => ?_)
      · refine s_app (e9 _ _ (e8 _ _ hi)) (ev_var rfl) (ev_var rfl) (by rw [nL_len]; omega) fun H10 e10 => ?_
        refine ⟨_, _, ids ++ [1 + f], rfl, Ex.mut (eH.trans (e8.trans (e9.trans e10))) (fresh_back E5 ha), ?_, ?_, ?_, ?_⟩
        · rw [upd_same]
          simp
        · simp
          omega
        · rw [List.nodup_append]
          refine ⟨hnd, by simp, fun x hx y hy => ?_⟩
          rw [List.mem_singleton.mp hy]
          intro z
          rw [z] at hx
          have : inV (nV (1 + f)) (nL ids) = true := by rw [in_nL]; exact decide_eq_true hx
          rw [this] at hb
          cases hb
        · intro k hk
          rcases List.mem_append.mp hk with hk | hk
          · exact hir k hk
          · rw [List.mem_singleton.mp hk]
            omega
      · exact ⟨_, _, ids, rfl, eH.trans (e8.trans e9), e9 _ _ (e8 _ _ hi), by omega, hnd, hir⟩
    · rintro σ' H' ⟨x, y, ids, rfl, eH, hi, hil, hnd, hir⟩
      exact s_ret (ev_var rfl) fun H8 e8 => k _ _ (eH.trans e8) ⟨a, ids, rfl, fresh_back E5 ha, e8 _ _ hi, hnd, hir, by omega⟩
/-! ### _law_used -/
def sp_law_used (K : PySem.W.Frag) : Sp := fun vs H Q _ => ∃ (la d i : Addr) (l : Lay) (m : List (Nat × V)) (ids : List Nat) (n : Nat), vs = [.ref la, .ref d, .ref i, nV n] ∧ LayAt K H la l ∧ H d = some (.dK (dN m)) ∧ H i = some (.lst (nL ids)) ∧
  RetP (fun v H2 => ∃ (q : Addr) (used : List Nat), v = .ref q ∧ H q = none ∧ H2 q = some (.lst (nL used)) ∧ used.Pairwise (· < ·) ∧ ∀ k ∈ used, 1 ≤ k ∧ k ≤ l.last) H Q
abbrev nm_law_used : List Str := ["_law_layout_here", "_law_known", "_law_ids_here", "_law_drop", "_law_used_here", "_law_key"]
theorem sc_law_used : FnScope nm_law_used ["_law_layout_here", "_law_known", "_law_ids_here", "_law_drop"] (defScope s_law_used) := ⟨rfl, rfl, rfl, by decide +kernel, rfl, by decide +kernel, by decide +kernel⟩
theorem ok_law_used (T : Ctx K mg base) : Okd P w K mg base 1 (He.ga K "_law_used") ["_law_layout_here", "_law_known", "_law_ids_here", "_law_drop"] (sp_law_used K) := by
  obtain ⟨fd, F⟩ := T.def_law_used
  have b : Binds K fd ["_law_layout_here", "_law_known", "_law_ids_here", "_law_drop"] [] := FunD.bindsN F fun _ _ _ _ _ _ us hl => match us, hl with | [_, _, _, _], _ => rfl
  refine ⟨fd, FunD.ok F sc_law_used (fun vs H Q E h => ?_) (fun cdv A outer s H vs Q E hr h => ?_), b, F.kp⟩
  · obtain ⟨la, d, i, l, m, ids, n, rfl, _⟩ := h
    rfl
  · obtain ⟨la, d, i, l, m, ids, n, rfl, hla, hd, hi, k⟩ := h
    have hu := hu_of hr
    refine ⟨_, PSs.nox (pss_cons (ps_set (i := 4) sc_law_used.nd rfl (Or.inl rfl) (pe_lst pa_nil))
      (pss_cons (ps_for PassesOwn.never rfl (pi_range2 rfl T.free_range (pa_cons pe_int (pa_cons (pe_op op_add (pe_fld (pv 0) rfl) pe_int) pa_nil))) (pg_name (i := 5) sc_law_used.nd rfl (Or.inl rfl)) (pss_one (ps_if (PW.pt (pw_or (pt_cmp (pc_din hu (pv 5) (pv 1))) (pw_or1 (pt_cmpR op_in_seq (pv 5) (pv 2) (by rfl))))) (pss_one (ps_if (pt_cmpR op_gt (pe_op op_mod (pe_callTy call_int1 (by rfl) T.free_int (by decide +kernel) (pa_cons (pe_op op_add (pe_op op_mul (pv 5) pe_int) (pv 3)) pa_nil)) pe_int) pe_int (nomark _)) (pss_one (ps_expr (pe_bm PySem.F.plainAttrs_list PySem.F.slot_list_append PySem.F.type_list_append mt_append (pv 4) (pa_cons (pv 5) pa_nil)))) pss_nil)) pss_nil)))
      (pss_one (ps_ret (pv 4))))), ?_⟩
    have lo := hla.1
    have hl1 := lo.last1
    refine q_asgL (el_lst ea_nil (Nat.le_of_ble_eq_true rfl)) fun a H1 ha e1 h1 => ?_
    refine q_forR2 (lo := 1) (n := ((l.last + 1 : Nat) : Int)) (ea_cons ev_c (ea_cons (ev_addN (yv_last_id T (hla.mono e1) (ev_var rfl)) (ev_nC 1)) ea_nil)) (by omega)
      (fun j σ' H' => ∃ x used, σ' = [some (.ref la), some (.ref d), some (.ref i), some (nV n), some (.ref a), x] ∧ Ex H H' ∧ H' a = some (.lst (nL used)) ∧ used.Pairwise (· < ·) ∧ used.length ≤ j ∧ ∀ k ∈ used, 1 ≤ k ∧ k ≤ j)
      (fun H2 e2 => ⟨none, [], rfl, e1.trans e2, e2 _ _ h1, .nil, Nat.le_refl _, fun k hk => (nomatch hk)⟩) ?_ ?_
    · rintro j σ' H' hj ⟨x, used, rfl, eH, hq, hpw, hul, hur⟩
      have e0 : V.int (1 + (j : Int)) = nV (j + 1) := by show V.int _ = V.int _; congr 1; omega
      rw [e0]
      refine s_when (et_or (et_B (ev_din (ev_var rfl) (ev_var rfl) (eH _ _ hd))) fun _ => et_cmp (ev_var rfl) (ev_var rfl) (rv_isL (sq_of (eH _ _ hi)) rfl (flat_nL _))) (fun _ H2 e2 => ?_) (fun _ H2 e2 => ?_)
      · refine s_when (et_cmp (ev_modN (ev_int (ev_addN (ev_mulN (ev_var rfl) (ev_nC 7) (.inr (by decide))) (ev_var rfl))) (ev_nC 9) (by decide)) ev_c rv_I0) (fun _ H3 e3 => ?_) (fun _ H3 e3 => ?_)
        · refine s_app (e3 _ _ (e2 _ _ hq)) (ev_var rfl) (ev_var rfl) (by rw [nL_len]; omega) fun H4 e4 => ?_
          refine ⟨_, used ++ [j + 1], rfl, Ex.mut (eH.trans (e2.trans (e3.trans e4))) ha, ?_, ?_, ?_, ?_⟩
          · rw [upd_same]
            simp
          · rw [List.pairwise_append]
            refine ⟨hpw, by simp, fun x hx y hy => ?_⟩
            rw [List.mem_singleton.mp hy]
            have := hur x hx
            omega
          · simp
            omega
          · intro k hk
            rcases List.mem_append.mp hk with hk | hk
            · have := hur k hk
              omega
            · rw [List.mem_singleton.mp hk]
              omega
        · exact ⟨_, used, rfl, eH.trans (e2.trans e3), e3 _ _ (e2 _ _ hq), hpw, by omega, fun k hk => by have := hur k hk; omega⟩
      · exact ⟨_, used, rfl, eH.trans e2, e2 _ _ hq, hpw, by omega, fun k hk => by have := hur k hk; omega⟩
    · rintro σ' H' ⟨x, used, rfl, eH, hq, hpw, hul, hur⟩
      have hn : (((l.last + 1 : Nat) : Int) - 1).toNat = l.last := by omega
      rw [hn] at hur
      exact s_ret (ev_var rfl) fun H8 e8 => k _ _ (eH.trans e8) ⟨a, used, rfl, ha, e8 _ _ hq, hpw, hur⟩
end
end Sg


set_option maxHeartbeats 4000000
namespace Sg
open PySem PySem.Spec PyProof.Rows L2 Evl
section
variable {P : Program} {w : World} {K : PySem.W.Frag} {mg : Str → Option Value} {base : Heap}
/-! ### _law_layout -/
def sp_law_layout (K : PySem.W.Frag) : Sp := fun vs H Q _ => ∃ (n : Nat), vs = [nV n] ∧ RetP (fun v H2 => ∃ (a : Addr) (l : Lay), v = .ref a ∧ LayAt K H2 a l) H Q
theorem evp_layout {σ : L2.St} {H : Hp} {tA : TA} {E : XK} (l : Lay) (lo : l.Ok) (hz : 16 + 2 * l.pay + (l.last + 7) / 8 ≤ l.bs) (h : EvA tA σ H [nV l.seg, nV l.sb, nV l.bs]) :
    EvP (tMake (He.ga K "Layout") (sp_Layout_init K) [] E tA) σ H fun v H2 => ∃ (a : Addr) (l : Lay), v = .ref a ∧ LayAt K H2 a l :=
  evp_make h fun H1 e1 x dx hx hdx hne Q E q => ⟨x, dx, l, rfl, upd_same, lo, hz, fun H2 B hl => q H2 (ExB.made hx hdx B) ⟨x, l, rfl, hl⟩⟩
abbrev nm_law_layout : List Str := ["_law_row_here", "_law_choice", "_law_more", "_law_size", "_law_segments", "_law_blocks", "_law_ids_here"]
theorem sc_law_layout : FnScope nm_law_layout ["_law_row_here"] (defScope s_law_layout) := ⟨rfl, rfl, rfl, by decide +kernel, rfl, by decide +kernel, by decide +kernel⟩
theorem ok_law_layout (T : Ctx K mg base) : Okd P w K mg base 4 (He.ga K "_law_layout") ["_law_row_here"] (sp_law_layout K) := by
  obtain ⟨fd, F⟩ := T.def_law_layout
  have b : Binds K fd ["_law_row_here"] [] := FunD.bindsN F fun _ _ _ _ _ _ us hl => match us, hl with | [_], _ => rfl
  obtain ⟨fd_law_digits, G_law_digits, b_law_digits, k_law_digits⟩ := ok_law_digits (P := P) (w := w) T
  obtain ⟨fd_Layout, G_Layout_init, b_Layout_init, k_Layout_init⟩ := ok_Layout_init (P := P) (w := w) T
  refine ⟨fd, FunD.ok F sc_law_layout (fun vs H Q E h => ?_) (fun cdv A outer s H vs Q E hr h => ?_), b, F.kp⟩
  · obtain ⟨n, rfl, _⟩ := h
    rfl
  · obtain ⟨n, rfl, k⟩ := h
    refine ⟨_, PSs.nox (pss_cons (ps_asg (pe_call G_law_digits (hr.mono (by decide)) rfl T.glo_law_digits k_law_digits b_law_digits .nil pass0 (pa_cons (pv 0) (pa_cons (pe_lst (pa_cons pe_int (pa_cons pe_int (pa_cons pe_int (pa_cons pe_int (pa_cons pe_int pa_nil)))))) pa_nil))) (pg_unl rfl (pgs_cons (pg_name (i := 1) sc_law_layout.nd rfl (Or.inl rfl)) (pgs_cons (pg_name (i := 2) sc_law_layout.nd rfl (Or.inl rfl)) (pgs_cons (pg_name (i := 3) sc_law_layout.nd rfl (Or.inl rfl)) (pgs_cons (pg_name (i := 4) sc_law_layout.nd rfl (Or.inl rfl)) (pgs_cons (pg_name (i := 5) sc_law_layout.nd rfl (Or.inl rfl)) pgs_nil)))))))
      (pss_cut (ps_if (pt_cmpR op_eq (pv 1) pe_int (nomark _)) (pss_cons (ps_set (i := 4) sc_law_layout.nd rfl (Or.inl rfl) (pe_op op_add pe_int (pv 4)))
      (pss_cons (ps_set (i := 5) sc_law_layout.nd rfl (Or.inl rfl) (pe_op op_add pe_int (pv 5)))
      (pss_one (ps_set (i := 3) sc_law_layout.nd rfl (Or.inl rfl) (pe_ix ix_list (pe_lst (pa_cons pe_int (pa_cons pe_int (pa_cons pe_int pa_nil)))) (pv 3) (fun _ _ => rfl)))))) (pss_cons (ps_set (i := 4) sc_law_layout.nd rfl (Or.inl rfl) (pe_op op_add pe_int (pe_op op_mul (pv 2) (pe_op op_fdiv (pv 1) pe_int))))
      (pss_cons (ps_set (i := 5) sc_law_layout.nd rfl (Or.inl rfl) pe_int)
      (pss_one (ps_set (i := 3) sc_law_layout.nd rfl (Or.inl rfl) pe_int)))))
      (pss_cons (ps_set (i := 6) sc_law_layout.nd rfl (Or.inl rfl) (pe_op op_mul (pe_op op_sub (pv 4) pe_int) (pe_op op_sub (pv 5) pe_int)))
      (pss_cons (ps_if (pt_cmpR op_gt (pe_op op_add (pe_op op_add pe_int (pe_op op_mul pe_int (pe_op op_sub (pv 5) pe_int))) (pe_op op_fdiv (pe_op op_add (pv 6) pe_int) pe_int)) (pv 3) (nomark _)) (pss_one (ps_ret (pe_make T.mkr_Layout G_Layout_init (hr.mono (by decide)) rfl T.glo_Layout b_Layout_init .nil pass0 (pa_cons pe_int (pa_cons pe_int (pa_cons pe_int pa_nil)))))) pss_nil)
      (pss_one (ps_ret (pe_make T.mkr_Layout G_Layout_init (hr.mono (by decide)) rfl T.glo_Layout b_Layout_init .nil pass0 (pa_cons (pv 4) (pa_cons (pv 5) (pa_cons (pv 3) pa_nil)))))))))), ?_⟩
    refine q_asgPG (evp_digits (ds := [4, 3, 3, 13, 17]) (en_of (P := fun _ => True) (ev_var rfl) trivial) (fun H2 e2 => el_lst (ea_cons ev_c (ea_cons ev_c (ea_cons ev_c (ea_cons ev_c (ea_cons ev_c ea_nil))))) (Nat.le_of_ble_eq_true rfl)) (by decide) (by decide)) fun v H1 e1 hv => ?_
    obtain ⟨q, rs, rfl, hq, dg⟩ := hv
    obtain ⟨choice, more, size, sg, bl, rfl, d1, d2, d3, d4, d5⟩ := dig5 dg
    refine g_un5 hq ?_
    refine q_cut (M := fun σ' H' => ∃ l : Lay, σ' = [some (nV n), some (nV choice), some (nV more), some (nV l.bs), some (nV l.seg), some (nV l.sb), none] ∧ Ex H H' ∧ l.Ok) ?_ ?_
    · refine s_if (et_cmp (ev_var rfl) ev_c (rv_eq rfl)) (fun _ H2 e2 => ?_) (fun _ H2 e2 => ?_)
      · refine q_asg (ev_addN (ev_nC 4) (ev_var rfl)) fun H3 e3 => ?_
        refine q_asg (ev_addN (ev_nC 16) (ev_var rfl)) fun H4 e4 => ?_
        refine s_asgP (P := fun v _ => ∃ n : Nat, v = nV n ∧ (n = 64 ∨ n = 128 ∨ n = 256)) (Ev.p (v := nV ([64, 128, 256].getD size 0)) (ev_opL1 (xs := nL [64, 128, 256]) (el_lst (ea_cons ev_c (ea_cons ev_c (ea_cons ev_c ea_nil))) (Nat.le_of_ble_eq_true rfl)) (fun H5 e5 => ev_var rfl) fun p H5 hp e5 => rv_ixL (sq_of hp) (atI_of ?_)) fun _ _ => ⟨_, rfl, ?_⟩) fun v H5 e5 hv => ?_
        · rcases (show size = 0 ∨ size = 1 ∨ size = 2 by omega) with z | z | z <;> rw [z] <;> rfl
        · rcases (show size = 0 ∨ size = 1 ∨ size = 2 by omega) with z | z | z <;> rw [z] <;> decide
        · obtain ⟨bs, rfl, hbs⟩ := hv
          exact ⟨⟨4 + sg, 16 + bl, bs⟩, rfl, e1.trans (e2.trans (e3.trans (e4.trans e5))), ⟨by show 4 ≤ 4 + sg; omega, by show 4 + sg ≤ 16; omega, by show 16 ≤ 16 + bl; omega, by show 16 + bl ≤ 32; omega, hbs⟩⟩
      · refine q_asg (ev_addN (ev_nC 4) (ev_mulN (ev_var rfl) (ev_divN (ev_var rfl) (ev_nC 2) (by decide) (by decide)) (.inl (by omega)))) fun H3 e3 => ?_
        refine q_asg (ev_nC 16) fun H4 e4 => ?_
        refine s_asg (ev_nC 64) fun H5 e5 => ?_
        have hm : more * (choice / 2) ≤ 2 := by
          rcases (show choice / 2 = 0 ∨ choice / 2 = 1 by omega) with z | z <;> rw [z] <;> omega
        exact ⟨⟨4 + more * (choice / 2), 16, 64⟩, rfl, e1.trans (e2.trans (e3.trans (e4.trans e5))), ⟨by show 4 ≤ 4 + _; omega, by show 4 + _ ≤ 16; omega, by show 16 ≤ 16; omega, by show 16 ≤ 32; omega, .inl rfl⟩⟩
    · rintro σ' H' ⟨l, rfl, eH, lo⟩
      have h1 := lo.s1
      have h2 := lo.b1
      have hlast : (l.seg - 1) * (l.sb - 1) = l.last := by
        show _ = (l.seg - 2) * (l.sb - 1) + (l.sb - 1)
        rw [← Nat.succ_mul, show (l.seg - 2).succ = l.seg - 1 by omega]
      refine q_asg (v := nV l.last) (ev_is (ev_mulN (i := l.seg - 1) (j := l.sb - 1) (ev_is (ev_op (ev_var rfl) ev_c rv_I0) (show V.int ((l.seg : Int) - 1) = nV (l.seg - 1) by show V.int _ = V.int _; congr 1; omega)) (ev_is (ev_op (ev_var rfl) ev_c rv_I0) (show V.int ((l.sb : Int) - 1) = nV (l.sb - 1) by show V.int _ = V.int _; congr 1; omega)) (.inl (by have := lo.s2; omega))) (by rw [hlast])) fun H2 e2 => ?_
      refine q_when (et_cmp (x := nV (16 + 2 * l.pay + (l.last + 7) / 8)) (ev_addN (ev_addN (ev_nC 16) (ev_mulN (ev_nC 2) (ev_is (ev_op (ev_var rfl) ev_c rv_I0) (show V.int ((l.sb : Int) - 1) = nV l.pay by show V.int _ = V.int ((l.sb - 1 : Nat) : Int); congr 1; omega)) (.inl (by decide)))) (ev_divN (ev_addN (ev_var rfl) (ev_nC 7)) (ev_nC 8) (by decide) (by decide))) (ev_var rfl) rv_I0) (fun hb H3 e3 => ?_) (fun hb H3 e3 => ?_)
      · refine s_retP (evp_layout ⟨4, 16, 64⟩ ⟨by decide, by decide, by decide, by decide, .inl rfl⟩ (by decide) (ea_cons (ev_nC 4) (ea_cons (ev_nC 16) (ea_cons (ev_nC 64) ea_nil)))) fun v H4 e4 hv => k _ _ ((eH.trans (e2.trans e3)).trans e4) hv
      · have hb := of_decide_eq_false hb
        refine s_retP (evp_layout l lo (by omega) (ea_cons (ev_var rfl) (ea_cons (ev_var rfl) (ea_cons (ev_var rfl) ea_nil)))) fun v H4 e4 hv => k _ _ ((eH.trans (e2.trans e3)).trans e4) hv
end
end Sg


set_option maxHeartbeats 4000000
/-! rules of our own: a tuple repeated, any small number of times -/
namespace Sg
open PySem PySem.Spec PyProof.Rows L2 Evl
theorem tuple_mul1 (l : Addr) (items : Array Value) (n : Nat) (dd : Option Addr) (sl : Array (Option Value)) (u : Tok) :
    Meets (Builtin.«tuple.__mul__» ⟨[.ref l, .int 1 u], []⟩) (fun _ R s => s.heap.get? l = some { cls := .type "tuple", dict := dd, data := .seq items n, slots := sl } ∧ R (.ok (.ret (Value.ref l))) s) :=
  .of_wp fun prog w A R s h => by
    obtain ⟨hp, g, d, tk, os⟩ := s
    obtain ⟨hl, h⟩ := h
    have f1 := AutoSeq1.idx_int
    have c1 : (items.isEmpty || ((1 : Int) == 1)) = true := by simp
    wp_walk using wpAny_loadPart' hl
    repeat (first
      | (refine wpAny_ite_false (by decide) ?_; wp_walk using wpAny_loadPart' hl)
      | (refine wpAny_ite_true (by simp) ?_; wp_walk using wpAny_loadPart' hl))
    exact ⟨_, rfl, h⟩
theorem tuple_mul0 (l : Addr) (items : Array Value) (n : Nat) (dd : Option Addr) (sl : Array (Option Value)) (u : Tok) (hne : items.isEmpty = false) :
    Meets (Builtin.«tuple.__mul__» ⟨[.ref l, .int 0 u], []⟩) (fun _ R s => s.heap.get? l = some { cls := .type "tuple", dict := dd, data := .seq items n, slots := sl } ∧
      R (.ok (.ret (Value.ref s.heap.objs.size))) { s with heap := s.heap.push { cls := Value.type "tuple", data := Data.seq #[] }, toks := s.toks }) :=
  .of_wp fun prog w A R s h => by
    obtain ⟨hp, g, d, tk, os⟩ := s
    obtain ⟨hl, h⟩ := h
    have f1 := AutoSeq1.idx_int
    have c1 : (items.isEmpty || ((0 : Int) == 1)) = false := by rw [hne]; rfl
    wp_walk using wpAny_loadPart' hl
    repeat (first
      | (refine wpAny_ite_false (by decide) ?_; wp_walk using wpAny_loadPart' hl)
      | (refine wpAny_ite_false (decide_eq_false (by rw [c1]; exact Bool.false_ne_true)) ?_; wp_walk using wpAny_loadPart' hl)
      | (refine wpAny_ite_true (by simp) ?_; wp_walk using wpAny_loadPart' hl))
    exact ⟨_, rfl, h⟩
def rRepA (K : PySem.W.Frag) : R2 := fun x y H Q => ∃ (l : Addr) (k : Nat) (xs : List V), x = .ref l ∧ y = nV k ∧ SqT K H l xs ∧ xs ≠ [] ∧ k ≤ 1000 ∧ xs.length ≤ 1000 ∧ (k = 1 → Q (.ref l) H) ∧ (k ≠ 1 → ∀ p, H p = none → Q (.ref p) (upd H p (.tup (List.replicate k xs).flatten)))
theorem op_repA {X : Cx} : OpR X (binaryOp .Mult) (rRepA X.K) := by
  intro pins s σ H x y v u Q I rx ry h
  obtain ⟨l, k, xs, rfl, rfl, hT, hne, h2, hz, q1, q⟩ := h
  by_cases hk : 2 ≤ k
  · refine op_repT pins s σ H _ _ v u Q I rx ry ⟨l, (k : Int), xs, rfl, rfl, hT, hne, by omega, by omega, hz, fun p hp => ?_⟩
    exact q (by omega) p hp
  cases rx
  obtain ⟨t, rfl⟩ := ry
  obtain ⟨its, r, ⟨⟨cls, dd, data, sl⟩, ho, hc, n, hd⟩, hs⟩ := I.tuple hT
  simp only at hc hd
  subst hc hd
  have hle : its.length = xs.length := r.length.symm
  have hn : its ≠ [] := fun e => hne (by
    rw [e] at hle
    exact List.eq_nil_of_length_eq_zero hle.symm)
  have hi : its.toArray.isEmpty = false := by
    cases its with
    | nil => exact absurd rfl hn
    | cons a b => rfl
  rcases (show k = 0 ∨ k = 1 by omega) with z | z
  · subst z
    refine wpAny_binaryOp_repeat_ref (T := "tuple") (U := "int") (by decide) ⟨_, ho, rfl⟩ (fun s' => typeIs_int s' ((0 : Nat) : Int) t) noFill_tuple_mul F.fills_int_mul F.slot_int_rmul repeat_tuple F.slot_int_index.lookup
      (call_meets F.slot_int_rmul (typeIs_int s ((0 : Nat) : Int) t) F.entry_int_rmul (F.args_int_rmul_2 _ _) (int_rmul_tuple ((0 : Nat) : Int) t l its.toArray n dd sl)
        ⟨ho, rfl, ⟨_, ho, rfl⟩, call_meets F.slot_tuple_mul ⟨_, ho, rfl⟩ F.entry_tuple_mul (F.args_tuple_mul_2 _ _) (tuple_mul0 l its.toArray n dd sl t hi) ⟨ho, ?_⟩⟩)
    refine ⟨.ref s.heap.objs.size, _, I.laid (t' := s.toks) (o := .tup []) (fun b ob q => Heap.get?_push_of_some _ q) (Nat.le_refl _) ?_, rfl, q (by omega) _ (I.hok.fresh (Nat.le_refl _))⟩
    exact ⟨Nat.zero_le _, [], .nil, IsTup.new _ _⟩
  · subst z
    exact wpAny_binaryOp_repeat_ref (T := "tuple") (U := "int") (by decide) ⟨_, ho, rfl⟩ (fun s' => typeIs_int s' ((1 : Nat) : Int) t) noFill_tuple_mul F.fills_int_mul F.slot_int_rmul repeat_tuple F.slot_int_index.lookup
      (call_meets F.slot_int_rmul (typeIs_int s ((1 : Nat) : Int) t) F.entry_int_rmul (F.args_int_rmul_2 _ _) (int_rmul_tuple ((1 : Nat) : Int) t l its.toArray n dd sl)
        ⟨ho, rfl, ⟨_, ho, rfl⟩, call_meets F.slot_tuple_mul ⟨_, ho, rfl⟩ F.entry_tuple_mul (F.args_tuple_mul_2 _ _) (tuple_mul1 l its.toArray n dd sl t) ⟨ho, .ref l, H, I, rfl, q1 rfl⟩⟩)
/-- some tuple, new or not -/
def EvW (te : TE) (σ : L2.St) (H : Hp) (xs : List V) : Prop := ∀ H1, Ex H H1 → ∀ Q : VK, (∀ p H2, Ex H1 H2 → H2 p = some (.tup xs) → Q (.ref p) H2) → te σ H1 Q
section
variable {K : PySem.W.Frag} {σ : L2.St} {H H' : Hp} {ta tb te : TE} {xs ys : List V} {x : V}
theorem EvU.w (h : EvU te σ H xs) : EvW te σ H xs := fun H1 e Q q => h H1 e Q fun p H2 _ e2 h2 => q p H2 e2 h2
theorem ew_rep {n : Nat} (ha : EvU ta σ H [x]) (hb : ∀ H1, Ex H H1 → Ev tb σ H1 (nV n)) (hn : n ≤ 1000) : EvW (tOp (rRepA K) ta tb) σ H (List.replicate n x) := fun H1 e Q q =>
  ha H1 e _ fun p H2 hp e2 h2 => hb H2 (e.trans e2) H2 (Ex.refl H2) _ fun H3 e3 => ⟨p, n, [x], rfl, rfl, st_of (e3 _ _ h2), by simp, hn, Nat.le_of_ble_eq_true rfl, fun h1 => by
    refine q p H3 (e2.trans e3) ?_
    rw [h1]
    exact e3 _ _ h2, fun _ r hr => by
    refine q r _ ((e2.trans e3).trans (Ex.new hr)) ?_
    rw [upd_same, flat_one]⟩
theorem ew_cat (ha : EvW ta σ H xs) (hb : ∀ H1, Ex H H1 → EvW tb σ H1 ys) (hz : xs.length + ys.length ≤ 100000) : EvW (tOp (rCatA K) ta tb) σ H (xs ++ ys) := fun H1 e Q q =>
  ha H1 e _ fun p H2 e2 h2 => hb H2 (e.trans e2) H2 (Ex.refl H2) _ fun r H3 e3 h3 => ⟨p, r, xs, ys, rfl, rfl, st_of (e3 _ _ h2), st_of h3, sz_of hz, fun z => by
    refine q r H3 (e2.trans e3) ?_
    rw [z]
    exact h3, fun _ z => by
    refine q p H3 (e2.trans e3) ?_
    rw [z, List.append_nil]
    exact e3 _ _ h2, fun _ _ w hw => q w _ ((e2.trans e3).trans (Ex.new hw)) upd_same⟩
end
end Sg

set_option maxHeartbeats 4000000
namespace Sg
open PySem PySem.Spec PyProof.Rows L2 Evl
section
variable {P : Program} {w : World} {K : PySem.W.Frag} {mg : Str → Option Value} {base : Heap}
/-! ### _law_payloads -/
theorem evp_pay {σ : L2.St} {H : Hp} {ta tb : TE} (p : PayD) (h1 : Ev ta σ H (nV p.kind)) (h2 : ∀ H1, Ex H H1 → EvW tb σ H1 (p.body.map V.int)) : EvP (tTup (tCons ta (tCons tb tNil))) σ H fun v H2 => PayAt H2 v p := fun H1 e Q q =>
  h1 H1 e _ fun H2 e2 => h2 H2 (e.trans e2) H2 (Ex.refl H2) _ fun b H3 e3 hb => ⟨(by show 2 ≤ sizeLine; exact sz_of (Nat.le_of_ble_eq_true rfl)), fun t ht => q _ _ ((e2.trans e3).trans (Ex.new ht)) ⟨t, b, rfl, upd_same, Ex.new ht _ _ hb⟩⟩
theorem s_appP {σ : L2.St} {H : Hp} {ta te : TE} {D : Ends} {l : Addr} {xs : List V} {P : V → Hp → Prop} (hl : H l = some (.lst xs)) (ha : Ev ta σ H (.ref l)) (h : EvP te σ H P) (hz : xs.length < 100000) (k : ∀ v H1, Ex H H1 → P v H1 → D.nx σ (upd H1 l (.lst (xs ++ [v])))) :
    tDrop (tBM K "list" rAppend ta (tCons te tNil)) D σ H := ha H (Ex.refl H) _ fun H1 e1 =>
  ⟨Or.inl ⟨rfl, xs, sq_of (e1 l _ hl)⟩, h H1 e1 _ fun v H2 e2 p => ⟨l, xs, v, rfl, rfl, e2 l _ (e1 l _ hl), sz_lt hz, k v H2 (e1.trans e2) p⟩⟩
def sp_law_payloads (K : PySem.W.Frag) : Sp := fun vs H Q _ => ∃ (la : Addr) (l : Lay) (n c : Nat), vs = [.ref la, nV n, nV c] ∧ LayAt K H la l ∧ c ≤ 1000 ∧
  RetP (fun v H2 => ∃ (q : Addr) (us : List V) (pays : List PayD), v = .ref q ∧ H q = none ∧ H2 q = some (.lst us) ∧ Rl (PayAt H2) us pays ∧ pays.length = c) H Q
abbrev nm_law_payloads : List Str := ["_law_layout_here", "_law_row_here", "_law_count", "_law_payloads_here", "_law_k", "_law_kind", "_law_value", "_law_at"]
theorem sc_law_payloads : FnScope nm_law_payloads ["_law_layout_here", "_law_row_here", "_law_count"] (defScope s_law_payloads) := ⟨rfl, rfl, rfl, by decide +kernel, rfl, by decide +kernel, by decide +kernel⟩
theorem ok_law_payloads (T : Ctx K mg base) : Okd P w K mg base 2 (He.ga K "_law_payloads") ["_law_layout_here", "_law_row_here", "_law_count"] (sp_law_payloads K) := by
  obtain ⟨fd, F⟩ := T.def_law_payloads
  have b : Binds K fd ["_law_layout_here", "_law_row_here", "_law_count"] [] := FunD.bindsN F fun _ _ _ _ _ _ us hl => match us, hl with | [_, _, _], _ => rfl
  obtain ⟨fd_law_digits, G_law_digits, b_law_digits, k_law_digits⟩ := ok_law_digits (P := P) (w := w) T
  refine ⟨fd, FunD.ok F sc_law_payloads (fun vs H Q E h => ?_) (fun cdv A outer s H vs Q E hr h => ?_), b, F.kp⟩
  · obtain ⟨la, l, n, c, rfl, _⟩ := h
    rfl
  · obtain ⟨la, l, n, c, rfl, hla, hc, k⟩ := h
    refine ⟨_, PSs.nox (pss_cons (ps_set (i := 3) sc_law_payloads.nd rfl (Or.inl rfl) (pe_lst pa_nil))
      (pss_cons (ps_for PassesOwn.never rfl (pi_range1 rfl T.free_range (pa_cons (pv 2) pa_nil)) (pg_name (i := 4) sc_law_payloads.nd rfl (Or.inl rfl)) (pss_cons (ps_asg (pe_call G_law_digits (hr.mono (by decide)) rfl T.glo_law_digits k_law_digits b_law_digits .nil pass0 (pa_cons (pe_op op_fdiv (pv 1) (pe_op op_add (pv 4) pe_int)) (pa_cons (pe_lst (pa_cons pe_int (pa_cons pe_int (pa_cons (pe_fld (pv 0) rfl) pa_nil)))) pa_nil))) (pg_unl rfl (pgs_cons (pg_name (i := 5) sc_law_payloads.nd rfl (Or.inl rfl)) (pgs_cons (pg_name (i := 6) sc_law_payloads.nd rfl (Or.inl rfl)) (pgs_cons (pg_name (i := 7) sc_law_payloads.nd rfl (Or.inl rfl)) pgs_nil)))))
      (pss_one (ps_if (pt_cmpR op_eq (pv 5) pe_int (nomark _)) (pss_one (ps_expr (pe_bm PySem.F.plainAttrs_list PySem.F.slot_list_append PySem.F.type_list_append mt_append (pv 3) (pa_cons (pe_tup (pa_cons pe_int (pa_cons (pe_op op_catA (pe_tup (pa_cons (pe_op op_add pe_int (pe_op op_mod (pv 6) (pe_fld (pv 0) rfl))) pa_nil)) (pe_op op_repA (pe_tup (pa_cons pe_int pa_nil)) (pe_op op_sub (pe_fld (pv 0) rfl) pe_int))) pa_nil))) pa_nil)))) (pss_one (ps_expr (pe_bm PySem.F.plainAttrs_list PySem.F.slot_list_append PySem.F.type_list_append mt_append (pv 3) (pa_cons (pe_tup (pa_cons pe_int (pa_cons (pe_op op_catA (pe_op op_repA (pe_tup (pa_cons (pv 6) pa_nil)) (pv 7)) (pe_op op_repA (pe_tup (pa_cons (pe_op op_mod (pe_op op_mul (pv 6) pe_int) pe_int) pa_nil)) (pe_op op_sub (pe_fld (pv 0) rfl) (pv 7)))) pa_nil))) pa_nil))))))))
      (pss_one (ps_ret (pv 3))))), ?_⟩
    have lo := hla.1
    have hl1 := lo.last1
    have hb1 := lo.bs1
    refine q_asgL (el_lst ea_nil (Nat.le_of_ble_eq_true rfl)) fun a H1 ha e1 h1 => ?_
    refine q_forR1 (n := (c : Int)) (ea_cons (ev_var rfl) ea_nil) (by omega)
      (fun j σ' H' => ∃ x y z u us pays, σ' = [some (.ref la), some (nV n), some (nV c), some (.ref a), x, y, z, u] ∧ Ex H H' ∧ H' a = some (.lst us) ∧ Rl (PayAt H') us pays ∧ pays.length = j)
      (fun H2 e2 => ⟨none, none, none, none, [], [], rfl, e1.trans e2, e2 _ _ h1, Rl.nil, rfl⟩) ?_ ?_
    · rintro j σ' H' hj ⟨x, y, z, u, us, pays, rfl, eH, hq, hr, hpl⟩
      have hla' := hla.mono eH
      refine q_asgPG (evp_digits (P := fun _ => True) (ds := [3, 256, l.bs]) (en_of (ev_divN (j := j + 1) (ev_var rfl) (ev_addN (ev_var rfl) (ev_nC 1)) (by omega) (by omega)) trivial) (fun H2 e2 => el_lst (ea_cons ev_c (ea_cons ev_c (ea_cons (yv_block_size T (hla'.mono e2) (ev_var rfl)) ea_nil))) (Nat.le_of_ble_eq_true rfl)) (by simp) (by intro d hd; simp at hd; omega)) fun v H2 e2 hv => ?_
      obtain ⟨q, rs, rfl, hq2, dg⟩ := hv
      obtain ⟨kd, val, at_, rfl, d1, d2, d3⟩ := dig3 dg
      refine g_un3 hq2 ?_
      have hla2 := hla'.mono e2
      have fin : ∀ (D : Ends) (te : TE) (p : PayD) H3, Ex H2 H3 → EvP te [some (.ref la), some (nV n), some (nV c), some (.ref a), some (nV j), some (nV kd), some (nV val), some (nV at_)] H3 (fun v H2 => PayAt H2 v p) →
          (∀ (us' : List V) (pays' : List PayD) H'', Ex H H'' → H'' a = some (.lst us') → Rl (PayAt H'') us' pays' → pays'.length = j + 1 → D.nx [some (.ref la), some (nV n), some (nV c), some (.ref a), some (nV j), some (nV kd), some (nV val), some (nV at_)] H'') →
          tDrop (tBM K "list" rAppend (tVar 3) (tCons te tNil)) D [some (.ref la), some (nV n), some (nV c), some (.ref a), some (nV j), some (nV kd), some (nV val), some (nV at_)] H3 := fun D te p H3 e3 hp kk => by
        refine s_appP (e3 _ _ (e2 _ _ hq)) (ev_var rfl) hp (by rw [hr.1]; omega) fun v H4 e4 hv => ?_
        have ft : Tx H4 (upd H4 a (.lst (us ++ [v]))) := Tx.upd (Tx.refl _) fun xs z => by
          rw [e4 _ _ (e3 _ _ (e2 _ _ hq))] at z
          cases z
        refine kk _ (pays ++ [p]) _ (Ex.mut (eH.trans (e2.trans (e3.trans e4))) ha) upd_same (Rl.app (hr.mono fun v p z => (z.mono (Ex.tx (e2.trans (e3.trans e4)))).mono ft) (Rl.one (hv.mono ft))) (by simp [hpl])
      refine s_if (et_cmp (ev_var rfl) ev_c (rv_eq rfl)) (fun _ H3 e3 => ?_) (fun _ H3 e3 => ?_)
      · refine fin _ _ ⟨true, [((1 + val % l.last : Nat) : Int)] ++ List.replicate (l.fan - 1) 0⟩ H3 e3 (evp_pay _ (ev_nC 4) fun H4 e4 => ?_) fun us' pays' H'' q1 q2 q3 q4 => ⟨_, _, _, _, us', pays', rfl, q1, q2, q3, q4⟩
        rw [List.map_append, List.map_replicate]
        have hla4 := hla2.mono (e3.trans e4)
        refine ew_cat (EvU.w (eu_tup (ea_cons (ev_addN (ev_nC 1) (ev_modN (ev_var rfl) (yv_last_id T hla4 (ev_var rfl)) (by omega))) ea_nil) (Nat.le_of_ble_eq_true rfl))) (fun H5 e5 => ew_rep (eu_tup (ea_cons ev_c ea_nil) (Nat.le_of_ble_eq_true rfl)) (fun H6 e6 => ev_is (ev_op (yv_fan T (hla4.mono (e5.trans e6)) (ev_var rfl)) ev_c rv_I0) ?_) (by omega)) (by simp; omega)
        show V.int ((l.fan : Int) - 1) = nV (l.fan - 1)
        show V.int _ = V.int _
        congr 1
        omega
      · refine fin _ _ ⟨false, List.replicate at_ ((val : Nat) : Int) ++ List.replicate (l.bs - at_) ((val * 7 % 256 : Nat) : Int)⟩ H3 e3 (evp_pay _ (ev_nC 3) fun H4 e4 => ?_) fun us' pays' H'' q1 q2 q3 q4 => ⟨_, _, _, _, us', pays', rfl, q1, q2, q3, q4⟩
        rw [List.map_append, List.map_replicate, List.map_replicate]
        have hla4 := hla2.mono (e3.trans e4)
        refine ew_cat (ew_rep (eu_tup (ea_cons (ev_var rfl) ea_nil) (Nat.le_of_ble_eq_true rfl)) (fun H6 e6 => ev_var rfl) (by omega)) (fun H5 e5 => ew_rep (eu_tup (ea_cons (ev_modN (ev_mulN (ev_var rfl) (ev_nC 7) (.inr (by decide))) (ev_nC 256) (by decide)) ea_nil) (Nat.le_of_ble_eq_true rfl)) (fun H6 e6 => ev_is (ev_op (yv_block_size T (hla4.mono (e5.trans e6)) (ev_var rfl)) (ev_var rfl) rv_I0) ?_) (by omega)) (by simp; omega)
        show V.int ((l.bs : Int) - (at_ : Int)) = nV (l.bs - at_)
        show V.int _ = V.int _
        congr 1
        omega
    · rintro σ' H' ⟨x, y, z, u, us, pays, rfl, eH, hq, hr, hpl⟩
      exact s_ret (ev_var rfl) fun H4 e4 => k _ _ (eH.trans e4) ⟨a, us, pays, rfl, ha, e4 _ _ hq, hr.mono fun v p z => z.mono (Ex.tx e4), by omega⟩
end
end Sg


set_option maxHeartbeats 4000000
/-! the law's states in the heap: lists of dicts of payloads; how they are compared -/
namespace Sg
open PySem PySem.Spec PyProof.Rows L2 Evl
def MapP (H : Hp) (m : List (Nat × V)) (f : Map) : Prop := (m.map (·.1)).Nodup ∧ m.length ≤ 1000 ∧ (∀ e ∈ m, ∃ p, f e.1 = some p ∧ PayAt H e.2 p) ∧ ∀ k p, f k = some p → k ∈ m.map (·.1)
def MapAt (H : Hp) (S : List Addr) (v : V) (f : Map) : Prop := ∃ a m, v = .ref a ∧ H a = some (.dK (dN m)) ∧ a ∉ S ∧ MapP H m f
def OMapAt (H : Hp) (S : List Addr) (v : V) : Option Map → Prop
  | none => v = .non
  | some f => MapAt H S v f
def StAt (H : Hp) (S : List Addr) (v : V) (st : List (Option Map)) : Prop := st.length = 4 ∧ ∃ a vs, v = .ref a ∧ H a = some (.lst vs) ∧ a ∉ S ∧ Rl (OMapAt H S) vs st
def StsAt (H : Hp) (S : List Addr) (v : V) (sts : List (List (Option Map))) : Prop := ∃ a vs, v = .ref a ∧ H a = some (.lst vs) ∧ a ∉ S ∧ Rl (StAt H S) vs sts
/-- what is not of S stays, and is not of S' -/
structure Kp (H : Hp) (S : List Addr) (H' : Hp) (S' : List Addr) : Prop where
  kp : ∀ b o, H b = some o → b ∉ S → H' b = some o
  ni : ∀ b o, H b = some o → b ∉ S → b ∉ S'
  tx : Tx H H'
section
variable {H H' : Hp} {S S' : List Addr} {v : V}
theorem Evo.kps {A A' : Ad} (e : Evo H A H' A') : Kp H A.own H' A'.own := ⟨e.kp, e.ni, e.tx⟩
theorem Ex.kps (e : Ex H H') : Kp H S H' S := ⟨fun b o h _ => e b o h, fun _ _ _ n => n, Ex.tx e⟩
theorem MapP.mono {m : List (Nat × V)} {f : Map} (h : MapP H m f) (e : Tx H H') : MapP H' m f := ⟨h.1, h.2.1, fun x hx => let ⟨p, h1, h2⟩ := h.2.2.1 x hx; ⟨p, h1, h2.mono e⟩, h.2.2.2⟩
theorem MapAt.keep {f : Map} (h : MapAt H S v f) (k : Kp H S H' S') : MapAt H' S' v f := let ⟨a, m, h1, h2, h3, h4⟩ := h; ⟨a, m, h1, k.kp _ _ h2 h3, k.ni _ _ h2 h3, h4.mono k.tx⟩
theorem OMapAt.keep {o : Option Map} (h : OMapAt H S v o) (k : Kp H S H' S') : OMapAt H' S' v o := by
  cases o with
  | none => exact h
  | some f => exact MapAt.keep h k
theorem StAt.keep {st : List (Option Map)} (h : StAt H S v st) (k : Kp H S H' S') : StAt H' S' v st := let ⟨h0, a, vs, h1, h2, h3, h4⟩ := h; ⟨h0, a, vs, h1, k.kp _ _ h2 h3, k.ni _ _ h2 h3, h4.mono fun _ _ z => z.keep k⟩
theorem StsAt.keep {sts : List (List (Option Map))} (h : StsAt H S v sts) (k : Kp H S H' S') : StsAt H' S' v sts := let ⟨a, vs, h1, h2, h3, h4⟩ := h; ⟨a, vs, h1, k.kp _ _ h2 h3, k.ni _ _ h2 h3, h4.mono fun _ _ z => z.keep k⟩
end
theorem valV_mem {m : List (Nat × V)} {k : Nat} {v : V} (h : valV m k = some v) : (k, v) ∈ m := by
  induction m with
  | nil => cases h
  | cons p r ih =>
    by_cases e : p.1 = k
    · rw [valV_pos e] at h
      injection h with h
      rw [← e, ← h]
      exact List.mem_cons_self
    · rw [valV_neg e] at h
      exact List.mem_cons_of_mem _ (ih h)
theorem MapP.some {H : Hp} {m : List (Nat × V)} {f : Map} (h : MapP H m f) {k : Nat} {p : PayD} (e : f k = some p) : ∃ v, valV m k = some v ∧ PayAt H v p := by
  cases q : valV m k with
  | none => exact absurd (h.2.2.2 k p e) (valV_not q)
  | some v =>
    obtain ⟨p', h1, h2⟩ := h.2.2.1 _ (valV_mem q)
    have h1 : f k = Option.some p' := h1
    rw [e] at h1
    injection h1 with h1
    exact ⟨v, rfl, h1 ▸ h2⟩
theorem MapP.none {H : Hp} {m : List (Nat × V)} {f : Map} (h : MapP H m f) {k : Nat} (e : f k = none) : valV m k = none := by
  cases q : valV m k with
  | none => rfl
  | some v =>
    obtain ⟨p', h1, h2⟩ := h.2.2.1 _ (valV_mem q)
    have h1 : f k = Option.some p' := h1
    rw [e] at h1
    cases h1
/-! ### comparing -/
def pdOf (p : PayD) : PyData := .tuple [.int (p.kind : Int), .tuple (p.body.map .int)]
theorem lay_ints : ∀ ns : List Int, PyData.canLayAll0 (ns.map .int) = true
  | [] => rfl
  | n :: ns => by
    rw [List.map_cons, PyData.canLayAll0, lay_ints ns]
    rfl
theorem lay_pd (p : PayD) : (pdOf p).canLay0 = true := by
  unfold pdOf
  simp [PyData.canLay0, PyData.canLayAll0, lay_ints]
theorem depth_pd (p : PayD) : (pdOf p).depth ≤ 4 := by
  have := depth_ints p.body
  unfold pdOf
  simp [PyData.depth, PyData.depthAll]
  omega
section
variable {X : Cx} {pins : List (Addr × Obj)} {σ : L2.St} {H : Hp} {s : Shared}
theorem reads_pay (I : Inv X pins σ H s) {v : V} {u : Value} {p : PayD} (h : PayAt H v p) (r : RelV v u) : ∃ as, Reads s.heap u (pdOf p) as := by
  obtain ⟨a, b, rfl, h1, h2⟩ := h
  cases r
  obtain ⟨_, its, r1, o, ho, hc, n, hd⟩ := I.hok _ _ h1
  obtain ⟨_, its2, r2, o2, ho2, hc2, n2, hd2⟩ := I.hok _ _ h2
  cases r1 with
  | cons a1 r1 =>
    cases r1 with
    | cons a2 r1 =>
      cases r1
      cases a2
      obtain ⟨t, rfl⟩ := a1
      exact ⟨_, .tuple ho hc hd (.cons (.int _ _) (.cons (.tuple ho2 hc2 hd2 (readsAll_of r2.ints)) .nil))⟩
theorem eqP_pay (I : Inv X pins σ H s) {v v' : V} {u u' : Value} {p p' : PayD} (h : PayAt H v p) (h' : PayAt H v' p') (r : RelV v u) (r' : RelV v' u') {A : Around} (hu : A.units + 10 < cLine) : ∃ b, SeqAt.EqP X.prog X.w A s u u' b ∧ (p = p' → b = true) := by
  obtain ⟨as, q⟩ := reads_pay I h r
  obtain ⟨as', q'⟩ := reads_pay I h' r'
  refine ⟨_, (SeqAt.eqAt_reads _ _ A s u u' _ _ q q' (lay_pd p) (lay_pd p') ?_).eqP, fun e => ?_⟩
  · have := depth_pd p
    omega
  · rw [e]
    exact SeqAt.eqv_refl _ (lay_pd p')
theorem hits_some {A : Around} {G : Prop} {ls : List (Key × V)} {vb : List (Key × Value)} (rb : KV ls vb) {ks : List (Key × V)} {va : List (Key × Value)} (ra : KV ks va) :
    (∀ p ∈ ks, (G → valV ls p.1 ≠ none) ∧ ∀ u, valV ls p.1 = some u → ∀ x y, RelV p.2 x → RelV u y → ∃ b, SeqAt.EqP X.prog X.w A s x y b ∧ (G → b = true)) → ∃ b, PySem.W.KeqHitsP X.prog X.w A s vb va b ∧ (G → b = true) := by
  unfold KV at ra
  induction ra with
  | nil => exact fun _ => ⟨true, .nil, fun _ => rfl⟩
  | @cons p q ps qs h t k =>
    intro hp
    obtain ⟨h1, h2⟩ := h
    obtain ⟨hg, he⟩ := hp p List.mem_cons_self
    obtain ⟨key, v⟩ := q
    have h1' : p.1 = key := h1
    have rr : RelO (valV ls p.1) (valueAt vb p.1) := rb.val p.1
    cases e : valV ls p.1 with
    | none =>
      rw [e] at rr
      have hn : valueAt vb key = none := by
        rw [← h1']
        exact rr.none_of
      exact ⟨false, .miss hn, fun g => absurd e (hg g)⟩
    | some u =>
      rw [e] at rr
      obtain ⟨y, hy, ry⟩ := rr.some_of
      rw [h1'] at hy
      obtain ⟨b1, q1, q2⟩ := he u e v y h2 ry
      obtain ⟨b2, q3, q4⟩ := k fun p' hm => hp p' (List.mem_cons_of_mem _ hm)
      exact ⟨b1 && b2, .hit hy q1 q3, fun g => by rw [q2 g, q4 g]; rfl⟩
theorem MapP.len {m m' : List (Nat × V)} {f : Map} {H H' : Hp} (h : MapP H m f) (h' : MapP H' m' f) : m.length = m'.length := by
  have a : ∀ {m m' : List (Nat × V)} {H H' : Hp}, MapP H m f → MapP H' m' f → m.length ≤ m'.length := fun {m m' H H'} h h' => by
    have := nodup_len (m.map (·.1)) (m'.map (·.1)) h.1 fun k hk => by
      obtain ⟨e, he, rfl⟩ := List.mem_map.mp hk
      obtain ⟨p, q, _⟩ := h.2.2.1 e he
      exact h'.2.2.2 _ p q
    simpa using this
  exact Nat.le_antisymm (a h h') (a h' h)
theorem eqP_omap (I : Inv X pins σ H s) {S S' : List Addr} {v v' : V} {u u' : Value} {o o' : Option Map} (h : OMapAt H S v o) (h' : OMapAt H S' v' o') (r : RelV v u) (r' : RelV v' u') {A : Around} (hu : A.units + 20 < cLine) : ∃ b, SeqAt.EqP X.prog X.w A s u u' b ∧ (o = o' → b = true) := by
  cases o with
  | none =>
    obtain rfl : v = .non := h
    cases (show u = Value.none from r)
    cases o' with
    | none =>
      obtain rfl : v' = .non := h'
      cases (show u' = Value.none from r')
      exact ⟨true, (SeqAt.EqAt.same _).eqP, fun _ => rfl⟩
    | some f =>
      obtain ⟨a, m, rfl, h2, h3, h4⟩ := h'
      cases (show u' = Value.ref a from r')
      obtain ⟨_, ya, va, ra, da⟩ := (show ObjOk X.prog X.w H s.heap a (.dK (dN m)) from I.hok a _ h2)
      exact ⟨false, eqP_none_dict da.typeIs (by omega), fun e => (nomatch e)⟩
  | some f =>
    obtain ⟨a, m, rfl, h2, h3, h4⟩ := h
    cases (show u = Value.ref a from r)
    obtain ⟨_, ya, va, ra, da⟩ := (show ObjOk X.prog X.w H s.heap a (.dK (dN m)) from I.hok a _ h2)
    cases o' with
    | none =>
      obtain rfl : v' = .non := h'
      cases (show u' = Value.none from r')
      exact ⟨false, eqP_dict_none da.typeIs (by omega), fun e => (nomatch e)⟩
    | some f' =>
      obtain ⟨a', m', rfl, h2', h3', h4'⟩ := h'
      cases (show u' = Value.ref a' from r')
      obtain ⟨_, yb, vb, rb, db⟩ := (show ObjOk X.prog X.w H s.heap a' (.dK (dN m')) from I.hok a' _ h2')
      by_cases e : a = a'
      · subst e
        exact ⟨true, (SeqAt.EqAt.same _).eqP, fun _ => rfl⟩
      · obtain ⟨b, hb, hg⟩ := hits_some (X := X) (s := s) (A := A.in1) (G := f = f') rb ra fun p hp => by
          obtain ⟨e, he, rfl⟩ := List.mem_map.mp hp
          obtain ⟨q, q1, q2⟩ := h4.2.2.1 e he
          refine ⟨fun g z => ?_, fun u hu' x y rx ry => ?_⟩
          · rw [dN_val] at z
            rw [g] at q1
            obtain ⟨v, w1, _⟩ := h4'.some q1
            rw [z] at w1
            cases w1
          · rw [dN_val] at hu'
            obtain ⟨q', w1, w2⟩ := h4'.2.2.1 _ (valV_mem hu')
            obtain ⟨b, b1, b2⟩ := eqP_pay I q2 w2 rx ry (A := A.in1) (by show A.units + 1 + 10 < cLine; omega)
            refine ⟨b, b1, fun g => b2 ?_⟩
            rw [g] at q1
            exact Option.some.inj (q1.symm.trans w1)
        refine ⟨va.length == vb.length && b, SeqAt.eqP_refs e fun E Q q => PySem.W.rcP_dicts (knd := mixKind X.prog X.w) ya yb da db (by omega) (fun _ => hb) E Q q, fun g => ?_⟩
        have gf : f = f' := Option.some.inj g
        rw [hg gf, ← ra.length, ← rb.length, dN_len, dN_len]
        subst gf
        rw [h4.len h4']
        simp
theorem list_chooses {R : Nat → Bool → Prop} (h : ∀ j, ∃ b, R j b) : ∃ e : Nat → Bool, ∀ j, R j (e j) := ⟨fun j => Classical.choose (h j), fun j => Classical.choose_spec (h j)⟩
theorem eqs_st (I : Inv X pins σ H s) {S S' : List Addr} {vs vs' : List V} {us us' : List Value} {st st' : List (Option Map)} (h : Rl (OMapAt H S) vs st) (h' : Rl (OMapAt H S') vs' st') (r : Vals vs us) (r' : Vals vs' us') {A : Around} (hu : A.units + 20 < cLine) :
    ∃ e : Nat → Bool, (∀ j (h1 : j < us.toArray.size) (h2 : j < us'.toArray.size), SeqAt.EqP X.prog X.w A s us.toArray[j] us'.toArray[j] (e j)) ∧ (st = st' → ∀ j, e j = true) := by
  obtain ⟨e, he⟩ := list_chooses (R := fun j b => (∀ (h1 : j < us.toArray.size) (h2 : j < us'.toArray.size), SeqAt.EqP X.prog X.w A s us.toArray[j] us'.toArray[j] b) ∧ (st = st' → b = true)) fun j => by
    by_cases h1 : j < us.toArray.size
    · by_cases h2 : j < us'.toArray.size
      · have l1 : j < us.length := by simpa using h1
        have l2 : j < us'.length := by simpa using h2
        have k1 : j < vs.length := by rw [r.length]; exact l1
        have k2 : j < vs'.length := by rw [r'.length]; exact l2
        obtain ⟨o, ho, q⟩ := h.get' (List.getElem?_eq_getElem k1)
        obtain ⟨o', ho', q'⟩ := h'.get' (List.getElem?_eq_getElem k2)
        obtain ⟨w, w1, w2⟩ := Vals.get r (List.getElem?_eq_getElem k1)
        obtain ⟨w', w1', w2'⟩ := Vals.get r' (List.getElem?_eq_getElem k2)
        obtain ⟨b, b1, b2⟩ := eqP_omap I q q' w2 w2' hu
        have g1 : us.toArray[j] = w := by rw [List.getElem_toArray]; exact (List.getElem?_eq_some_iff.mp w1).2
        have g2 : us'.toArray[j] = w' := by rw [List.getElem_toArray]; exact (List.getElem?_eq_some_iff.mp w1').2
        refine ⟨b, fun _ _ => by rw [g1, g2]; exact b1, fun e => b2 ?_⟩
        rw [e, ho'] at ho
        exact (Option.some.inj ho).symm
      · exact ⟨true, fun _ z => absurd z h2, fun _ => rfl⟩
    · exact ⟨true, fun z _ => absurd z h1, fun _ => rfl⟩
  exact ⟨e, fun j h1 h2 => (he j).1 h1 h2, fun g j => (he j).2 g⟩
theorem eqP_st (I : Inv X pins σ H s) {S S' : List Addr} {v v' : V} {u u' : Value} {st st' : List (Option Map)} (h : StAt H S v st) (h' : StAt H S' v' st') (r : RelV v u) (r' : RelV v' u') {A : Around} (hu : A.units + 30 < cLine) : ∃ b, SeqAt.EqP X.prog X.w A s u u' b ∧ (st = st' → b = true) := by
  obtain ⟨l4, a, vs, rfl, h1, _, h2⟩ := h
  obtain ⟨l4', a', vs', rfl, h1', _, h2'⟩ := h'
  cases (show u = Value.ref a from r)
  cases (show u' = Value.ref a' from r')
  by_cases e : a = a'
  · subst e
    exact ⟨true, (SeqAt.EqAt.same _).eqP, fun _ => rfl⟩
  · obtain ⟨us, r1, p1, _⟩ := I.list (sq_of h1)
    obtain ⟨ws, r2, p2, _⟩ := I.list (sq_of h1')
    obtain ⟨e', q1, q2⟩ := eqs_st I h2 h2' r1 r2 (A := A.in1) (by show A.units + 1 + 20 < cLine; omega)
    refine ⟨_, SeqAt.eqP_refs e fun E Q q => SeqAt.rcP_lists (e := e') p1.isList p2.isList ?_ (by omega) q1 E Q q, fun g => ?_⟩
    · rw [List.size_toArray, List.size_toArray, ← r1.length, ← r2.length, h2.1, h2'.1, l4, l4']
    · exact List.all_eq_true.mpr fun j _ => q2 g j
end
/-- s not in states, where it is in them -/
def rStNot : R2 := fun x y H Q => ∃ S S' st sts, StAt H S x st ∧ StsAt H S' y sts ∧ st ∈ sts ∧ Q (.bl false) H
/-- two equal states are not unlike -/
def rStNe : R2 := fun x y H Q => ∃ S S' st, StAt H S x st ∧ StAt H S' y st ∧ Q (.bl false) H
section
variable {X : Cx}
theorem op_stNot (hu : X.A.units + 64 < cLine) : OpR X (compareOp .NotIn) rStNot := by
  intro pins s σ H x y v u Q I rx ry h
  obtain ⟨S, S', st, sts, hx, ⟨a, vs, rfl, h1, _, h2⟩, hm, q⟩ := h
  cases (show u = Value.ref a from ry)
  obtain ⟨us, r1, p1, _⟩ := I.list (sq_of h1)
  obtain ⟨e, he⟩ := list_chooses (R := fun j b => (∀ (h1 : j < us.toArray.size), SeqAt.EqP X.prog X.w X.A.in1 s us.toArray[j] v b) ∧ (sts[j]? = some st → b = true)) fun j => by
    by_cases hj : j < us.toArray.size
    · have l1 : j < us.length := by simpa using hj
      have k1 : j < vs.length := by rw [r1.length]; exact l1
      obtain ⟨o, ho, q⟩ := h2.get' (List.getElem?_eq_getElem k1)
      obtain ⟨w, w1, w2⟩ := Vals.get r1 (List.getElem?_eq_getElem k1)
      obtain ⟨b, b1, b2⟩ := eqP_st I q hx w2 rx (A := X.A.in1) (by show X.A.units + 1 + 30 < cLine; omega)
      have g1 : us.toArray[j] = w := by rw [List.getElem_toArray]; exact (List.getElem?_eq_some_iff.mp w1).2
      refine ⟨b, fun _ => by rw [g1]; exact b1, fun z => b2 ?_⟩
      rw [ho] at z
      exact Option.some.inj z
    · exact ⟨true, fun z => absurd z hj, fun _ => rfl⟩
  refine notIn_listP e p1.isList (fun j hj => (he j).1 hj) ⟨.bl false, H, I, ?_, q⟩
  obtain ⟨j, hj⟩ := List.getElem?_of_mem hm
  have hj1 := (List.getElem?_eq_some_iff.mp hj).1
  have : ((List.range us.toArray.size).any e) = true := List.any_eq_true.mpr ⟨j, by
    rw [List.mem_range, List.size_toArray, ← r1.length, h2.1]
    exact hj1, (he j).2 hj⟩
  rw [this]
  exact rfl
theorem op_stNe (hu : X.A.units + 64 < cLine) : OpR X (compareOp .NotEq) rStNe := by
  intro pins s σ H x y v u Q I rx ry h
  obtain ⟨S, S', st, ⟨l4, a, vs, rfl, h1, _, h2⟩, ⟨l4', a', vs', rfl, h1', _, h2'⟩, q⟩ := h
  cases (show v = Value.ref a from rx)
  cases (show u = Value.ref a' from ry)
  obtain ⟨us, r1, p1, _⟩ := I.list (sq_of h1)
  obtain ⟨ws, r2, p2, _⟩ := I.list (sq_of h1')
  obtain ⟨e', q1, q2⟩ := eqs_st I h2 h2' r1 r2 (A := X.A.in1) (by show X.A.units + 1 + 20 < cLine; omega)
  refine rcN_lists (e := e') p1.isList p2.isList ?_ (by omega) q1 _ _ ⟨.bl false, H, I, ?_, q⟩
  · rw [List.size_toArray, List.size_toArray, ← r1.length, ← r2.length, h2.1, h2'.1]
  · have : ((List.range us.toArray.size).all e') = true := List.all_eq_true.mpr fun j _ => q2 rfl j
    rw [this]
    exact rfl
end
end Sg

set_option maxHeartbeats 4000000
namespace Sg
open PySem PySem.Spec PyProof.Rows L2 Evl
section
variable {P : Program} {w : World} {K : PySem.W.Frag} {mg : Str → Option Value} {base : Heap}
/-! ### _law_contents -/
theorem OMapAt.updL {H : Hp} {S : List Addr} {v : V} {o : Option Map} {r : Addr} {xs ys : List V} (h : OMapAt H S v o) (hr : H r = some (.lst xs)) : OMapAt (upd H r (.lst ys)) S v o := by
  cases o with
  | none => exact h
  | some f =>
    obtain ⟨a, m, h1, h2, h3, h4⟩ := h
    refine ⟨a, m, h1, ?_, h3, h4.mono (Tx.upd (Tx.refl _) fun xs z => by rw [hr] at z; cases z)⟩
    rw [upd_ne (fun z => by rw [z, hr] at h2; cases h2)]
    exact h2
theorem putK_new {m : List (Nat × V)} {k : Nat} {v : V} (h : k ∉ m.map (·.1)) : putK m k v = m ++ [(k, v)] := by
  unfold putK
  rw [valV_any, isSome_key, decide_eq_false h]
  rfl
theorem s_dputP {σ : L2.St} {H : Hp} {td ty tv : TE} {D : Ends} {P : V → Hp → Prop} {a : Addr} {m : List (Nat × V)} {k : Nat} (h : H a = some (.dK (dN m))) (hv : EvP tv σ H P) (hd : ∀ H1, Ex H H1 → Ev td σ H1 (.ref a)) (hy : ∀ H1, Ex H H1 → Ev ty σ H1 (nV k)) (hz : m.length < 100000)
    (c : ∀ v H1 H2, Ex H H1 → P v H1 → Ex H1 H2 → D.nx σ (upd H2 a (.dK (dN (putK m k v))))) : sDPut td ty tv D σ H :=
  hv H (Ex.refl H) _ fun v H1 e1 p => hd H1 e1 H1 (Ex.refl H1) _ fun H2 e2 => hy H2 (e1.trans e2) H2 (Ex.refl H2) _ fun H3 e3 => ⟨a, _, rfl, dn_put (e3 _ _ (e2 _ _ (e1 _ _ h))) hz, c v H1 H3 e1 p (e2.trans e3)⟩
theorem stOf_tabs {d : Dev} {T : TS} : stOf d T = (tabs T).map (Option.map (cont d)) := rfl
theorem tabs_rows {H : Hp} {A : Ad} {l : Lay} {L : Lg} (h : LogAt K H A l L) {vs : List V} (s2 : Rl (SlotAt H A.own) vs L.T.slots) : Rl (SlotAt H A.own) (.ref A.pr :: vs) (tabs L.T) := by
  refine ⟨by show vs.length + 1 = L.T.slots.length + 1; rw [s2.1], fun i v o a b => ?_⟩
  cases i with
  | zero =>
    injection a with a
    injection b with b
    rw [← a, ← b]
    exact ⟨A.pr, rfl, h.pr⟩
  | succ i => exact s2.2 i v o a b
theorem tabs_len {l : Lay} {T : TS} (wf : Wf l T) {t : List Nat} (ht : some t ∈ tabs T) : t.length = l.last + 1 := by
  rcases List.mem_cons.mp ht with e | e
  · injection e with e
    rw [e]; exact wf.lp
  · exact wf.lt t e
def sp_law_contents (K : PySem.W.Frag) : Sp := fun vs H Q _ => ∃ (A : Ad) (l : Lay) (L : Lg) (S : List Addr), vs = [.ref A.lg] ∧ LogAt K H A l L ∧ SeenOk l L ∧ (∀ b ∈ S, ∃ o, H b = some o) ∧ RetP (fun v H2 => StAt H2 S v (stOf L.seen L.T)) H Q
abbrev nm_law_contents : List Str := ["_law_log", "_law_found", "_law_table", "_law_contents_here", "_law_key", "_law_block"]
theorem sc_law_contents : FnScope nm_law_contents ["_law_log"] (defScope s_law_contents) := ⟨rfl, rfl, rfl, by decide +kernel, rfl, by decide +kernel, by decide +kernel⟩
theorem ok_law_contents (T : Ctx K mg base) : Okd P w K mg base 2 (He.ga K "_law_contents") ["_law_log"] (sp_law_contents K) := by
  obtain ⟨fd, F⟩ := T.def_law_contents
  have b : Binds K fd ["_law_log"] [] := FunD.bindsN F fun _ _ _ _ _ _ us hl => match us, hl with | [_], _ => rfl
  obtain ⟨fd_read, G_Device_read, b_Device_read, k_Device_read⟩ := ok_Device_read (P := P) (w := w) T
  refine ⟨fd, FunD.ok F sc_law_contents (fun vs H Q E h => ?_) (fun cdv A outer s H vs Q E hr h => ?_), b, F.kp⟩
  · obtain ⟨A, l, L, S, rfl, _⟩ := h
    rfl
  · obtain ⟨A, l, L, S, rfl, h, so, hS, k⟩ := h
    have fresh : ∀ {b : Addr}, H b = none → b ∉ S := fun h z => by
      obtain ⟨o, ho⟩ := hS _ z
      rw [h] at ho
      cases ho
    have hu := hu_of hr
    refine ⟨_, PSs.nox (pss_cons (ps_set (i := 1) sc_law_contents.nd rfl (Or.inl rfl) (pe_lst pa_nil))
      (pss_cons (ps_for PassesOwn.never rfl (pi_list (pe_op op_cat (pe_lst (pa_cons (pe_fld (pv 0) rfl) pa_nil)) (pe_fld (pv 0) rfl))) (pg_name (i := 2) sc_law_contents.nd rfl (Or.inl rfl)) (pss_one (ps_if (pt_cmp (pc_isN (pv 2)) rfl) (pss_one (ps_expr (pe_bm PySem.F.plainAttrs_list PySem.F.slot_list_append PySem.F.type_list_append mt_append (pv 1) (pa_cons pe_non pa_nil)))) (pss_cons (ps_set (i := 3) sc_law_contents.nd rfl (Or.inl rfl) pe_dnewK)
      (pss_cons (ps_for PassesOwn.never rfl (pi_range1 rfl T.free_range (pa_cons (pe_callB call_len_seq (by rfl) T.free_len PySem.boot_len (pa_cons (pv 2) pa_nil)) pa_nil)) (pg_name (i := 4) sc_law_contents.nd rfl (Or.inl rfl)) (pss_one (ps_if (pt_cmpR op_ne (pe_ix ix_list (pv 2) (pv 4) (fun _ _ => rfl)) pe_int (nomark _)) (pss_cons (ps_set (i := 5) sc_law_contents.nd rfl (Or.inl rfl) (pe_meth (pe_fld (pv 0) rfl) T.cls_Device T.m_Device_read G_Device_read (hr.mono (by decide)) b_Device_read .nil pass0 (pa_cons (pe_ix ix_list (pv 2) (pv 4) (fun _ _ => rfl)) pa_nil)))
      (pss_one (ps_if (PW.pt (pw_or (pt_cmp (pc_isN (pv 5)) rfl) (pw_or1 (pt_cmpR op_notIn_seq (pe_ix ix_tup (pv 5) pe_int (fun _ _ => rfl)) (pe_lst (pa_cons pe_int (pa_cons pe_int pa_nil))) (by rfl))))) (pss_one (ps_dput hu (pv 3) (pv 4) pe_non rfl)) (pss_one (ps_dput hu (pv 3) (pv 4) (pe_tup (pa_cons (pe_ix ix_tup (pv 5) pe_int (fun _ _ => rfl)) (pa_cons (pe_ix ix_tup (pv 5) pe_int (fun _ _ => rfl)) pa_nil))) rfl))))) pss_nil)))
      (pss_one (ps_expr (pe_bm PySem.F.plainAttrs_list PySem.F.slot_list_append PySem.F.type_list_append mt_append (pv 1) (pa_cons (pv 3) pa_nil)))))))))
      (pss_one (ps_ret (pv 1))))), ?_⟩
    have hl1 := so.o.last1
    have wf := so.g.wf
    refine q_asgL (el_lst ea_nil (Nat.le_of_ble_eq_true rfl)) fun r H1 hr1 e1 h1 => ?_
    have hL1 := h.mono e1
    obtain ⟨vs, s1, s2, s3⟩ := h.sl
    have hvs : vs.length = 3 := by rw [s2.1, wf.ls]
    have rows := tabs_rows h s2
    have tn : (tabs L.T).length = 4 := by show L.T.slots.length + 1 = 4; rw [wf.ls]
    have hro : r ∉ S := fresh hr1
    refine q_forNLn (xs := .ref A.pr :: vs) (el_cat (xs := [.ref A.pr]) (ys := vs) (EvL.x (el_lst (ea_cons (lv_present T hL1 (ev_var rfl)) ea_nil) (Nat.le_of_ble_eq_true rfl))) (Ev.x (lv_slots T hL1 (ev_var rfl)) (e1 _ _ s1)) (by rw [hvs]; exact Nat.le_of_ble_eq_true rfl))
      (fun p j σ' H' => ∃ x2 x3 x4 x5 us, σ' = [some (.ref A.lg), some (.ref r), x2, x3, x4, x5] ∧ Ex H H' ∧ H' p = some (.lst (.ref A.pr :: vs)) ∧ p ≠ r ∧ H' r = some (.lst us) ∧ Rl (OMapAt H' S) us (((tabs L.T).take j).map (Option.map (cont L.seen))))
      (fun p H2 hp e2 hp2 => ⟨none, none, none, none, [], rfl, e1.trans e2, hp2, (fun z => (by rw [z, h1] at hp; cases hp)), e2 _ _ h1, Rl.nil⟩) (fun p j σ' H' _ ⟨_, _, _, _, _, _, _, q, _⟩ => sq_of q) ?_ ?_
    · rintro p j x σ' H' hj ⟨x2, x3, x4, x5, us, rfl, e, hp, hpr, hus, hrl⟩
      obtain ⟨o, ho, hs⟩ := rows.get' hj
      have jl := (List.getElem?_eq_some_iff.mp ho).1
      have tk := take_snoc ho
      have usl : us.length < 100000 := by rw [hrl.1, List.length_map]; have := List.length_take_le j (tabs L.T); omega
      have fin : ∀ (v : V) (H2 : Hp), Ex H' H2 → OMapAt H2 S v (o.map (cont L.seen)) → Ex H (upd H2 r (.lst (us ++ [v]))) ∧ (upd H2 r (.lst (us ++ [v]))) p = some (.lst (.ref A.pr :: vs)) ∧ (upd H2 r (.lst (us ++ [v]))) r = some (.lst (us ++ [v])) ∧ Rl (OMapAt (upd H2 r (.lst (us ++ [v]))) S) (us ++ [v]) (((tabs L.T).take (j + 1)).map (Option.map (cont L.seen))) := fun v H2 e2 hv => by
        refine ⟨Ex.mut (e.trans e2) hr1, by rw [upd_ne hpr]; exact e2 _ _ hp, upd_same, ?_⟩
        rw [tk, List.map_append]
        exact Rl.app (hrl.mono fun v o z => (z.keep (Ex.kps e2)).updL (e2 _ _ hus)) (Rl.one (hv.updL (e2 _ _ hus)))
      cases o with
      | none =>
        obtain rfl : x = .non := hs
        refine s_if (b := true) (et_is (et_isN (ev_var rfl)) rfl) (fun _ H2 e2 => ?_) (fun z => by cases z)
        refine s_app (e2 _ _ hus) (ev_var rfl) ev_c usl fun H3 e3 => ?_
        obtain ⟨q1, q2, q3, q4⟩ := fin .non H3 (e2.trans e3) rfl
        exact ⟨_, _, _, _, _, rfl, q1, q2, hpr, q3, q4⟩
      | some t =>
        obtain ⟨a, rfl, ha, hao⟩ := hs
        have hta := tabs_len wf (List.mem_of_getElem? ho)
        refine s_if (b := false) (et_is (et_isN (ev_var rfl)) rfl) (fun z => by cases z) (fun _ H2 e2 => ?_)
        refine q_dnew fun d hd => ?_
        have hdr : r ≠ d := ne_of_none (e2 _ _ hus) hd
        have hlive : ∀ i b, t[i]? = some b → b ≠ 0 → isLive L.T b := fun i b hb hn => live_tabs.mpr ⟨hn, t, List.mem_of_getElem? ho, List.mem_of_getElem? hb⟩
        refine q_forR1 (n := ((nL t).length : Int)) (ea_cons (ev_len (ev_var rfl) (sq_of (Ex.new hd _ _ (e2 _ _ (e _ _ ha))))) ea_nil) (by rw [nL_len]; omega)
          (fun i σ'' H'' => ∃ x4 x5 m, σ'' = [some (.ref A.lg), some (.ref r), some (.ref a), some (.ref d), x4, x5] ∧ Ex H2 H'' ∧ H'' d = some (.dK (dN m)) ∧ m.length ≤ i ∧ (m.map (·.1)).Nodup ∧ (∀ e ∈ m, e.1 < i ∧ ∃ p, cont L.seen t e.1 = some p ∧ PayAt H'' e.2 p) ∧ ∀ k p, k < i → cont L.seen t k = some p → k ∈ m.map (·.1))
          (fun H3 e3 => ⟨x4, x5, [], rfl, (Ex.new hd).trans e3, e3 _ _ upd_same, Nat.le_refl _, List.nodup_nil, fun e he => (nomatch he), fun k p hk => absurd hk (Nat.not_lt_zero k)⟩) ?_ ?_
        · rintro i σ'' H'' hi ⟨y4, y5, m, rfl, e3, hm, hml, hnd, hent, hall⟩
          rw [nL_len] at hi
          have hit : i < t.length := by omega
          have hti : t[i]? = some t[i] := List.getElem?_eq_getElem hit
          have htd : t.getD i 0 = t[i] := by rw [List.getD_eq_getElem?_getD, hti]; rfl
          have ha3 : H'' a = some (.lst (nL t)) := e3 _ _ (e2 _ _ (e _ _ ha))
          have ixv : ∀ {H4}, Ex H'' H4 → ∀ {σ : L2.St}, σ[2]? = some (some (.ref a)) → σ[4]? = some (some (.int (i : Int))) → Ev (tOp (rIxL K) (tVar 2) (tVar 4)) σ H4 (nV t[i]) := fun {H4} e4 {σ} q1 q2 => ev_op (ev_var q1) (ev_var q2) (rv_ixL (sq_of (e4 _ _ ha3)) (atI_of (by rw [List.getElem?_map, hti]; rfl)))
          refine s_when (et_cmp (ixv (Ex.refl _) rfl rfl) ev_c (rv_ne rfl)) (fun hb H4 e4 => ?_) (fun hb H4 e4 => ?_)
          · have hn : t[i] ≠ 0 := fun z => by simp [z] at hb
            obtain ⟨sq, rk, p, hrd⟩ := so.pd _ (hlive i _ hti hn)
            have hc : cont L.seen t i = some p := by
              unfold cont
              rw [htd, if_neg hn, hrd]
              rfl
            have h4 : LogAt K H4 A l L := h.mono (e.trans (e2.trans (e3.trans e4)))
            refine q_asgP (evp_read h4.dev (lv_device T h4 (ev_var rfl)) (ea_cons (ixv e4 rfl rfl) ea_nil)) fun v H5 e5 hv => ?_
            rw [hrd] at hv
            obtain ⟨ba, bb, rfl, hb1, hb2⟩ := hv
            refine s_if (b := false) (et_is (et_or (a := false) (et_is (et_isN (ev_var rfl)) rfl) fun _ => et_test (ev_opL (xs := [.int 3, .int 4]) (ev_op (ev_var rfl) ev_c (rv_ixT (st_of hb1) rfl)) (el_lst (ea_cons ev_c (ea_cons ev_c ea_nil)) (Nat.le_of_ble_eq_true rfl)) fun p H6 hp e6 => rv_niL (sq_of hp) rfl rfl)) ?_) (fun z => by cases z) (fun _ H6 e6 => ?_)
            · have : inV (nV p.kind) [.int 3, .int 4] = true := by
                unfold PayD.kind
                split <;> rfl
              rw [this]
              rfl
            · have hni : i ∉ m.map (·.1) := fun z => by
                obtain ⟨e', he', q⟩ := List.mem_map.mp z
                have := (hent e' he').1
                rw [q] at this
                omega
              refine s_dputP (P := fun v H2 => PayAt H2 v p) (e6 _ _ (e5 _ _ (e4 _ _ hm))) (EvU.p (eu_tup (ea_cons (ev_op (ev_var rfl) ev_c (rv_ixT (st_of (e6 _ _ hb1)) rfl)) (ea_cons (ev_op (ev_var rfl) ev_c (rv_ixT (st_of (e6 _ _ hb1)) rfl)) ea_nil)) (Nat.le_of_ble_eq_true rfl)) fun w H7 hw e7 hw7 => ⟨w, bb, rfl, hw7, e7 _ _ (e6 _ _ hb2)⟩) (fun H7 e7 => ev_var rfl) (fun H7 e7 => ev_var rfl) (by omega) fun v H7 H8 e7 hv e8 => ?_
              have tx8 : Tx H8 (upd H8 d (.dK (dN (putK m i v)))) := Tx.upd (Tx.refl _) fun xs z => by
                rw [e8 _ _ (e7 _ _ (e6 _ _ (e5 _ _ (e4 _ _ hm))))] at z
                cases z
              refine ⟨_, _, putK m i v, rfl, Ex.mut (e3.trans (e4.trans (e5.trans (e6.trans (e7.trans e8))))) hd, upd_same, ?_, ?_, ?_, ?_⟩
              · rw [putK_new hni]
                simp
                omega
              · rw [keys_put]
                exact ins_nodup hnd
              · intro e' he'
                rw [putK_new hni] at he'
                rcases List.mem_append.mp he' with he' | he'
                · obtain ⟨q1, p', q2, q3⟩ := hent e' he'
                  exact ⟨by omega, p', q2, (q3.mono (Ex.tx (e4.trans (e5.trans (e6.trans (e7.trans e8)))))).mono tx8⟩
                · rw [List.mem_singleton.mp he']
                  exact ⟨Nat.lt_succ_self i, p, hc, (hv.mono (Ex.tx e8)).mono tx8⟩
              · intro k p' hk hkc
                rw [keys_put, mem_ins]
                by_cases z : k = i
                · exact .inl z
                · exact .inr (hall k p' (by omega) hkc)
          · have hn : t[i] = 0 := by simp at hb; omega
            refine ⟨_, _, m, rfl, e3.trans e4, e4 _ _ hm, by omega, hnd, fun e' he' => ?_, fun k p' hk hkc => ?_⟩
            · obtain ⟨q1, p', q2, q3⟩ := hent e' he'
              exact ⟨by omega, p', q2, q3.mono (Ex.tx e4)⟩
            · refine hall k p' ?_ hkc
              rcases Nat.lt_or_ge k i with z | z
              · exact z
              · have : k = i := by omega
                rw [this] at hkc
                unfold cont at hkc
                rw [htd, if_pos hn] at hkc
                cases hkc
        · rintro σ'' H'' ⟨y4, y5, m, rfl, e3, hm, hml, hnd, hent, hall⟩
          rw [Int.toNat_natCast, nL_len] at hml hall hent
          refine s_app (e3 _ _ (e2 _ _ hus)) (ev_var rfl) (ev_var rfl) usl fun H4 e4 => ?_
          have om : MapAt H4 S (.ref d) (cont L.seen t) := by
            refine ⟨d, m, rfl, e4 _ _ hm, fresh (fresh_back (e.trans e2) hd), hnd, by omega, fun e' he' => ?_, fun k p hk => ?_⟩
            · obtain ⟨q1, p', q2, q3⟩ := hent e' he'
              exact ⟨p', q2, q3.mono (Ex.tx e4)⟩
            · refine hall k p ?_ hk
              rcases Nat.lt_or_ge k t.length with z | z
              · exact z
              · unfold cont at hk
                rw [List.getD_eq_getElem?_getD, List.getElem?_eq_none z] at hk
                cases hk
          obtain ⟨q1, q2, q3, q4⟩ := fin (.ref d) H4 (e2.trans (e3.trans e4)) om
          exact ⟨_, _, _, _, _, rfl, q1, q2, hpr, q3, q4⟩
    · rintro p σ' H' ⟨x2, x3, x4, x5, us, rfl, e, hp, hpr, hus, hrl⟩
      have hc : (V.ref A.pr :: vs).length = 4 := by rw [List.length_cons, hvs]
      rw [hc, List.take_of_length_le (by omega), ← stOf_tabs] at hrl
      refine s_ret (ev_var rfl) fun H2 e2 => k _ _ (e.trans e2) ⟨?_, r, us, rfl, e2 _ _ hus, hro, hrl.mono fun v o z => z.keep (Ex.kps e2)⟩
      rw [stOf_tabs, List.length_map, tn]
end
end Sg


set_option maxHeartbeats 4000000
namespace Sg
open PySem PySem.Spec PyProof.Rows L2 Evl
section
variable {P : Program} {w : World} {K : PySem.W.Frag} {mg : Str → Option Value} {base : Heap}
/-! ### _law_after -/
theorem idx_get {ids : List Nat} {k : Nat} (h : k ∈ ids) : ids[ids.idxOf k]? = some k := by
  have := List.idxOf_lt_length_of_mem h
  rw [List.getElem?_eq_getElem this, List.getElem_idxOf this]
theorem idx_first {k : Nat} : ∀ (ids : List Nat) (m x : Nat), m < ids.idxOf k → ids[m]? = some x → x ≠ k
  | [], m, x, h, e => by simp at e
  | y :: ys, m, x, h, e => by
    by_cases hy : y = k
    · rw [hy, List.idxOf_cons_self] at h
      exact absurd h (Nat.not_lt_zero m)
    · have hyk : (y == k) = false := by simpa using hy
      rw [List.idxOf_cons, hyk] at h
      have h : m < ys.idxOf k + 1 := h
      cases m with
      | zero =>
        have : y = x := by simpa using e
        rw [← this]
        exact hy
      | succ m => exact idx_first ys m x (by omega) (by simpa using e)
theorem ev_index {σ : L2.St} {H : Hp} {ta tb : TE} {a : Addr} {ids : List Nat} {k : Nat} (ha : Ev ta σ H (.ref a)) (h : H a = some (.lst (nL ids))) (hb : Ev tb σ H (nV k)) (hk : k ∈ ids) : Ev (tBM K "list" (rIndex K) ta (tCons tb tNil)) σ H (nV (ids.idxOf k)) := fun H1 e Q q =>
  ha H1 e _ fun H2 e2 => ⟨Or.inl ⟨rfl, nL ids, sq_of (e2 _ _ (e _ _ h))⟩, hb H2 (e.trans e2) _ fun H3 e3 => ⟨a, nL ids, nV k, ids.idxOf k, nV k, rfl, rfl, sq_of (e3 _ _ (e2 _ _ (e _ _ h))), rfl, flat_nL _, by rw [List.getElem?_map, idx_get hk]; rfl, by simp [eqV], fun m z hm hz => by
    obtain ⟨x, hx, rfl⟩ := nL_get hz
    have := idx_first ids m x hm hx
    have e : ¬ ((x : Int) = (k : Int)) := fun q => this (by omega)
    simpa [eqV] using e, q H3 (e2.trans e3)⟩⟩
def sp_law_after (K : PySem.W.Frag) : Sp := fun vs H Q _ => ∃ (S : List Addr) (sv : V) (i p u : Addr) (us : List V) (b : Bat) (f : Map) (r : List (Option Map)), vs = [sv, .ref i, .ref p, .ref u, nV b.act] ∧ StAt H S sv (some f :: r) ∧ (∀ b ∈ S, ∃ o, H b = some o) ∧
  H i = some (.lst (nL b.ids)) ∧ H u = some (.lst (nL b.used)) ∧ H p = some (.lst us) ∧ Rl (PayAt H) us b.pays ∧ b.pays.length = b.ids.length ∧ b.used.Pairwise (· < ·) ∧ b.used.length ≤ 1000 ∧ b.act ≤ 6 ∧ RetP (fun v H2 => StAt H2 S v (stAfter (some f :: r) b)) H Q
abbrev nm_law_after : List Str := ["_law_state", "_law_ids_here", "_law_payloads_here", "_law_used_here", "_law_action", "_law_present", "_law_key", "_law_after_here"]
theorem sc_law_after : FnScope nm_law_after ["_law_state", "_law_ids_here", "_law_payloads_here", "_law_used_here", "_law_action"] (defScope s_law_after) := ⟨rfl, rfl, rfl, by decide +kernel, rfl, by decide +kernel, by decide +kernel⟩
theorem ok_law_after (T : Ctx K mg base) : Okd P w K mg base 1 (He.ga K "_law_after") ["_law_state", "_law_ids_here", "_law_payloads_here", "_law_used_here", "_law_action"] (sp_law_after K) := by
  obtain ⟨fd, F⟩ := T.def_law_after
  have b : Binds K fd ["_law_state", "_law_ids_here", "_law_payloads_here", "_law_used_here", "_law_action"] [] := FunD.bindsN F fun _ _ _ _ _ _ us hl => match us, hl with | [_, _, _, _, _], _ => rfl
  refine ⟨fd, FunD.ok F sc_law_after (fun vs H Q E h => ?_) (fun cdv A outer s H vs Q E hr h => ?_), b, F.kp⟩
  · obtain ⟨S, sv, i, p, u, us, b, f, r, rfl, _⟩ := h
    rfl
  · obtain ⟨S, sv, i, p, u, us, ba, f, r, rfl, hst, hS, hi, hu', hp, hpay, hpl, hpw, hul, hact, k⟩ := h
    have hu := hu_of hr
    refine ⟨_, PSs.nox (pss_cons (ps_set (i := 5) sc_law_after.nd rfl (Or.inl rfl) pe_dnewK)
      (pss_cons (ps_for PassesOwn.never rfl (pi_list (pv 3)) (pg_name (i := 6) sc_law_after.nd rfl (Or.inl rfl)) (pss_one (ps_if (pt_cmpR op_in_seq (pv 6) (pv 1) (by rfl)) (pss_one (ps_dput hu (pv 5) (pv 6) (pe_ix ix_list (pv 2) (pe_bm PySem.F.plainAttrs_list PySem.F.slot_list_index PySem.F.type_list_index mt_index (pv 1) (pa_cons (pv 6) pa_nil)) (fun _ _ => rfl)) rfl)) (pss_one (ps_if (pt_cmp (pc_din hu (pv 6) (pe_ix ix_list (pv 0) pe_int (fun _ _ => rfl)))) (pss_one (ps_dput hu (pv 5) (pv 6) (pe_dget hu (pe_ix ix_list (pv 0) pe_int (fun _ _ => rfl)) (pv 6) (fun _ _ => rfl)) rfl)) pss_nil)))))
      (pss_cons (ps_set (i := 7) sc_law_after.nd rfl (Or.inl rfl) (pe_op op_cat (pe_lst (pa_cons (pv 5) pa_nil)) (pe_slice sl_list (pv 0) (po_some pe_int) po_none)))
      (pss_cut (ps_if (pt_chain op_le op_le pe_int (pv 4) pe_int) (pss_one (ps_asg (pv 5) (pg_sub (pv 7) (pv 4) set_list))) pss_nil)
      (pss_cut (ps_if (pt_cmpR op_ge (pv 4) pe_int (nomark _)) (pss_one (ps_asg pe_non (pg_sub (pv 7) (pe_op op_sub (pv 4) pe_int) set_list))) pss_nil)
      (pss_one (ps_ret (pv 7)))))))), ?_⟩
    obtain ⟨l4, a, vs, rfl, hv, hva, hrl⟩ := hst
    obtain ⟨v0, hv0, a0, m0, rfl, hm0, ha0, hmp⟩ := hrl.get (i := 0) (x := some f) rfl
    have fresh : ∀ {b : Addr}, H b = none → b ∉ S := fun h z => by
      obtain ⟨o, ho⟩ := hS _ z
      rw [h] at ho
      cases ho
    refine q_dnew fun d hd => ?_
    have E1 : Ex H (upd H d (.dK (dN []))) := Ex.new hd
    have hnd : ba.used.Nodup := hpw.imp fun h => Nat.ne_of_lt h
    refine q_forLn (a := u) (xs := nL ba.used) (ev_var rfl) (sq_of (E1 _ _ hu'))
      (fun j σ' H' => ∃ x m, σ' = [some (.ref a), some (.ref i), some (.ref p), some (.ref u), some (nV ba.act), some (.ref d), x, none] ∧ Ex H H' ∧ H' d = some (.dK (dN m)) ∧ m.length ≤ j ∧ (m.map (·.1)).Nodup ∧ (∀ e ∈ m, e.1 ∈ ba.used.take j ∧ ∃ p, mapAfter f ba e.1 = some p ∧ PayAt H' e.2 p) ∧ ∀ k p, k ∈ ba.used.take j → mapAfter f ba k = some p → k ∈ m.map (·.1))
      (fun H2 e2 => ⟨none, [], rfl, E1.trans e2, e2 _ _ upd_same, Nat.le_refl _, List.nodup_nil, fun e he => (nomatch he), fun k p hk => by simp at hk⟩) (fun j σ' H' _ ⟨_, _, _, e, _⟩ => sq_of (e _ _ hu')) ?_ ?_
    · rintro j x σ' H' hj ⟨y, m, rfl, eH, hm, hml, hmn, hent, hall⟩
      obtain ⟨key, hk, rfl⟩ := nL_get hj
      have jl := (List.getElem?_eq_some_iff.mp hk).1
      have tk := take_snoc hk
      have hku : key ∈ ba.used := List.mem_of_getElem? hk
      have hnew : key ∉ m.map (·.1) := fun z => by
        obtain ⟨e', he', q⟩ := List.mem_map.mp z
        have h1 := (hent e' he').1
        rw [q] at h1
        obtain ⟨n, hn⟩ := List.getElem?_of_mem h1
        rw [List.getElem?_take] at hn
        split at hn
        · rename_i hlt
          have g1 := (List.getElem?_eq_some_iff.mp hn)
          have g2 := (List.getElem?_eq_some_iff.mp hk)
          have := (List.pairwise_iff_getElem.mp hpw) n j g1.1 g2.1 hlt
          rw [g1.2, g2.2] at this
          omega
        · cases hn
      have put : ∀ (v : V) (q : PayD) (H2 : Hp), Ex H' H2 → mapAfter f ba key = some q → PayAt H2 v q → Ex H (upd H2 d (.dK (dN (putK m key v)))) ∧ (upd H2 d (.dK (dN (putK m key v)))) d = some (.dK (dN (putK m key v))) ∧ (putK m key v).length ≤ j + 1 ∧ ((putK m key v).map (·.1)).Nodup ∧
          (∀ e ∈ putK m key v, e.1 ∈ ba.used.take (j + 1) ∧ ∃ p, mapAfter f ba e.1 = some p ∧ PayAt (upd H2 d (.dK (dN (putK m key v)))) e.2 p) ∧ ∀ k p, k ∈ ba.used.take (j + 1) → mapAfter f ba k = some p → k ∈ (putK m key v).map (·.1) := fun v q H2 e2 hq hv => by
        have tx : Tx H2 (upd H2 d (.dK (dN (putK m key v)))) := Tx.upd (Tx.refl _) fun xs z => by
          rw [e2 _ _ hm] at z
          cases z
        refine ⟨Ex.mut (eH.trans e2) hd, upd_same, ?_, ?_, ?_, ?_⟩
        · rw [putK_new hnew]
          simp
          omega
        · rw [keys_put]
          exact ins_nodup hmn
        · intro e' he'
          rw [putK_new hnew] at he'
          rw [tk]
          rcases List.mem_append.mp he' with he' | he'
          · obtain ⟨q1, p', q2, q3⟩ := hent e' he'
            exact ⟨List.mem_append_left _ q1, p', q2, (q3.mono (Ex.tx e2)).mono tx⟩
          · rw [List.mem_singleton.mp he']
            exact ⟨by simp, q, hq, hv.mono tx⟩
        · intro k p' hk' hkc
          rw [keys_put, mem_ins]
          rw [tk] at hk'
          rcases List.mem_append.mp hk' with z | z
          · exact .inr (hall k p' z hkc)
          · exact .inl (List.mem_singleton.mp z)
      refine s_if (b := decide (key ∈ ba.ids)) (et_is (et_cmp (ev_var rfl) (ev_var rfl) (rv_isL (sq_of (eH _ _ hi)) rfl (flat_nL _))) in_nL) (fun hb H2 e2 => ?_) (fun hb H2 e2 => ?_)
      · have hki : key ∈ ba.ids := of_decide_eq_true hb
        have hix := idx_get hki
        have hil := (List.getElem?_eq_some_iff.mp hix).1
        have hpi : ba.pays[ba.ids.idxOf key]? = some ba.pays[ba.ids.idxOf key] := List.getElem?_eq_getElem (by omega)
        obtain ⟨v, hv1, hv2⟩ := hpay.get hpi
        have hma : mapAfter f ba key = some ba.pays[ba.ids.idxOf key] := by
          unfold mapAfter
          rw [if_pos hku, if_pos hki, hpi]
        refine s_dput (e2 _ _ hm) (ev_op (ev_var rfl) (ev_index (ev_var rfl) (e2 _ _ (eH _ _ hi)) (ev_var rfl) hki) (rv_ixL (sq_of (e2 _ _ (eH _ _ hp))) (atI_of hv1))) (ev_var rfl) (ev_var rfl) (by omega) fun H3 e3 => ?_
        obtain ⟨q1, q2, q3, q4, q5, q6⟩ := put v _ H3 (e2.trans e3) hma (hv2.mono (Ex.tx (eH.trans (e2.trans e3))))
        exact ⟨_, _, rfl, q1, q2, q3, q4, q5, q6⟩
      · have hki : key ∉ ba.ids := of_decide_eq_false hb
        have hma : mapAfter f ba key = f key := by
          unfold mapAfter
          rw [if_pos hku, if_neg hki]
        have s0 : ∀ {H3}, Ex H H3 → ∀ {σ : L2.St}, σ[0]? = some (some (.ref a)) → Ev (tOp (rIxL K) (tVar 0) (tC (.int 0))) σ H3 (.ref a0) := fun {H3} e3 {σ} hs => ev_op (ev_var hs) ev_c (rv_ixL (sq_of (e3 _ _ hv)) (atI_of (k := 0) hv0))
        have E2 := eH.trans e2
        refine s_when (et_B (ev_din (ev_var rfl) (s0 E2 rfl) (E2 _ _ hm0))) (fun hb2 H3 e3 => ?_) (fun hb2 H3 e3 => ?_)
        · cases hvv : valV m0 key with
          | none => rw [hvv] at hb2; cases hb2
          | some v =>
            obtain ⟨q, q1, q2⟩ := hmp.2.2.1 _ (valV_mem hvv)
            have q1 : f key = some q := q1
            refine s_dput (e3 _ _ (e2 _ _ hm)) (ev_dget (s0 (E2.trans e3) rfl) (ev_var rfl) ((E2.trans e3) _ _ hm0) hvv) (ev_var rfl) (ev_var rfl) (by omega) fun H4 e4 => ?_
            obtain ⟨q1, q2, q3, q4, q5, q6⟩ := put v q H4 (e2.trans (e3.trans e4)) (hma.trans q1) (q2.mono (Ex.tx (E2.trans (e3.trans e4))))
            exact ⟨_, _, rfl, q1, q2, q3, q4, q5, q6⟩
        · have hfn : f key = none := by
            cases q : f key with
            | none => rfl
            | some p' =>
              obtain ⟨v, w1, _⟩ := hmp.some q
              rw [w1] at hb2
              cases hb2
          refine ⟨_, m, rfl, E2.trans e3, e3 _ _ (e2 _ _ hm), by omega, hmn, fun e' he' => ?_, fun k p' hk' hkc => ?_⟩
          · obtain ⟨q1, p', q2, q3⟩ := hent e' he'
            rw [tk]
            exact ⟨List.mem_append_left _ q1, p', q2, q3.mono (Ex.tx (e2.trans e3))⟩
          · rw [tk] at hk'
            rcases List.mem_append.mp hk' with z | z
            · exact hall k p' z hkc
            · rw [List.mem_singleton.mp z, hma, hfn] at hkc
              cases hkc
    · rintro σ' H' ⟨y, m, rfl, eH, hm, hml, hmn, hent, hall⟩
      rw [nL_len, List.take_length] at hent hall
      rw [nL_len] at hml
      have hmap : MapAt H' S (.ref d) (mapAfter f ba) := by
        refine ⟨d, m, rfl, hm, fresh hd, hmn, by omega, fun e' he' => (hent e' he').2, fun k p' hk => hall k p' ?_ hk⟩
        have hk : mapAfter f ba k = some p' := hk
        unfold mapAfter at hk
        by_cases z : k ∈ ba.used
        · exact z
        · rw [if_neg z] at hk
          cases hk
      refine q_asgL (el_cat (xs := [.ref d]) (ys := cutV vs (some ((1 : Nat) : Int)) none) (EvL.x (el_lst (ea_cons (ev_var rfl) ea_nil) (Nat.le_of_ble_eq_true rfl))) (EvL.x (el_sl (ev_var rfl) (eo_some ev_c) eo_none (sq_of (eH _ _ hv)))) ?_) fun q H2 hq e2 h2 => ?_
      · rw [cut_lo, List.length_drop, hrl.1, l4]
        exact Nat.le_of_ble_eq_true rfl
      · rw [cut_lo] at h2
        have s4 : (some (mapAfter f ba) :: r).length = 4 := l4
        have rl0 : Rl (OMapAt H2 S) (.ref d :: vs.drop 1) (some (mapAfter f ba) :: r) := by
          refine Rl.app (vs := [.ref d]) (us := vs.drop 1) (xs := [some (mapAfter f ba)]) (ys := r) (Rl.one (hmap.keep (Ex.kps e2))) ⟨?_, fun n v o h1 h2 => ?_⟩
          · have := hrl.1
            rw [List.length_drop, this]
            rfl
          · rw [List.getElem?_drop] at h1
            refine (hrl.2 (1 + n) v o h1 ?_).keep (Ex.kps (eH.trans e2))
            rw [Nat.add_comm]
            exact h2
        have hqS : q ∉ S := fresh (fresh_back eH hq)
        have setq : ∀ (ws : List V) (st' : List (Option Map)) (n : Nat) (v : V) (o : Option Map) (H3 : Hp), H3 q = some (.lst ws) → Rl (OMapAt H3 S) ws st' → OMapAt H3 S v o → Rl (OMapAt (upd H3 q (.lst (ws.set n v))) S) (ws.set n v) (st'.set n o) := fun ws st' n v o H3 h3 h4 h5 =>
          (h4.set n h5).mono fun v o z => z.updL h3
        refine q_cut (M := fun σ' H3 => ∃ ws, σ' = [some (.ref a), some (.ref i), some (.ref p), some (.ref u), some (nV ba.act), some (.ref d), y, some (.ref q)] ∧ Ex H' H3 ∧ H3 q = some (.lst ws) ∧ Rl (OMapAt H3 S) ws (if 1 ≤ ba.act ∧ ba.act ≤ 3 then (some (mapAfter f ba) :: r).set ba.act (some (mapAfter f ba)) else some (mapAfter f ba) :: r)) ?_ ?_
        · refine s_when (et_chain ev_c (ev_var rfl) rv_I0 (fun _ => ev_c) fun _ => rv_I0) (fun hb H3 e3 => ?_) (fun hb H3 e3 => ?_)
          · rw [Bool.and_eq_true] at hb
            have b1 := of_decide_eq_true hb.1
            have b2 := of_decide_eq_true hb.2
            refine s_setL (j := ba.act) (e3 _ _ h2) (ev_var rfl) (ev_var rfl) (ev_var rfl) (by show ba.act < (V.ref d :: vs.drop 1).length; rw [rl0.1, s4]; omega) fun H4 e4 => ?_
            refine ⟨_, rfl, Ex.mut (e2.trans (e3.trans e4)) hq, upd_same, ?_⟩
            rw [if_pos ⟨by omega, by omega⟩]
            exact setq _ _ _ _ _ _ (e4 _ _ (e3 _ _ h2)) (rl0.mono fun _ _ z => z.keep (Ex.kps (e3.trans e4))) (hmap.keep (Ex.kps (e2.trans (e3.trans e4))))
          · refine ⟨_, rfl, e2.trans e3, e3 _ _ h2, ?_⟩
            rw [if_neg (fun z => by
              rw [Bool.and_eq_false_iff] at hb
              rcases hb with hb | hb
              · have := of_decide_eq_false hb; omega
              · have := of_decide_eq_false hb; omega)]
            exact rl0.mono fun _ _ z => z.keep (Ex.kps e3)
        · rintro σ' H3 ⟨ws, rfl, e3, h3, rl3⟩
          refine q_cut (M := fun σ' H4 => ∃ ws, σ' = [some (.ref a), some (.ref i), some (.ref p), some (.ref u), some (nV ba.act), some (.ref d), y, some (.ref q)] ∧ Ex H' H4 ∧ H4 q = some (.lst ws) ∧ Rl (OMapAt H4 S) ws (stAfter (some f :: r) ba)) ?_ ?_
          · refine s_when (et_cmp (ev_var rfl) ev_c rv_I0) (fun hb H4 e4 => ?_) (fun hb H4 e4 => ?_)
            · have b1 := of_decide_eq_true hb
              rw [if_neg (by omega)] at rl3
              refine s_setL (j := ba.act - 3) (e4 _ _ h3) ev_c (ev_var rfl) (ev_is (ev_op (ev_var rfl) ev_c rv_I0) ?_) (by rw [rl3.1, s4]; omega) fun H5 e5 => ?_
              · show V.int ((ba.act : Int) - 3) = V.int ((ba.act - 3 : Nat) : Int)
                congr 1
                omega
              · refine ⟨_, rfl, Ex.mut (e3.trans (e4.trans e5)) hq, upd_same, ?_⟩
                have : stAfter (some f :: r) ba = (some (mapAfter f ba) :: r).set (ba.act - 3) none := by
                  unfold stAfter
                  simp only [List.headD_cons, Option.getD_some, List.tail_cons]
                  rw [if_neg (by omega), if_pos (by omega)]
                rw [this]
                exact setq _ _ _ _ _ _ (e5 _ _ (e4 _ _ h3)) (rl3.mono fun _ _ z => z.keep (Ex.kps (e4.trans e5))) rfl
            · have b1 := of_decide_eq_false hb
              refine ⟨_, rfl, e3.trans e4, e4 _ _ h3, ?_⟩
              have : stAfter (some f :: r) ba = (if 1 ≤ ba.act ∧ ba.act ≤ 3 then (some (mapAfter f ba) :: r).set ba.act (some (mapAfter f ba)) else some (mapAfter f ba) :: r) := by
                unfold stAfter
                simp only [List.headD_cons, Option.getD_some, List.tail_cons]
                split
                · rfl
                · rw [if_neg (by omega)]
              rw [this]
              exact rl3.mono fun _ _ z => z.keep (Ex.kps e4)
          · rintro σ' H4 ⟨ws, rfl, e4, h4, rl4⟩
            refine s_ret (ev_var rfl) fun H5 e5 => k _ _ (eH.trans (e4.trans e5)) ⟨?_, q, ws, rfl, e5 _ _ h4, hqS, rl4.mono fun _ _ z => z.keep (Ex.kps e5)⟩
            unfold stAfter
            simp only [List.headD_cons, Option.getD_some, List.tail_cons]
            split
            · rw [List.length_set]; exact s4
            · split
              · rw [List.length_set]; exact s4
              · exact s4
end
end Sg


set_option maxHeartbeats 4000000
namespace Sg
open PySem PySem.Spec PyProof.Rows L2 Evl
section
variable {P : Program} {w : World} {K : PySem.W.Frag} {mg : Str → Option Value} {base : Heap}
/-! ### _law_live -/
abbrev nm_law_live : List Str := ["_law_log", "_law_found", "_law_table", "_law_address"]
theorem sc_law_live : FnScope nm_law_live ["_law_log"] (defScope s_law_live) := ⟨rfl, rfl, rfl, by decide +kernel, rfl, by decide +kernel, by decide +kernel⟩
def sp_law_live (K : PySem.W.Frag) : Sp := fun vs H Q _ => ∃ (A : Ad) (l : Lay) (L : Lg), vs = [.ref A.lg] ∧ LogAt K H A l L ∧ Wf l L.T ∧ (∀ a, isLive L.T a → a < l.db) ∧ RetL (nL (live l L.T)) H Q
theorem ok_law_live (T : Ctx K mg base) : Okd P w K mg base 1 (He.ga K "_law_live") ["_law_log"] (sp_law_live K) := by
  obtain ⟨fd, F⟩ := T.def_law_live
  have b : Binds K fd ["_law_log"] [] := FunD.bindsN F fun _ _ _ _ _ _ us hl => match us, hl with | [_], _ => rfl
  refine ⟨fd, FunD.ok F sc_law_live (fun vs H Q E h => ?_) (fun cdv A outer s H vs Q E hr h => ?_), b, F.kp⟩
  · obtain ⟨A, l, L, rfl, _⟩ := h
    rfl
  · obtain ⟨A, l, L, rfl, h, wf, hb, k⟩ := h
    have hu := hu_of hr
    refine ⟨_, PSs.nox (pss_cons (ps_set (i := 1) sc_law_live.nd rfl (Or.inl rfl) pe_dnewK)
      (pss_cons (ps_for PassesOwn.never rfl (pi_list (pe_op op_cat (pe_lst (pa_cons (pe_fld (pv 0) rfl) pa_nil)) (pe_fld (pv 0) rfl))) (pg_name (i := 2) sc_law_live.nd rfl (Or.inl rfl)) (pss_one (ps_if (pt_cmp (pc_notN (pv 2)) rfl) (pss_one (ps_for PassesOwn.never rfl (pi_list (pv 2)) (pg_name (i := 3) sc_law_live.nd rfl (Or.inl rfl)) (pss_one (ps_if (pt_cmpR op_ne (pv 3) pe_int (nomark _)) (pss_one (ps_dput hu (pv 1) (pv 3) pe_bl rfl)) pss_nil)))) pss_nil)))
      (pss_one (ps_ret (pe_callB (call_sortedDN rfl) (by rfl) T.free_sorted (by decide +kernel) (pa_cons (pv 1) pa_nil)))))), ?_⟩
    exact run_live T h wf hb _ k
/-! ### _law_points -/
def sp_law_points (K : PySem.W.Frag) : Sp := fun vs H Q _ => ∃ (la : Addr) (A : Ad) (l : Lay) (L : Lg), vs = [.ref la, .ref A.lg] ∧ LayAt K H la l ∧ LogAt K H A l L ∧ GoodT l L.T ∧ RetV (.bl true) H Q
abbrev nm_law_points : List Str := ["_law_layout_here", "_law_log", "_law_segments", "_law_k", "_law_address", "_law_at", "_law_segment"]
theorem sc_law_points : FnScope nm_law_points ["_law_layout_here", "_law_log"] (defScope s_law_points) := ⟨rfl, rfl, rfl, by decide +kernel, rfl, by decide +kernel, by decide +kernel⟩
theorem ok_law_points (T : Ctx K mg base) : Okd P w K mg base 2 (He.ga K "_law_points") ["_law_layout_here", "_law_log"] (sp_law_points K) := by
  obtain ⟨fd, F⟩ := T.def_law_points
  have b : Binds K fd ["_law_layout_here", "_law_log"] [] := FunD.bindsN F fun _ _ _ _ _ _ us hl => match us, hl with | [_, _], _ => rfl
  obtain ⟨fd_law_live, G_law_live, b_law_live, k_law_live⟩ := ok_law_live (P := P) (w := w) T
  refine ⟨fd, FunD.ok F sc_law_points (fun vs H Q E h => ?_) (fun cdv A outer s H vs Q E hr h => ?_), b, F.kp⟩
  · obtain ⟨la, A, l, L, rfl, _⟩ := h
    rfl
  · obtain ⟨la, A, l, L, rfl, hla, h, g, k⟩ := h
    refine ⟨_, PSs.nox (pss_cons (ps_set (i := 2) sc_law_points.nd rfl (Or.inl rfl) (pe_op op_cat (pe_lst (pa_cons (pe_fld (pv 1) rfl) pa_nil)) (pe_fld (pv 1) rfl)))
      (pss_cons (ps_for PassesOwn.never rfl (pi_range1 rfl T.free_range (pa_cons (pe_callB call_len_seq (by rfl) T.free_len PySem.boot_len (pa_cons (pv 2) pa_nil)) pa_nil)) (pg_name (i := 3) sc_law_points.nd rfl (Or.inl rfl)) (pss_one (ps_if (PW.pt (pw_or (pt_cmpR op_in_seq (pe_ix ix_list (pv 2) (pv 3) (fun _ _ => rfl)) (pe_slice sl_list (pv 2) po_none (po_some (pv 3))) (by rfl)) (pw_or (pt_cmpR op_lt (pe_ix ix_list (pv 2) (pv 3) (fun _ _ => rfl)) pe_int (nomark _)) (pw_or1 (pt_cmpR op_ge (pe_ix ix_list (pv 2) (pv 3) (fun _ _ => rfl)) (pe_fld (pv 0) rfl) (nomark _)))))) (pss_one (ps_ret pe_bl)) pss_nil)))
      (pss_cons (ps_for PassesOwn.never rfl (pi_list (pe_call G_law_live (hr.mono (by decide)) rfl T.glo_law_live k_law_live b_law_live .nil pass0 (pa_cons (pv 1) pa_nil))) (pg_name (i := 4) sc_law_points.nd rfl (Or.inl rfl)) (pss_cons (ps_set (i := 5) sc_law_points.nd rfl (Or.inl rfl) (pe_op op_sub (pv 4) (pe_op op_mul pe_int (pe_fld (pv 0) rfl))))
      (pss_cons (ps_if (PW.pt (pw_or (pt_cmpR op_lt (pv 5) pe_int (nomark _)) (pw_or (pt_cmpR op_ge (pv 4) (pe_fld (pv 0) rfl) (nomark _)) (pw_or1 (pt_cmpR op_eq (pe_op op_mod (pv 5) (pe_fld (pv 0) rfl)) pe_int (nomark _)))))) (pss_one (ps_ret pe_bl)) pss_nil)
      (pss_cons (ps_set (i := 6) sc_law_points.nd rfl (Or.inl rfl) (pe_op op_fdiv (pv 5) (pe_fld (pv 0) rfl)))
      (pss_one (ps_if (PW.pt (pw_or (pt_cmpR op_in_seq (pv 6) (pe_fld (pv 1) rfl) (by rfl)) (pw_or1 (PW.pt (pw_and (pt_cmpR op_eq (pv 6) (pe_fld (pv 1) rfl) (nomark _)) (pw_and1 (pt_cmpR op_ge (pe_op op_mod (pv 5) (pe_fld (pv 0) rfl)) (pe_fld (pv 1) rfl) (nomark _)))))))) (pss_one (ps_ret pe_bl)) pss_nil))))))
      (pss_one (ps_ret pe_bl))))), ?_⟩
    have lo := hla.1
    have hs2 := lo.s2
    have hb1 := lo.b1
    have hq := h.qu.1
    have hql : L.T.queue.length ≤ l.seg := by
      have := nodup_len (L.T.head :: L.T.queue) (List.range l.seg) g.nd fun s hs => by
        rw [List.mem_range]
        rcases List.mem_cons.mp hs with z | z
        · rw [z]; exact g.hs
        · exact g.qs s z
      rw [List.length_range, List.length_cons] at this
      omega
    refine q_asgL (xs := nL (L.T.head :: L.T.queue)) (el_cat (xs := [nV L.T.head]) (ys := nL L.T.queue) (EvL.x (el_lst (ea_cons (lv_head T h (ev_var rfl)) ea_nil) (Nat.le_of_ble_eq_true rfl))) (Ev.x (lv_queue T h (ev_var rfl)) hq) (by rw [nL_len]; show 1 + _ ≤ _; omega)) fun q H1 hq1 e1 h1 => ?_
    refine q_forR1 (n := ((L.T.head :: L.T.queue).length : Int)) (ea_cons (ev_is (ev_len (ev_var rfl) (sq_of h1)) (by rw [nL_len])) ea_nil) (by rw [List.length_cons]; omega)
      (fun j σ' H' => ∃ x, σ' = [some (.ref la), some (.ref A.lg), some (.ref q), x, none, none, none] ∧ Ex H H' ∧ H' q = some (.lst (nL (L.T.head :: L.T.queue))))
      (fun H2 e2 => ⟨none, rfl, e1.trans e2, e2 _ _ h1⟩) ?_ ?_
    · rintro j σ' H' hj ⟨x, rfl, eH, hqq⟩
      have hjl : j < (L.T.head :: L.T.queue).length := by omega
      have hget : (L.T.head :: L.T.queue)[j]? = some (L.T.head :: L.T.queue)[j] := List.getElem?_eq_getElem hjl
      generalize hsg : (L.T.head :: L.T.queue)[j] = sg at hget
      have hlt : sg < l.seg := by
        rcases List.mem_cons.mp (List.mem_of_getElem? hget) with z | z
        · rw [z]; exact g.hs
        · exact g.qs _ z
      have ixv : ∀ {H4}, Ex H' H4 → ∀ {σ : L2.St}, σ[2]? = some (some (.ref q)) → σ[3]? = some (some (.int (j : Int))) → Ev (tOp (rIxL K) (tVar 2) (tVar 3)) σ H4 (nV sg) := fun {H4} e4 {σ} q1 q2 => ev_op (ev_var q1) (ev_var q2) (rv_ixL (sq_of (e4 _ _ hqq)) (atI_of (by rw [List.getElem?_map, hget]; rfl)))
      refine s_when (b := false) (et_is (et_or (a := false) (et_is (et_test (ev_opL (ixv (Ex.refl _) rfl rfl) (el_sl (ev_var rfl) eo_none (eo_some (ev_var rfl)) (sq_of hqq)) fun p H2 hp e2 => rv_isL (sq_of hp) rfl (by rw [cut_hi]; exact List.all_eq_true.mpr fun x hx => List.all_eq_true.mp (flat_nL _) x (List.mem_of_mem_take hx)))) ?_)
        fun _ => et_or (a := false) (et_is (et_cmp (ixv (Ex.refl _) rfl rfl) ev_c rv_I0) ?_) fun _ => et_is (b := false) (et_cmp (ixv (Ex.refl _) rfl rfl) (yv_segments T (hla.mono eH) (ev_var rfl)) rv_I0) ?_) rfl) (fun z => by cases z) (fun _ H2 e2 => ⟨_, rfl, eH.trans e2, e2 _ _ hqq⟩)
      · rw [cut_hi, show (nL (L.T.head :: L.T.queue)).take j = nL ((L.T.head :: L.T.queue).take j) from (List.map_take).symm, in_nL]
        refine decide_eq_false fun z => ?_
        obtain ⟨n, hn⟩ := List.getElem?_of_mem z
        rw [List.getElem?_take] at hn
        split at hn
        · rename_i hlt2
          have g1 := List.getElem?_eq_some_iff.mp hn
          have := (List.pairwise_iff_getElem.mp g.nd) n j g1.1 hjl hlt2
          rw [g1.2, hsg] at this
          exact this rfl
        · cases hn
      · exact decide_eq_false (by omega)
      · exact decide_eq_false (by omega)
    · rintro σ' H' ⟨x, rfl, eH, hqq⟩
      refine q_forNLn (xs := nL (live l L.T)) (el_call2 (ea_cons (ev_var rfl) ea_nil) fun H2 e2 Q E q => ⟨A, l, L, rfl, (h.mono eH).mono e2, g.wf, fun a ha => (g.lv a ha).2.1, q⟩)
        (fun p j σ' H' => ∃ y z u, σ' = [some (.ref la), some (.ref A.lg), some (.ref q), x, y, z, u] ∧ Ex H H' ∧ H' p = some (.lst (nL (live l L.T))))
        (fun p H2 hp e2 h2 => ⟨none, none, none, rfl, eH.trans e2, h2⟩) (fun p j σ' H' _ ⟨_, _, _, _, _, q⟩ => sq_of q) ?_ ?_
      · rintro p j v σ' H2 hj ⟨y, z, u, rfl, e2, hp⟩
        obtain ⟨a, ha, rfl⟩ := nL_get hj
        obtain ⟨g1, g2, g3, g4, g5⟩ := g.lv a (mem_live.mp (List.mem_of_getElem? ha)).2
        have hla2 := hla.mono e2
        have hpc : l.pc a = (a - 2 * l.rb) % l.sb := rfl
        have hsg : l.sg a = (a - 2 * l.rb) / l.sb := rfl
        have hrb := lo.rb1
        have hb2 := lo.b2
        have hdb := lo.db1
        refine q_asg (v := nV (a - 2 * l.rb)) (ev_is (ev_op (ev_var rfl) (ev_mulN (i := 2) (ev_nC 2) (yv_region_blocks T hla2 (ev_var rfl)) (.inl (by decide))) rv_I0) ?_) fun H3 e3 => ?_
        · show V.int ((a : Int) - ((2 * l.rb : Nat) : Int)) = V.int ((a - 2 * l.rb : Nat) : Int)
          congr 1
          omega
        have hla3 := hla2.mono e3
        refine q_when (b := false) (et_is (et_or (a := false) (et_is (et_cmp (ev_var rfl) ev_c rv_I0) (decide_eq_false (by omega))) fun _ => et_or (a := false) (et_is (et_cmp (ev_var rfl) (yv_device_blocks T hla3 (ev_var rfl)) rv_I0) (decide_eq_false (by omega)))
          fun _ => et_is (b := false) (et_cmp (ev_modN (ev_var rfl) (yv_segment_blocks T hla3 (ev_var rfl)) (by omega)) ev_c (rv_eq rfl)) (decide_eq_false fun z => by
            injection z with z
            omega)) rfl) (fun z => by cases z) (fun _ H4 e4 => ?_)
        have hla4 := hla3.mono e4
        refine q_asg (ev_divN (ev_var rfl) (yv_segment_blocks T hla4 (ev_var rfl)) (by omega) (by omega)) fun H5 e5 => ?_
        have hla5 := hla4.mono e5
        have h5 := h.mono (e2.trans (e3.trans (e4.trans e5)))
        rw [← hsg]
        refine s_when (b := false) (et_is (et_or (a := false) (et_is (et_cmp (ev_var rfl) (lv_queue T h5 (ev_var rfl)) (rv_isL (sq_of h5.qu.1) rfl (flat_nL _))) (by rw [in_nL]; exact decide_eq_false g4)) fun _ => et_and (a := decide (nV (l.sg a) = nV L.T.head)) (et_cmp (ev_var rfl) (lv_head T h5 (ev_var rfl)) (rv_eq rfl)) fun he => et_is (b := false) (et_cmp (ev_modN (ev_var rfl) (yv_segment_blocks T hla5 (ev_var rfl)) (by omega)) (lv_place T h5 (ev_var rfl)) rv_I0) (decide_eq_false ?_)) ?_) (fun z => by cases z) (fun _ H6 e6 => ?_)
        · have he := of_decide_eq_true he
          injection he with he
          have := g5 (by omega)
          rw [← hpc]
          omega
        · rw [Bool.and_false]
          rfl
        · exact ⟨_, _, _, rfl, e2.trans (e3.trans (e4.trans (e5.trans e6))), e6 _ _ (e5 _ _ (e4 _ _ (e3 _ _ hp)))⟩
      · rintro p σ' H2 ⟨y, z, u, rfl, e2, hp⟩
        exact s_ret ev_c fun H3 e3 => k _ (e2.trans e3)
end
end Sg


set_option maxHeartbeats 4000000
namespace Sg
open PySem PySem.Spec PyProof.Rows L2 Evl
section
variable {P : Program} {w : World} {K : PySem.W.Frag} {mg : Str → Option Value} {base : Heap}
/-! ### _law_behind -/
def rLenK : List V → Hp → VK → Prop := fun xs H Q => ∃ (a : Addr) (kvs : List (Key × V)), xs = [V.ref a] ∧ H a = some (.dK kvs) ∧ Q (.int kvs.length) H
theorem ev_lenK {σ : L2.St} {H : Hp} {ta : TE} {a : Addr} {m : List (Nat × V)} (ha : Ev ta σ H (.ref a)) (h : H a = some (.dK (dN m))) : Ev (tCB rLenK (tCons ta tNil)) σ H (nV m.length) := fun H1 e Q q =>
  ha H1 e _ fun H2 e2 => ⟨a, dN m, rfl, e2 _ _ (e _ _ h), by rw [dN_len]; exact q H2 e2⟩
def sp_law_behind (K : PySem.W.Frag) : Sp := fun vs H Q _ => ∃ (A : Ad) (l : Lay) (L : Lg) (i u : Addr) (b : Bat), vs = [.ref A.lg, .ref i, .ref u, nV b.act] ∧ LogAt K H A l L ∧ GoodT l L.T ∧ H i = some (.lst (nL b.ids)) ∧ H u = some (.lst (nL b.used)) ∧ (∀ k ∈ b.used, 1 ≤ k ∧ k ≤ l.last) ∧ b.used.length ≤ 1000 ∧
  RetP (fun v _ => ∃ F : List Nat, v = nV ((b.used.filter (fun k => decide (k ∈ b.ids))).length + F.length) ∧ ∀ a, keeps L.T b a → a ∈ F) H Q
abbrev nm_law_behind : List Str := ["_law_log", "_law_ids_here", "_law_used_here", "_law_action", "_law_found", "_law_count", "_law_key", "_law_k", "_law_address"]
theorem sc_law_behind : FnScope nm_law_behind ["_law_log", "_law_ids_here", "_law_used_here", "_law_action"] (defScope s_law_behind) := ⟨rfl, rfl, rfl, by decide +kernel, rfl, by decide +kernel, by decide +kernel⟩
theorem ok_law_behind (T : Ctx K mg base) : Okd P w K mg base 1 (He.ga K "_law_behind") ["_law_log", "_law_ids_here", "_law_used_here", "_law_action"] (sp_law_behind K) := by
  obtain ⟨fd, F⟩ := T.def_law_behind
  have b : Binds K fd ["_law_log", "_law_ids_here", "_law_used_here", "_law_action"] [] := FunD.bindsN F fun _ _ _ _ _ _ us hl => match us, hl with | [_, _, _, _], _ => rfl
  refine ⟨fd, FunD.ok F sc_law_behind (fun vs H Q E h => ?_) (fun cdv A outer s H vs Q E hr h => ?_), b, F.kp⟩
  · obtain ⟨A, l, L, i, u, b, rfl, _⟩ := h
    rfl
  · obtain ⟨A, l, L, i, u, ba, rfl, h, g, hi, hu', hur, hul, k⟩ := h
    have hu := hu_of hr
    refine ⟨_, PSs.nox (pss_cons (ps_set (i := 4) sc_law_behind.nd rfl (Or.inl rfl) pe_dnewK)
      (pss_cons (ps_set (i := 5) sc_law_behind.nd rfl (Or.inl rfl) pe_int)
      (pss_cons (ps_for PassesOwn.never rfl (pi_list (pv 2)) (pg_name (i := 6) sc_law_behind.nd rfl (Or.inl rfl)) (pss_one (ps_if (pt_cmpR op_in_seq (pv 6) (pv 1) (by rfl)) (pss_one (ps_set (i := 5) sc_law_behind.nd rfl (Or.inl rfl) (pe_op op_add (pv 5) pe_int))) (pss_one (ps_if (pt_cmpR op_ne (pe_ix ix_list (pe_fld (pv 0) rfl) (pv 6) (fun _ _ => rfl)) pe_int (nomark _)) (pss_one (ps_dput hu (pv 4) (pe_ix ix_list (pe_fld (pv 0) rfl) (pv 6) (fun _ _ => rfl)) pe_bl rfl)) pss_nil)))))
      (pss_cons (ps_for PassesOwn.never rfl (pi_range1 rfl T.free_range (pa_cons pe_int pa_nil)) (pg_name (i := 7) sc_law_behind.nd rfl (Or.inl rfl)) (pss_one (ps_if (PW.pt (pw_and (pt_cmp (pc_notN (pe_ix ix_list (pe_fld (pv 0) rfl) (pv 7) (fun _ _ => rfl))) rfl) (pw_and (pt_cmpR op_ne (pv 3) (pe_op op_add pe_int (pv 7)) (nomark _)) (pw_and1 (pt_cmpR op_ne (pv 3) (pe_op op_add pe_int (pv 7)) (nomark _)))))) (pss_one (ps_for PassesOwn.never rfl (pi_list (pe_ix ix_list (pe_fld (pv 0) rfl) (pv 7) (fun _ _ => rfl))) (pg_name (i := 8) sc_law_behind.nd rfl (Or.inl rfl)) (pss_one (ps_if (pt_cmpR op_ne (pv 8) pe_int (nomark _)) (pss_one (ps_dput hu (pv 4) (pv 8) pe_bl rfl)) pss_nil)))) pss_nil)))
      (pss_one (ps_ret (pe_op op_add (pv 5) (pe_callB call_lenD (by rfl) T.free_len PySem.boot_len (pa_cons (pv 4) pa_nil))))))))), ?_⟩
    have lo := h.dev.la.1
    have hl1 := lo.last1
    obtain ⟨vs, s1, s2, s3⟩ := h.sl
    have hpr := h.pr.1
    refine q_dnew fun d hd => ?_
    have E1 : Ex H (upd H d (.dK (dN []))) := Ex.new hd
    refine q_asg (v := nV 0) ev_c fun H1 e1 => ?_
    refine q_forLn (a := u) (xs := nL ba.used) (ev_var rfl) (sq_of (e1 _ _ (E1 _ _ hu')))
      (fun j σ' H' => ∃ x m ks, σ' = [some (.ref A.lg), some (.ref i), some (.ref u), some (nV ba.act), some (.ref d), some (nV (((ba.used.take j).filter (fun k => decide (k ∈ ba.ids))).length)), x, none, none] ∧ Ex H H' ∧ H' d = some (.dK (dN m)) ∧ m.map (·.1) = ks ∧ ks.length ≤ j ∧ ∀ k ∈ ba.used.take j, k ∉ ba.ids → L.T.pres.getD k 0 ≠ 0 → L.T.pres.getD k 0 ∈ ks)
      (fun H2 e2 => ⟨none, [], [], rfl, E1.trans (e1.trans e2), e2 _ _ (e1 _ _ upd_same), rfl, Nat.le_refl _, fun k hk => by simp at hk⟩) (fun j σ' H' _ ⟨_, _, _, _, e, _⟩ => sq_of (e _ _ hu')) ?_ ?_
    · rintro j x σ' H' hj ⟨y, m, ks, rfl, eH, hm, hks, hkl, hall⟩
      obtain ⟨key, hk, rfl⟩ := nL_get hj
      have jl := (List.getElem?_eq_some_iff.mp hk).1
      have tk := take_snoc hk
      have hkr := hur key (List.mem_of_getElem? hk)
      have hkp : key < L.T.pres.length := by rw [g.lp]; omega
      have hpk : L.T.pres[key]? = some (L.T.pres.getD key 0) := by rw [List.getD_eq_getElem?_getD, List.getElem?_eq_getElem hkp]; rfl
      refine s_if (b := decide (key ∈ ba.ids)) (et_is (et_cmp (ev_var rfl) (ev_var rfl) (rv_isL (sq_of (eH _ _ hi)) rfl (flat_nL _))) in_nL) (fun hb H2 e2 => ?_) (fun hb H2 e2 => ?_)
      · refine s_asg (ev_addN (ev_var rfl) (ev_nC 1)) fun H3 e3 => ?_
        refine ⟨some (nV key), m, ks, ?_, eH.trans (e2.trans e3), e3 _ _ (e2 _ _ hm), hks, by omega, fun k hk' hn hp => ?_⟩
        · rw [tk, List.filter_append, List.length_append]
          simp [of_decide_eq_true hb]
        · rw [tk] at hk'
          rcases List.mem_append.mp hk' with z | z
          · exact hall k z hn hp
          · rw [List.mem_singleton.mp z] at hn
            exact absurd (of_decide_eq_true hb) hn
      · have hb' := of_decide_eq_false hb
        have fl : ((ba.used.take (j + 1)).filter (fun k => decide (k ∈ ba.ids))).length = ((ba.used.take j).filter (fun k => decide (k ∈ ba.ids))).length := by
          rw [tk, List.filter_append, List.length_append]
          simp [hb']
        have E2 := eH.trans e2
        have pv : ∀ {H3}, Ex H H3 → ∀ {σ : L2.St}, σ[0]? = some (some (.ref A.lg)) → σ[6]? = some (some (nV key)) → Ev (tOp (rIxL K) (tFld K (tVar 0) "present") (tVar 6)) σ H3 (nV (L.T.pres.getD key 0)) := fun {H3} e3 {σ} q1 q2 => ev_op (lv_present T (h.mono e3) (ev_var q1)) (ev_var q2) (rv_ixL (sq_of (e3 _ _ hpr)) (atI_of (by rw [List.getElem?_map, hpk]; rfl)))
        refine s_when (b := !decide (nV (L.T.pres.getD key 0) = V.int 0)) (et_cmp (pv E2 rfl rfl) ev_c (rv_ne rfl)) (fun hb2 H3 e3 => ?_) (fun hb2 H3 e3 => ?_)
        · refine s_dadd (ks := ks) (e3 _ _ (e2 _ _ hm)) hks ev_c (ev_var rfl) (pv (E2.trans e3) rfl rfl) (by omega) fun H4 m' e4 hm' => ?_
          refine ⟨some (nV key), m', _, ?_, Ex.mut (E2.trans (e3.trans e4)) hd, upd_same, hm', ?_, fun k hk' hn hp => ?_⟩
          · rw [fl]
            rfl
          · have := ins_len ks (L.T.pres.getD key 0)
            omega
          · rw [mem_ins]
            rw [tk] at hk'
            rcases List.mem_append.mp hk' with z | z
            · exact .inr (hall k z hn hp)
            · rw [List.mem_singleton.mp z]
              exact .inl rfl
        · refine ⟨some (nV key), m, ks, ?_, E2.trans e3, e3 _ _ (e2 _ _ hm), hks, by omega, fun k hk' hn hp => ?_⟩
          · rw [fl]
            rfl
          · rw [tk] at hk'
            rcases List.mem_append.mp hk' with z | z
            · exact hall k z hn hp
            · rw [List.mem_singleton.mp z] at hp
              have : L.T.pres.getD key 0 = 0 := by
                have z2 : decide (nV (L.T.pres.getD key 0) = V.int 0) = true := by simpa using hb2
                have z3 := of_decide_eq_true z2
                injection z3 with z3
                omega
              exact absurd this hp
    · rintro σ' H' ⟨y, m, ks, rfl, eH, hm, hks, hkl, hall⟩
      rw [nL_len] at hkl hall ⊢
      rw [List.take_length] at hall ⊢
      have hvs : vs.length = 3 := by rw [s2.1, g.ls]
      refine q_forR1 (n := 3) (ea_cons ev_c ea_nil) (by omega)
        (fun j σ' H' => ∃ x z m ks, σ' = [some (.ref A.lg), some (.ref i), some (.ref u), some (nV ba.act), some (.ref d), some (nV ((ba.used.filter (fun k => decide (k ∈ ba.ids))).length)), y, x, z] ∧ Ex H H' ∧ H' d = some (.dK (dN m)) ∧ m.map (·.1) = ks ∧ ks.length ≤ 1000 + j * (l.last + 1) ∧ (∀ k ∈ ba.used, k ∉ ba.ids → L.T.pres.getD k 0 ≠ 0 → L.T.pres.getD k 0 ∈ ks) ∧
          ∀ (n : Nat) (t : List Nat), n < j → L.T.slots[n]? = some (some t) → ba.act ≠ 1 + n → ba.act ≠ 4 + n → ∀ a ∈ t, a ≠ 0 → a ∈ ks)
        (fun H2 e2 => ⟨none, none, m, ks, rfl, eH.trans e2, e2 _ _ hm, hks, by omega, hall, fun n t hn => absurd hn (Nat.not_lt_zero n)⟩) ?_ ?_
      · rintro j σ' H2 hj ⟨x, z, m2, ks2, rfl, e2, hm2, hks2, hkl2, hall2, hsl2⟩
        have hj3 : j < 3 := by omega
        have hjs : j < L.T.slots.length := by rw [g.ls]; exact hj3
        have hsj : L.T.slots[j]? = some L.T.slots[j] := List.getElem?_eq_getElem hjs
        generalize L.T.slots[j] = o at hsj
        obtain ⟨v, hv1, hv2⟩ := s2.get hsj
        have slv : ∀ {H3}, Ex H H3 → ∀ {σ : L2.St}, σ[0]? = some (some (.ref A.lg)) → σ[7]? = some (some (.int (j : Int))) → Ev (tOp (rIxL K) (tFld K (tVar 0) "slots") (tVar 7)) σ H3 v := fun {H3} e3 {σ} q1 q2 => ev_op (lv_slots T (h.mono e3) (ev_var q1)) (ev_var q2) (rv_ixL (sq_of (e3 _ _ s1)) (atI_of hv1))
        have skip : ∀ H3, Ex H2 H3 → (∀ t, o = some t → ba.act ≠ 1 + j → ba.act ≠ 4 + j → False) → ∃ m ks, Ex H H3 ∧ H3 d = some (.dK (dN m)) ∧ m.map (·.1) = ks ∧ ks.length ≤ 1000 + (j + 1) * (l.last + 1) ∧ (∀ k ∈ ba.used, k ∉ ba.ids → L.T.pres.getD k 0 ≠ 0 → L.T.pres.getD k 0 ∈ ks) ∧
          ∀ (n : Nat) (t : List Nat), n < j + 1 → L.T.slots[n]? = some (some t) → ba.act ≠ 1 + n → ba.act ≠ 4 + n → ∀ a ∈ t, a ≠ 0 → a ∈ ks := fun H3 e3 no => by
          refine ⟨m2, ks2, e2.trans e3, e3 _ _ hm2, hks2, by rw [Nat.add_mul]; omega, hall2, fun n t hn hs h1 h2 => ?_⟩
          by_cases zz : n = j
          · rw [zz] at hs h1 h2
            rw [hsj] at hs
            exact (no t (Option.some.inj hs) h1 h2).elim
          · exact hsl2 n t (by omega) hs h1 h2
        refine s_when (et_and (et_notN (slv e2 rfl rfl)) fun _ => et_and (et_cmp (ev_var rfl) (ev_addN (ev_nC 1) (ev_var rfl)) (rv_ne rfl)) fun _ => et_cmp (ev_var rfl) (ev_addN (ev_nC 4) (ev_var rfl)) (rv_ne rfl)) (fun hb H3 e3 => ?_) (fun hb H3 e3 => ?_)
        · cases o with
          | none =>
            obtain rfl : v = .non := hv2
            simp at hb
          | some t =>
            obtain ⟨a, rfl, ha, _⟩ := hv2
            have htl := (g.lt t (List.mem_of_getElem? hsj)).1
            have E3 := e2.trans e3
            refine s_forLn (a := a) (xs := nL t) (slv E3 rfl rfl) (sq_of (E3 _ _ ha)) (fun n σ'' H'' => ∃ z m ks, σ'' = [some (.ref A.lg), some (.ref i), some (.ref u), some (nV ba.act), some (.ref d), some (nV ((ba.used.filter (fun k => decide (k ∈ ba.ids))).length)), y, some (V.int (j : Int)), z] ∧ Ex H H'' ∧ H'' d = some (.dK (dN m)) ∧ m.map (·.1) = ks ∧ ks.length ≤ 1000 + j * (l.last + 1) + n ∧ (∀ a ∈ ks2, a ∈ ks) ∧ ∀ a ∈ t.take n, a ≠ 0 → a ∈ ks)
              (fun H4 e4 => ⟨z, m2, ks2, rfl, E3.trans e4, e4 _ _ (e3 _ _ hm2), hks2, hkl2, fun _ q => q, fun a ha => by simp at ha⟩) (fun n σ'' H'' _ ⟨_, _, _, _, e, _⟩ => sq_of (e _ _ ha)) ?_ ?_
            · rintro n w σ'' H'' hn ⟨z3, m3, ks3, rfl, e4, hm3, hks3, hkl3, hmo3, htk3⟩
              obtain ⟨a0, ha0, rfl⟩ := nL_get hn
              have nl := (List.getElem?_eq_some_iff.mp ha0).1
              have tk := take_snoc ha0
              refine s_when (b := !decide (nV a0 = V.int 0)) (et_cmp (ev_var rfl) ev_c (rv_ne rfl)) (fun hb2 H5 e5 => ?_) (fun hb2 H5 e5 => ?_)
              · have hle : j * (l.last + 1) ≤ 3 * (l.last + 1) := Nat.mul_le_mul_right _ (by omega)
                refine s_dadd (ks := ks3) (e5 _ _ hm3) hks3 ev_c (ev_var rfl) (ev_var rfl) (by omega) fun H6 m' e6 hm' => ?_
                refine ⟨_, m', _, rfl, Ex.mut (e4.trans (e5.trans e6)) hd, upd_same, hm', ?_, fun a q => mem_ins.mpr (.inr (hmo3 a q)), fun a q hn0 => ?_⟩
                · have := ins_len ks3 a0
                  omega
                · rw [mem_ins]
                  rw [tk] at q
                  rcases List.mem_append.mp q with q | q
                  · exact .inr (htk3 a q hn0)
                  · exact .inl (List.mem_singleton.mp q)
              · refine ⟨_, m3, ks3, rfl, e4.trans e5, e5 _ _ hm3, hks3, by omega, hmo3, fun a q hn0 => ?_⟩
                rw [tk] at q
                rcases List.mem_append.mp q with q | q
                · exact htk3 a q hn0
                · have z2 : decide (nV a0 = V.int 0) = true := by simpa using hb2
                  have z3 := of_decide_eq_true z2
                  injection z3 with z3
                  have := List.mem_singleton.mp q
                  exact absurd (by omega) hn0
            · rintro σ'' H'' ⟨z3, m3, ks3, rfl, e4, hm3, hks3, hkl3, hmo3, htk3⟩
              rw [nL_len] at hkl3 htk3
              rw [List.take_length] at htk3
              refine ⟨_, z3, m3, ks3, rfl, e4, hm3, hks3, ?_, fun k h1 h2 h3 => hmo3 _ (hall2 k h1 h2 h3), fun n t' hn hs h1 h2 a q hn0 => ?_⟩
              · rw [Nat.add_mul]
                omega
              · by_cases zz : n = j
                · rw [zz, hsj] at hs
                  have : t = t' := Option.some.inj (Option.some.inj hs)
                  rw [← this] at q
                  exact htk3 a q hn0
                · exact hmo3 a (hsl2 n t' (by omega) hs h1 h2 a q hn0)
        · have sk := skip H3 e3 fun t ht h1 h2 => by
            rw [ht] at hv2
            obtain ⟨a, rfl, ha, _⟩ := hv2
            have a1 : decide (nV ba.act = nV (1 + j)) = false := decide_eq_false fun q => by injection q with q; exact h1 (by omega)
            have a2 : decide (nV ba.act = nV (4 + j)) = false := decide_eq_false fun q => by injection q with q; exact h2 (by omega)
            rw [a1, a2] at hb
            simp at hb
          obtain ⟨m', ks', q1⟩ := sk
          exact ⟨_, z, m', ks', rfl, q1⟩
      · rintro σ' H2 ⟨x, z, m2, ks2, rfl, e2, hm2, hks2, hkl2, hall2, hsl2⟩
        refine s_ret (ev_addN (ev_var rfl) (ev_lenK (ev_var rfl) hm2)) fun H3 e3 => k _ _ (e2.trans e3) ⟨ks2, ?_, fun a ha => ?_⟩
        · rw [← hks2, List.length_map]
        · obtain ⟨hn0, ⟨k, h1, h2, h3⟩ | ⟨n, t, h1, h2, h3, h4⟩⟩ := ha
          · rw [← h3]
            exact hall2 k h1 h2 (by rw [h3]; exact hn0)
          · have hn3 : n < 3 := by
              have := (List.getElem?_eq_some_iff.mp h1).1
              rw [g.ls] at this
              exact this
            exact hsl2 n t hn3 h1 h2 h3 a h4 hn0
end
end Sg


set_option maxHeartbeats 4000000
/-! rules of our own: a method's call with keywords -/
namespace Sg
open PySem PySem.Spec PyProof.Rows L2 Evl
def tMethN (C : Addr) (m : Str) (n mk : Nat) (sp : Sp) (gV : List V → List V → List V) (E : XK) (ta : TE) (t tk : TA) : TE := fun σ H Q => ta σ H fun x H1 => ∃ a dx fs, x = .ref a ∧ H1 a = some (.ins C dx fs) ∧ fs.lookup m = none ∧
  t σ H1 fun vs H2 => tk σ H2 fun zs H3 => (x :: vs).length = n ∧ zs.length = mk ∧ sp (gV (x :: vs) zs) H3 Q E
section
variable {X : Cx} {CX : CXT} {k n : Nat} {f C : Addr} {fd : FuncData} {ps ks : List Str} {sp : Sp} {E : XK} {m : Str} {p pos apos : Pos} {e o : Expr} {es : List Expr} {kws : List Keyword} {ta : TE} {t tk : TA} {g : List Value → List Value → List Value} {gV : List V → List V → List V}
theorem pe_methN {pl : Sem Bool} (he : PE X o ta) (c : Cls X.K C) (hm : Meth X.K C m f) (F : FnOk X.prog X.w X.K X.mg X.base CX k f fd ps sp) (hr : Room k X.A) (hb : KBn X.K fd ps n ks g gV) (hx : Passes CX X E)
    (ha : PA X (e :: es) t) (hkw : PK X kws tk) (hall : (backToKw pos (keywordEach kws X.env)).all (·.1.isSome) = true := by rfl) (hks : (backToKw pos (keywordEach kws X.env)).filterMap (·.1) = ks := by rfl)
    (hst : starEach (e :: es) X.env = (false, eval e X.env) :: starEach es X.env := by rfl)
    (hpl : ((backTo pos (starEach (e :: es) X.env)).any (·.1) || (backToKw pos (keywordEach kws X.env)).any (·.1.isNone)) = false := by rfl)
    (ht : eval (.Call (.Attribute o m apos) (e :: es) kws pos) X.env = (do
      let ov ← eval o X.env
      standAt apos.atName
      let (f, first) ← holding [ov] (getMethod ov m pl)
      callWith pos f first (backTo pos (starEach (e :: es) X.env)) (backToKw pos (keywordEach kws X.env))) := by rfl) :
    PE X (.Call (.Attribute o m apos) (e :: es) kws pos) (tMethN C m n ks.length sp gV E ta t tk) := by
  refine ⟨fun pins s σ H Q I h => ?_⟩
  refine PySem.W.methodCall_KW (pl := pl) (thn (he.run pins s σ H _ I h) fun u s1 ⟨x, H1, I1, rx, a, dx, fs, ex, ea, l, q⟩ => ?_) ht
  subst ex
  obtain rfl : u = Value.ref a := rx
  refine getmeth_ok I1 ea c hm l ?_
  refine PySem.W.callWith_KW (first := [.ref a]) (h₀ := X.base) I.ok.mod.kin hm.kp hall (thn (ha.run pos pins s1 σ H1 _ I1 q) fun us s2 ⟨vs, H2, I2, r, q2⟩ => ?_) hpl hst
  refine thn (hkw.run pos pins s2 σ H2 _ I2 q2) fun ws s3 ⟨zs, H3, I3, rz, l1, l2, q3⟩ => ⟨I3.kIn, ?_⟩
  rw [hks]
  exact run_fnN (us := .ref a :: us) (vs := .ref a :: vs) F hr hb hx I3 (.cons rfl r) rz l1 l2 q3
end
section
variable {K : PySem.W.Frag} {σ : L2.St} {H H' : Hp} {ta tb te : TE} {D : Ends} {tz : L2.TS}
theorem ev_isB {a b : Bool} (ha : Ev ta σ H (.bl a)) (hb : Ev tb σ H (.bl b)) : Ev (tOp rIsB ta tb) σ H (.bl (decide (a = b))) := ev_op ha hb fun H1 _ _ q => ⟨a, b, rfl, rfl, q H1 (Ex.refl H1)⟩
end
end Sg

set_option maxHeartbeats 4000000
namespace Sg
open PySem PySem.Spec PyProof.Rows L2 Evl
section
variable {P : Program} {w : World} {K : PySem.W.Frag} {mg : Str → Option Value} {base : Heap}
/-! ### _law_room_made -/
theorem s_callN {σ : L2.St} {H : Hp} {t tk : TA} {sp : Sp} {E : XK} {n m : Nat} {gV : List V → List V → List V} {vs : List V} {R : List V → Hp → Prop} {Q : VK} (h : EvA t σ H vs) (hk : ∀ H1, Ex H H1 → EvAP tk σ H1 R) (hn : vs.length = n)
    (k : ∀ zs H1, Ex H H1 → R zs H1 → zs.length = m ∧ sp (gV vs zs) H1 Q E) : tCallN n m sp gV E t tk σ H Q := h H (Ex.refl H) _ fun H1 e1 => hk H1 e1 H1 (Ex.refl H1) _ fun zs H2 e2 r => ⟨hn, (k zs H2 (e1.trans e2) r).1, (k zs H2 (e1.trans e2) r).2⟩
def sp_law_room_made (K : PySem.W.Frag) : Sp := fun vs H Q _ => ∃ (A : Ad) (l : Lay) (L : Lg) (n r : Nat), vs = [.ref A.la, .ref A.lg, nV n, nV r] ∧ LogAt K H A l L ∧ SeenOk l L ∧ WtOk l L 60000 ∧
  (HasRoom l L.T n → Gives K H A l L (.bl true) Q) ∧ ∀ L', Same l L L' → HasRoom l L'.T n → Gives K H A l L' (.bl true) Q
abbrev nm_law_room_made : List Str := ["_law_layout_here", "_law_log", "_law_count", "_law_row_here", "_law_way", "_law_start", "_law_step", "_law_size", "_law_k", "_law_j"]
theorem sc_law_room_made : FnScope nm_law_room_made ["_law_layout_here", "_law_log", "_law_count", "_law_row_here"] (defScope s_law_room_made) := ⟨rfl, rfl, rfl, by decide +kernel, rfl, by decide +kernel, by decide +kernel⟩
theorem ok_law_room_made (T : Ctx K mg base) : Okd P w K mg base 8 (He.ga K "_law_room_made") ["_law_layout_here", "_law_log", "_law_count", "_law_row_here"] (sp_law_room_made K) := by
  obtain ⟨fd, F⟩ := T.def_law_room_made
  have b : Binds K fd ["_law_layout_here", "_law_log", "_law_count", "_law_row_here"] [] := FunD.bindsN F fun _ _ _ _ _ _ us hl => match us, hl with | [_, _, _, _], _ => rfl
  obtain ⟨fd_fill, G_fill, b_fill, k_fill⟩ := ok_fill (P := P) (w := w) T
  obtain ⟨fd_has_room, G_has_room, b_has_room, k_has_room⟩ := ok_has_room (P := P) (w := w) T
  obtain ⟨fd_law_digits, G_law_digits, b_law_digits, k_law_digits⟩ := ok_law_digits (P := P) (w := w) T
  obtain ⟨fd_write_checkpoint, G_write_checkpoint, b_write_checkpoint, k_write_checkpoint⟩ := ok_write_checkpoint (P := P) (w := w) T
  refine ⟨fd, FunD.ok F sc_law_room_made (fun vs H Q E h => ?_) (fun cdv A outer s H vs Q E hr h => ?_), b, F.kp⟩
  · obtain ⟨A, l, L, n, r, rfl, _⟩ := h
    rfl
  · obtain ⟨A, l, L, n, r, rfl, h, sk, wt, k1, k2⟩ := h
    obtain ⟨fd_make_room, G_make_room, k_make_room, kb_make_room⟩ := fn_make_room (P := P) (w := w) (ok_order_candidates T) T
    refine ⟨_, PSs.nox (pss_cons (ps_asg (pe_call G_law_digits (hr.mono (by decide)) rfl T.glo_law_digits k_law_digits b_law_digits .nil pass0 (pa_cons (pv 3) (pa_cons (pe_lst (pa_cons pe_int (pa_cons (pe_fld (pv 0) rfl) (pa_cons pe_int (pa_cons pe_int pa_nil))))) pa_nil))) (pg_unl rfl (pgs_cons (pg_name (i := 4) sc_law_room_made.nd rfl (Or.inl rfl)) (pgs_cons (pg_name (i := 5) sc_law_room_made.nd rfl (Or.inr rfl)) (pgs_cons (pg_name (i := 6) sc_law_room_made.nd rfl (Or.inr rfl)) (pgs_cons (pg_name (i := 7) sc_law_room_made.nd rfl (Or.inl rfl)) pgs_nil))))))
      (pss_cons (ps_if (pt_cmpR op_lt (pv 4) pe_int (nomark _)) (pss_one (ps_ret (pe_cmpR op_isBl (pe_callN G_make_room (hr.mono (by decide)) rfl T.glo_make_room k_make_room kb_make_room pass0 (pa_cons (pv 1) (pa_cons (pv 2) pa_nil)) (pk_cons (pe_ix ix_list (pe_lst (pa_cons pe_str (pa_cons pe_str (pa_cons pe_str pa_nil)))) (pv 4) (fun _ _ => rfl)) pk_nil)) pe_bl (nomark _)))) pss_nil)
      (pss_cut (ps_if (pt_not (pt_val (pe_call G_has_room (hr.mono (by decide)) rfl T.glo_has_room k_has_room b_has_room .nil pass0 (pa_cons (pv 1) (pa_cons (pv 2) pa_nil))))) (pss_one (ps_expr (pe_call G_write_checkpoint (hr.mono (by decide)) rfl T.glo_write_checkpoint k_write_checkpoint b_write_checkpoint .nil pass0 (pa_cons (pv 1) pa_nil)))) pss_nil)
      (pss_cons (ps_for PassesOwn.never rfl (pi_range1 rfl T.free_range (pa_cons (pe_fld (pv 0) rfl) pa_nil)) (pg_name (i := 8) sc_law_room_made.nd rfl (Or.inr rfl)) (pss_one (ps_if (pt_not (pt_val (pe_call G_has_room (hr.mono (by decide)) rfl T.glo_has_room k_has_room b_has_room .nil pass0 (pa_cons (pv 1) (pa_cons (pv 2) pa_nil))))) (pss_one (ps_expr (pe_call G_fill (hr.mono (by decide)) rfl T.glo_fill k_fill b_fill .nil pass0 (pa_cons (pv 1) (pa_cons (pe_lc (own := [("_law_j", 9)]) rfl sc_law_room_made.nd (pi_range1 rfl T.free_range (pa_cons (pv 7) pa_nil)) (blkOk_by (own := [("_law_j", 9)]) (N := nm_law_room_made) (sc := defScope s_law_room_made) (by decide +kernel)) (fun _ _ _ _ _ => (pg_name (i := 9) sc_law_room_made.nd rfl (Or.inl rfl) (hf := .inr rfl))) (fun _ _ _ _ _ => pts_nil) (fun _ _ _ _ _ => (pe_op op_mod (pe_callTy call_int1 (by rfl) T.free_int (by decide +kernel) (pa_cons (pe_op op_add (pe_op op_add (pv 5) (pv 8)) (pe_op op_mul (pv 9) (pv 6))) pa_nil)) (show PE _ _ (tFld K _ _) from pe_fld (pv 0) rfl)))) pa_nil))))) pss_nil)))
      (pss_one (ps_ret (pe_cmpR op_isBl (pe_call G_has_room (hr.mono (by decide)) rfl T.glo_has_room k_has_room b_has_room .nil pass0 (pa_cons (pv 1) (pa_cons (pv 2) pa_nil))) pe_bl (nomark _)))))))), ?_⟩
    have lo := sk.o
    have hs1 := lo.s1
    have hs2 := lo.s2
    have room : ∀ {σ : L2.St} {H : Hp} {A' : Ad} {L' : Lg} {tA : TA} {E : XK}, LogAt K H A' l L' → GoodT l L'.T → EvA tA σ H [.ref A'.lg, nV n] → Ev (tCall (sp_has_room K) [] E tA) σ H (.bl (roomB l L'.T n)) := fun {σ H A' L' tA E} h g e =>
      ev_callV e fun H1 e1 Q E q => ⟨_, l, _, n, rfl, h.mono e1, g, q⟩
    refine q_asgPG (evp_digits (ds := [5, l.seg, 7, 9]) (en_of (P := fun _ => True) (ev_var rfl) trivial) (fun H2 e2 => el_lst (ea_cons ev_c (ea_cons (yv_segments T (h.mono e2).dev.la (ev_var rfl)) (ea_cons ev_c (ea_cons ev_c ea_nil)))) (Nat.le_of_ble_eq_true rfl)) (by simp) (by intro d hd; simp at hd; omega)) fun v H1 e1 hv => ?_
    obtain ⟨q, rs, rfl, hq, dg⟩ := hv
    obtain ⟨way, start, step, size, rfl, d1, d2, d3, d4⟩ := dig4 dg
    refine g_un4 hq ?_
    refine q_when (et_cmp (ev_var rfl) ev_c rv_I0) (fun hb H2 e2 => ?_) (fun _ H2 e2 => ?_)
    · have hw : way < 3 := by
        have := of_decide_eq_true hb
        omega
      refine s_callN (R := fun zs _ => ∃ pol : Str, zs = [.str pol]) (vs := [.ref A.lg, nV n]) (ea_cons (ev_var rfl) (ea_cons (ev_var rfl) ea_nil)) (fun H3 e3 => ?_) rfl fun zs H3 e3 hz => ?_
      · have hx : ∃ pol : Str, [V.str "greedy", .str "oldest", .str "cost-benefit"][way]? = some (.str pol) := by
          rcases (show way = 0 ∨ way = 1 ∨ way = 2 by omega) with z | z | z <;> rw [z] <;> exact ⟨_, rfl⟩
        obtain ⟨pol, hpol⟩ := hx
        refine EvAP.mono (ep_ev (vs := [.str pol]) (ea_cons (ev_opL1 (xs := [.str "greedy", .str "oldest", .str "cost-benefit"]) (el_lst (ea_cons ev_c (ea_cons ev_c (ea_cons ev_c ea_nil))) (Nat.le_of_ble_eq_true rfl)) (fun H5 e5 => ev_var rfl) fun p H5 hp e5 => rv_ixL (sq_of hp) (atI_of hpol)) ea_nil)) fun us _ _ hu => ⟨pol, hu⟩
      · obtain ⟨pol, rfl⟩ := hz
        have E3 := e1.trans (e2.trans e3)
        exact ⟨rfl, A, l, L, n, pol, rfl, h.mono E3, sk, wt, fun hr H' w p s q ev hl => ⟨true, true, rfl, rfl, k1 hr H' w p s q ((Evo.ex E3).trans ev) hl⟩, fun L' sm hr H' w p s q ev hl => ⟨true, true, rfl, rfl, k2 L' sm hr H' w p s q ((Evo.ex E3).trans ev) hl⟩⟩
    · have E2 := e1.trans e2
      have h2 := h.mono E2
      have hdone : ∀ (L' : Lg), (L' = L ∧ HasRoom l L.T n) ∨ (Same l L L' ∧ HasRoom l L'.T n) → Gives K H A l L' (.bl true) Q := fun L' hh => by
        rcases hh with ⟨rfl, hr⟩ | ⟨sm, hr⟩
        · exact k1 hr
        · exact k2 L' sm hr
      refine q_cut (M := fun σ' H' => ∃ L' w p s q, σ' = [some (.ref A.la), some (.ref A.lg), some (nV n), some (nV r), some (nV way), some (nV start), some (nV step), some (nV size), none, none] ∧ Evo H A H' (A.at_ w p s q) ∧ LogAt K H' (A.at_ w p s q) l L' ∧ ((L' = L ∧ HasRoom l L.T n) ∨ (Same l L L' ∧ (cands l L'.T).length + 1 ≤ l.seg))) ?_ ?_
      · refine s_when (b := !roomB l L.T n) (et_not (et_val (room h2 sk.g (ea_cons (ev_var rfl) (ea_cons (ev_var rfl) ea_nil))))) (fun hb H3 e3 => ?_) (fun hb H3 e3 => ?_)
        · refine s_call (ea_cons (ev_var rfl) ea_nil) fun H4 e4 => ⟨A, l, L, rfl, (h2.mono e3).mono e4, sk.g, sk.rg, wt.1, sk.sw, fun H5 w5 p5 s5 q5 ev5 h5 => ?_⟩
          exact ⟨_, w5, p5, s5, q5, rfl, (Evo.ex (E2.trans (e3.trans e4))).trans ev5, h5, .inr ⟨sk.same, cands_le (ck_good sk.g) (ck_queue sk.g)⟩⟩
        · have hr : HasRoom l L.T n := roomB_iff.mp (by simpa using hb)
          exact ⟨L, A.wt, A.pr, A.sl, A.qu, rfl, Evo.ex (E2.trans e3), h2.mono e3, .inl ⟨rfl, hr⟩⟩
      · rintro σ' H' ⟨L0, w0, p0, s0, q0, rfl, ev0, h0, hc0⟩
        refine q_forR1 (n := (l.seg : Int)) (ea_cons (yv_segments T h0.dev.la (ev_var rfl)) ea_nil) (by omega)
          (fun j σ' H' => ∃ L' w p s q x, σ' = [some (.ref A.la), some (.ref A.lg), some (nV n), some (nV r), some (nV way), some (nV start), some (nV step), some (nV size), x, none] ∧ Evo H A H' (A.at_ w p s q) ∧ LogAt K H' (A.at_ w p s q) l L' ∧ ((L' = L ∧ HasRoom l L.T n) ∨ (Same l L L' ∧ (HasRoom l L'.T n ∨ (cands l L'.T).length + 1 + j ≤ l.seg))))
          (fun H3 e3 => ⟨L0, w0, p0, s0, q0, none, rfl, ev0.trans (Evo.ex e3), h0.mono e3, hc0.imp (fun z => z) fun z => ⟨z.1, .inr z.2⟩⟩) ?_ ?_
        · rintro j σ' H3 hj ⟨L', w, p, s, q, x, rfl, ev, hL, hc⟩
          have g' : GoodT l L'.T := by
            rcases hc with ⟨rfl, _⟩ | ⟨sm, _⟩
            · exact sk.g
            · exact sm.ok.seen.g
          refine s_when (b := !roomB l L'.T n) (et_not (et_val (room (A' := A.at_ w p s q) hL g' (ea_cons (ev_var rfl) (ea_cons (ev_var rfl) ea_nil))))) (fun hb H4 e4 => ?_) (fun hb H4 e4 => ?_)
          · have hnr : ¬ HasRoom l L'.T n := roomB_not.mp (by simpa using hb)
            rcases hc with ⟨rfl, hr⟩ | ⟨sm, hr | hr⟩
            · exact absurd hr hnr
            · exact absurd hr hnr
            · have hL4 := hL.mono e4
              have hla : ∀ {H5}, Ex H4 H5 → LayAt K H5 A.la l := fun e5 => (hL4.mono e5).dev.la
              refine s_callP (R := fun us H5 => ∃ v, us = [.ref A.lg, v] ∧ ∃ o, v = .ref o ∧ H5 o = some (.lst (given (size : Int).toNat (fun _ => true) fun i => nV ((start + j + i * step) % l.seg)))) (ep2 (R := fun v H5 => ∃ o, v = .ref o ∧ H5 o = some (.lst (given (size : Int).toNat (fun _ => true) fun i => nV ((start + j + i * step) % l.seg)))) (ev_var rfl) (EvL.p ?_ fun o H5 ho e5 h5 => ⟨o, rfl, h5⟩)) fun us H5 e5 hu => ?_
              · refine el_lcR1 (j := 9) (vs := [9]) (n := (size : Int)) (fun _ => true) (fun i => nV ((start + j + i * step) % l.seg)) (ea_cons (ev_var rfl) ea_nil) (by omega) (fun _ => rfl) (fun i H5 e5 _ => et_yes) (fun i H5 e5 _ _ => ?_)
                exact ev_modN (ev_int (ev_addN (ev_addN (ev_var rfl) (ev_var rfl)) (ev_mulN (ev_var rfl) (ev_var rfl) (.inr (by omega))))) (yv_segments T (hla e5) (ev_var rfl)) (by omega)
              · obtain ⟨v, rfl, o, rfl, ho⟩ := hu
                have hord : (given (size : Int).toNat (fun _ => true) fun i => nV ((start + j + i * step) % l.seg)) = nL ((List.range size).map fun i => (start + j + i * step) % l.seg) := by
                  rw [given_all, Int.toNat_natCast, nL, List.map_map]
                  rfl
                rw [hord] at ho
                exact ⟨A.at_ w p s q, l, L', o, _, n, rfl, hL4.mono e5, sm.ok.seen, sm.fu, sm.qu, hnr, sm.wtOk _, ho, by rw [List.length_map, List.length_range]; omega, fun L2 sm2 hc2 H6 w6 p6 s6 q6 ev6 h6 => ⟨L2, w6, p6, s6, q6, _, rfl, (ev.trans (Evo.ex (e4.trans e5))).trans ev6, h6, .inr ⟨sm.trans sm2, .inr (by omega)⟩⟩⟩
          · have hr : HasRoom l L'.T n := roomB_iff.mp (by simpa using hb)
            exact ⟨L', w, p, s, q, _, rfl, ev.trans (Evo.ex e4), hL.mono e4, hc.imp (fun z => z) fun z => ⟨z.1, .inl hr⟩⟩
        · rintro σ' H3 ⟨L', w, p, s, q, x, rfl, ev, hL, hc⟩
          have hn : (l.seg : Int).toNat = l.seg := by omega
          rw [hn] at hc
          have hc' : (L' = L ∧ HasRoom l L.T n) ∨ (Same l L L' ∧ HasRoom l L'.T n) := hc.imp (fun z => z) fun z => ⟨z.1, z.2.elim (fun z => z) fun z => by omega⟩
          have g' : GoodT l L'.T ∧ HasRoom l L'.T n := by
            rcases hc' with ⟨rfl, hr⟩ | ⟨sm, hr⟩
            · exact ⟨sk.g, hr⟩
            · exact ⟨sm.ok.seen.g, hr⟩
          refine s_ret (ev_is (ev_isB (room (A' := A.at_ w p s q) hL g'.1 (ea_cons (ev_var rfl) (ea_cons (ev_var rfl) ea_nil))) ev_c) (by rw [roomB_iff.mpr g'.2])) fun H4 e4 => ?_
          exact hdone L' hc' H4 w p s q (ev.trans (Evo.ex e4)) (hL.mono e4)
end
end Sg


set_option maxHeartbeats 4000000
/-! readings for the law itself -/
namespace Sg
open PySem PySem.Spec PyProof.Rows L2 Evl
/-- the script stands, apart from S -/
def ScrAt (K : PySem.W.Frag) (H : Hp) (S : List Addr) (p : Addr) (xs : List V) : Prop := (Rd H p (.lst xs) ∧ p ∉ S) ∨
  ∃ (o : Obj) (its : Array Value) (n : Nat), K.lookup p = some o ∧ o.cls = .type "list" ∧ o.dict = none ∧ o.data = .seq its n ∧ its.size ≤ sizeLine ∧ Vals xs its.toList
theorem ScrAt.sq {K : PySem.W.Frag} {H : Hp} {S : List Addr} {p : Addr} {xs : List V} (h : ScrAt K H S p xs) : SqL K H p xs := h.imp (fun z => z.1) fun z => z
theorem ScrAt.of {K : PySem.W.Frag} {H H' : Hp} {S : List Addr} {p : Addr} {xs : List V} (h : SqL K H p xs) (e : Ex H H') (n : ∀ b o, H b = some o → b ∉ S) : ScrAt K H' S p xs := by
  rcases h with h | h
  · rcases h with h | ⟨o, h⟩
    · exact .inl ⟨.inl (e _ _ h), n _ _ h⟩
    · exact .inl ⟨.inr ⟨o, e _ _ h⟩, n _ _ h⟩
  · exact .inr h
theorem ScrAt.keep {K : PySem.W.Frag} {H H' : Hp} {S S' : List Addr} {p : Addr} {xs : List V} (h : ScrAt K H S p xs) (k : Kp H S H' S') : ScrAt K H' S' p xs := by
  rcases h with ⟨h | ⟨o, h⟩, n⟩ | h
  · exact .inl ⟨.inl (k.kp _ _ h n), k.ni _ _ h n⟩
  · exact .inl ⟨.inr ⟨o, k.kp _ _ h n⟩, k.ni _ _ h n⟩
  · exact .inr h
/-- what stands beside the log: the script, the state, the list of states at r0 -/
structure Side (K : PySem.W.Frag) (H : Hp) (S : List Addr) (p : Addr) (ns : List Int) (vst : V) (st : List (Option Map)) (r0 : Addr) (sts : List (List (Option Map))) : Prop where
  scr : ScrAt K H (r0 :: S) p (ns.map V.int)
  st : StAt H (r0 :: S) vst st
  rw : r0 ∉ S
  sts : ∃ vs, H r0 = some (.lst vs) ∧ Rl (StAt H (r0 :: S)) vs sts
theorem Kp.cons {H H' : Hp} {S S' : List Addr} {r0 : Addr} {o : HO} (k : Kp H S H' S') (hr : H r0 = some o) (hn : r0 ∉ S) : Kp H (r0 :: S) H' (r0 :: S') := by
  refine ⟨fun b u h n => k.kp b u h fun z => n (List.mem_cons_of_mem _ z), fun b u h n z => ?_, k.tx⟩
  rcases List.mem_cons.mp z with z | z
  · exact n (by rw [z]; exact List.mem_cons_self)
  · exact k.ni b u h (fun q => n (List.mem_cons_of_mem _ q)) z
theorem Side.keep {K : PySem.W.Frag} {H H' : Hp} {S S' : List Addr} {p r0 : Addr} {ns : List Int} {vst : V} {st : List (Option Map)} {sts : List (List (Option Map))} (h : Side K H S p ns vst st r0 sts) (k : Kp H S H' S') : Side K H' S' p ns vst st r0 sts := by
  obtain ⟨vs, h1, h2⟩ := h.sts
  have kc := k.cons h1 h.rw
  exact ⟨h.scr.keep kc, h.st.keep kc, k.ni _ _ h1 h.rw, vs, k.kp _ _ h1 h.rw, h2.mono fun _ _ z => z.keep kc⟩
theorem Side.all {K : PySem.W.Frag} {H : Hp} {S : List Addr} {p r0 : Addr} {ns : List Int} {vst : V} {st : List (Option Map)} {sts : List (List (Option Map))} (h : Side K H S p ns vst st r0 sts) : StsAt H [] (.ref r0) sts := by
  obtain ⟨vs, h1, h2⟩ := h.sts
  exact ⟨r0, vs, rfl, h1, (fun z => nomatch z), h2.mono fun _ _ z => z.keep ⟨fun _ _ q _ => q, (fun _ _ _ _ z => (nomatch z)), Tx.refl _⟩⟩
/-- a new list of states -/
theorem Side.new {K : PySem.W.Frag} {H H' : Hp} {S : List Addr} {p r1 : Addr} {S0 : List Addr} {ns : List Int} {vst : V} {st : List (Option Map)} (e : Ex H H') (h1 : ScrAt K H S0 p (ns.map V.int)) (h2 : StAt H S0 vst st) (hs : ∀ b o, H b = some o → b ∉ S0 → b ∉ S) (hr : H r1 = none) (hn : r1 ∉ S) (h' : H' r1 = some (.lst [vst])) : Side K H' S p ns vst st r1 [st] := by
  have k : Kp H S0 H' (r1 :: S) := ⟨fun b o h _ => e b o h, fun b o h n z => by
    rcases List.mem_cons.mp z with z | z
    · rw [z, hr] at h
      cases h
    · exact hs b o h n z, Ex.tx e⟩
  exact ⟨h1.keep k, h2.keep k, hn, [vst], h', Rl.one (h2.keep k)⟩
/-- one more state -/
theorem Side.app {K : PySem.W.Frag} {H : Hp} {S : List Addr} {p r0 : Addr} {ns : List Int} {vst v : V} {st st' : List (Option Map)} {sts : List (List (Option Map))} {vs : List V} (h : Side K H S p ns vst st r0 sts) (hr : H r0 = some (.lst vs)) (hv : StAt H (r0 :: S) v st') : Side K (upd H r0 (.lst (vs ++ [v]))) S p ns v st' r0 (sts ++ [st']) := by
  obtain ⟨vs', h1, h2⟩ := h.sts
  rw [hr] at h1
  injection h1 with h1
  injection h1 with h1
  subst h1
  have k : Kp H (r0 :: S) (upd H r0 (.lst (vs ++ [v]))) (r0 :: S) := ⟨fun b o hb n => by
    rw [upd_ne fun z => n (by rw [z]; exact List.mem_cons_self)]
    exact hb, fun _ _ _ n => n, Tx.upd (Tx.refl _) fun xs z => by rw [hr] at z; cases z⟩
  exact ⟨h.scr.keep k, hv.keep k, h.rw, _, upd_same, Rl.app (h2.mono fun _ _ z => z.keep k) (Rl.one (hv.keep k))⟩
/-- the log stands where a list of states is changed -/
theorem LogAt.putL {K : PySem.W.Frag} {H : Hp} {A : Ad} {l : Lay} {L : Lg} (h : LogAt K H A l L) (g : GoodT l L.T) {r0 x : Addr} {vs ws ys : List V} (hr : H r0 = some (.lst (.ref x :: vs))) (hx : H x = some (.lst ys)) (hy : ys.length = 4) (hn : r0 ∉ A.own) : LogAt K (upd H r0 (.lst ws)) A l L := by
  have hl1 := h.dev.la.1.last1
  have hk : ∀ b o, H b = some o → b ≠ r0 → (upd H r0 (.lst ws)) b = some o := fun b o z n => by rw [upd_ne n]; exact z
  have ho : ∀ b, b ∈ A.own → b ≠ r0 := fun b hb z => hn (z ▸ hb)
  have tx : Tx H (upd H r0 (.lst ws)) := Tx.upd (Tx.refl _) fun xs z => by rw [hr] at z; cases z
  have ms : A.lg ∈ A.own ∧ A.dv ∈ A.own ∧ A.sn ∈ A.own ∧ A.su ∈ A.own ∧ A.wt ∈ A.own ∧ A.ct ∈ A.own := by unfold Ad.own; simp
  have num : ∀ (b : Addr) (t : List Nat), H b = some (.lst (nL t)) → b ≠ r0 := fun b t hb z => by
    rw [z, hr] at hb
    injection hb with hb
    injection hb with hb
    cases t with
    | nil => cases hb
    | cons a t => injection hb with hb _; cases hb
  obtain ⟨⟨dl, hl⟩, ⟨⟨dd, d1⟩, ⟨lo, dla, la⟩, ⟨v1, a1, a2⟩, ⟨v2, b1, b2⟩, ⟨v3, c1, c2⟩, k1, k2, k3, l1, l2⟩, ⟨dc, n1, n2, n3, n4, n5, n6, n7, c⟩, ⟨p1, p2⟩, ⟨us, s1, s2, s3⟩, ⟨q1, q2⟩, nd, hla⟩ := h
  have sl : A.sl ≠ r0 := fun z => by
    rw [z, hr] at s1
    injection s1 with s1
    injection s1 with s1
    obtain ⟨o, ho0⟩ : ∃ o, L.T.slots[0]? = some o := ⟨_, List.getElem?_eq_getElem (by rw [g.ls]; decide)⟩
    obtain ⟨v, hv1, hv2⟩ := s2.get ho0
    rw [← s1] at hv1
    injection hv1 with hv1
    rw [← hv1] at hv2
    cases o with
    | none => cases hv2
    | some t =>
      obtain ⟨a, ha1, ha2, _⟩ := hv2
      injection ha1 with ha1
      rw [← ha1, hx] at ha2
      injection ha2 with ha2
      injection ha2 with ha2
      have := (g.lt t (List.mem_of_getElem? ho0)).1
      rw [ha2, List.length_map] at hy
      omega
  exact ⟨⟨dl, hk _ _ hl (ho _ ms.1)⟩, ⟨⟨dd, hk _ _ d1 (ho _ ms.2.1)⟩, ⟨lo, dla, hk _ _ la fun z => by rw [z, hr] at la; cases la⟩, ⟨v1, hk _ _ a1 (ho _ ms.2.2.2.1), a2.mono fun _ _ z => z.mono tx⟩, ⟨v2, hk _ _ b1 (ho _ ms.2.2.1), b2.mono fun _ _ z => z.mono tx⟩,
    ⟨v3, hk _ _ c1 (ho _ ms.2.2.2.2.1), c2.mono fun _ _ z => z.mono tx⟩, k1, k2, k3, l1, l2⟩, ⟨dc, n1, n2, n3, n4, n5, n6, n7, hk _ _ c (ho _ ms.2.2.2.2.2)⟩, ⟨hk _ _ p1 (num _ _ p1), p2⟩,
    ⟨us, hk _ _ s1 sl, s2.mono fun v o z => by
      cases o with
      | none => exact z
      | some t =>
        obtain ⟨a, ha1, ha2, ha3⟩ := z
        exact ⟨a, ha1, hk _ _ ha2 (num _ _ ha2), ha3⟩, s3⟩, ⟨hk _ _ q1 (num _ _ q1), q2⟩, nd, hla⟩
section
variable {K : PySem.W.Frag} {mg : Str → Option Value} {base : Heap} {σ : L2.St} {H H' : Hp} {ta tb te tx : TE} {t u : TT} {x y z v : V} {r : R2} {P P' : V → Hp → Prop} {D : Ends} {tu tw tz : L2.TS} {tA : TA} {vs : List V} {i j n : Nat}
theorem et_stNe {st : List (Option Map)} {S S' : List Addr} {v' : V} (h : EvP ta σ H fun v H2 => StAt H2 S v st) (hb : ∀ H1, Ex H H1 → Ev tb σ H1 v') (hst : StAt H S' v' st) : EvT (tTest (tOp rStNe ta tb)) σ H false := fun H1 e Q q =>
  h H1 e _ fun v H2 e2 hv => hb H2 (e.trans e2) H2 (Ex.refl H2) _ fun H3 e3 => ⟨S, S', st, hv.keep (Ex.kps e3), hst.keep (Ex.kps ((e.trans e2).trans e3)), false, rfl, q H3 (e2.trans e3)⟩
theorem et_stNot {st : List (Option Map)} {sts : List (List (Option Map))} {S S' : List Addr} {v v' : V} (ha : Ev ta σ H v) (hb : Ev tb σ H v') (h : StAt H S v st) (h' : StsAt H S' v' sts) (hm : st ∈ sts) : EvT (tTest (tOp rStNot ta tb)) σ H false := fun H1 e Q q =>
  ha H1 e _ fun H2 e2 => hb H2 (e.trans e2) _ fun H3 e3 => ⟨S, S', st, sts, h.keep (Ex.kps ((e.trans e2).trans e3)), h'.keep (Ex.kps ((e.trans e2).trans e3)), hm, false, rfl, q H3 (e2.trans e3)⟩
theorem evp_contents {E : XK} {A : Ad} {l : Lay} {L : Lg} {S : List Addr} (h : LogAt K H A l L) (so : SeenOk l L) (hS : ∀ b ∈ S, ∃ o, H b = some o) (ha : EvA tA σ H [.ref A.lg]) : EvP (tCall (sp_law_contents K) [] E tA) σ H fun v H2 => StAt H2 S v (stOf L.seen L.T) :=
  evp_call ha fun H1 e1 Q E q => ⟨A, l, L, S, rfl, h.mono e1, so, fun b hb => let ⟨o, ho⟩ := hS b hb; ⟨o, e1 _ _ ho⟩, q⟩
theorem cont_zero (d : Dev) (n : Nat) : cont d (List.replicate n 0) = fun _ => none := funext fun k => by
  unfold cont
  rw [if_pos]
  rw [List.getD_eq_getElem?_getD, List.getElem?_replicate]
  split <;> rfl
theorem new_st (l : Lay) : stOf (newLg l).seen (newLg l).T = [some fun _ => none, none, none, none] := by
  show some (cont _ (List.replicate (l.last + 1) 0)) :: _ = _
  rw [cont_zero]
  rfl
theorem evp_st0 {S : List Addr} (hS : ∀ b ∈ S, ∃ o, H b = some o) : EvP (tLst (tCons tDNewK (tCons (tC .non) (tCons (tC .non) (tCons (tC .non) tNil))))) σ H fun v H2 => StAt H2 S v [some fun _ => none, none, none, none] := fun H1 e Q q => fun d hd => by
  have fresh : ∀ {b : Addr}, H1 b = none → b ∉ S := fun h z => by
    obtain ⟨o, ho⟩ := hS _ z
    rw [e _ _ ho] at h
    cases h
  refine ⟨(by show 4 ≤ sizeLine; exact sz_of (Nat.le_of_ble_eq_true rfl)), fun r hr => q _ _ ((Ex.new hd).trans (Ex.new hr)) ⟨rfl, r, _, rfl, upd_same, fresh (fresh_back (Ex.new hd) hr), ?_⟩⟩
  have m0 : OMapAt (upd (upd H1 d (.dK [])) r (.lst [.ref d, .non, .non, .non])) S (.ref d) (some fun _ => none) := ⟨d, [], rfl, Ex.new hr _ _ upd_same, fresh hd, List.nodup_nil, Nat.zero_le _, fun e he => (nomatch he), fun k p h => by cases h⟩
  exact Rl.app (vs := [.ref d]) (us := [.non, .non, .non]) (xs := [some fun _ => none]) (ys := [none, none, none]) (Rl.one m0) (Rl.app (vs := [.non]) (us := [.non, .non]) (xs := [none]) (ys := [none, none]) (Rl.one rfl) (Rl.app (vs := [.non]) (us := [.non]) (xs := [none]) (ys := [none]) (Rl.one rfl) (Rl.one rfl)))
/-! ### ids, each once -/
def once (xs : List Nat) : List Nat := ((List.range xs.length).filter fun j => !decide (xs.getD j 0 ∈ xs.take j)).map fun j => xs.getD j 0
theorem once_ok {l : Lay} {xs : List Nat} (h : ∀ k ∈ xs, 1 ≤ k ∧ k ≤ l.last) (hl : xs.length ≤ l.pay) : IdsOk l (once xs) := by
  refine ⟨?_, fun k hk => ?_, ?_⟩
  · unfold once
    rw [List.nodup_iff_pairwise_ne, List.pairwise_map]
    refine List.Pairwise.imp_of_mem (fun {a b} ha hb hab => ?_) (List.pairwise_lt_range.filter _)
    have h1 := List.mem_filter.mp ha
    have h2 := List.mem_filter.mp hb
    have l1 := List.mem_range.mp h1.1
    have h3 : xs.getD b 0 ∉ xs.take b := by simpa using h2.2
    intro z
    refine h3 (z ▸ ?_)
    rw [List.getD_eq_getElem?_getD, List.getElem?_eq_getElem l1]
    exact List.mem_of_getElem? (i := a) (by rw [List.getElem?_take, if_pos hab, List.getElem?_eq_getElem l1]; rfl)
  · obtain ⟨j, hj, rfl⟩ := List.mem_map.mp hk
    have l1 := List.mem_range.mp (List.mem_filter.mp hj).1
    rw [List.getD_eq_getElem?_getD, List.getElem?_eq_getElem l1]
    exact h _ (List.getElem_mem l1)
  · unfold once
    rw [List.length_map]
    have := List.length_filter_le (fun j => !decide (xs.getD j 0 ∈ xs.take j)) (List.range xs.length)
    rw [List.length_range] at this
    omega
theorem ep_n1 {P : Nat → Prop} (h : EvN te σ H P) : EvAP (tCons te tNil) σ H fun us _ => ∃ n : Nat, us = [nV n] ∧ P n := fun H1 e Q q => h H1 e _ fun v H2 e2 ⟨n, hv, p⟩ => q _ H2 e2 ⟨n, by rw [hv], p⟩
theorem ep_vn {P : Nat → Prop} {w : V} (ha : Ev ta σ H w) (h : EvN te σ H P) : EvAP (tCons ta (tCons te tNil)) σ H fun us _ => ∃ n : Nat, us = [w, nV n] ∧ P n := fun H1 e Q q => ha H1 e _ fun H2 e2 => h H2 (e.trans e2) _ fun v H3 e3 ⟨n, hv, p⟩ => q _ H3 (e2.trans e3) ⟨n, by rw [hv], p⟩
theorem ep_vnw {P : Nat → Prop} {w1 w2 : V} (ha : Ev ta σ H w1) (h : EvN te σ H P) (hb : Ev tb σ H w2) : EvAP (tCons ta (tCons te (tCons tb tNil))) σ H fun us _ => ∃ n : Nat, us = [w1, nV n, w2] ∧ P n := fun H1 e Q q => ha H1 e _ fun H2 e2 => h H2 (e.trans e2) _ fun v H3 e3 ⟨n, hv, p⟩ => hb H3 ((e.trans e2).trans e3) _ fun H4 e4 => q _ H4 ((e2.trans e3).trans e4) ⟨n, by rw [hv], p⟩
theorem ep_vvwn {tc : TE} {P : Nat → Prop} {w1 w2 w3 : V} (ha : Ev ta σ H w1) (hb : Ev tb σ H w2) (hc : Ev tc σ H w3) (h : EvN te σ H P) : EvAP (tCons ta (tCons tb (tCons tc (tCons te tNil)))) σ H fun us _ => ∃ n : Nat, us = [w1, w2, w3, nV n] ∧ P n := fun H1 e Q q => ha H1 e _ fun H2 e2 => hb H2 (e.trans e2) _ fun H3 e3 => hc H3 ((e.trans e2).trans e3) _ fun H4 e4 => h H4 (((e.trans e2).trans e3).trans e4) _ fun v H5 e5 ⟨n, hv, p⟩ => q _ H5 (((e2.trans e3).trans e4).trans e5) ⟨n, by rw [hv], p⟩
/-- the one digit -/
theorem en_dig1 {d : Nat} (h : EvP te σ H fun v H2 => ∃ (q : Addr) (rs : List Nat), v = .ref q ∧ H2 q = some (.lst (nL rs)) ∧ Dig rs [d]) : EvN (tOp (rIxL K) te (tC (.int 0))) σ H (· < d) := fun H1 e Q q => h H1 e _ fun v H2 e2 ⟨a, rs, hv, ha, dg⟩ => by
  obtain ⟨r, rs', rfl, hr, dg⟩ := dg.cons
  rw [hv]
  refine (ev_op (z := nV r) (ev_c (v := .ref a)) (ev_c (v := .int 0)) (rv_ixL (sq_of ha) (atI_of (k := 0) rfl)) : Ev (tOp (rIxL K) (tC (.ref a)) (tC (.int 0))) σ H2 (nV r)) H2 (Ex.refl H2) _ fun H3 e3 => q _ H3 (e2.trans e3) ⟨r, rfl, hr⟩
/-- an if by a number that is not told whole -/
theorem s_whenLe {P : Nat → Prop} {m : Nat} (h : EvN te σ H P) (hb : ∀ H1, Ex H H1 → Ev tb σ H1 (nV m)) (h1 : ∀ n H1, Ex H H1 → P n → n ≤ m → tu D σ H1) (h2 : ∀ H1, Ex H H1 → D.nx σ H1) : tIfS (tTest (tOp (rI0 fun i j => .bl (decide (i ≤ j))) te tb)) tu tNext D σ H :=
  h H (Ex.refl H) _ fun v H1 e1 ⟨n, hv, p⟩ => hb H1 e1 H1 (Ex.refl H1) _ fun H2 e2 => ⟨(n : Int), (m : Int), hv, rfl, decide ((n : Int) ≤ (m : Int)), rfl, by
    show if decide ((n : Int) ≤ (m : Int)) = true then tu D σ H2 else tNext D σ H2
    by_cases hn : n ≤ m
    · rw [if_pos (decide_eq_true (by omega))]
      exact h1 n H2 (e1.trans e2) p hn
    · rw [if_neg (by simp; omega)]
      exact h2 H2 (e1.trans e2)⟩
theorem q_ifNotCP {sp : Sp} {dvs : List V} {E : XK} {R : List V → Hp → Prop} (h : EvAP tA σ H R)
    (k : ∀ us H1, Ex H H1 → R us H1 → sp (us ++ dvs) H1 (fun v H2 => ∃ b, v = .bl b ∧ if (!b) = true then tu { D with nx := tz D } σ H2 else tz D σ H2) E) : tSeq (tIfS (tNot (tB (tCall sp dvs E tA))) tu tNext) tz D σ H := h H (Ex.refl H) _ k
/-- if f(..) is not True: .. -/
theorem q_ifNotT {sp : Sp} {dvs : List V} {E : XK} (h : EvA tA σ H vs) (k : ∀ H1, Ex H H1 → ∀ Q : VK, (∀ H2, tz D σ H2 → Q (.bl true) H2) → sp (vs ++ dvs) H1 Q E) : tSeq (tIfS (tTest (tOp rNotB (tCall sp dvs E tA) (tC (.bl true)))) tu tNext) tz D σ H :=
  h H (Ex.refl H) _ fun H1 e1 => k H1 e1 _ fun H2 q => ⟨true, true, rfl, rfl, false, rfl, by
    refine iteF ?_
    exact q⟩
/-! ### making the first log -/
def MadeP (K : PySem.W.Frag) (H : Hp) (la : Addr) (l : Lay) (L : Lg) (v : V) (H2 : Hp) : Prop := ∃ A', v = .ref A'.lg ∧ A'.la = la ∧ LogAt K H2 A' l L ∧ ∀ b ∈ A'.own, H b = none
theorem evp_newlog {E E' : XK} {la : Addr} {l : Lay} (hla : LayAt K H la l) (ha : Ev ta σ H (.ref la)) :
    EvP (tCall (sp_new_log K) [] E (tCons (tMake (He.ga K "Device") (sp_Device_init K) [.non] E' (tCons ta tNil)) tNil)) σ H (MadeP K H la l (ckL l (newLg l))) := fun H1 e Q q =>
  ha H1 e _ fun H2 e2 x dx hx hdx hne => by
    have n1 : ∀ b o, H2 b = some o → b ≠ x ∧ b ≠ dx := fun b o h => ⟨fun z => (by rw [z, hx] at h; cases h), fun z => (by rw [z, hdx] at h; cases h)⟩
    have up : Ex H2 (upd (upd H2 dx (.own x)) x (.ins (He.ga K "Device") dx [])) := fun b o h => by
      rw [upd_ne (n1 b o h).1, upd_ne (n1 b o h).2]
      exact h
    have E2 := e.trans e2
    have dn : ∀ b, (upd (upd H2 dx (.own x)) x (.ins (He.ga K "Device") dx [])) b = none → H b = none := fun b h => fresh_back E2 (fresh_back up h)
    refine ⟨x, dx, la, .non, l, List.replicate l.db none, rfl, upd_same, (hla.mono E2).mono up, List.length_replicate, .inl ⟨rfl, rfl⟩, fun H3 A' B3 h1 h2 h3 h4 h5 h6 => ?_⟩
    have E3 := ExB.made hx hdx B3
    refine ⟨rfl, ?_⟩
    show sp_new_log K ([.ref x] ++ []) H3 Q E
    have four : ∀ b ∈ A'.four, H b = none := fun b hb => by
      unfold Ad.four at hb
      simp only [List.mem_cons, List.not_mem_nil, or_false] at hb
      rcases hb with z | z | z | z
      · rw [z, h1]; exact fresh_back E2 hx
      · rw [z]; exact dn _ h4
      · rw [z]; exact dn _ h3
      · rw [z]; exact dn _ h5
    refine ⟨A', l, by rw [h1]; rfl, h6, fun H4 A4 kp4 ow4 la4 h4' => ?_⟩
    refine q _ H4 (fun b o hb => ?_) ⟨A4, rfl, la4.trans h2, h4', fun b hb => ?_⟩
    · refine kp4 b o (E3 _ _ (e2 _ _ hb)) fun z => ?_
      unfold Ad.four at z
      simp only [List.mem_cons, List.not_mem_nil, or_false] at z
      have hb2 := e2 _ _ hb
      have hb3 := up _ _ hb2
      rcases z with z | z | z | z
      · rw [z, h1, hx] at hb2; cases hb2
      · rw [z, h4] at hb3; cases hb3
      · rw [z, h3] at hb3; cases hb3
      · rw [z, h5] at hb3; cases hb3
    · rcases ow4 b hb with z | z
      · exact fresh_back E2 (fresh_back E3 z)
      · exact four b z
/-! ### mounting what a failure leaves -/
def MountP (K : PySem.W.Frag) (H : Hp) (la : Addr) (l : Lay) (sts : List (List (Option Map))) (v : V) (H2 : Hp) : Prop := ∃ (A' : Ad) (L' : Lg), v = .ref A'.lg ∧ A'.la = la ∧ LogAt K H2 A' l L' ∧ (∀ b ∈ A'.own, H b = none) ∧ LogOk l L' [stOf L'.seen L'.T] ∧ stOf L'.seen L'.T ∈ sts ∧ L'.wait = []
theorem evp_mount {E E' : XK} {tp tq : TE} {p q : Addr} {A : Ad} {l : Lay} {L : Lg} {sts : List (List (Option Map))} {kept torn : List Nat} (h : LogAt K H A l L) (ok : LogOk l L sts) (wt : ∀ x ∈ L.wait, x.1 < l.db)
    (ho : Ev ta σ H (.ref A.dv)) (hp : Ev tp σ H (.ref p)) (hq : Ev tq σ H (.ref q)) (hkp : H p = some (.lst (nL kept))) (hkq : H q = some (.lst (nL torn))) :
    EvP (tCall (sp_mount_log K) [] E (tCons (tMethN (He.ga K "Device") "left" 2 1 (sp_Device_left K) (fun us ws => us ++ ws) E' ta (tCons tp tNil) (tCons tq tNil)) tNil)) σ H (MountP K H A.la l sts) := fun H1 e Q qk =>
  ho H1 e _ fun H2 e2 => by
    obtain ⟨dx, hdv⟩ := h.dev.dv
    refine ⟨A.dv, dx, devF A, rfl, e2 _ _ (e _ _ hdv), rfl, hp H2 (e.trans e2) _ fun H3 e3 => hq H3 ((e.trans e2).trans e3) _ fun H4 e4 => ⟨rfl, rfl, ?_⟩⟩
    have E4 := ((e.trans e2).trans e3).trans e4
    refine ⟨A, l, L.sure, L.seen, L.wait, p, q, kept, torn, rfl, (h.mono E4).dev, wt, E4 _ _ hkp, E4 _ _ hkq, fun v H5 e5 hv => ?_⟩
    obtain ⟨A2, Dv, rfl, hd, hla, hleft, f1, f2, f3, f4⟩ := hv
    obtain ⟨c, n, T0, T', g0, hck, hot, hfo, hmem, hso⟩ := ok.fail hleft
    have four : ∀ b ∈ A2.four, H4 b = none := fun b hb => by
      unfold Ad.four at hb
      simp only [List.mem_cons, List.not_mem_nil, or_false] at hb
      rcases hb with z | z | z | z <;> rw [z] <;> assumption
    refine ⟨A2, l, Dv, L.reg, c, n, T0, T', rfl, hd, ⟨ok.seen.rg, g0, hck, hot, hfo⟩, fun m hm => ⟨hso m hm, fun H6 A6 kp6 ow6 la6 h6 => ?_⟩⟩
    have sm := (hso m hm).same
    refine qk _ H6 (fun b o hb => ?_) ⟨A6, _, rfl, la6.trans hla, h6, fun b hb => ?_, ?_, ?_, sm.wt⟩
    · have hb4 : H4 b = some o := e4 _ _ (e3 _ _ (e2 _ _ hb))
      refine kp6 b o (e5 _ _ hb4) fun z => ?_
      rw [four b z] at hb4
      cases hb4
    · rcases ow6 b hb with z | z
      · exact fresh_back (E4.trans e5) z
      · exact fresh_back E4 (four b z)
    · rw [sm.st]
      exact sm.ok
    · rw [sm.st]
      exact hmem
end
end Sg

set_option maxHeartbeats 4000000
namespace Sg
open PySem PySem.Spec PyProof.Rows L2 Evl
section
variable {P : Program} {w : World} {K : PySem.W.Frag} {mg : Str → Option Value} {base : Heap}
/-! ### law -/
/-- where the law stands behind a turn -/
def LI (K : PySem.W.Frag) (p : Addr) (ns : List Int) (l : Lay) (la : Addr) (full n : Nat) (σ' : L2.St) (H' : Hp) : Prop := ∃ (A : Ad) (L : Lg) (vst : V) (r0 : Addr) (sts : List (List (Option Map))) (x6 x7 x8 x9 x10 x11 x12 x13 x14 x15 x16 x17 : Option V),
  σ' = [some (.ref p), some (.ref la), some (nV full), some (.ref A.lg), some vst, some (.ref r0), x6, x7, x8, x9, x10, x11, x12, x13, x14, x15, x16, x17] ∧ A.la = la ∧ LogAt K H' A l L ∧ LogOk l L sts ∧ WtOk l L n ∧ sts.length ≤ n + 1 ∧ Side K H' A.own p ns vst (stOf L.seen L.T) r0 sts
theorem LI.ex {p : Addr} {ns : List Int} {l : Lay} {la : Addr} {full n : Nat} {σ' : L2.St} {H' H'' : Hp} (h : LI K p ns l la full n σ' H') (e : Ex H' H'') : LI K p ns l la full n σ' H'' := by
  obtain ⟨A, L, vst, r0, sts, x6, x7, x8, x9, x10, x11, x12, x13, x14, x15, x16, x17, h1, h2, h3, h4, h5, h7, h6⟩ := h
  exact ⟨A, L, vst, r0, sts, x6, x7, x8, x9, x10, x11, x12, x13, x14, x15, x16, x17, h1, h2, h3.mono e, h4, h5, h7, h6.keep (Ex.kps e)⟩
theorem rm_both {K : PySem.W.Frag} {H : Hp} {A : Ad} {l : Lay} {L : Lg} {n : Nat} {Q : VK} (h : ∀ L1, (L1 = L ∨ Same l L L1) → HasRoom l L1.T n → Gives K H A l L1 (.bl true) Q) : (HasRoom l L.T n → Gives K H A l L (.bl true) Q) ∧ ∀ L', Same l L L' → HasRoom l L'.T n → Gives K H A l L' (.bl true) Q := ⟨h L (.inl rfl), fun L' sm => h L' (.inr sm)⟩
def sp_law (K : PySem.W.Frag) : Sp := fun vs H Q _ => ∃ (p : Addr) (ns : List Int), vs = [.ref p] ∧ SqL K H p (ns.map V.int) ∧ ns.length ≤ 63 ∧ ∀ H', Q (.bl true) H'
abbrev nm_law : List Str := ["_law_script", "_law_layout_here", "_law_full", "_law_log", "_law_state", "_law_states", "_law_k", "_law_row_here", "_law_kind", "_law_action", "_law_drop", "_law_first", "_law_many", "_law_fates", "_law_ids_here", "_law_payloads_here", "_law_used_here", "_law_j"]
theorem sc_law : FnScope nm_law ["_law_script"] (defScope s_law) := ⟨rfl, rfl, rfl, by decide +kernel, rfl, by decide +kernel, by decide +kernel⟩
theorem fn_law {fd : FuncData} (F : FunD K d_law.name d_law.qual d_law.params d_law.body d_law.scope (He.DefD.dvs K d_law) (He.DefD.kws K d_law) (He.fAd K d_law.at_) fd) (T : Ctx K mg base) : FnOk P w K mg base CX0 9 (He.ga K "law") fd ["_law_script"] (sp_law K) := by
  obtain ⟨fd_append_commit, G_append_commit, b_append_commit, k_append_commit⟩ := ok_append_commit (P := P) (w := w) T
  obtain ⟨fd_law_after, G_law_after, b_law_after, k_law_after⟩ := ok_law_after (P := P) (w := w) T
  obtain ⟨fd_law_behind, G_law_behind, b_law_behind, k_law_behind⟩ := ok_law_behind (P := P) (w := w) T
  obtain ⟨fd_law_contents, G_law_contents, b_law_contents, k_law_contents⟩ := ok_law_contents (P := P) (w := w) T
  obtain ⟨fd_law_digits, G_law_digits, b_law_digits, k_law_digits⟩ := ok_law_digits (P := P) (w := w) T
  obtain ⟨fd_law_failure, G_law_failure, b_law_failure, k_law_failure⟩ := ok_law_failure (P := P) (w := w) T
  obtain ⟨fd_law_ids, G_law_ids, b_law_ids, k_law_ids⟩ := ok_law_ids (P := P) (w := w) T
  obtain ⟨fd_law_layout, G_law_layout, b_law_layout, k_law_layout⟩ := ok_law_layout (P := P) (w := w) T
  obtain ⟨fd_law_payloads, G_law_payloads, b_law_payloads, k_law_payloads⟩ := ok_law_payloads (P := P) (w := w) T
  obtain ⟨fd_law_points, G_law_points, b_law_points, k_law_points⟩ := ok_law_points (P := P) (w := w) T
  obtain ⟨fd_law_room_made, G_law_room_made, b_law_room_made, k_law_room_made⟩ := ok_law_room_made (P := P) (w := w) T
  obtain ⟨fd_law_row, G_law_row, b_law_row, k_law_row⟩ := ok_law_row (P := P) (w := w) T
  obtain ⟨fd_law_used, G_law_used, b_law_used, k_law_used⟩ := ok_law_used (P := P) (w := w) T
  obtain ⟨fd_mount_log, G_mount_log, b_mount_log, k_mount_log⟩ := ok_mount_log (P := P) (w := w) T
  obtain ⟨fd_new_log, G_new_log, b_new_log, k_new_log⟩ := ok_new_log (P := P) (w := w) T
  obtain ⟨fd_sync_log, G_sync_log, b_sync_log, k_sync_log⟩ := ok_sync_log (P := P) (w := w) T
  obtain ⟨fd_pending, G_Device_pending, b_Device_pending, k_Device_pending⟩ := ok_Device_pending (P := P) (w := w) T
  refine FunD.ok F sc_law (fun vs H Q E h => ?_) (fun cdv A outer s H vs Q E hr h => ?_)
  · obtain ⟨p, ns, rfl, _⟩ := h
    rfl
  · obtain ⟨p, ns, rfl, hp, hl, k⟩ := h
    obtain ⟨fd_Device, G_Device_init, _, ds, hds, b_Device_init⟩ := fn_Device_init (P := P) (w := w) T
    obtain ⟨fd_left, G_Device_left, kb_Device_left⟩ := fn_Device_left (P := P) (w := w) T
    refine ⟨_, PSs.nox (pss_cons (ps_set (i := 1) sc_law.nd rfl (Or.inr rfl) (pe_call G_law_layout (hr.mono (by decide)) rfl T.glo_law_layout k_law_layout b_law_layout .nil pass0 (pa_cons (pe_call G_law_row (hr.mono (by decide)) rfl T.glo_law_row k_law_row b_law_row .nil pass0 (pa_cons (pv 0) (pa_cons pe_int pa_nil))) pa_nil)))
      (pss_cons (ps_set (i := 2) sc_law.nd rfl (Or.inl rfl) (pe_ix ix_list (pe_call G_law_digits (hr.mono (by decide)) rfl T.glo_law_digits k_law_digits b_law_digits .nil pass0 (pa_cons (pe_op op_fdiv (pe_call G_law_row (hr.mono (by decide)) rfl T.glo_law_row k_law_row b_law_row .nil pass0 (pa_cons (pv 0) (pa_cons pe_int pa_nil))) pe_int) (pa_cons (pe_lst (pa_cons pe_int pa_nil)) pa_nil))) pe_int (fun _ _ => rfl)))
      (pss_cons (ps_set (i := 3) sc_law.nd rfl (Or.inl rfl) (pe_call G_new_log (hr.mono (by decide)) rfl T.glo_new_log k_new_log b_new_log .nil pass0 (pa_cons (pe_make T.mkr_Device G_Device_init (hr.mono (by decide)) rfl T.glo_Device b_Device_init hds pass0 (pa_cons (pv 1) pa_nil)) pa_nil)))
      (pss_cons (ps_set (i := 4) sc_law.nd rfl (Or.inl rfl) (pe_lst (pa_cons pe_dnewK (pa_cons pe_non (pa_cons pe_non (pa_cons pe_non pa_nil))))))
      (pss_cons (ps_set (i := 5) sc_law.nd rfl (Or.inl rfl) (pe_lst (pa_cons (pv 4) pa_nil)))
      (pss_cons (ps_for PassesOwn.never rfl (pi_range1 rfl T.free_range (pa_cons pe_int pa_nil)) (pg_name (i := 6) sc_law.nd rfl (Or.inl rfl)) (pss_cons (ps_set (i := 7) sc_law.nd rfl (Or.inl rfl) (pe_call G_law_row (hr.mono (by decide)) rfl T.glo_law_row k_law_row b_law_row .nil pass0 (pa_cons (pv 0) (pa_cons (pe_op op_add pe_int (pv 6)) pa_nil))))
      (pss_cons (ps_asg (pe_call G_law_digits (hr.mono (by decide)) rfl T.glo_law_digits k_law_digits b_law_digits .nil pass0 (pa_cons (pv 7) (pa_cons (pe_lst (pa_cons pe_int (pa_cons pe_int (pa_cons pe_int (pa_cons (pe_fld (pv 1) rfl) (pa_cons (pe_op op_add (pe_fld (pv 1) rfl) pe_int) pa_nil)))))) pa_nil))) (pg_unl rfl (pgs_cons (pg_name (i := 8) sc_law.nd rfl (Or.inl rfl)) (pgs_cons (pg_name (i := 9) sc_law.nd rfl (Or.inl rfl)) (pgs_cons (pg_name (i := 10) sc_law.nd rfl (Or.inl rfl)) (pgs_cons (pg_name (i := 11) sc_law.nd rfl (Or.inr rfl)) (pgs_cons (pg_name (i := 12) sc_law.nd rfl (Or.inl rfl)) pgs_nil)))))))
      (pss_cons (ps_if (pt_cmpR op_gt (pv 9) pe_int (nomark _)) (pss_one (ps_set (i := 9) sc_law.nd rfl (Or.inl rfl) pe_int)) pss_nil)
      (pss_cut (ps_if (pt_cmpR op_eq (pv 8) pe_int (nomark _)) (pss_cons (ps_expr (pe_call G_sync_log (hr.mono (by decide)) rfl T.glo_sync_log k_sync_log b_sync_log .nil pass0 (pa_cons (pv 3) pa_nil)))
      (pss_one (ps_set (i := 5) sc_law.nd rfl (Or.inl rfl) (pe_lst (pa_cons (pv 4) pa_nil))))) (pss_one (ps_if (pt_cmpR op_eq (pv 8) pe_int (nomark _)) (pss_cons (ps_set (i := 13) sc_law.nd rfl (Or.inl rfl) (pe_call G_law_failure (hr.mono (by decide)) rfl T.glo_law_failure k_law_failure b_law_failure .nil pass0 (pa_cons (pv 0) (pa_cons (pe_op op_add pe_int (pe_op op_mul pe_int (pv 6))) (pa_cons (pe_meth0 (pe_fld (pv 3) rfl) T.cls_Device T.m_Device_pending G_Device_pending (hr.mono (by decide)) b_Device_pending .nil pass0) pa_nil)))))
      (pss_cons (ps_set (i := 3) sc_law.nd rfl (Or.inl rfl) (pe_call G_mount_log (hr.mono (by decide)) rfl T.glo_mount_log k_mount_log b_mount_log .nil pass0 (pa_cons (pe_methN (pe_fld (pv 3) rfl) T.cls_Device T.m_Device_left G_Device_left (hr.mono (by decide)) kb_Device_left pass0 (pa_cons (pe_ix ix_list (pv 13) pe_int (fun _ _ => rfl)) pa_nil) (pk_cons (pe_ix ix_list (pv 13) pe_int (fun _ _ => rfl)) pk_nil)) pa_nil)))
      (pss_cons (ps_set (i := 4) sc_law.nd rfl (Or.inl rfl) (pe_call G_law_contents (hr.mono (by decide)) rfl T.glo_law_contents k_law_contents b_law_contents .nil pass0 (pa_cons (pv 3) pa_nil)))
      (pss_cons (ps_if (PW.pt (pw_or (pt_cmpR (op_stNot hr.units) (pv 4) (pv 5) (by rfl)) (pw_or1 (pt_not (pt_val (pe_call G_law_points (hr.mono (by decide)) rfl T.glo_law_points k_law_points b_law_points .nil pass0 (pa_cons (pv 1) (pa_cons (pv 3) pa_nil)))))))) (pss_one (ps_ret pe_bl)) pss_nil)
      (pss_one (ps_set (i := 5) sc_law.nd rfl (Or.inl rfl) (pe_lst (pa_cons (pv 4) pa_nil)))))))) (pss_cons (ps_set (i := 14) sc_law.nd rfl (Or.inr rfl) (pe_call G_law_ids (hr.mono (by decide)) rfl T.glo_law_ids k_law_ids b_law_ids .nil pass0 (pa_cons (pv 1) (pa_cons (pe_op op_fdiv (pv 7) pe_int) pa_nil))))
      (pss_cut (ps_if (PW.pt (pw_and (pt_cmpR op_eq (pv 2) pe_int (nomark _)) (pw_and1 (pt_cmpR op_gt (pv 8) pe_int (nomark _))))) (pss_cons (ps_set (i := 14) sc_law.nd rfl (Or.inr rfl) (pe_lc (own := [("_law_j", 17)]) rfl sc_law.nd (pi_range1 rfl T.free_range (pa_cons (pv 12) pa_nil)) (blkOk_by (own := [("_law_j", 17)]) (N := nm_law) (sc := defScope s_law) (by decide +kernel)) (fun _ _ _ _ _ => (pg_name (i := 17) sc_law.nd rfl (Or.inl rfl) (hf := .inr rfl))) (fun _ _ _ _ _ => pts_nil) (fun _ _ _ _ _ => (pe_op op_add pe_int (pe_op op_mod (pe_callTy call_int1 (by rfl) T.free_int (by decide +kernel) (pa_cons (pe_op op_add (pv 11) (pe_op op_mul pe_int (pv 17))) pa_nil)) (show PE _ _ (tFld K _ _) from pe_fld (pv 1) rfl))))))
      (pss_cons (ps_set (i := 14) sc_law.nd rfl (Or.inr rfl) (pe_lc (own := [("_law_j", 17)]) rfl sc_law.nd (pi_range1 rfl T.free_range (pa_cons (pe_callB call_len_seq (by rfl) T.free_len PySem.boot_len (pa_cons (pv 14) pa_nil)) pa_nil)) (blkOk_by (own := [("_law_j", 17)]) (N := nm_law) (sc := defScope s_law) (by decide +kernel)) (fun _ _ _ _ _ => (pg_name (i := 17) sc_law.nd rfl (Or.inl rfl) (hf := .inr rfl))) (fun _ _ _ _ _ => (pts_one (pt_cmpR (r := rIn K true) op_notIn_seq (pe_ix (r := rIxL K) ix_list (pv 14) (pv 17) (fun _ _ => rfl)) (show PE _ _ (tSl (rSlL K) _ _ _) from pe_slice sl_list (pv 14) po_none (po_some (pv 17))) (by rfl)))) (fun _ _ _ _ _ => (pe_ix (r := rIxL K) ix_list (pv 14) (pv 17) (fun _ _ => rfl)))))
      (pss_one (ps_set (i := 10) sc_law.nd rfl (Or.inl rfl) pe_int)))) pss_nil)
      (pss_cons (ps_set (i := 15) sc_law.nd rfl (Or.inl rfl) (pe_call G_law_payloads (hr.mono (by decide)) rfl T.glo_law_payloads k_law_payloads b_law_payloads .nil pass0 (pa_cons (pv 1) (pa_cons (pe_call G_law_row (hr.mono (by decide)) rfl T.glo_law_row k_law_row b_law_row .nil pass0 (pa_cons (pv 0) (pa_cons (pe_op op_add pe_int (pv 6)) pa_nil))) (pa_cons (pe_callB call_len_seq (by rfl) T.free_len PySem.boot_len (pa_cons (pv 14) pa_nil)) pa_nil)))))
      (pss_cons (ps_set (i := 16) sc_law.nd rfl (Or.inl rfl) (pe_call G_law_used (hr.mono (by decide)) rfl T.glo_law_used k_law_used b_law_used .nil pass0 (pa_cons (pv 1) (pa_cons (pe_ix ix_list (pv 4) pe_int (fun _ _ => rfl)) (pa_cons (pv 14) (pa_cons (pv 10) pa_nil))))))
      (pss_one (ps_if (pt_cmpR op_le (pe_call G_law_behind (hr.mono (by decide)) rfl T.glo_law_behind k_law_behind b_law_behind .nil pass0 (pa_cons (pv 3) (pa_cons (pv 14) (pa_cons (pv 16) (pa_cons (pv 9) pa_nil))))) (pe_fld (pv 1) rfl) (nomark _)) (pss_cons (ps_if (pt_not (pt_val (pe_call G_law_room_made (hr.mono (by decide)) rfl T.glo_law_room_made k_law_room_made b_law_room_made .nil pass0 (pa_cons (pv 1) (pa_cons (pv 3) (pa_cons (pe_callB call_len_seq (by rfl) T.free_len PySem.boot_len (pa_cons (pv 14) pa_nil)) (pa_cons (pe_call G_law_row (hr.mono (by decide)) rfl T.glo_law_row k_law_row b_law_row .nil pass0 (pa_cons (pv 0) (pa_cons (pe_op op_add pe_int (pv 6)) pa_nil))) pa_nil))))))) (pss_one (ps_ret pe_bl)) pss_nil)
      (pss_cons (ps_if (pt_cmpR op_notBl (pe_call G_append_commit (hr.mono (by decide)) rfl T.glo_append_commit k_append_commit b_append_commit .nil pass0 (pa_cons (pv 3) (pa_cons (pv 14) (pa_cons (pv 15) (pa_cons (pv 16) (pa_cons (pv 9) pa_nil)))))) pe_bl (nomark _)) (pss_one (ps_ret pe_bl)) pss_nil)
      (pss_cons (ps_set (i := 4) sc_law.nd rfl (Or.inl rfl) (pe_call G_law_after (hr.mono (by decide)) rfl T.glo_law_after k_law_after b_law_after .nil pass0 (pa_cons (pv 4) (pa_cons (pv 14) (pa_cons (pv 15) (pa_cons (pv 16) (pa_cons (pv 9) pa_nil)))))))
      (pss_one (ps_expr (pe_bm PySem.F.plainAttrs_list PySem.F.slot_list_append PySem.F.type_list_append mt_append (pv 5) (pa_cons (pv 4) pa_nil))))))) pss_nil)))))))))
      (pss_one (ps_if (pt_cmpR (op_stNe hr.units) (pe_call G_law_contents (hr.mono (by decide)) rfl T.glo_law_contents k_law_contents b_law_contents .nil pass0 (pa_cons (pv 3) pa_nil)) (pv 4) (nomark _)) (pss_one (ps_ret pe_bl)) pss_nil)))))))
      (pss_one (ps_ret (pe_call G_law_points (hr.mono (by decide)) rfl T.glo_law_points k_law_points b_law_points .nil pass0 (pa_cons (pv 1) (pa_cons (pv 3) pa_nil))))))))))), ?_⟩
    refine q_asgP (P := fun v H2 => ∃ (a : Addr) (l : Lay), v = .ref a ∧ LayAt K H2 a l) (evp_callP (ep_n1 (en_row (n := 0) (ev_var rfl) (ev_nC 0) hp hl (by omega))) fun us H1 e1 ⟨n, hu, _⟩ Q E q => ⟨n, by rw [hu]; rfl, q⟩) fun v H1 e1 hv => ?_
    obtain ⟨la, l, rfl, hla⟩ := hv
    refine q_asgN (P := (· < 2)) (en_dig1 (evp_digits (P := fun _ => True) (ds := [2]) (en_div (j := 99999) (en_row (n := 0) (ev_var rfl) (ev_nC 0) (ex_l e1 hp) hl (by omega)) (ev_nC 99999) (by decide) (by decide)) (fun H2 e2 => el_lst (ea_cons ev_c ea_nil) (Nat.le_of_ble_eq_true rfl)) (by decide) (by decide))) fun full H2 e2 _ => ?_
    refine q_asgP (evp_newlog (hla.mono e2) (ev_var rfl)) fun v H3 e3 hv => ?_
    obtain ⟨A, rfl, hAla, h3, hAo⟩ := hv
    have E3 := e1.trans (e2.trans e3)
    have fr : ∀ b o, H b = some o → b ∉ A.own := fun b o hb z => by
      have := hAo b z
      rw [e2 _ _ (e1 _ _ hb)] at this
      cases this
    refine q_asgP (evp_st0 (S := A.own) h3.wtL) fun vst H4 e4 hst => ?_
    refine q_asgL (el_lst (ea_cons (ev_var rfl) ea_nil) (Nat.le_of_ble_eq_true rfl)) fun r0 H5 hr0 e5 h5 => ?_
    have sm := (new_seen hla.1).same
    have hst0 : stOf (ckL l (newLg l)).seen (ckL l (newLg l)).T = [some fun _ => none, none, none, none] := sm.st.trans (new_st l)
    refine q_forR1 (n := 44) (ea_cons ev_c ea_nil) (by omega) (fun j σ' H' => LI K p ns l la full (40 * j) σ' H') (fun H6 e6 => ?_) ?_ ?_
    · refine ⟨A, _, vst, r0, _, none, none, none, none, none, none, none, none, none, none, none, none, rfl, hAla, h3.mono (e4.trans (e5.trans e6)), sm.ok, sm.wtOk _, Nat.le_refl _, ?_⟩
      rw [hst0, new_st]
      exact Side.new (e5.trans e6) (ScrAt.of hp (E3.trans e4) fr) hst (fun b o _ n => n) hr0 (h3.new (fresh_back e4 hr0)) (e6 _ _ h5)
    · rintro j σ' H' hj ⟨A, L, vst, r0, sts, x6, x7, x8, x9, x10, x11, x12, x13, x14, x15, x16, x17, rfl, hAl, h, ok, wt, sl, sd⟩
      have hLay : LayAt K H' la l := hAl ▸ h.dev.la
      have lo := hLay.1
      have hl1 := lo.last1
      have hp1 := lo.pay1
      have hlim := lo.lim1
      refine q_asgN (P := fun _ => True) (en_row (n := 1 + j) (ev_var rfl) (ev_addN (ev_nC 1) (ev_var rfl)) sd.scr.sq hl (by omega)) fun row H1 e1 _ => ?_
      refine q_asgPG (evp_digits (P := fun _ => True) (ds := [9, 12, 50, l.last, l.pay + 1]) (en_of (ev_var rfl) trivial) (fun H2 e2 => el_lst (ea_cons ev_c (ea_cons ev_c (ea_cons ev_c (ea_cons (yv_last_id T ((hLay.mono e1).mono e2) (ev_var rfl)) (ea_cons (ev_addN (yv_payload T ((hLay.mono e1).mono e2) (ev_var rfl)) (ev_nC 1)) ea_nil))))) (Nat.le_of_ble_eq_true rfl)) (by simp) (by intro d hd; simp at hd; omega)) fun v H2 e2 hv => ?_
      obtain ⟨q, rs, rfl, hq, dg⟩ := hv
      obtain ⟨kind, act0, drop, first, many, rfl, d1, d2, d3, d4, d5⟩ := dig5 dg
      refine g_un5 hq ?_
      refine q_whenN (i := 9) (n := act0) (P := (· ≤ 6)) rfl (fun hb => by have := of_decide_eq_false hb; omega) (et_cmp (ev_var rfl) ev_c rv_I0) (fun _ => en_of (n := 0) (ev_nC 0) (by omega)) fun act H3 e3 hact => ?_
      have E3 := e1.trans (e2.trans e3)
      have so := ok.seen
      refine q_cut (M := LI K p ns l la full (40 * (j + 1))) ?_ ?_
      · refine s_if (et_cmp (ev_var rfl) ev_c (rv_eq rfl)) (fun _ H4 e4 => ?_) (fun _ H4 e4 => s_if (et_cmp (ev_var rfl) ev_c (rv_eq rfl)) (fun _ H5 e5 => ?_) (fun _ H5 e5 => ?_))
        · have E4 := E3.trans e4
          have h4 := h.mono E4
          have sd4 := sd.keep (Ex.kps E4)
          refine q_call (ea_cons (ev_var rfl) ea_nil) fun H5 e5 => ⟨A, l, L, rfl, h4.mono e5, wt.1, so.sw, fun H6 w6 p6 s6 q6 ev6 h6 => ?_⟩
          have sd6 := (sd4.keep (Ex.kps e5)).keep ev6.kps
          refine s_asgL (el_lst (ea_cons (ev_var rfl) ea_nil) (Nat.le_of_ble_eq_true rfl)) fun r1 H7 hr1 e7 h7 => ?_
          refine ⟨A.at_ w6 p6 s6 q6, syncL L, vst, r1, _, _, _, _, _, _, _, _, _, _, _, _, _, rfl, hAl, h6.mono e7, ok.sync, ⟨fun x hx => (nomatch hx), Nat.zero_le _⟩, Nat.le_add_left _ _, ?_⟩
          exact Side.new e7 sd6.scr sd6.st (fun b o _ n z => n (List.mem_cons_of_mem _ z)) hr1 (h6.new hr1) h7
        · have E5 := E3.trans (e4.trans e5)
          have h5 := h.mono E5
          have sd5 := sd.keep (Ex.kps E5)
          obtain ⟨dx, hdv⟩ := h5.dev.dv
          refine q_asgP (P := fun v H2 => ∃ (q a b : Addr) (kept torn : List Nat), v = .ref q ∧ H2 q = some (.lst [.ref a, .ref b]) ∧ H2 a = some (.lst (nL kept)) ∧ H2 b = some (.lst (nL torn))) (evp_call (vs := [.ref p, nV (200 + 10 * j), nV L.wait.length]) (ea_cons (ev_var rfl) (ea_cons (ev_addN (ev_nC 200) (ev_mulN (ev_nC 10) (ev_var rfl) (.inl (by decide)))) (ea_cons (ev_methV (lv_device T h5 (ev_var rfl)) hdv (by rfl) ea_nil fun H1 e1 Q E q => ⟨A, l, L.sure, L.seen, L.wait, rfl, (h5.mono e1).dev, q⟩) ea_nil)))
            fun H6 e6 Q E q => ⟨p, ns, 200 + 10 * j, L.wait.length, rfl, ex_l e6 sd5.scr.sq, hl, by omega, by have := wt.2; omega, q⟩) fun v H6 e6 hv => ?_
          obtain ⟨fq, fa, fb, kept, torn, rfl, f1, f2, f3⟩ := hv
          have h6 := h5.mono e6
          have sd6 := sd5.keep (Ex.kps e6)
          refine q_asgP (evp_mount h6 ok wt.1 (lv_device T h6 (ev_var rfl)) (ev_op (ev_var rfl) ev_c (rv_ixL (sq_of f1) (atI_of (k := 0) rfl))) (ev_op (ev_var rfl) ev_c (rv_ixL (sq_of f1) (atI_of (k := 1) rfl))) f2 f3) fun v H7 e7 hv => ?_
          obtain ⟨A', L', rfl, hAl', h7, hAo', ok', hm', hw'⟩ := hv
          have k7 : Kp H6 A.own H7 A'.own := ⟨fun b o hb _ => e7 b o hb, (fun b o hb _ z => by rw [hAo' b z] at hb; cases hb), Ex.tx e7⟩
          have sd7 := sd6.keep k7
          refine q_asgP (evp_contents (S := r0 :: A'.own) h7 ok'.seen (fun b hb => ?_) (ea_cons (ev_var rfl) ea_nil)) fun v H8 e8 hst => ?_
          · rcases List.mem_cons.mp hb with z | z
            · obtain ⟨vs, h1, _⟩ := sd7.sts
              exact ⟨_, z ▸ h1⟩
            · exact h7.wtL b z
          have h8 := h7.mono e8
          have sd8 := sd7.keep (Ex.kps e8)
          refine q_when (b := false) (et_is (et_or (a := false) (et_stNot (ev_var rfl) (ev_var rfl) hst sd8.all hm') fun _ => et_not (et_val (ev_callV (v := .bl true) (ea_cons (ev_var rfl) (ea_cons (ev_var rfl) ea_nil)) fun H1 e1 Q E q => ⟨la, A', l, L', rfl, (hAl'.trans hAl) ▸ (h8.mono e1).dev.la, h8.mono e1, ok'.seen.g, q⟩))) rfl) (fun z => by cases z) fun _ H9 e9 => ?_
          refine s_asgL (el_lst (ea_cons (ev_var rfl) ea_nil) (Nat.le_of_ble_eq_true rfl)) fun r1 H10 hr1 e10 h10 => ?_
          refine ⟨A', L', _, r1, _, _, _, _, _, _, _, _, _, _, _, _, _, rfl, hAl'.trans hAl, h8.mono (e9.trans e10), ok', ⟨(fun x hx => by rw [hw'] at hx; cases hx), (by rw [hw']; exact Nat.zero_le _)⟩, Nat.le_add_left _ _, ?_⟩
          exact Side.new e10 (sd8.keep (Ex.kps e9)).scr (hst.keep (Ex.kps e9)) (fun b o _ n z => n (List.mem_cons_of_mem _ z)) hr1 ((h8.mono e9).new hr1) h10
        · have E5 := E3.trans (e4.trans e5)
          have h5 := h.mono E5
          have sd5 := sd.keep (Ex.kps E5)
          have hLay5 := hLay.mono E5
          refine q_asgP (P := fun v H2 => ∃ (q : Addr) (ids : List Nat), v = .ref q ∧ H5 q = none ∧ H2 q = some (.lst (nL ids)) ∧ IdsOk l ids) (evp_call (ea_cons (ev_var rfl) (ea_cons (ev_divN (ev_var rfl) (ev_nC 99999) (by decide) (by decide)) ea_nil)) fun H6 e6 Q E q => ⟨la, l, row / 99999, rfl, hLay5.mono e6, fun v H7 e7 ⟨a, ids, q1, q2, q3, q4⟩ => q v H7 e7 ⟨a, ids, q1, fresh_back e6 q2, q3, q4⟩⟩) fun v H6 e6 hv => ?_
          obtain ⟨i0, ids0, rfl, hi0, hi6, io0⟩ := hv
          refine q_cut (M := fun σ'' H'' => ∃ i ids dr, σ'' = [some (.ref p), some (.ref la), some (nV full), some (.ref A.lg), some vst, some (.ref r0), some (nV j), some (nV row), some (nV kind), some (nV act), some (nV dr), some (nV first), some (nV many), x13, some (.ref i), x15, x16, x17] ∧ Ex H5 H'' ∧ H5 i = none ∧ H'' i = some (.lst (nL ids)) ∧ IdsOk l ids) ?_ ?_
          · refine s_when (et_and (et_cmp (ev_var rfl) ev_c (rv_eq rfl)) fun _ => et_cmp (ev_var rfl) ev_c rv_I0) (fun _ H7 e7 => ?_) (fun _ H7 e7 => ⟨i0, ids0, drop, rfl, e6.trans e7, hi0, e7 _ _ hi6, io0⟩)
            have hLay7 := hLay5.mono (e6.trans e7)
            refine q_asgL (xs := given (many : Int).toNat (fun _ => true) fun i => nV (1 + (first + 3 * i) % l.lim)) (el_lcR1 (j := 17) (vs := [17]) (n := (many : Int)) (fun _ => true) (fun i => nV (1 + (first + 3 * i) % l.lim)) (ea_cons (ev_var rfl) ea_nil) (by omega) (fun _ => rfl) (fun i H8 e8 _ => et_yes)
              (fun i H8 e8 _ _ => ev_addN (ev_nC 1) (ev_modN (ev_int (ev_addN (ev_var rfl) (ev_mulN (ev_nC 3) (ev_var rfl) (.inl (by decide))))) (yv_limit T (hLay7.mono e8) (ev_var rfl)) (by omega)))) fun i1 H8 hi1 e8 h8 => ?_
            have hx : (given (many : Int).toNat (fun _ => true) fun i => nV (1 + (first + 3 * i) % l.lim)) = nL ((List.range many).map fun i => 1 + (first + 3 * i) % l.lim) := by
              rw [given_all, Int.toNat_natCast, nL, List.map_map]
              rfl
            rw [hx] at h8
            have hxl : ((List.range many).map fun i => 1 + (first + 3 * i) % l.lim).length = many := by rw [List.length_map, List.length_range]
            have hxr : ∀ k ∈ (List.range many).map fun i => 1 + (first + 3 * i) % l.lim, 1 ≤ k ∧ k ≤ l.last := fun k hk => by
              obtain ⟨i, _, rfl⟩ := List.mem_map.mp hk
              have := Nat.mod_lt (first + 3 * i) (show 0 < l.lim by omega)
              have e : l.last = l.lim + l.pay := rfl
              omega
            generalize ((List.range many).map fun i => 1 + (first + 3 * i) % l.lim) = xs at h8 hxl hxr
            refine q_asgL (xs := nL (once xs)) ?_ fun i2 H9 hi2 e9 h9 => ?_
            · have hon : given ((nL xs).length : Int).toNat (fun s => !decide (xs.getD s 0 ∈ xs.take s)) (fun s => nV (xs.getD s 0)) = nL (once xs) := by
                unfold given once
                rw [Int.toNat_natCast, nL_len, nL, List.map_map]
                rfl
              rw [← hon]
              have ixv : ∀ (i : Nat), i < xs.length → ∀ {H9}, Ex H8 H9 → ∀ {σ : L2.St}, σ[14]? = some (some (.ref i1)) → σ[17]? = some (some (.int (i : Int))) → Ev (tOp (rIxL K) (tVar 14) (tVar 17)) σ H9 (nV (xs.getD i 0)) := fun i hi {H9} e9 {σ} q1 q2 => ev_op (ev_var q1) (ev_var q2) (rv_ixL (sq_of (e9 _ _ h8)) (atI_of (by rw [List.getElem?_map, List.getD_eq_getElem?_getD, List.getElem?_eq_getElem hi]; rfl)))
              refine el_lcR1 (j := 17) (vs := [17]) (n := ((nL xs).length : Int)) (fun s => !decide (xs.getD s 0 ∈ xs.take s)) (fun s => nV (xs.getD s 0)) (ea_cons (ev_len (ev_var rfl) (sq_of h8)) ea_nil) (by rw [nL_len]; omega) (fun _ => rfl) (fun i H9 e9 hi => ?_) (fun i H9 e9 hi _ => ?_)
              · rw [nL_len] at hi
                refine et_is (et_test (ev_opL (ixv i (by omega) e9 rfl rfl) (el_sl (ev_var rfl) eo_none (eo_some (ev_var rfl)) (sq_of (e9 _ _ h8))) fun p H10 hp e10 => rv_niL (sq_of hp) rfl (by rw [cut_hi]; exact List.all_eq_true.mpr fun x hx => List.all_eq_true.mp (flat_nL _) x (List.mem_of_mem_take hx)))) ?_
                rw [cut_hi, show (nL xs).take i = nL (xs.take i) from (List.map_take).symm, in_nL]
              · rw [nL_len] at hi
                exact ixv i (by omega) e9 rfl rfl
            · refine s_asg (ev_nC 5) fun H10 e10 => ⟨i2, once xs, 5, rfl, e6.trans (e7.trans (e8.trans (e9.trans e10))), fresh_back (e6.trans (e7.trans e8)) hi2, e10 _ _ h9, once_ok hxr (by omega)⟩
          · rintro σ'' H7 ⟨i, ids, dr, rfl, e7, hi5, hi, io⟩
            have hLay7 := hLay5.mono e7
            have h7 := h5.mono e7
            have sd7 := sd5.keep (Ex.kps e7)
            refine q_asgP (P := fun v H2 => ∃ (q : Addr) (us : List V) (pays : List PayD), v = .ref q ∧ H7 q = none ∧ H2 q = some (.lst us) ∧ Rl (PayAt H2) us pays ∧ pays.length = ids.length) (evp_callP (ep_vnw (w2 := nV ids.length) (ev_var rfl) (en_row (n := 100 + j) (ev_var rfl) (ev_addN (ev_nC 100) (ev_var rfl)) sd7.scr.sq hl (by omega)) (ev_is (ev_len (ev_var rfl) (sq_of hi)) (by rw [nL_len])))
              fun us H8 e8 ⟨n, hu, _⟩ Q E q => ⟨la, l, n, ids.length, by rw [hu]; rfl, hLay7.mono e8, by have := io.le; omega, fun v H9 e9 ⟨a, us, pays, q1, q2, q3, q4, q5⟩ => q v H9 e9 ⟨a, us, pays, q1, fresh_back e8 q2, q3, q4, q5⟩⟩) fun v H8 e8 hv => ?_
            obtain ⟨pp, us, pays, rfl, hpp7, hpp, hpr, hpl⟩ := hv
            have sd8 := sd7.keep (Ex.kps e8)
            obtain ⟨l4, sa, svs, hvst, hsa, hsn, srl⟩ := sd8.st
            subst hvst
            obtain ⟨v0, hv0, d0, m0, rfl, hd0, hdn, hmp⟩ := srl.get (i := 0) (x := some (cont L.seen L.T.pres)) rfl
            refine q_asgP (P := fun v H2 => ∃ (q : Addr) (used : List Nat), v = .ref q ∧ H8 q = none ∧ H2 q = some (.lst (nL used)) ∧ used.Pairwise (· < ·) ∧ ∀ k ∈ used, 1 ≤ k ∧ k ≤ l.last) (evp_call (ea_cons (ev_var rfl) (ea_cons (ev_op (ev_var rfl) ev_c (rv_ixL (sq_of hsa) (atI_of (k := 0) hv0))) (ea_cons (ev_var rfl) (ea_cons (ev_var rfl) ea_nil))))
              fun H9 e9 Q E q => ⟨la, d0, i, l, m0, ids, dr, rfl, (hLay7.mono e8).mono e9, e9 _ _ hd0, e9 _ _ (e8 _ _ hi), fun v H10 e10 ⟨a, used, q1, q2, q3, q4, q5⟩ => q v H10 e10 ⟨a, used, q1, fresh_back e9 q2, q3, q4, q5⟩⟩) fun v H9 e9 hv => ?_
            obtain ⟨u, used, rfl, hu8, hu, hpw, hur⟩ := hv
            have hul : used.length ≤ 1000 := by
              have := nodup_len used (List.range (l.last + 1)) (hpw.imp fun h => Nat.ne_of_lt h) fun k hk => by
                rw [List.mem_range]
                have := hur k hk
                omega
              rw [List.length_range] at this
              omega
            have bo : BatOk l ⟨ids, used, act, pays⟩ := ⟨io.nd, io.ir, hur, hpl, io.le, hact⟩
            have h9 := (h7.mono e8).mono e9
            have sd9 := sd8.keep (Ex.kps e9)
            have hLay9 := (hLay7.mono e8).mono e9
            have hi9 : H9 i = some (.lst (nL ids)) := e9 _ _ (e8 _ _ hi)
            have hpp9 : H9 pp = some (.lst us) := e9 _ _ hpp
            have hpr9 : Rl (PayAt H9) us pays := hpr.mono fun _ _ z => z.mono (Ex.tx e9)
            have hino : i ∉ A.own := h5.new hi5
            have hppno : pp ∉ A.own := h7.new hpp7
            have huno : u ∉ A.own := (h7.mono e8).new hu8
            refine s_whenLe (P := fun n => ∃ F : List Nat, n = (used.filter (fun k => decide (k ∈ ids))).length + F.length ∧ ∀ a, keeps L.T ⟨ids, used, act, pays⟩ a → a ∈ F) (m := l.lim) (evp_call (ea_cons (ev_var rfl) (ea_cons (ev_var rfl) (ea_cons (ev_var rfl) (ea_cons (ev_var rfl) ea_nil))))
              fun H10 e10 Q E q => ⟨A, l, L, i, u, ⟨ids, used, act, pays⟩, rfl, h9.mono e10, so.g, e10 _ _ hi9, e10 _ _ hu, hur, hul, fun v H11 e11 ⟨F, q1, q2⟩ => q v H11 e11 ⟨_, q1, F, rfl, q2⟩⟩) (fun H10 e10 => yv_limit T (hLay9.mono e10) (ev_var rfl)) (fun n H10 e10 hP hle => ?_) (fun H10 e10 => ?_)
            · obtain ⟨F, hn, hF⟩ := hP
              have h10 := h9.mono e10
              have sd10 := sd9.keep (Ex.kps e10)
              refine q_ifNotCP (ep_vvwn (w3 := nV ids.length) (ev_var rfl) (ev_var rfl) (ev_is (ev_len (ev_var rfl) (sq_of (e10 _ _ hi9))) (by rw [nL_len])) (en_row (n := 150 + j) (ev_var rfl) (ev_addN (ev_nC 150) (ev_var rfl)) sd10.scr.sq hl (by omega))) fun us' H11 e11 hus => ?_
              obtain ⟨r, rfl, _⟩ := hus
              refine ⟨A, l, L, ids.length, r, by rw [hAl]; rfl, h10.mono e11, so, ⟨wt.1, by have := wt.2; omega⟩, rm_both fun L1 hc hr H12 w6 p6 s6 q6 ev hx => ⟨true, rfl, ?_⟩⟩
              refine iteF ?_
              have f1 : LogOk l L1 sts ∧ stOf L1.seen L1.T = stOf L.seen L.T ∧ WtOk l L1 (40 * j) ∧ Mapd L.T L1.T := by
                rcases hc with rfl | sm
                · exact ⟨ok, rfl, wt, Mapd.refl _⟩
                · exact ⟨sm.ok.mono fun x hx => by rw [List.mem_singleton.mp hx]; exact ok.here, sm.st, sm.wtOk _, sm.mp⟩
              obtain ⟨ok1, st1, wt1, mp1⟩ := f1
              obtain ⟨F1, hF1l, hF1⟩ := mp1.keeps hF
              have gd1 := ok1.seen.g
              have can := hr.can io.le
              have e911 := e10.trans e11
              obtain ⟨ok2, st2⟩ := ok1.com bo hr F1 hF1 (by rw [hF1l]; show (used.filter (fun k => decide (k ∈ ids))).length + F.length ≤ l.lim; omega)
              have wt2 : WtOk l (comL l L1 ⟨ids, used, act, pays⟩) (40 * (j + 1)) := by
                refine ⟨fun x hx => ?_, ?_⟩
                · rcases List.mem_append.mp hx with z | z
                  · exact wt1.1 x z
                  · exact (comW_fr lo gd1 can bo z).1.2.1
                · have a1 := wt1.2
                  have a2 : (comL l L1 ⟨ids, used, act, pays⟩).wait.length = L1.wait.length + (1 + pays.length) := by
                    show (L1.wait ++ comW l L1.T (L1.lseq + 1) ⟨ids, used, act, pays⟩).length = _
                    rw [List.length_append]
                    unfold comW
                    rw [List.length_cons, payW_len]
                    show L1.wait.length + (pays.length + 1) = _
                    omega
                  have := io.le
                  omega
              have kx := ev.kps
              have sd12 := (sd10.keep (Ex.kps e11)).keep kx
              have hi12 := ev.kp _ _ (e911 _ _ hi9) hino
              have hu12 := ev.kp _ _ (e911 _ _ hu) huno
              have hp12 := ev.kp _ _ (e911 _ _ hpp9) hppno
              have hi12n := ev.ni _ _ (e911 _ _ hi9) hino
              have hu12n := ev.ni _ _ (e911 _ _ hu) huno
              have hp12n := ev.ni _ _ (e911 _ _ hpp9) hppno
              have hpr12 : Rl (PayAt H12) us pays := hpr9.mono fun _ _ z => (z.mono (Ex.tx e911)).mono ev.tx
              refine q_ifNotT (vs := [.ref A.lg, .ref i, .ref pp, .ref u, nV act]) (ea_cons (ev_var rfl) (ea_cons (ev_var rfl) (ea_cons (ev_var rfl) (ea_cons (ev_var rfl) (ea_cons (ev_var rfl) ea_nil))))) fun H13 e13 Q hQ => ⟨A.at_ w6 p6 s6 q6, l, L1, i, pp, u, us, ⟨ids, used, act, pays⟩, rfl, hx.mono e13, gd1.wf, gd1.qs, e13 _ _ hi12, e13 _ _ hu12, e13 _ _ hp12, hpr12.mono fun _ _ z => z.mono (Ex.tx e13), hpl, io.le, can.2, hi12n, hu12n, hp12n, by have := wt1.2; omega, fun H14 w7 p7 s7 q7 ev7 h14 => hQ H14 ?_⟩
              have h14 : LogAt K H14 (A.at_ w7 p7 s7 q7) l (comL l L1 ⟨ids, used, act, pays⟩) := h14
              have ev7 : Evo H13 (A.at_ w6 p6 s6 q6) H14 (A.at_ w7 p7 s7 q7) := ev7
              have sd14 := (sd12.keep (Ex.kps e13)).keep ev7.kps
              have hi14 := ev7.kp _ _ (e13 _ _ hi12) hi12n
              have hu14 := ev7.kp _ _ (e13 _ _ hu12) hu12n
              have hp14 := ev7.kp _ _ (e13 _ _ hp12) hp12n
              have hpr14 : Rl (PayAt H14) us pays := hpr12.mono fun _ _ z => (z.mono (Ex.tx e13)).mono ev7.tx
              have hall : ∀ b ∈ r0 :: (A.at_ w7 p7 s7 q7).own, ∃ o, H14 b = some o := fun b hb => by
                rcases List.mem_cons.mp hb with z | z
                · obtain ⟨vs, h1, _⟩ := sd14.sts
                  exact ⟨_, z ▸ h1⟩
                · exact h14.wtL b z
              refine q_asgP (P := fun v H2 => StAt H2 (r0 :: (A.at_ w7 p7 s7 q7).own) v (stAfter (stOf L.seen L.T) ⟨ids, used, act, pays⟩)) (evp_call (vs := [.ref sa, .ref i, .ref pp, .ref u, nV act]) (ea_cons (ev_var rfl) (ea_cons (ev_var rfl) (ea_cons (ev_var rfl) (ea_cons (ev_var rfl) (ea_cons (ev_var rfl) ea_nil)))))
                fun H15 e15 Q E q => ⟨r0 :: (A.at_ w7 p7 s7 q7).own, .ref sa, i, pp, u, us, ⟨ids, used, act, pays⟩, cont L.seen L.T.pres, L.T.slots.map (Option.map (cont L.seen)), rfl, sd14.st.keep (Ex.kps e15), fun b hb => let ⟨o, ho⟩ := hall b hb; ⟨o, e15 _ _ ho⟩, e15 _ _ hi14, e15 _ _ hu14, e15 _ _ hp14, hpr14.mono fun _ _ z => z.mono (Ex.tx e15), hpl, hpw, hul, hact, q⟩) fun v H15 e15 hv => ?_
              have sd15 := sd14.keep (Ex.kps e15)
              obtain ⟨vs, hr0, hvs⟩ := sd15.sts
              have hvl := hvs.1
              have hin := ok.here
              cases vs with
              | nil =>
                have : sts.length = 0 := hvl.symm
                rw [List.length_eq_zero_iff.mp this] at hin
                cases hin
              | cons v1 vs =>
                obtain ⟨st0, hst0, hs0⟩ := hvs.get' (i := 0) (v := v1) rfl
                obtain ⟨l40, x, ys, rfl, hx0, _, hrl0⟩ := hs0
                refine s_app hr0 (ev_var rfl) (ev_var rfl) (by rw [hvl]; omega) fun H16 e16 => ?_
                have put := ((h14.mono e15).mono e16).putL (ws := .ref x :: vs ++ [v]) ok2.seen.g (e16 _ _ hr0) (e16 _ _ hx0) (hrl0.1.trans l40) sd14.rw
                have sd16 := (sd15.keep (Ex.kps e16)).app (e16 _ _ hr0) (hv.keep (Ex.kps e16))
                rw [st1] at ok2 st2
                rw [← st2] at sd16 ok2
                exact ⟨A.at_ w7 p7 s7 q7, comL l L1 ⟨ids, used, act, pays⟩, v, r0, _, _, _, _, _, _, _, _, _, _, _, _, _, rfl, hAl, put, ok2, wt2, by rw [List.length_append, List.length_singleton]; omega, sd16⟩
            · exact ⟨A, L, _, r0, sts, _, _, _, _, _, _, _, _, _, _, _, _, rfl, hAl, h9.mono e10, ok, ⟨wt.1, by have := wt.2; omega⟩, by omega, sd9.keep (Ex.kps e10)⟩
      · rintro σ' H4 ⟨A, L, vst, r0, sts, x6, x7, x8, x9, x10, x11, x12, x13, x14, x15, x16, x17, rfl, hAl, h, ok, wt, sl, sd⟩
        refine s_when (b := false) (et_stNe (evp_contents (S := []) h ok.seen (fun b hb => (nomatch hb)) (ea_cons (ev_var rfl) ea_nil)) (fun _ _ => ev_var rfl) sd.st) (fun z => by cases z) fun _ H5 e5 => ?_
        exact LI.ex ⟨A, L, vst, r0, sts, x6, x7, x8, x9, x10, x11, x12, x13, x14, x15, x16, x17, rfl, hAl, h, ok, wt, sl, sd⟩ e5
    · rintro σ' H' ⟨A, L, vst, r0, sts, x6, x7, x8, x9, x10, x11, x12, x13, x14, x15, x16, x17, rfl, hAl, h, ok, wt, sl, sd⟩
      exact s_ret (ev_callV (ea_cons (ev_var rfl) (ea_cons (ev_var rfl) ea_nil)) fun H1 e1 Q E q => ⟨la, A, l, L, rfl, hAl ▸ (h.mono e1).dev.la, h.mono e1, ok.seen.g, q⟩) fun H2 e2 => k H2
end
end Sg


set_option maxHeartbeats 0
namespace Sg
open PySem PySem.Spec PyProof.Rows L2 Evl
theorem facts {P : Program} {w : World} {K : PySem.W.Frag} {h : Heap} {mg : Str → Option Value} {f : Addr} (X : K.In h) (G : h.Ns mainGlobals mg) (hfa : mg ("law" : Str) = some (.ref f)) (c : He.SaysD fa fn K) :
    ∃ fd : FuncData, (∀ (s : Shared) (v : Value), BindsTo s fd ⟨[v], []⟩ [("_law_script", v)]) ∧ ∀ base : Heap, K.In base → base.Ns mainGlobals mg → FnOk P w K mg base CX0 9 f fd ["_law_script"] (sp_law K) := by
  have T : Ctx K mg h := ⟨X, G, c⟩
  obtain ⟨fd, F⟩ := T.def_law
  have e := hfa.symm.trans T.glo_law
  cases e
  have b := FunD.bindsA (ps := ["_law_script"]) F fun _ _ _ _ _ _ us hl => match us, hl with | [_], _ => rfl
  exact ⟨fd, fun s v => b s [v] rfl, fun base X' G' => fn_law F ⟨X', G', c⟩⟩
end Sg
open PySem PySem.W PySem.Calls PyProof.Rows
theorem PySem.Challenge.cw_segmentfs_k31_whole_log_is_never_stuck_holds : PySem.Challenge.rw_segmentfs_k31_whole_log_is_never_stuck.Holds := by
  w_on; o_law
  refine HandSHeadRun.head_any (r := OpenLaw.row PySem.Challenge.rw_segmentfs_k31_whole_log_is_never_stuck) (q := view (OpenLaw.row PySem.Challenge.rw_segmentfs_k31_whole_log_is_never_stuck).prog [86]) (H := Sg.hk) (ob := Sg.ob) (M := 40000) (loose := Sg.loose) (d := HandSHeadRun.topDef (OpenLaw.row PySem.Challenge.rw_segmentfs_k31_whole_log_is_never_stuck).prog 86) (kwd := []) Sg.ob_eq
    (by kernel_rfl) (fun s => by kernel_rfl) Sg.run (by kernel_rfl) (by kernel_rfl) (by kernel_rfl) (by rfl) (by first | assumption | decide +kernel) (by decide +kernel) ⟨rfl, rfl, rfl, rfl, rfl, by decide +kernel⟩ ?hw ?hc
  case hw => w_witness2
  case hc =>
    refine L2.walk_ofE (l := PySem.Challenge.rw_segmentfs_k31_whole_log_is_never_stuck) (n := 63) (k := 9) (x := "_law_script") (CX := L2.CX0) rfl (by decide) (by kernel_rfl) ⟨rfl, by decide, by decide⟩ ?F (fun _ _ _ _ z => z)
    intro w mg fa h Y G hmg0
    obtain ⟨K, KX, c⟩ := Y
    have hmg : mg ("law" : PySem.Str) = some (.ref fa) := by
      have e : (HandSHeadRun.topDef (OpenLaw.row PySem.Challenge.rw_segmentfs_k31_whole_log_is_never_stuck).prog 86).name = ("law" : PySem.Str) := by kernel_rfl
      rw [← e]
      exact hmg0
    obtain ⟨fd, hb, hF⟩ := Sg.facts (P := (PySem.Challenge.rw_segmentfs_k31_whole_log_is_never_stuck).prog) (w := w) KX G hmg c
    exact ⟨K, fd, Sg.sp_law K, KX, hb, fun H a ns hl _ hS => ⟨a, ns, rfl, hS, hl, fun _ => rfl⟩, hF⟩

