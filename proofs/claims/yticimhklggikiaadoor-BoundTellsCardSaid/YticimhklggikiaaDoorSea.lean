import Derived.Test.YticimhklggikiaaDoorProg
import Derived.Test.YticimhklggikiaaDoorEvb
/-! The seat's types and functions, by name. -/
namespace Go.Proofs.YticimhklggikiaaDoor
open Go.Ev
set_option linter.unusedVariables false
abbrev T_struct___x_int64__y_int__signed_bool__code_abi_BoundsErrorCode__ : Ty := .st (.pair (.int .i64) (.pair (.int .i64) (.pair .bool (.pair (.int .u8) .unit))))
abbrev T_runtime_boundsError : Ty := .st (.pair (.int .i64) (.pair (.int .i64) (.pair .bool (.pair (.int .u8) .unit))))
abbrev T_struct___msg_string__addr_uintptr__ : Ty := .st (.pair .str (.pair (.int .u64) .unit))
abbrev T_runtime_errorAddressString : Ty := .st (.pair .str (.pair (.int .u64) .unit))
abbrev T_struct___Area_int__Places_int__Each_int__ : Ty := .st (.pair (.int .i64) (.pair (.int .i64) (.pair (.int .i64) .unit)))
abbrev T_api_Plan : Ty := .st (.pair (.int .i64) (.pair (.int .i64) (.pair (.int .i64) .unit)))
abbrev T_struct___Rooms_int__Exits_int__Items_int__Mails_int__Trades_int__Cap_uint64__ : Ty := .st (.pair (.int .i64) (.pair (.int .i64) (.pair (.int .i64) (.pair (.int .i64) (.pair (.int .i64) (.pair (.int .u64) .unit))))))
abbrev T_api_Quota : Ty := .st (.pair (.int .i64) (.pair (.int .i64) (.pair (.int .i64) (.pair (.int .i64) (.pair (.int .i64) (.pair (.int .u64) .unit))))))
abbrev T_struct___Level_int__Comps_uint64__ : Ty := .st (.pair (.int .i64) (.pair (.int .u64) .unit))
abbrev T_api_Label : Ty := .st (.pair (.int .i64) (.pair (.int .u64) .unit))
abbrev T_struct___Name_string__Secret_string__Level_int__Mints_bool__ : Ty := .st (.pair .str (.pair .str (.pair (.int .i64) (.pair .bool .unit))))
abbrev T_api_Account : Ty := .st (.pair .str (.pair .str (.pair (.int .i64) (.pair .bool .unit))))
abbrev T_struct___Bit_int__Founder_int__ : Ty := .st (.pair (.int .i64) (.pair (.int .i64) .unit))
abbrev T_api_Guild : Ty := .st (.pair (.int .i64) (.pair (.int .i64) .unit))
abbrev T_struct___Labels___api_Label__Lines___int__Accounts___api_Account__Guilds___api_Guild__Quotas___api_Quota__Orders_int__Audits_int__Rate_int__Rounds_int__ : Ty := .st (.pair (.sl T_api_Label) (.pair (.sl (.int .i64)) (.pair (.sl T_api_Account) (.pair (.sl T_api_Guild) (.pair (.sl T_api_Quota) (.pair (.int .i64) (.pair (.int .i64) (.pair (.int .i64) (.pair (.int .i64) .unit)))))))))
abbrev T_api_Realm : Ty := .st (.pair (.sl T_api_Label) (.pair (.sl (.int .i64)) (.pair (.sl T_api_Account) (.pair (.sl T_api_Guild) (.pair (.sl T_api_Quota) (.pair (.int .i64) (.pair (.int .i64) (.pair (.int .i64) (.pair (.int .i64) .unit)))))))))
def types : List (Nat × Ty) := [(1, (.fn .unit .unit)), (2, (.int .i64)), (3, (.int .i64)), (4, .bool), (5, (.int .u8)), (6, (.int .u8)), (7, T_struct___x_int64__y_int__signed_bool__code_abi_BoundsErrorCode__), (8, T_runtime_boundsError), (9, .str), (10, .str), (11, .str), (12, (.int .u64)), (21, (.int .i32)), (22, (.sl T_api_Label)), (23, (.sl (.int .i64))), (24, (.sl T_api_Account)), (25, (.sl T_api_Guild)), (26, (.sl T_api_Quota)), (27, T_struct___Labels___api_Label__Lines___int__Accounts___api_Account__Guilds___api_Guild__Quotas___api_Quota__Orders_int__Audits_int__Rate_int__Rounds_int__), (28, T_api_Realm), (29, T_struct___Area_int__Places_int__Each_int__), (30, T_api_Plan), (31, (.int .i64)), (33, (.fn (.pair T_api_Realm .unit) (.pair T_api_Plan (.pair (.int .i64) .unit)))), (34, (.fn .unit (.pair .bool .unit))), (35, (.fn (.pair T_api_Realm .unit) (.pair (.int .i64) .unit))), (36, (.fn (.pair T_api_Realm .unit) (.pair .bool .unit))), (38, (.fn (.pair T_api_Plan .unit) (.pair (.int .i64) (.pair (.int .i64) .unit)))), (39, (.fn (.pair T_api_Plan .unit) (.pair (.int .i64) .unit))), (40, (.fn (.pair (.fn (.pair (.int .i64) .unit) (.pair .bool .unit)) .unit) (.pair (.int .i64) .unit))), (41, (.fn (.pair (.int .i64) .unit) (.pair .bool .unit))), (42, (.fn (.pair (.int .i64) .unit) (.pair (.int .i64) .unit))), (43, (.fn .unit (.pair T_api_Realm .unit))), (44, (.int .u64)), (45, T_struct___Rooms_int__Exits_int__Items_int__Mails_int__Trades_int__Cap_uint64__), (46, T_api_Quota), (47, (.fn (.pair T_api_Quota (.pair (.int .i64) .unit)) (.pair (.int .i64) .unit))), (48, (.sl (.fn (.pair T_api_Realm .unit) (.pair .bool .unit)))), (49, (.fn (.pair T_api_Plan .unit) (.pair .bool .unit))), (50, (.fn (.pair (.sl T_api_Label) .unit) (.pair .bool .unit))), (51, (.fn (.pair (.sl T_api_Account) .unit) (.pair .bool .unit))), (52, (.fn (.pair (.sl T_api_Guild) (.pair (.sl T_api_Label) (.pair (.int .i64) .unit))) (.pair .bool .unit))), (53, (.fn (.pair (.sl T_api_Quota) .unit) (.pair .bool .unit))), (54, T_struct___Level_int__Comps_uint64__), (55, T_api_Label), (56, T_struct___Name_string__Secret_string__Level_int__Mints_bool__), (57, T_api_Account), (58, T_struct___Bit_int__Founder_int__), (59, T_api_Guild), (60, (.arr 5 (.int .i64))), (61, (.fn (.pair T_api_Label .unit) (.pair .bool .unit))), (62, (.fn (.pair (.int .i64) (.pair (.int .i64) (.pair (.int .i64) .unit))) (.pair .bool .unit))), (63, (.fn (.pair (.sl T_api_Label) (.pair (.fn (.pair T_api_Label .unit) (.pair .bool .unit)) .unit)) (.pair .bool .unit))), (64, (.fn (.pair T_api_Label (.pair T_api_Label .unit)) (.pair (.int .i64) .unit))), (65, (.fn (.pair (.sl (.int .i64)) (.pair (.fn (.pair (.int .i64) .unit) (.pair .bool .unit)) .unit)) (.pair .bool .unit))), (66, (.fn (.pair .str .unit) (.pair .bool .unit))), (67, (.fn (.pair T_api_Account .unit) (.pair .bool .unit))), (68, (.fn (.pair (.sl T_api_Account) (.pair (.fn (.pair T_api_Account .unit) (.pair .bool .unit)) .unit)) (.pair .bool .unit))), (69, (.fn (.pair (.sl .str) .unit) (.pair .bool .unit))), (70, (.sl .str)), (71, (.fn (.pair T_api_Realm .unit) (.pair (.sl .str) .unit))), (73, (.fn (.pair (.int .i64) .unit) (.pair T_api_Label (.pair (.int .i64) .unit)))), (74, (.fn (.pair (.sl T_api_Label) (.pair T_api_Label .unit)) (.pair .bool .unit))), (75, (.fn (.pair T_api_Quota .unit) (.pair (.sl (.int .i64)) .unit))), (76, (.fn (.pair (.sl T_api_Label) (.pair T_api_Label .unit)) (.pair (.int .i64) .unit))), (77, (.fn (.pair (.int .i64) .unit) (.pair T_api_Label .unit))), (78, (.fn (.pair T_api_Label (.pair (.int .i64) .unit)) (.pair .bool .unit))), (79, (.fn (.pair (.sl T_api_Guild) (.pair (.int .i64) .unit)) (.pair .bool .unit))), (80, (.fn (.pair (.sl T_api_Label) (.pair (.fn (.pair T_api_Label .unit) (.pair .bool .unit)) .unit)) (.pair (.int .i64) .unit))), (81, (.fn (.pair (.sl (.int .i64)) .unit) (.pair (.int .i64) .unit))), (82, (.fn (.pair (.int .i64) (.pair (.int .i64) .unit)) (.pair (.int .i64) .unit))), (83, (.fn (.pair (.int .u64) (.pair (.int .u64) .unit)) (.pair (.int .i64) .unit))), (84, (.fn (.pair (.sl (.int .i64)) (.pair (.fn (.pair (.int .i64) .unit) (.pair .bool .unit)) .unit)) (.pair (.int .i64) .unit))), (85, (.fn (.pair (.int .u8) .unit) (.pair .bool .unit))), (86, (.fn (.pair .str (.pair (.fn (.pair (.int .u8) .unit) (.pair .bool .unit)) .unit)) (.pair .bool .unit))), (87, (.fn (.pair (.sl T_api_Account) (.pair (.fn (.pair T_api_Account .unit) (.pair .bool .unit)) .unit)) (.pair (.int .i64) .unit))), (88, (.pair .str (.int .i64))), (89, (.int .u64)), (90, (.fn (.pair (.int .u64) .unit) (.pair .bool .unit))), (91, (.fn (.pair (.sl (.int .u8)) (.pair (.fn (.pair (.int .u8) .unit) (.pair .bool .unit)) .unit)) (.pair .bool .unit))), (92, (.sl (.int .u8))), (93, (.fn (.pair (.sl (.int .u8)) (.pair (.fn (.pair (.int .u8) .unit) (.pair .bool .unit)) .unit)) (.pair (.int .i64) .unit))), (94, (.fn .unit (.pair .str .unit))), (100, (.fn .unit (.pair (.int .i64) .unit))), (101, (.int .u32)), (102, (.int .u8)), (103, (.int .u8)), (105, (.ptr (.int .u8))), (106, (.int .i32)), (107, (.int .i32))]
def glob : List (Nat × AV) := [(0, .dat (.ptr (.arr 5 (.int .i64))) (some [14, 6, 18, 45, 23]))]
-- main_main (0): not of our types
-- gosem_cut (1): not of our types
/- 2: gosem.cut.init -/
abbrev n_gosem_cut_init : Nat := 2
noncomputable abbrev f_gosem_cut_init : Go.Func := Tryd.f2
abbrev A_gosem_cut_init : Ty := .unit
abbrev R_gosem_cut_init : Ty := .unit
/- 3: rialto/rialtolaw24.BoundTells -/
abbrev n_law24_BoundTells : Nat := 3
noncomputable abbrev f_law24_BoundTells : Go.Func := Tryd.f3
abbrev A_law24_BoundTells : Ty := (.pair T_api_Realm .unit)
abbrev R_law24_BoundTells : Ty := (.pair .bool .unit)
/- 4: rialto/rialtolaw24.BoundFits -/
abbrev n_law24_BoundFits : Nat := 4
noncomputable abbrev f_law24_BoundFits : Go.Func := Tryd.f4
abbrev A_law24_BoundFits : Ty := (.pair T_api_Realm .unit)
abbrev R_law24_BoundFits : Ty := (.pair .bool .unit)
/- 5: rialto/bound.Plan -/
abbrev n_bound_Plan : Nat := 5
noncomputable abbrev f_bound_Plan : Go.Func := Tryd.f5
abbrev A_bound_Plan : Ty := (.pair T_api_Realm .unit)
abbrev R_bound_Plan : Ty := (.pair T_api_Plan (.pair (.int .i64) .unit))
/- 6: rialto/rialtoref24.Plan -/
abbrev n_ref24_Plan : Nat := 6
noncomputable abbrev f_ref24_Plan : Go.Func := Tryd.f6
abbrev A_ref24_Plan : Ty := (.pair T_api_Realm .unit)
abbrev R_ref24_Plan : Ty := (.pair T_api_Plan (.pair (.int .i64) .unit))
/- 7: rialto/rialtolaw24.alive -/
abbrev n_law24_alive : Nat := 7
noncomputable abbrev f_law24_alive : Go.Func := Tryd.f7
abbrev A_law24_alive : Ty := .unit
abbrev R_law24_alive : Ty := (.pair .bool .unit)
/- 8: rialto/bound.Image -/
abbrev n_bound_Image : Nat := 8
noncomputable abbrev f_bound_Image : Go.Func := Tryd.f8
abbrev A_bound_Image : Ty := (.pair T_api_Realm .unit)
abbrev R_bound_Image : Ty := (.pair (.int .i64) .unit)
/- 9: rialto/rialtoref24.Image -/
abbrev n_ref24_Image : Nat := 9
noncomputable abbrev f_ref24_Image : Go.Func := Tryd.f9
abbrev A_ref24_Image : Ty := (.pair T_api_Realm .unit)
abbrev R_ref24_Image : Ty := (.pair (.int .i64) .unit)
/- 10: rialto/bound.Record -/
abbrev n_bound_Record : Nat := 10
noncomputable abbrev f_bound_Record : Go.Func := Tryd.f10
abbrev A_bound_Record : Ty := (.pair T_api_Realm .unit)
abbrev R_bound_Record : Ty := (.pair (.int .i64) .unit)
/- 11: rialto/rialtoref24.Record -/
abbrev n_ref24_Record : Nat := 11
noncomputable abbrev f_ref24_Record : Go.Func := Tryd.f11
abbrev A_ref24_Record : Ty := (.pair T_api_Realm .unit)
abbrev R_ref24_Record : Ty := (.pair (.int .i64) .unit)
/- 12: rialto/bound.Sectors -/
abbrev n_bound_Sectors : Nat := 12
noncomputable abbrev f_bound_Sectors : Go.Func := Tryd.f12
abbrev A_bound_Sectors : Ty := (.pair T_api_Realm .unit)
abbrev R_bound_Sectors : Ty := (.pair (.int .i64) .unit)
/- 13: rialto/realm.Right -/
abbrev n_realm_Right : Nat := 13
noncomputable abbrev f_realm_Right : Go.Func := Tryd.f13
abbrev A_realm_Right : Ty := (.pair T_api_Realm .unit)
abbrev R_realm_Right : Ty := (.pair .bool .unit)
/- 14: rialto/vault.Room -/
abbrev n_vault_Room : Nat := 14
noncomputable abbrev f_vault_Room : Go.Func := Tryd.f14
abbrev A_vault_Room : Ty := (.pair T_api_Plan .unit)
abbrev R_vault_Room : Ty := (.pair (.int .i64) (.pair (.int .i64) .unit))
/- 15: rialto/vault.Need -/
abbrev n_vault_Need : Nat := 15
noncomputable abbrev f_vault_Need : Go.Func := Tryd.f15
abbrev A_vault_Need : Ty := (.pair T_api_Plan .unit)
abbrev R_vault_Need : Ty := (.pair (.int .i64) .unit)
/- 16: rialto/bound.least -/
abbrev n_bound_least : Nat := 16
noncomputable abbrev f_bound_least : Go.Func := Tryd.f16
abbrev A_bound_least : Ty := (.pair (.fn (.pair (.int .i64) .unit) (.pair .bool .unit)) .unit)
abbrev R_bound_least : Ty := (.pair (.int .i64) .unit)
/- 17: rialto/bound.Plan$1 -/
abbrev n_bound_Plan_1 : Nat := 17
noncomputable abbrev f_bound_Plan_1 : Go.Func := Tryd.f17
abbrev A_bound_Plan_1 : Ty := (.pair (.int .i64) (.pair (.ptr T_api_Realm) .unit))
abbrev R_bound_Plan_1 : Ty := (.pair .bool .unit)
/- 18: rialto/bound.Plan$2 -/
abbrev n_bound_Plan_2 : Nat := 18
noncomputable abbrev f_bound_Plan_2 : Go.Func := Tryd.f18
abbrev A_bound_Plan_2 : Ty := (.pair (.int .i64) (.pair (.ptr T_api_Realm) .unit))
abbrev R_bound_Plan_2 : Ty := (.pair .bool .unit)
/- 19: rialto/rialtoref05.Right -/
abbrev n_ref05_Right : Nat := 19
noncomputable abbrev f_ref05_Right : Go.Func := Tryd.f19
abbrev A_ref05_Right : Ty := (.pair T_api_Realm .unit)
abbrev R_ref05_Right : Ty := (.pair .bool .unit)
/- 20: rialto/rialtoref24.up -/
abbrev n_ref24_up : Nat := 20
noncomputable abbrev f_ref24_up : Go.Func := Tryd.f20
abbrev A_ref24_up : Ty := (.pair (.int .i64) .unit)
abbrev R_ref24_up : Ty := (.pair (.int .i64) .unit)
/- 21: rialto/rialtolaw05.Small -/
abbrev n_law05_Small : Nat := 21
noncomputable abbrev f_law05_Small : Go.Func := Tryd.f21
abbrev A_law05_Small : Ty := .unit
abbrev R_law05_Small : Ty := (.pair T_api_Realm .unit)
/- 22: rialto/bound.shelf -/
abbrev n_bound_shelf : Nat := 22
noncomputable abbrev f_bound_shelf : Go.Func := Tryd.f22
abbrev A_bound_shelf : Ty := (.pair T_api_Quota (.pair (.int .i64) .unit))
abbrev R_bound_shelf : Ty := (.pair (.int .i64) .unit)
/- 23: rialto/realm.labels -/
abbrev n_realm_labels : Nat := 23
noncomputable abbrev f_realm_labels : Go.Func := Tryd.f23
abbrev A_realm_labels : Ty := (.pair T_api_Realm .unit)
abbrev R_realm_labels : Ty := (.pair .bool .unit)
/- 24: rialto/realm.lines -/
abbrev n_realm_lines : Nat := 24
noncomputable abbrev f_realm_lines : Go.Func := Tryd.f24
abbrev A_realm_lines : Ty := (.pair T_api_Realm .unit)
abbrev R_realm_lines : Ty := (.pair .bool .unit)
/- 25: rialto/realm.accounts -/
abbrev n_realm_accounts : Nat := 25
noncomputable abbrev f_realm_accounts : Go.Func := Tryd.f25
abbrev A_realm_accounts : Ty := (.pair T_api_Realm .unit)
abbrev R_realm_accounts : Ty := (.pair .bool .unit)
/- 26: rialto/realm.guilds -/
abbrev n_realm_guilds : Nat := 26
noncomputable abbrev f_realm_guilds : Go.Func := Tryd.f26
abbrev A_realm_guilds : Ty := (.pair T_api_Realm .unit)
abbrev R_realm_guilds : Ty := (.pair .bool .unit)
/- 27: rialto/realm.quotas -/
abbrev n_realm_quotas : Nat := 27
noncomputable abbrev f_realm_quotas : Go.Func := Tryd.f27
abbrev A_realm_quotas : Ty := (.pair T_api_Realm .unit)
abbrev R_realm_quotas : Ty := (.pair .bool .unit)
/- 28: rialto/realm.rest -/
abbrev n_realm_rest : Nat := 28
noncomputable abbrev f_realm_rest : Go.Func := Tryd.f28
abbrev A_realm_rest : Ty := (.pair T_api_Realm .unit)
abbrev R_realm_rest : Ty := (.pair .bool .unit)
/- 29: rialto/vault.may -/
abbrev n_vault_may : Nat := 29
noncomputable abbrev f_vault_may : Go.Func := Tryd.f29
abbrev A_vault_may : Ty := (.pair T_api_Plan .unit)
abbrev R_vault_may : Ty := (.pair .bool .unit)
/- 30: rialto/area.Room -/
abbrev n_area_Room : Nat := 30
noncomputable abbrev f_area_Room : Go.Func := Tryd.f30
abbrev A_area_Room : Ty := (.pair (.int .i64) .unit)
abbrev R_area_Room : Ty := (.pair (.int .i64) .unit)
/- 31: rialto/rialtoref05.labels -/
abbrev n_ref05_labels : Nat := 31
noncomputable abbrev f_ref05_labels : Go.Func := Tryd.f31
abbrev A_ref05_labels : Ty := (.pair (.sl T_api_Label) .unit)
abbrev R_ref05_labels : Ty := (.pair .bool .unit)
/- 32: rialto/rialtoref05.accounts -/
abbrev n_ref05_accounts : Nat := 32
noncomputable abbrev f_ref05_accounts : Go.Func := Tryd.f32
abbrev A_ref05_accounts : Ty := (.pair (.sl T_api_Account) .unit)
abbrev R_ref05_accounts : Ty := (.pair .bool .unit)
/- 33: rialto/rialtoref05.guilds -/
abbrev n_ref05_guilds : Nat := 33
noncomputable abbrev f_ref05_guilds : Go.Func := Tryd.f33
abbrev A_ref05_guilds : Ty := (.pair (.sl T_api_Guild) (.pair (.sl T_api_Label) (.pair (.int .i64) .unit)))
abbrev R_ref05_guilds : Ty := (.pair .bool .unit)
/- 34: rialto/rialtoref05.quotas -/
abbrev n_ref05_quotas : Nat := 34
noncomputable abbrev f_ref05_quotas : Go.Func := Tryd.f34
abbrev A_ref05_quotas : Ty := (.pair (.sl T_api_Quota) .unit)
abbrev R_ref05_quotas : Ty := (.pair .bool .unit)
/- 35: rialto/realm.labels$1 -/
abbrev n_realm_labels_1 : Nat := 35
noncomputable abbrev f_realm_labels_1 : Go.Func := Tryd.f35
abbrev A_realm_labels_1 : Ty := (.pair T_api_Label .unit)
abbrev R_realm_labels_1 : Ty := (.pair .bool .unit)
/- 36: rialto/label.Right -/
abbrev n_label_Right : Nat := 36
noncomputable abbrev f_label_Right : Go.Func := Tryd.f36
abbrev A_label_Right : Ty := (.pair T_api_Label .unit)
abbrev R_label_Right : Ty := (.pair .bool .unit)
/- 37: rialto/realm.within -/
abbrev n_realm_within : Nat := 37
noncomputable abbrev f_realm_within : Go.Func := Tryd.f37
abbrev A_realm_within : Ty := (.pair (.int .i64) (.pair (.int .i64) (.pair (.int .i64) .unit)))
abbrev R_realm_within : Ty := (.pair .bool .unit)
/- 38: slices.ContainsFunc[[]rialto/api.Label,rialto/api.Label] -/
abbrev n_slices_ContainsFunc___api_Label_api_Label_ : Nat := 38
noncomputable abbrev f_slices_ContainsFunc___api_Label_api_Label_ : Go.Func := Tryd.f38
abbrev A_slices_ContainsFunc___api_Label_api_Label_ : Ty := (.pair (.sl T_api_Label) (.pair (.fn (.pair T_api_Label .unit) (.pair .bool .unit)) .unit))
abbrev R_slices_ContainsFunc___api_Label_api_Label_ : Ty := (.pair .bool .unit)
/- 39: rialto/label.Cmp -/
abbrev n_label_Cmp : Nat := 39
noncomputable abbrev f_label_Cmp : Go.Func := Tryd.f39
abbrev A_label_Cmp : Ty := (.pair T_api_Label (.pair T_api_Label .unit))
abbrev R_label_Cmp : Ty := (.pair (.int .i64) .unit)
/- 40: rialto/realm.lines$1 -/
abbrev n_realm_lines_1 : Nat := 40
noncomputable abbrev f_realm_lines_1 : Go.Func := Tryd.f40
abbrev A_realm_lines_1 : Ty := (.pair (.int .i64) (.pair (.ptr T_api_Realm) .unit))
abbrev R_realm_lines_1 : Ty := (.pair .bool .unit)
/- 41: slices.ContainsFunc[[]int,int] -/
abbrev n_slices_ContainsFunc___int_int_ : Nat := 41
noncomputable abbrev f_slices_ContainsFunc___int_int_ : Go.Func := Tryd.f41
abbrev A_slices_ContainsFunc___int_int_ : Ty := (.pair (.sl (.int .i64)) (.pair (.fn (.pair (.int .i64) .unit) (.pair .bool .unit)) .unit))
abbrev R_slices_ContainsFunc___int_int_ : Ty := (.pair .bool .unit)
/- 42: rialto/realm.accounts$1 -/
abbrev n_realm_accounts_1 : Nat := 42
noncomputable abbrev f_realm_accounts_1 : Go.Func := Tryd.f42
abbrev A_realm_accounts_1 : Ty := (.pair T_api_Account .unit)
abbrev R_realm_accounts_1 : Ty := (.pair .bool .unit)
/- 43: rialto/name.Right -/
abbrev n_name_Right : Nat := 43
noncomputable abbrev f_name_Right : Go.Func := Tryd.f43
abbrev A_name_Right : Ty := (.pair .str .unit)
abbrev R_name_Right : Ty := (.pair .bool .unit)
/- 44: slices.ContainsFunc[[]rialto/api.Account,rialto/api.Account] -/
abbrev n_slices_ContainsFunc___api_Account_api_Account_ : Nat := 44
noncomputable abbrev f_slices_ContainsFunc___api_Account_api_Account_ : Go.Func := Tryd.f44
abbrev A_slices_ContainsFunc___api_Account_api_Account_ : Ty := (.pair (.sl T_api_Account) (.pair (.fn (.pair T_api_Account .unit) (.pair .bool .unit)) .unit))
abbrev R_slices_ContainsFunc___api_Account_api_Account_ : Ty := (.pair .bool .unit)
/- 45: rialto/name.Apart -/
abbrev n_name_Apart : Nat := 45
noncomputable abbrev f_name_Apart : Go.Func := Tryd.f45
abbrev A_name_Apart : Ty := (.pair (.sl .str) .unit)
abbrev R_name_Apart : Ty := (.pair .bool .unit)
/- 46: rialto/realm.callNames -/
abbrev n_realm_callNames : Nat := 46
noncomputable abbrev f_realm_callNames : Go.Func := Tryd.f46
abbrev A_realm_callNames : Ty := (.pair T_api_Realm .unit)
abbrev R_realm_callNames : Ty := (.pair (.sl .str) .unit)
/- 47: rialto/label.Hall -/
abbrev n_label_Hall : Nat := 47
noncomputable abbrev f_label_Hall : Go.Func := Tryd.f47
abbrev A_label_Hall : Ty := (.pair (.int .i64) .unit)
abbrev R_label_Hall : Ty := (.pair T_api_Label (.pair (.int .i64) .unit))
/- 48: slices.Contains[[]rialto/api.Label,rialto/api.Label] -/
abbrev n_slices_Contains___api_Label_api_Label_ : Nat := 48
noncomputable abbrev f_slices_Contains___api_Label_api_Label_ : Go.Func := Tryd.f48
abbrev A_slices_Contains___api_Label_api_Label_ : Ty := (.pair (.sl T_api_Label) (.pair T_api_Label .unit))
abbrev R_slices_Contains___api_Label_api_Label_ : Ty := (.pair .bool .unit)
/- 49: rialto/realm.guilds$1 -/
abbrev n_realm_guilds_1 : Nat := 49
noncomputable abbrev f_realm_guilds_1 : Go.Func := Tryd.f49
abbrev A_realm_guilds_1 : Ty := (.pair T_api_Label (.pair (.ptr (.int .u64)) .unit))
abbrev R_realm_guilds_1 : Ty := (.pair .bool .unit)
/- 50: rialto/realm.quotas$1 -/
abbrev n_realm_quotas_1 : Nat := 50
noncomputable abbrev f_realm_quotas_1 : Go.Func := Tryd.f50
abbrev A_realm_quotas_1 : Ty := (.pair (.int .i64) .unit)
abbrev R_realm_quotas_1 : Ty := (.pair .bool .unit)
/- 51: rialto/realm.numbers -/
abbrev n_realm_numbers : Nat := 51
noncomputable abbrev f_realm_numbers : Go.Func := Tryd.f51
abbrev A_realm_numbers : Ty := (.pair T_api_Quota .unit)
abbrev R_realm_numbers : Ty := (.pair (.sl (.int .i64)) .unit)
/- 52: rialto/rialtoref01.Right -/
abbrev n_ref01_Right : Nat := 52
noncomputable abbrev f_ref01_Right : Go.Func := Tryd.f52
abbrev A_ref01_Right : Ty := (.pair T_api_Label .unit)
abbrev R_ref01_Right : Ty := (.pair .bool .unit)
/- 53: rialto/rialtoref01.Cmp -/
abbrev n_ref01_Cmp : Nat := 53
noncomputable abbrev f_ref01_Cmp : Go.Func := Tryd.f53
abbrev A_ref01_Cmp : Ty := (.pair T_api_Label (.pair T_api_Label .unit))
abbrev R_ref01_Cmp : Ty := (.pair (.int .i64) .unit)
/- 54: rialto/rialtoref03.Right -/
abbrev n_ref03_Right : Nat := 54
noncomputable abbrev f_ref03_Right : Go.Func := Tryd.f54
abbrev A_ref03_Right : Ty := (.pair .str .unit)
abbrev R_ref03_Right : Ty := (.pair .bool .unit)
/- 55: rialto/rialtoref05.place -/
abbrev n_ref05_place : Nat := 55
noncomputable abbrev f_ref05_place : Go.Func := Tryd.f55
abbrev A_ref05_place : Ty := (.pair (.sl T_api_Label) (.pair T_api_Label .unit))
abbrev R_ref05_place : Ty := (.pair (.int .i64) .unit)
/- 56: rialto/rialtoref05.hall -/
abbrev n_ref05_hall : Nat := 56
noncomputable abbrev f_ref05_hall : Go.Func := Tryd.f56
abbrev A_ref05_hall : Ty := (.pair (.int .i64) .unit)
abbrev R_ref05_hall : Ty := (.pair T_api_Label .unit)
/- 57: rialto/rialtoref01.Has -/
abbrev n_ref01_Has : Nat := 57
noncomputable abbrev f_ref01_Has : Go.Func := Tryd.f57
abbrev A_ref01_Has : Ty := (.pair T_api_Label (.pair (.int .i64) .unit))
abbrev R_ref01_Has : Ty := (.pair .bool .unit)
/- 58: rialto/rialtoref05.has -/
abbrev n_ref05_has : Nat := 58
noncomputable abbrev f_ref05_has : Go.Func := Tryd.f58
abbrev A_ref05_has : Ty := (.pair (.sl T_api_Guild) (.pair (.int .i64) .unit))
abbrev R_ref05_has : Ty := (.pair .bool .unit)
/- 59: rialto/rialtoref05.slots -/
abbrev n_ref05_slots : Nat := 59
noncomputable abbrev f_ref05_slots : Go.Func := Tryd.f59
abbrev A_ref05_slots : Ty := (.pair (.int .i64) .unit)
abbrev R_ref05_slots : Ty := (.pair .bool .unit)
/- 60: slices.IndexFunc[[]rialto/api.Label,rialto/api.Label] -/
abbrev n_slices_IndexFunc___api_Label_api_Label_ : Nat := 60
noncomputable abbrev f_slices_IndexFunc___api_Label_api_Label_ : Go.Func := Tryd.f60
abbrev A_slices_IndexFunc___api_Label_api_Label_ : Ty := (.pair (.sl T_api_Label) (.pair (.fn (.pair T_api_Label .unit) (.pair .bool .unit)) .unit))
abbrev R_slices_IndexFunc___api_Label_api_Label_ : Ty := (.pair (.int .i64) .unit)
/- 61: cmp.Or[int] -/
abbrev n_cmp_Or_int_ : Nat := 61
noncomputable abbrev f_cmp_Or_int_ : Go.Func := Tryd.f61
abbrev A_cmp_Or_int_ : Ty := (.pair (.sl (.int .i64)) .unit)
abbrev R_cmp_Or_int_ : Ty := (.pair (.int .i64) .unit)
/- 62: cmp.Compare[int] -/
abbrev n_cmp_Compare_int_ : Nat := 62
noncomputable abbrev f_cmp_Compare_int_ : Go.Func := Tryd.f62
abbrev A_cmp_Compare_int_ : Ty := (.pair (.int .i64) (.pair (.int .i64) .unit))
abbrev R_cmp_Compare_int_ : Ty := (.pair (.int .i64) .unit)
/- 63: cmp.Compare[uint64] -/
abbrev n_cmp_Compare_uint64_ : Nat := 63
noncomputable abbrev f_cmp_Compare_uint64_ : Go.Func := Tryd.f63
abbrev A_cmp_Compare_uint64_ : Ty := (.pair (.int .u64) (.pair (.int .u64) .unit))
abbrev R_cmp_Compare_uint64_ : Ty := (.pair (.int .i64) .unit)
/- 64: slices.IndexFunc[[]int,int] -/
abbrev n_slices_IndexFunc___int_int_ : Nat := 64
noncomputable abbrev f_slices_IndexFunc___int_int_ : Go.Func := Tryd.f64
abbrev A_slices_IndexFunc___int_int_ : Ty := (.pair (.sl (.int .i64)) (.pair (.fn (.pair (.int .i64) .unit) (.pair .bool .unit)) .unit))
abbrev R_slices_IndexFunc___int_int_ : Ty := (.pair (.int .i64) .unit)
/- 65: rialto/name.small -/
abbrev n_name_small : Nat := 65
noncomputable abbrev f_name_small : Go.Func := Tryd.f65
abbrev A_name_small : Ty := (.pair (.int .u8) .unit)
abbrev R_name_small : Ty := (.pair .bool .unit)
/- 66: rialto/name.all -/
abbrev n_name_all : Nat := 66
noncomputable abbrev f_name_all : Go.Func := Tryd.f66
abbrev A_name_all : Ty := (.pair .str (.pair (.fn (.pair (.int .u8) .unit) (.pair .bool .unit)) .unit))
abbrev R_name_all : Ty := (.pair .bool .unit)
/- 67: rialto/name.Right$1 -/
abbrev n_name_Right_1 : Nat := 67
noncomputable abbrev f_name_Right_1 : Go.Func := Tryd.f67
abbrev A_name_Right_1 : Ty := (.pair (.int .u8) .unit)
abbrev R_name_Right_1 : Ty := (.pair .bool .unit)
/- 68: rialto/name.digit -/
abbrev n_name_digit : Nat := 68
noncomputable abbrev f_name_digit : Go.Func := Tryd.f68
abbrev A_name_digit : Ty := (.pair (.int .u8) .unit)
abbrev R_name_digit : Ty := (.pair .bool .unit)
/- 69: slices.IndexFunc[[]rialto/api.Account,rialto/api.Account] -/
abbrev n_slices_IndexFunc___api_Account_api_Account_ : Nat := 69
noncomputable abbrev f_slices_IndexFunc___api_Account_api_Account_ : Go.Func := Tryd.f69
abbrev A_slices_IndexFunc___api_Account_api_Account_ : Ty := (.pair (.sl T_api_Account) (.pair (.fn (.pair T_api_Account .unit) (.pair .bool .unit)) .unit))
abbrev R_slices_IndexFunc___api_Account_api_Account_ : Ty := (.pair (.int .i64) .unit)
/- 70: slices.Index[[]rialto/api.Label,rialto/api.Label] -/
abbrev n_slices_Index___api_Label_api_Label_ : Nat := 70
noncomputable abbrev f_slices_Index___api_Label_api_Label_ : Go.Func := Tryd.f70
abbrev A_slices_Index___api_Label_api_Label_ : Ty := (.pair (.sl T_api_Label) (.pair T_api_Label .unit))
abbrev R_slices_Index___api_Label_api_Label_ : Ty := (.pair (.int .i64) .unit)
/- 71: cmp.isNaN[int] -/
abbrev n_cmp_isNaN_int_ : Nat := 71
noncomputable abbrev f_cmp_isNaN_int_ : Go.Func := Tryd.f71
abbrev A_cmp_isNaN_int_ : Ty := (.pair (.int .i64) .unit)
abbrev R_cmp_isNaN_int_ : Ty := (.pair .bool .unit)
/- 72: cmp.isNaN[uint64] -/
abbrev n_cmp_isNaN_uint64_ : Nat := 72
noncomputable abbrev f_cmp_isNaN_uint64_ : Go.Func := Tryd.f72
abbrev A_cmp_isNaN_uint64_ : Ty := (.pair (.int .u64) .unit)
abbrev R_cmp_isNaN_uint64_ : Ty := (.pair .bool .unit)
/- 73: rialto/name.all$1 -/
abbrev n_name_all_1 : Nat := 73
noncomputable abbrev f_name_all_1 : Go.Func := Tryd.f73
abbrev A_name_all_1 : Ty := (.pair (.int .u8) (.pair (.ptr (.fn (.pair (.int .u8) .unit) (.pair .bool .unit))) .unit))
abbrev R_name_all_1 : Ty := (.pair .bool .unit)
/- 74: slices.ContainsFunc[[]byte,byte] -/
abbrev n_slices_ContainsFunc___byte_byte_ : Nat := 74
noncomputable abbrev f_slices_ContainsFunc___byte_byte_ : Go.Func := Tryd.f74
abbrev A_slices_ContainsFunc___byte_byte_ : Ty := (.pair (.sl (.int .u8)) (.pair (.fn (.pair (.int .u8) .unit) (.pair .bool .unit)) .unit))
abbrev R_slices_ContainsFunc___byte_byte_ : Ty := (.pair .bool .unit)
/- 75: slices.IndexFunc[[]byte,byte] -/
abbrev n_slices_IndexFunc___byte_byte_ : Nat := 75
noncomputable abbrev f_slices_IndexFunc___byte_byte_ : Go.Func := Tryd.f75
abbrev A_slices_IndexFunc___byte_byte_ : Ty := (.pair (.sl (.int .u8)) (.pair (.fn (.pair (.int .u8) .unit) (.pair .bool .unit)) .unit))
abbrev R_slices_IndexFunc___byte_byte_ : Ty := (.pair (.int .i64) .unit)
-- _runtime_boundsError__Error (76): not of our types
-- _runtime_boundsError__RuntimeError (77): not of our types
-- _runtime_errorString__Error (78): not of our types
-- _runtime_errorString__RuntimeError (79): not of our types
-- _runtime_plainError__Error (80): not of our types
-- _runtime_plainError__RuntimeError (81): not of our types
-- _runtime_errorAddressString__Error (82): not of our types
-- _runtime_errorAddressString__RuntimeError (83): not of our types
-- __runtime_TypeAssertionError__Error (84): not of our types
-- __runtime_TypeAssertionError__RuntimeError (85): not of our types
-- __runtime_PanicNilError__Error (86): not of our types
-- __runtime_PanicNilError__RuntimeError (87): not of our types
-- __internal_abi_Type__Align (88): not of our types
-- _internal_runtime_maps_unhashableTypeError__Error (89): not of our types
-- _internal_runtime_maps_unhashableTypeError__RuntimeError (90): not of our types
-- _api_Errno__Error (91): not of our types
-- _internal_abi_Kind__String (92): not of our types
-- var_s_door__gosem_cut_vars_holds_initialisers_alone__see_the_manifest_s_row_cutvarsword__look_11__test_files_too_ (93): not of our types
-- var_s_door__bound_sizes_is_laid_by_its_own_initialiser__plain_data__look_11_ (94): not of our types
-- var_s_door__the_look_of_gosem_cut_vars_went_over_the_folder_that_the_caller_named_as_the_repository_s_root__look_11_ (95): not of our types
/- 96: gosem.cut.vars -/
abbrev n_gosem_cut_vars : Nat := 96
noncomputable abbrev f_gosem_cut_vars : Go.Func := Tryd.f96
abbrev A_gosem_cut_vars : Ty := .unit
abbrev R_gosem_cut_vars : Ty := .unit
-- gosem_cut_init: uses [1]
def E_law24_BoundTells (g_bound_Plan : A_bound_Plan.I → Option R_bound_Plan.I) (g_ref24_Plan : A_ref24_Plan.I → Option R_ref24_Plan.I) (g_law24_alive : A_law24_alive.I → Option R_law24_alive.I) (g_bound_Image : A_bound_Image.I → Option R_bound_Image.I) (g_ref24_Image : A_ref24_Image.I → Option R_ref24_Image.I) (g_bound_Record : A_bound_Record.I → Option R_bound_Record.I) (g_ref24_Record : A_ref24_Record.I → Option R_ref24_Record.I) (g_bound_Sectors : A_bound_Sectors.I → Option R_bound_Sectors.I) : Env := ⟨types, [(n_bound_Plan, ⟨n_bound_Plan, A_bound_Plan, R_bound_Plan, 0, g_bound_Plan⟩), (n_ref24_Plan, ⟨n_ref24_Plan, A_ref24_Plan, R_ref24_Plan, 0, g_ref24_Plan⟩), (n_law24_alive, ⟨n_law24_alive, A_law24_alive, R_law24_alive, 0, g_law24_alive⟩), (n_bound_Image, ⟨n_bound_Image, A_bound_Image, R_bound_Image, 0, g_bound_Image⟩), (n_ref24_Image, ⟨n_ref24_Image, A_ref24_Image, R_ref24_Image, 0, g_ref24_Image⟩), (n_bound_Record, ⟨n_bound_Record, A_bound_Record, R_bound_Record, 0, g_bound_Record⟩), (n_ref24_Record, ⟨n_ref24_Record, A_ref24_Record, R_ref24_Record, 0, g_ref24_Record⟩), (n_bound_Sectors, ⟨n_bound_Sectors, A_bound_Sectors, R_bound_Sectors, 0, g_bound_Sectors⟩)], glob, 0⟩
theorem snd_law24_BoundTells {G : FH} (hb : EnvOk Tryd.prog G ⟨types, [], glob, 0⟩) {g_bound_Plan : A_bound_Plan.I → Option R_bound_Plan.I} (h_bound_Plan : SndF Tryd.prog G n_bound_Plan ⟨n_bound_Plan, A_bound_Plan, R_bound_Plan, 0, g_bound_Plan⟩) {g_ref24_Plan : A_ref24_Plan.I → Option R_ref24_Plan.I} (h_ref24_Plan : SndF Tryd.prog G n_ref24_Plan ⟨n_ref24_Plan, A_ref24_Plan, R_ref24_Plan, 0, g_ref24_Plan⟩) {g_law24_alive : A_law24_alive.I → Option R_law24_alive.I} (h_law24_alive : SndF Tryd.prog G n_law24_alive ⟨n_law24_alive, A_law24_alive, R_law24_alive, 0, g_law24_alive⟩) {g_bound_Image : A_bound_Image.I → Option R_bound_Image.I} (h_bound_Image : SndF Tryd.prog G n_bound_Image ⟨n_bound_Image, A_bound_Image, R_bound_Image, 0, g_bound_Image⟩) {g_ref24_Image : A_ref24_Image.I → Option R_ref24_Image.I} (h_ref24_Image : SndF Tryd.prog G n_ref24_Image ⟨n_ref24_Image, A_ref24_Image, R_ref24_Image, 0, g_ref24_Image⟩) {g_bound_Record : A_bound_Record.I → Option R_bound_Record.I} (h_bound_Record : SndF Tryd.prog G n_bound_Record ⟨n_bound_Record, A_bound_Record, R_bound_Record, 0, g_bound_Record⟩) {g_ref24_Record : A_ref24_Record.I → Option R_ref24_Record.I} (h_ref24_Record : SndF Tryd.prog G n_ref24_Record ⟨n_ref24_Record, A_ref24_Record, R_ref24_Record, 0, g_ref24_Record⟩) {g_bound_Sectors : A_bound_Sectors.I → Option R_bound_Sectors.I} (h_bound_Sectors : SndF Tryd.prog G n_bound_Sectors ⟨n_bound_Sectors, A_bound_Sectors, R_bound_Sectors, 0, g_bound_Sectors⟩) {spec : A_law24_BoundTells.I → Option R_law24_BoundTells.I} (hev : ∀ x y, spec x = some y → ∃ K, evF (E_law24_BoundTells g_bound_Plan g_ref24_Plan g_law24_alive g_bound_Image g_ref24_Image g_bound_Record g_ref24_Record g_bound_Sectors) K Tryd.f3 A_law24_BoundTells R_law24_BoundTells x = some y) : SndF Tryd.prog G n_law24_BoundTells ⟨n_law24_BoundTells, A_law24_BoundTells, R_law24_BoundTells, 0, spec⟩ := SndF.mk (by kernel_rfl) ((((((((hb.cons h_bound_Sectors).cons h_ref24_Record).cons h_bound_Record).cons h_ref24_Image).cons h_bound_Image).cons h_law24_alive).cons h_ref24_Plan).cons h_bound_Plan) Tryd.func3 (by kernel_rfl) (by kernel_rfl) rfl hev
def E_law24_BoundFits (g_bound_Plan : A_bound_Plan.I → Option R_bound_Plan.I) (g_law24_alive : A_law24_alive.I → Option R_law24_alive.I) (g_realm_Right : A_realm_Right.I → Option R_realm_Right.I) (g_vault_Room : A_vault_Room.I → Option R_vault_Room.I) (g_vault_Need : A_vault_Need.I → Option R_vault_Need.I) (g_bound_Sectors : A_bound_Sectors.I → Option R_bound_Sectors.I) (g_bound_Image : A_bound_Image.I → Option R_bound_Image.I) (g_bound_Record : A_bound_Record.I → Option R_bound_Record.I) : Env := ⟨types, [(n_bound_Plan, ⟨n_bound_Plan, A_bound_Plan, R_bound_Plan, 0, g_bound_Plan⟩), (n_law24_alive, ⟨n_law24_alive, A_law24_alive, R_law24_alive, 0, g_law24_alive⟩), (n_realm_Right, ⟨n_realm_Right, A_realm_Right, R_realm_Right, 0, g_realm_Right⟩), (n_vault_Room, ⟨n_vault_Room, A_vault_Room, R_vault_Room, 0, g_vault_Room⟩), (n_vault_Need, ⟨n_vault_Need, A_vault_Need, R_vault_Need, 0, g_vault_Need⟩), (n_bound_Sectors, ⟨n_bound_Sectors, A_bound_Sectors, R_bound_Sectors, 0, g_bound_Sectors⟩), (n_bound_Image, ⟨n_bound_Image, A_bound_Image, R_bound_Image, 0, g_bound_Image⟩), (n_bound_Record, ⟨n_bound_Record, A_bound_Record, R_bound_Record, 0, g_bound_Record⟩)], glob, 0⟩
theorem snd_law24_BoundFits {G : FH} (hb : EnvOk Tryd.prog G ⟨types, [], glob, 0⟩) {g_bound_Plan : A_bound_Plan.I → Option R_bound_Plan.I} (h_bound_Plan : SndF Tryd.prog G n_bound_Plan ⟨n_bound_Plan, A_bound_Plan, R_bound_Plan, 0, g_bound_Plan⟩) {g_law24_alive : A_law24_alive.I → Option R_law24_alive.I} (h_law24_alive : SndF Tryd.prog G n_law24_alive ⟨n_law24_alive, A_law24_alive, R_law24_alive, 0, g_law24_alive⟩) {g_realm_Right : A_realm_Right.I → Option R_realm_Right.I} (h_realm_Right : SndF Tryd.prog G n_realm_Right ⟨n_realm_Right, A_realm_Right, R_realm_Right, 0, g_realm_Right⟩) {g_vault_Room : A_vault_Room.I → Option R_vault_Room.I} (h_vault_Room : SndF Tryd.prog G n_vault_Room ⟨n_vault_Room, A_vault_Room, R_vault_Room, 0, g_vault_Room⟩) {g_vault_Need : A_vault_Need.I → Option R_vault_Need.I} (h_vault_Need : SndF Tryd.prog G n_vault_Need ⟨n_vault_Need, A_vault_Need, R_vault_Need, 0, g_vault_Need⟩) {g_bound_Sectors : A_bound_Sectors.I → Option R_bound_Sectors.I} (h_bound_Sectors : SndF Tryd.prog G n_bound_Sectors ⟨n_bound_Sectors, A_bound_Sectors, R_bound_Sectors, 0, g_bound_Sectors⟩) {g_bound_Image : A_bound_Image.I → Option R_bound_Image.I} (h_bound_Image : SndF Tryd.prog G n_bound_Image ⟨n_bound_Image, A_bound_Image, R_bound_Image, 0, g_bound_Image⟩) {g_bound_Record : A_bound_Record.I → Option R_bound_Record.I} (h_bound_Record : SndF Tryd.prog G n_bound_Record ⟨n_bound_Record, A_bound_Record, R_bound_Record, 0, g_bound_Record⟩) {spec : A_law24_BoundFits.I → Option R_law24_BoundFits.I} (hev : ∀ x y, spec x = some y → ∃ K, evF (E_law24_BoundFits g_bound_Plan g_law24_alive g_realm_Right g_vault_Room g_vault_Need g_bound_Sectors g_bound_Image g_bound_Record) K Tryd.f4 A_law24_BoundFits R_law24_BoundFits x = some y) : SndF Tryd.prog G n_law24_BoundFits ⟨n_law24_BoundFits, A_law24_BoundFits, R_law24_BoundFits, 0, spec⟩ := SndF.mk (by kernel_rfl) ((((((((hb.cons h_bound_Record).cons h_bound_Image).cons h_bound_Sectors).cons h_vault_Need).cons h_vault_Room).cons h_realm_Right).cons h_law24_alive).cons h_bound_Plan) Tryd.func4 (by kernel_rfl) (by kernel_rfl) rfl hev
def E_bound_Plan (g_realm_Right : A_realm_Right.I → Option R_realm_Right.I) (g_bound_Plan_1 : A_bound_Plan_1.I → Option R_bound_Plan_1.I) (g_bound_least : A_bound_least.I → Option R_bound_least.I) (g_bound_Plan_2 : A_bound_Plan_2.I → Option R_bound_Plan_2.I) : Env := ⟨types, [(n_realm_Right, ⟨n_realm_Right, A_realm_Right, R_realm_Right, 0, g_realm_Right⟩), (n_bound_Plan_1, ⟨n_bound_Plan_1, A_bound_Plan_1, R_bound_Plan_1, 0, g_bound_Plan_1⟩), (n_bound_least, ⟨n_bound_least, A_bound_least, R_bound_least, 0, g_bound_least⟩), (n_bound_Plan_2, ⟨n_bound_Plan_2, A_bound_Plan_2, R_bound_Plan_2, 0, g_bound_Plan_2⟩)], glob, 0⟩
theorem snd_bound_Plan {G : FH} (hb : EnvOk Tryd.prog G ⟨types, [], glob, 0⟩) {g_realm_Right : A_realm_Right.I → Option R_realm_Right.I} (h_realm_Right : SndF Tryd.prog G n_realm_Right ⟨n_realm_Right, A_realm_Right, R_realm_Right, 0, g_realm_Right⟩) {g_bound_Plan_1 : A_bound_Plan_1.I → Option R_bound_Plan_1.I} (h_bound_Plan_1 : SndF Tryd.prog G n_bound_Plan_1 ⟨n_bound_Plan_1, A_bound_Plan_1, R_bound_Plan_1, 0, g_bound_Plan_1⟩) {g_bound_least : A_bound_least.I → Option R_bound_least.I} (h_bound_least : SndF Tryd.prog G n_bound_least ⟨n_bound_least, A_bound_least, R_bound_least, 0, g_bound_least⟩) {g_bound_Plan_2 : A_bound_Plan_2.I → Option R_bound_Plan_2.I} (h_bound_Plan_2 : SndF Tryd.prog G n_bound_Plan_2 ⟨n_bound_Plan_2, A_bound_Plan_2, R_bound_Plan_2, 0, g_bound_Plan_2⟩) {spec : A_bound_Plan.I → Option R_bound_Plan.I} (hev : ∀ x y, spec x = some y → ∃ K, evF (E_bound_Plan g_realm_Right g_bound_Plan_1 g_bound_least g_bound_Plan_2) K Tryd.f5 A_bound_Plan R_bound_Plan x = some y) : SndF Tryd.prog G n_bound_Plan ⟨n_bound_Plan, A_bound_Plan, R_bound_Plan, 0, spec⟩ := SndF.mk (by kernel_rfl) ((((hb.cons h_bound_Plan_2).cons h_bound_least).cons h_bound_Plan_1).cons h_realm_Right) Tryd.func5 (by kernel_rfl) (by kernel_rfl) rfl hev
def E_ref24_Plan (g_ref05_Right : A_ref05_Right.I → Option R_ref05_Right.I) (g_ref24_Image : A_ref24_Image.I → Option R_ref24_Image.I) (g_ref24_up : A_ref24_up.I → Option R_ref24_up.I) (g_ref24_Record : A_ref24_Record.I → Option R_ref24_Record.I) : Env := ⟨types, [(n_ref05_Right, ⟨n_ref05_Right, A_ref05_Right, R_ref05_Right, 0, g_ref05_Right⟩), (n_ref24_Image, ⟨n_ref24_Image, A_ref24_Image, R_ref24_Image, 0, g_ref24_Image⟩), (n_ref24_up, ⟨n_ref24_up, A_ref24_up, R_ref24_up, 0, g_ref24_up⟩), (n_ref24_Record, ⟨n_ref24_Record, A_ref24_Record, R_ref24_Record, 0, g_ref24_Record⟩)], glob, 0⟩
theorem snd_ref24_Plan {G : FH} (hb : EnvOk Tryd.prog G ⟨types, [], glob, 0⟩) {g_ref05_Right : A_ref05_Right.I → Option R_ref05_Right.I} (h_ref05_Right : SndF Tryd.prog G n_ref05_Right ⟨n_ref05_Right, A_ref05_Right, R_ref05_Right, 0, g_ref05_Right⟩) {g_ref24_Image : A_ref24_Image.I → Option R_ref24_Image.I} (h_ref24_Image : SndF Tryd.prog G n_ref24_Image ⟨n_ref24_Image, A_ref24_Image, R_ref24_Image, 0, g_ref24_Image⟩) {g_ref24_up : A_ref24_up.I → Option R_ref24_up.I} (h_ref24_up : SndF Tryd.prog G n_ref24_up ⟨n_ref24_up, A_ref24_up, R_ref24_up, 0, g_ref24_up⟩) {g_ref24_Record : A_ref24_Record.I → Option R_ref24_Record.I} (h_ref24_Record : SndF Tryd.prog G n_ref24_Record ⟨n_ref24_Record, A_ref24_Record, R_ref24_Record, 0, g_ref24_Record⟩) {spec : A_ref24_Plan.I → Option R_ref24_Plan.I} (hev : ∀ x y, spec x = some y → ∃ K, evF (E_ref24_Plan g_ref05_Right g_ref24_Image g_ref24_up g_ref24_Record) K Tryd.f6 A_ref24_Plan R_ref24_Plan x = some y) : SndF Tryd.prog G n_ref24_Plan ⟨n_ref24_Plan, A_ref24_Plan, R_ref24_Plan, 0, spec⟩ := SndF.mk (by kernel_rfl) ((((hb.cons h_ref24_Record).cons h_ref24_up).cons h_ref24_Image).cons h_ref05_Right) Tryd.func6 (by kernel_rfl) (by kernel_rfl) rfl hev
def E_law24_alive (g_law05_Small : A_law05_Small.I → Option R_law05_Small.I) (g_bound_Plan : A_bound_Plan.I → Option R_bound_Plan.I) (g_bound_Record : A_bound_Record.I → Option R_bound_Record.I) (g_bound_Image : A_bound_Image.I → Option R_bound_Image.I) (g_bound_Sectors : A_bound_Sectors.I → Option R_bound_Sectors.I) : Env := ⟨types, [(n_law05_Small, ⟨n_law05_Small, A_law05_Small, R_law05_Small, 0, g_law05_Small⟩), (n_bound_Plan, ⟨n_bound_Plan, A_bound_Plan, R_bound_Plan, 0, g_bound_Plan⟩), (n_bound_Record, ⟨n_bound_Record, A_bound_Record, R_bound_Record, 0, g_bound_Record⟩), (n_bound_Image, ⟨n_bound_Image, A_bound_Image, R_bound_Image, 0, g_bound_Image⟩), (n_bound_Sectors, ⟨n_bound_Sectors, A_bound_Sectors, R_bound_Sectors, 0, g_bound_Sectors⟩)], glob, 0⟩
theorem snd_law24_alive {G : FH} (hb : EnvOk Tryd.prog G ⟨types, [], glob, 0⟩) {g_law05_Small : A_law05_Small.I → Option R_law05_Small.I} (h_law05_Small : SndF Tryd.prog G n_law05_Small ⟨n_law05_Small, A_law05_Small, R_law05_Small, 0, g_law05_Small⟩) {g_bound_Plan : A_bound_Plan.I → Option R_bound_Plan.I} (h_bound_Plan : SndF Tryd.prog G n_bound_Plan ⟨n_bound_Plan, A_bound_Plan, R_bound_Plan, 0, g_bound_Plan⟩) {g_bound_Record : A_bound_Record.I → Option R_bound_Record.I} (h_bound_Record : SndF Tryd.prog G n_bound_Record ⟨n_bound_Record, A_bound_Record, R_bound_Record, 0, g_bound_Record⟩) {g_bound_Image : A_bound_Image.I → Option R_bound_Image.I} (h_bound_Image : SndF Tryd.prog G n_bound_Image ⟨n_bound_Image, A_bound_Image, R_bound_Image, 0, g_bound_Image⟩) {g_bound_Sectors : A_bound_Sectors.I → Option R_bound_Sectors.I} (h_bound_Sectors : SndF Tryd.prog G n_bound_Sectors ⟨n_bound_Sectors, A_bound_Sectors, R_bound_Sectors, 0, g_bound_Sectors⟩) {spec : A_law24_alive.I → Option R_law24_alive.I} (hev : ∀ x y, spec x = some y → ∃ K, evF (E_law24_alive g_law05_Small g_bound_Plan g_bound_Record g_bound_Image g_bound_Sectors) K Tryd.f7 A_law24_alive R_law24_alive x = some y) : SndF Tryd.prog G n_law24_alive ⟨n_law24_alive, A_law24_alive, R_law24_alive, 0, spec⟩ := SndF.mk (by kernel_rfl) (((((hb.cons h_bound_Sectors).cons h_bound_Image).cons h_bound_Record).cons h_bound_Plan).cons h_law05_Small) Tryd.func7 (by kernel_rfl) (by kernel_rfl) rfl hev
def E_bound_Image (g_realm_Right : A_realm_Right.I → Option R_realm_Right.I) (g_bound_shelf : A_bound_shelf.I → Option R_bound_shelf.I) : Env := ⟨types, [(n_realm_Right, ⟨n_realm_Right, A_realm_Right, R_realm_Right, 0, g_realm_Right⟩), (n_bound_shelf, ⟨n_bound_shelf, A_bound_shelf, R_bound_shelf, 0, g_bound_shelf⟩)], glob, 0⟩
-- loops: [[1, 1, 1, 1, 0, 1, 0]]
theorem snd_bound_Image {G : FH} (hb : EnvOk Tryd.prog G ⟨types, [], glob, 0⟩) {g_realm_Right : A_realm_Right.I → Option R_realm_Right.I} (h_realm_Right : SndF Tryd.prog G n_realm_Right ⟨n_realm_Right, A_realm_Right, R_realm_Right, 0, g_realm_Right⟩) {g_bound_shelf : A_bound_shelf.I → Option R_bound_shelf.I} (h_bound_shelf : SndF Tryd.prog G n_bound_shelf ⟨n_bound_shelf, A_bound_shelf, R_bound_shelf, 0, g_bound_shelf⟩) {spec : A_bound_Image.I → Option R_bound_Image.I} (hev : ∀ x y, spec x = some y → ∃ K, evF (E_bound_Image g_realm_Right g_bound_shelf) K Tryd.f8 A_bound_Image R_bound_Image x = some y) : SndF Tryd.prog G n_bound_Image ⟨n_bound_Image, A_bound_Image, R_bound_Image, 0, spec⟩ := SndF.mk (by kernel_rfl) ((hb.cons h_bound_shelf).cons h_realm_Right) Tryd.func8 (by kernel_rfl) (by kernel_rfl) rfl hev
def E_ref24_Image (g_ref05_Right : A_ref05_Right.I → Option R_ref05_Right.I) : Env := ⟨types, [(n_ref05_Right, ⟨n_ref05_Right, A_ref05_Right, R_ref05_Right, 0, g_ref05_Right⟩)], glob, 0⟩
-- loops: [[1, 1, 1, 0, 1, 0]]
theorem snd_ref24_Image {G : FH} (hb : EnvOk Tryd.prog G ⟨types, [], glob, 0⟩) {g_ref05_Right : A_ref05_Right.I → Option R_ref05_Right.I} (h_ref05_Right : SndF Tryd.prog G n_ref05_Right ⟨n_ref05_Right, A_ref05_Right, R_ref05_Right, 0, g_ref05_Right⟩) {spec : A_ref24_Image.I → Option R_ref24_Image.I} (hev : ∀ x y, spec x = some y → ∃ K, evF (E_ref24_Image g_ref05_Right) K Tryd.f9 A_ref24_Image R_ref24_Image x = some y) : SndF Tryd.prog G n_ref24_Image ⟨n_ref24_Image, A_ref24_Image, R_ref24_Image, 0, spec⟩ := SndF.mk (by kernel_rfl) (hb.cons h_ref05_Right) Tryd.func9 (by kernel_rfl) (by kernel_rfl) rfl hev
def E_bound_Record (g_realm_Right : A_realm_Right.I → Option R_realm_Right.I) : Env := ⟨types, [(n_realm_Right, ⟨n_realm_Right, A_realm_Right, R_realm_Right, 0, g_realm_Right⟩)], glob, 0⟩
theorem snd_bound_Record {G : FH} (hb : EnvOk Tryd.prog G ⟨types, [], glob, 0⟩) {g_realm_Right : A_realm_Right.I → Option R_realm_Right.I} (h_realm_Right : SndF Tryd.prog G n_realm_Right ⟨n_realm_Right, A_realm_Right, R_realm_Right, 0, g_realm_Right⟩) {spec : A_bound_Record.I → Option R_bound_Record.I} (hev : ∀ x y, spec x = some y → ∃ K, evF (E_bound_Record g_realm_Right) K Tryd.f10 A_bound_Record R_bound_Record x = some y) : SndF Tryd.prog G n_bound_Record ⟨n_bound_Record, A_bound_Record, R_bound_Record, 0, spec⟩ := SndF.mk (by kernel_rfl) (hb.cons h_realm_Right) Tryd.func10 (by kernel_rfl) (by kernel_rfl) rfl hev
def E_ref24_Record (g_ref05_Right : A_ref05_Right.I → Option R_ref05_Right.I) : Env := ⟨types, [(n_ref05_Right, ⟨n_ref05_Right, A_ref05_Right, R_ref05_Right, 0, g_ref05_Right⟩)], glob, 0⟩
theorem snd_ref24_Record {G : FH} (hb : EnvOk Tryd.prog G ⟨types, [], glob, 0⟩) {g_ref05_Right : A_ref05_Right.I → Option R_ref05_Right.I} (h_ref05_Right : SndF Tryd.prog G n_ref05_Right ⟨n_ref05_Right, A_ref05_Right, R_ref05_Right, 0, g_ref05_Right⟩) {spec : A_ref24_Record.I → Option R_ref24_Record.I} (hev : ∀ x y, spec x = some y → ∃ K, evF (E_ref24_Record g_ref05_Right) K Tryd.f11 A_ref24_Record R_ref24_Record x = some y) : SndF Tryd.prog G n_ref24_Record ⟨n_ref24_Record, A_ref24_Record, R_ref24_Record, 0, spec⟩ := SndF.mk (by kernel_rfl) (hb.cons h_ref05_Right) Tryd.func11 (by kernel_rfl) (by kernel_rfl) rfl hev
def E_bound_Sectors (g_bound_Plan : A_bound_Plan.I → Option R_bound_Plan.I) (g_vault_Need : A_vault_Need.I → Option R_vault_Need.I) : Env := ⟨types, [(n_bound_Plan, ⟨n_bound_Plan, A_bound_Plan, R_bound_Plan, 0, g_bound_Plan⟩), (n_vault_Need, ⟨n_vault_Need, A_vault_Need, R_vault_Need, 0, g_vault_Need⟩)], glob, 0⟩
theorem snd_bound_Sectors {G : FH} (hb : EnvOk Tryd.prog G ⟨types, [], glob, 0⟩) {g_bound_Plan : A_bound_Plan.I → Option R_bound_Plan.I} (h_bound_Plan : SndF Tryd.prog G n_bound_Plan ⟨n_bound_Plan, A_bound_Plan, R_bound_Plan, 0, g_bound_Plan⟩) {g_vault_Need : A_vault_Need.I → Option R_vault_Need.I} (h_vault_Need : SndF Tryd.prog G n_vault_Need ⟨n_vault_Need, A_vault_Need, R_vault_Need, 0, g_vault_Need⟩) {spec : A_bound_Sectors.I → Option R_bound_Sectors.I} (hev : ∀ x y, spec x = some y → ∃ K, evF (E_bound_Sectors g_bound_Plan g_vault_Need) K Tryd.f12 A_bound_Sectors R_bound_Sectors x = some y) : SndF Tryd.prog G n_bound_Sectors ⟨n_bound_Sectors, A_bound_Sectors, R_bound_Sectors, 0, spec⟩ := SndF.mk (by kernel_rfl) ((hb.cons h_vault_Need).cons h_bound_Plan) Tryd.func12 (by kernel_rfl) (by kernel_rfl) rfl hev
def E_realm_Right (g_realm_labels : A_realm_labels.I → Option R_realm_labels.I) (g_realm_lines : A_realm_lines.I → Option R_realm_lines.I) (g_realm_accounts : A_realm_accounts.I → Option R_realm_accounts.I) (g_realm_guilds : A_realm_guilds.I → Option R_realm_guilds.I) (g_realm_quotas : A_realm_quotas.I → Option R_realm_quotas.I) (g_realm_rest : A_realm_rest.I → Option R_realm_rest.I) : Env := ⟨types, [(n_realm_labels, ⟨n_realm_labels, A_realm_labels, R_realm_labels, 0, g_realm_labels⟩), (n_realm_lines, ⟨n_realm_lines, A_realm_lines, R_realm_lines, 0, g_realm_lines⟩), (n_realm_accounts, ⟨n_realm_accounts, A_realm_accounts, R_realm_accounts, 0, g_realm_accounts⟩), (n_realm_guilds, ⟨n_realm_guilds, A_realm_guilds, R_realm_guilds, 0, g_realm_guilds⟩), (n_realm_quotas, ⟨n_realm_quotas, A_realm_quotas, R_realm_quotas, 0, g_realm_quotas⟩), (n_realm_rest, ⟨n_realm_rest, A_realm_rest, R_realm_rest, 0, g_realm_rest⟩)], glob, 0⟩
-- loops: [[1, 0, 1, 0]]
theorem snd_realm_Right {G : FH} (hb : EnvOk Tryd.prog G ⟨types, [], glob, 0⟩) {g_realm_labels : A_realm_labels.I → Option R_realm_labels.I} (h_realm_labels : SndF Tryd.prog G n_realm_labels ⟨n_realm_labels, A_realm_labels, R_realm_labels, 0, g_realm_labels⟩) {g_realm_lines : A_realm_lines.I → Option R_realm_lines.I} (h_realm_lines : SndF Tryd.prog G n_realm_lines ⟨n_realm_lines, A_realm_lines, R_realm_lines, 0, g_realm_lines⟩) {g_realm_accounts : A_realm_accounts.I → Option R_realm_accounts.I} (h_realm_accounts : SndF Tryd.prog G n_realm_accounts ⟨n_realm_accounts, A_realm_accounts, R_realm_accounts, 0, g_realm_accounts⟩) {g_realm_guilds : A_realm_guilds.I → Option R_realm_guilds.I} (h_realm_guilds : SndF Tryd.prog G n_realm_guilds ⟨n_realm_guilds, A_realm_guilds, R_realm_guilds, 0, g_realm_guilds⟩) {g_realm_quotas : A_realm_quotas.I → Option R_realm_quotas.I} (h_realm_quotas : SndF Tryd.prog G n_realm_quotas ⟨n_realm_quotas, A_realm_quotas, R_realm_quotas, 0, g_realm_quotas⟩) {g_realm_rest : A_realm_rest.I → Option R_realm_rest.I} (h_realm_rest : SndF Tryd.prog G n_realm_rest ⟨n_realm_rest, A_realm_rest, R_realm_rest, 0, g_realm_rest⟩) {spec : A_realm_Right.I → Option R_realm_Right.I} (hev : ∀ x y, spec x = some y → ∃ K, evF (E_realm_Right g_realm_labels g_realm_lines g_realm_accounts g_realm_guilds g_realm_quotas g_realm_rest) K Tryd.f13 A_realm_Right R_realm_Right x = some y) : SndF Tryd.prog G n_realm_Right ⟨n_realm_Right, A_realm_Right, R_realm_Right, 0, spec⟩ := SndF.mk (by kernel_rfl) ((((((hb.cons h_realm_rest).cons h_realm_quotas).cons h_realm_guilds).cons h_realm_accounts).cons h_realm_lines).cons h_realm_labels) Tryd.func13 (by kernel_rfl) (by kernel_rfl) rfl hev
def E_vault_Room (g_vault_may : A_vault_may.I → Option R_vault_may.I) (g_area_Room : A_area_Room.I → Option R_area_Room.I) : Env := ⟨types, [(n_vault_may, ⟨n_vault_may, A_vault_may, R_vault_may, 0, g_vault_may⟩), (n_area_Room, ⟨n_area_Room, A_area_Room, R_area_Room, 0, g_area_Room⟩)], glob, 0⟩
theorem snd_vault_Room {G : FH} (hb : EnvOk Tryd.prog G ⟨types, [], glob, 0⟩) {g_vault_may : A_vault_may.I → Option R_vault_may.I} (h_vault_may : SndF Tryd.prog G n_vault_may ⟨n_vault_may, A_vault_may, R_vault_may, 0, g_vault_may⟩) {g_area_Room : A_area_Room.I → Option R_area_Room.I} (h_area_Room : SndF Tryd.prog G n_area_Room ⟨n_area_Room, A_area_Room, R_area_Room, 0, g_area_Room⟩) {spec : A_vault_Room.I → Option R_vault_Room.I} (hev : ∀ x y, spec x = some y → ∃ K, evF (E_vault_Room g_vault_may g_area_Room) K Tryd.f14 A_vault_Room R_vault_Room x = some y) : SndF Tryd.prog G n_vault_Room ⟨n_vault_Room, A_vault_Room, R_vault_Room, 0, spec⟩ := SndF.mk (by kernel_rfl) ((hb.cons h_area_Room).cons h_vault_may) Tryd.func14 (by kernel_rfl) (by kernel_rfl) rfl hev
def E_vault_Need (g_vault_may : A_vault_may.I → Option R_vault_may.I) : Env := ⟨types, [(n_vault_may, ⟨n_vault_may, A_vault_may, R_vault_may, 0, g_vault_may⟩)], glob, 0⟩
theorem snd_vault_Need {G : FH} (hb : EnvOk Tryd.prog G ⟨types, [], glob, 0⟩) {g_vault_may : A_vault_may.I → Option R_vault_may.I} (h_vault_may : SndF Tryd.prog G n_vault_may ⟨n_vault_may, A_vault_may, R_vault_may, 0, g_vault_may⟩) {spec : A_vault_Need.I → Option R_vault_Need.I} (hev : ∀ x y, spec x = some y → ∃ K, evF (E_vault_Need g_vault_may) K Tryd.f15 A_vault_Need R_vault_Need x = some y) : SndF Tryd.prog G n_vault_Need ⟨n_vault_Need, A_vault_Need, R_vault_Need, 0, spec⟩ := SndF.mk (by kernel_rfl) (hb.cons h_vault_may) Tryd.func15 (by kernel_rfl) (by kernel_rfl) rfl hev
def E_bound_least  : Env := ⟨types, [], glob, 0⟩
-- loops: [[1, 1, 0, 0]]
theorem snd_bound_least {G : FH} (hb : EnvOk Tryd.prog G ⟨types, [], glob, 0⟩)  {spec : A_bound_least.I → Option R_bound_least.I} (hev : ∀ x y, spec x = some y → ∃ K, evF (E_bound_least ) K Tryd.f16 A_bound_least R_bound_least x = some y) : SndF Tryd.prog G n_bound_least ⟨n_bound_least, A_bound_least, R_bound_least, 0, spec⟩ := SndF.mk (by kernel_rfl) hb Tryd.func16 (by kernel_rfl) (by kernel_rfl) rfl hev
def E_bound_Plan_1 (g_vault_Room : A_vault_Room.I → Option R_vault_Room.I) (g_bound_Image : A_bound_Image.I → Option R_bound_Image.I) : Env := ⟨types, [(n_vault_Room, ⟨n_vault_Room, A_vault_Room, R_vault_Room, 0, g_vault_Room⟩), (n_bound_Image, ⟨n_bound_Image, A_bound_Image, R_bound_Image, 0, g_bound_Image⟩)], glob, 0⟩
theorem snd_bound_Plan_1 {G : FH} (hb : EnvOk Tryd.prog G ⟨types, [], glob, 0⟩) {g_vault_Room : A_vault_Room.I → Option R_vault_Room.I} (h_vault_Room : SndF Tryd.prog G n_vault_Room ⟨n_vault_Room, A_vault_Room, R_vault_Room, 0, g_vault_Room⟩) {g_bound_Image : A_bound_Image.I → Option R_bound_Image.I} (h_bound_Image : SndF Tryd.prog G n_bound_Image ⟨n_bound_Image, A_bound_Image, R_bound_Image, 0, g_bound_Image⟩) {spec : A_bound_Plan_1.I → Option R_bound_Plan_1.I} (hev : ∀ x y, spec x = some y → ∃ K, evF (E_bound_Plan_1 g_vault_Room g_bound_Image) K Tryd.f17 A_bound_Plan_1 R_bound_Plan_1 x = some y) : SndF Tryd.prog G n_bound_Plan_1 ⟨n_bound_Plan_1, A_bound_Plan_1, R_bound_Plan_1, 0, spec⟩ := SndF.mk (by kernel_rfl) ((hb.cons h_bound_Image).cons h_vault_Room) Tryd.func17 (by kernel_rfl) (by kernel_rfl) rfl hev
def E_bound_Plan_2 (g_vault_Room : A_vault_Room.I → Option R_vault_Room.I) (g_bound_Record : A_bound_Record.I → Option R_bound_Record.I) : Env := ⟨types, [(n_vault_Room, ⟨n_vault_Room, A_vault_Room, R_vault_Room, 0, g_vault_Room⟩), (n_bound_Record, ⟨n_bound_Record, A_bound_Record, R_bound_Record, 0, g_bound_Record⟩)], glob, 0⟩
theorem snd_bound_Plan_2 {G : FH} (hb : EnvOk Tryd.prog G ⟨types, [], glob, 0⟩) {g_vault_Room : A_vault_Room.I → Option R_vault_Room.I} (h_vault_Room : SndF Tryd.prog G n_vault_Room ⟨n_vault_Room, A_vault_Room, R_vault_Room, 0, g_vault_Room⟩) {g_bound_Record : A_bound_Record.I → Option R_bound_Record.I} (h_bound_Record : SndF Tryd.prog G n_bound_Record ⟨n_bound_Record, A_bound_Record, R_bound_Record, 0, g_bound_Record⟩) {spec : A_bound_Plan_2.I → Option R_bound_Plan_2.I} (hev : ∀ x y, spec x = some y → ∃ K, evF (E_bound_Plan_2 g_vault_Room g_bound_Record) K Tryd.f18 A_bound_Plan_2 R_bound_Plan_2 x = some y) : SndF Tryd.prog G n_bound_Plan_2 ⟨n_bound_Plan_2, A_bound_Plan_2, R_bound_Plan_2, 0, spec⟩ := SndF.mk (by kernel_rfl) ((hb.cons h_bound_Record).cons h_vault_Room) Tryd.func18 (by kernel_rfl) (by kernel_rfl) rfl hev
def E_ref05_Right (g_ref05_labels : A_ref05_labels.I → Option R_ref05_labels.I) (g_ref05_accounts : A_ref05_accounts.I → Option R_ref05_accounts.I) (g_ref05_guilds : A_ref05_guilds.I → Option R_ref05_guilds.I) (g_ref05_quotas : A_ref05_quotas.I → Option R_ref05_quotas.I) : Env := ⟨types, [(n_ref05_labels, ⟨n_ref05_labels, A_ref05_labels, R_ref05_labels, 0, g_ref05_labels⟩), (n_ref05_accounts, ⟨n_ref05_accounts, A_ref05_accounts, R_ref05_accounts, 0, g_ref05_accounts⟩), (n_ref05_guilds, ⟨n_ref05_guilds, A_ref05_guilds, R_ref05_guilds, 0, g_ref05_guilds⟩), (n_ref05_quotas, ⟨n_ref05_quotas, A_ref05_quotas, R_ref05_quotas, 0, g_ref05_quotas⟩)], glob, 0⟩
-- loops: [[1, 1, 0, 1, 0]]
theorem snd_ref05_Right {G : FH} (hb : EnvOk Tryd.prog G ⟨types, [], glob, 0⟩) {g_ref05_labels : A_ref05_labels.I → Option R_ref05_labels.I} (h_ref05_labels : SndF Tryd.prog G n_ref05_labels ⟨n_ref05_labels, A_ref05_labels, R_ref05_labels, 0, g_ref05_labels⟩) {g_ref05_accounts : A_ref05_accounts.I → Option R_ref05_accounts.I} (h_ref05_accounts : SndF Tryd.prog G n_ref05_accounts ⟨n_ref05_accounts, A_ref05_accounts, R_ref05_accounts, 0, g_ref05_accounts⟩) {g_ref05_guilds : A_ref05_guilds.I → Option R_ref05_guilds.I} (h_ref05_guilds : SndF Tryd.prog G n_ref05_guilds ⟨n_ref05_guilds, A_ref05_guilds, R_ref05_guilds, 0, g_ref05_guilds⟩) {g_ref05_quotas : A_ref05_quotas.I → Option R_ref05_quotas.I} (h_ref05_quotas : SndF Tryd.prog G n_ref05_quotas ⟨n_ref05_quotas, A_ref05_quotas, R_ref05_quotas, 0, g_ref05_quotas⟩) {spec : A_ref05_Right.I → Option R_ref05_Right.I} (hev : ∀ x y, spec x = some y → ∃ K, evF (E_ref05_Right g_ref05_labels g_ref05_accounts g_ref05_guilds g_ref05_quotas) K Tryd.f19 A_ref05_Right R_ref05_Right x = some y) : SndF Tryd.prog G n_ref05_Right ⟨n_ref05_Right, A_ref05_Right, R_ref05_Right, 0, spec⟩ := SndF.mk (by kernel_rfl) ((((hb.cons h_ref05_quotas).cons h_ref05_guilds).cons h_ref05_accounts).cons h_ref05_labels) Tryd.func19 (by kernel_rfl) (by kernel_rfl) rfl hev
def E_ref24_up  : Env := ⟨types, [], glob, 0⟩
theorem snd_ref24_up {G : FH} (hb : EnvOk Tryd.prog G ⟨types, [], glob, 0⟩)  {spec : A_ref24_up.I → Option R_ref24_up.I} (hev : ∀ x y, spec x = some y → ∃ K, evF (E_ref24_up ) K Tryd.f20 A_ref24_up R_ref24_up x = some y) : SndF Tryd.prog G n_ref24_up ⟨n_ref24_up, A_ref24_up, R_ref24_up, 0, spec⟩ := SndF.mk (by kernel_rfl) hb Tryd.func20 (by kernel_rfl) (by kernel_rfl) rfl hev
def E_law05_Small  : Env := ⟨types, [], glob, 0⟩
theorem snd_law05_Small {G : FH} (hb : EnvOk Tryd.prog G ⟨types, [], glob, 0⟩)  {spec : A_law05_Small.I → Option R_law05_Small.I} (hev : ∀ x y, spec x = some y → ∃ K, evF (E_law05_Small ) K Tryd.f21 A_law05_Small R_law05_Small x = some y) : SndF Tryd.prog G n_law05_Small ⟨n_law05_Small, A_law05_Small, R_law05_Small, 0, spec⟩ := SndF.mk (by kernel_rfl) hb Tryd.func21 (by kernel_rfl) (by kernel_rfl) rfl hev
def E_bound_shelf  : Env := ⟨types, [], glob, 0⟩
-- loops: [[1, 1, 0, 1, 0]]
theorem snd_bound_shelf {G : FH} (hb : EnvOk Tryd.prog G ⟨types, [], glob, 0⟩)  {spec : A_bound_shelf.I → Option R_bound_shelf.I} (hev : ∀ x y, spec x = some y → ∃ K, evF (E_bound_shelf ) K Tryd.f22 A_bound_shelf R_bound_shelf x = some y) : SndF Tryd.prog G n_bound_shelf ⟨n_bound_shelf, A_bound_shelf, R_bound_shelf, 0, spec⟩ := SndF.mk (by kernel_rfl) hb Tryd.func22 (by kernel_rfl) (by kernel_rfl) rfl hev
def E_realm_labels (g_realm_labels_1 : A_realm_labels_1.I → Option R_realm_labels_1.I) (g_realm_within : A_realm_within.I → Option R_realm_within.I) (g_slices_ContainsFunc___api_Label_api_Label_ : A_slices_ContainsFunc___api_Label_api_Label_.I → Option R_slices_ContainsFunc___api_Label_api_Label_.I) (g_label_Cmp : A_label_Cmp.I → Option R_label_Cmp.I) : Env := ⟨types, [(n_realm_labels_1, ⟨n_realm_labels_1, A_realm_labels_1, R_realm_labels_1, 0, g_realm_labels_1⟩), (n_realm_within, ⟨n_realm_within, A_realm_within, R_realm_within, 0, g_realm_within⟩), (n_slices_ContainsFunc___api_Label_api_Label_, ⟨n_slices_ContainsFunc___api_Label_api_Label_, A_slices_ContainsFunc___api_Label_api_Label_, R_slices_ContainsFunc___api_Label_api_Label_, 0, g_slices_ContainsFunc___api_Label_api_Label_⟩), (n_label_Cmp, ⟨n_label_Cmp, A_label_Cmp, R_label_Cmp, 0, g_label_Cmp⟩)], glob, 0⟩
-- loops: [[1, 1, 1, 0, 1, 0]]
theorem snd_realm_labels {G : FH} (hb : EnvOk Tryd.prog G ⟨types, [], glob, 0⟩) {g_realm_labels_1 : A_realm_labels_1.I → Option R_realm_labels_1.I} (h_realm_labels_1 : SndF Tryd.prog G n_realm_labels_1 ⟨n_realm_labels_1, A_realm_labels_1, R_realm_labels_1, 0, g_realm_labels_1⟩) {g_realm_within : A_realm_within.I → Option R_realm_within.I} (h_realm_within : SndF Tryd.prog G n_realm_within ⟨n_realm_within, A_realm_within, R_realm_within, 0, g_realm_within⟩) {g_slices_ContainsFunc___api_Label_api_Label_ : A_slices_ContainsFunc___api_Label_api_Label_.I → Option R_slices_ContainsFunc___api_Label_api_Label_.I} (h_slices_ContainsFunc___api_Label_api_Label_ : SndF Tryd.prog G n_slices_ContainsFunc___api_Label_api_Label_ ⟨n_slices_ContainsFunc___api_Label_api_Label_, A_slices_ContainsFunc___api_Label_api_Label_, R_slices_ContainsFunc___api_Label_api_Label_, 0, g_slices_ContainsFunc___api_Label_api_Label_⟩) {g_label_Cmp : A_label_Cmp.I → Option R_label_Cmp.I} (h_label_Cmp : SndF Tryd.prog G n_label_Cmp ⟨n_label_Cmp, A_label_Cmp, R_label_Cmp, 0, g_label_Cmp⟩) {spec : A_realm_labels.I → Option R_realm_labels.I} (hev : ∀ x y, spec x = some y → ∃ K, evF (E_realm_labels g_realm_labels_1 g_realm_within g_slices_ContainsFunc___api_Label_api_Label_ g_label_Cmp) K Tryd.f23 A_realm_labels R_realm_labels x = some y) : SndF Tryd.prog G n_realm_labels ⟨n_realm_labels, A_realm_labels, R_realm_labels, 0, spec⟩ := SndF.mk (by kernel_rfl) ((((hb.cons h_label_Cmp).cons h_slices_ContainsFunc___api_Label_api_Label_).cons h_realm_within).cons h_realm_labels_1) Tryd.func23 (by kernel_rfl) (by kernel_rfl) rfl hev
def E_realm_lines (g_realm_lines_1 : A_realm_lines_1.I → Option R_realm_lines_1.I) (g_realm_within : A_realm_within.I → Option R_realm_within.I) (g_slices_ContainsFunc___int_int_ : A_slices_ContainsFunc___int_int_.I → Option R_slices_ContainsFunc___int_int_.I) : Env := ⟨types, [(n_realm_lines_1, ⟨n_realm_lines_1, A_realm_lines_1, R_realm_lines_1, 0, g_realm_lines_1⟩), (n_realm_within, ⟨n_realm_within, A_realm_within, R_realm_within, 0, g_realm_within⟩), (n_slices_ContainsFunc___int_int_, ⟨n_slices_ContainsFunc___int_int_, A_slices_ContainsFunc___int_int_, R_slices_ContainsFunc___int_int_, 0, g_slices_ContainsFunc___int_int_⟩)], glob, 0⟩
theorem snd_realm_lines {G : FH} (hb : EnvOk Tryd.prog G ⟨types, [], glob, 0⟩) {g_realm_lines_1 : A_realm_lines_1.I → Option R_realm_lines_1.I} (h_realm_lines_1 : SndF Tryd.prog G n_realm_lines_1 ⟨n_realm_lines_1, A_realm_lines_1, R_realm_lines_1, 0, g_realm_lines_1⟩) {g_realm_within : A_realm_within.I → Option R_realm_within.I} (h_realm_within : SndF Tryd.prog G n_realm_within ⟨n_realm_within, A_realm_within, R_realm_within, 0, g_realm_within⟩) {g_slices_ContainsFunc___int_int_ : A_slices_ContainsFunc___int_int_.I → Option R_slices_ContainsFunc___int_int_.I} (h_slices_ContainsFunc___int_int_ : SndF Tryd.prog G n_slices_ContainsFunc___int_int_ ⟨n_slices_ContainsFunc___int_int_, A_slices_ContainsFunc___int_int_, R_slices_ContainsFunc___int_int_, 0, g_slices_ContainsFunc___int_int_⟩) {spec : A_realm_lines.I → Option R_realm_lines.I} (hev : ∀ x y, spec x = some y → ∃ K, evF (E_realm_lines g_realm_lines_1 g_realm_within g_slices_ContainsFunc___int_int_) K Tryd.f24 A_realm_lines R_realm_lines x = some y) : SndF Tryd.prog G n_realm_lines ⟨n_realm_lines, A_realm_lines, R_realm_lines, 0, spec⟩ := SndF.mk (by kernel_rfl) (((hb.cons h_slices_ContainsFunc___int_int_).cons h_realm_within).cons h_realm_lines_1) Tryd.func24 (by kernel_rfl) (by kernel_rfl) rfl hev
def E_realm_accounts (g_realm_accounts_1 : A_realm_accounts_1.I → Option R_realm_accounts_1.I) (g_realm_within : A_realm_within.I → Option R_realm_within.I) (g_slices_ContainsFunc___api_Account_api_Account_ : A_slices_ContainsFunc___api_Account_api_Account_.I → Option R_slices_ContainsFunc___api_Account_api_Account_.I) (g_realm_callNames : A_realm_callNames.I → Option R_realm_callNames.I) (g_name_Apart : A_name_Apart.I → Option R_name_Apart.I) : Env := ⟨types, [(n_realm_accounts_1, ⟨n_realm_accounts_1, A_realm_accounts_1, R_realm_accounts_1, 0, g_realm_accounts_1⟩), (n_realm_within, ⟨n_realm_within, A_realm_within, R_realm_within, 0, g_realm_within⟩), (n_slices_ContainsFunc___api_Account_api_Account_, ⟨n_slices_ContainsFunc___api_Account_api_Account_, A_slices_ContainsFunc___api_Account_api_Account_, R_slices_ContainsFunc___api_Account_api_Account_, 0, g_slices_ContainsFunc___api_Account_api_Account_⟩), (n_realm_callNames, ⟨n_realm_callNames, A_realm_callNames, R_realm_callNames, 0, g_realm_callNames⟩), (n_name_Apart, ⟨n_name_Apart, A_name_Apart, R_name_Apart, 0, g_name_Apart⟩)], glob, 0⟩
theorem snd_realm_accounts {G : FH} (hb : EnvOk Tryd.prog G ⟨types, [], glob, 0⟩) {g_realm_accounts_1 : A_realm_accounts_1.I → Option R_realm_accounts_1.I} (h_realm_accounts_1 : SndF Tryd.prog G n_realm_accounts_1 ⟨n_realm_accounts_1, A_realm_accounts_1, R_realm_accounts_1, 0, g_realm_accounts_1⟩) {g_realm_within : A_realm_within.I → Option R_realm_within.I} (h_realm_within : SndF Tryd.prog G n_realm_within ⟨n_realm_within, A_realm_within, R_realm_within, 0, g_realm_within⟩) {g_slices_ContainsFunc___api_Account_api_Account_ : A_slices_ContainsFunc___api_Account_api_Account_.I → Option R_slices_ContainsFunc___api_Account_api_Account_.I} (h_slices_ContainsFunc___api_Account_api_Account_ : SndF Tryd.prog G n_slices_ContainsFunc___api_Account_api_Account_ ⟨n_slices_ContainsFunc___api_Account_api_Account_, A_slices_ContainsFunc___api_Account_api_Account_, R_slices_ContainsFunc___api_Account_api_Account_, 0, g_slices_ContainsFunc___api_Account_api_Account_⟩) {g_realm_callNames : A_realm_callNames.I → Option R_realm_callNames.I} (h_realm_callNames : SndF Tryd.prog G n_realm_callNames ⟨n_realm_callNames, A_realm_callNames, R_realm_callNames, 0, g_realm_callNames⟩) {g_name_Apart : A_name_Apart.I → Option R_name_Apart.I} (h_name_Apart : SndF Tryd.prog G n_name_Apart ⟨n_name_Apart, A_name_Apart, R_name_Apart, 0, g_name_Apart⟩) {spec : A_realm_accounts.I → Option R_realm_accounts.I} (hev : ∀ x y, spec x = some y → ∃ K, evF (E_realm_accounts g_realm_accounts_1 g_realm_within g_slices_ContainsFunc___api_Account_api_Account_ g_realm_callNames g_name_Apart) K Tryd.f25 A_realm_accounts R_realm_accounts x = some y) : SndF Tryd.prog G n_realm_accounts ⟨n_realm_accounts, A_realm_accounts, R_realm_accounts, 0, spec⟩ := SndF.mk (by kernel_rfl) (((((hb.cons h_name_Apart).cons h_realm_callNames).cons h_slices_ContainsFunc___api_Account_api_Account_).cons h_realm_within).cons h_realm_accounts_1) Tryd.func25 (by kernel_rfl) (by kernel_rfl) rfl hev
def E_realm_guilds (g_label_Hall : A_label_Hall.I → Option R_label_Hall.I) (g_realm_within : A_realm_within.I → Option R_realm_within.I) (g_slices_Contains___api_Label_api_Label_ : A_slices_Contains___api_Label_api_Label_.I → Option R_slices_Contains___api_Label_api_Label_.I) (g_realm_guilds_1 : A_realm_guilds_1.I → Option R_realm_guilds_1.I) (g_slices_ContainsFunc___api_Label_api_Label_ : A_slices_ContainsFunc___api_Label_api_Label_.I → Option R_slices_ContainsFunc___api_Label_api_Label_.I) : Env := ⟨types, [(n_label_Hall, ⟨n_label_Hall, A_label_Hall, R_label_Hall, 0, g_label_Hall⟩), (n_realm_within, ⟨n_realm_within, A_realm_within, R_realm_within, 0, g_realm_within⟩), (n_slices_Contains___api_Label_api_Label_, ⟨n_slices_Contains___api_Label_api_Label_, A_slices_Contains___api_Label_api_Label_, R_slices_Contains___api_Label_api_Label_, 0, g_slices_Contains___api_Label_api_Label_⟩), (n_realm_guilds_1, ⟨n_realm_guilds_1, A_realm_guilds_1, R_realm_guilds_1, 0, g_realm_guilds_1⟩), (n_slices_ContainsFunc___api_Label_api_Label_, ⟨n_slices_ContainsFunc___api_Label_api_Label_, A_slices_ContainsFunc___api_Label_api_Label_, R_slices_ContainsFunc___api_Label_api_Label_, 0, g_slices_ContainsFunc___api_Label_api_Label_⟩)], glob, 0⟩
-- loops: [[1, 1, 1, 0, 1, 0]]
theorem snd_realm_guilds {G : FH} (hb : EnvOk Tryd.prog G ⟨types, [], glob, 0⟩) {g_label_Hall : A_label_Hall.I → Option R_label_Hall.I} (h_label_Hall : SndF Tryd.prog G n_label_Hall ⟨n_label_Hall, A_label_Hall, R_label_Hall, 0, g_label_Hall⟩) {g_realm_within : A_realm_within.I → Option R_realm_within.I} (h_realm_within : SndF Tryd.prog G n_realm_within ⟨n_realm_within, A_realm_within, R_realm_within, 0, g_realm_within⟩) {g_slices_Contains___api_Label_api_Label_ : A_slices_Contains___api_Label_api_Label_.I → Option R_slices_Contains___api_Label_api_Label_.I} (h_slices_Contains___api_Label_api_Label_ : SndF Tryd.prog G n_slices_Contains___api_Label_api_Label_ ⟨n_slices_Contains___api_Label_api_Label_, A_slices_Contains___api_Label_api_Label_, R_slices_Contains___api_Label_api_Label_, 0, g_slices_Contains___api_Label_api_Label_⟩) {g_realm_guilds_1 : A_realm_guilds_1.I → Option R_realm_guilds_1.I} (h_realm_guilds_1 : SndF Tryd.prog G n_realm_guilds_1 ⟨n_realm_guilds_1, A_realm_guilds_1, R_realm_guilds_1, 0, g_realm_guilds_1⟩) {g_slices_ContainsFunc___api_Label_api_Label_ : A_slices_ContainsFunc___api_Label_api_Label_.I → Option R_slices_ContainsFunc___api_Label_api_Label_.I} (h_slices_ContainsFunc___api_Label_api_Label_ : SndF Tryd.prog G n_slices_ContainsFunc___api_Label_api_Label_ ⟨n_slices_ContainsFunc___api_Label_api_Label_, A_slices_ContainsFunc___api_Label_api_Label_, R_slices_ContainsFunc___api_Label_api_Label_, 0, g_slices_ContainsFunc___api_Label_api_Label_⟩) {spec : A_realm_guilds.I → Option R_realm_guilds.I} (hev : ∀ x y, spec x = some y → ∃ K, evF (E_realm_guilds g_label_Hall g_realm_within g_slices_Contains___api_Label_api_Label_ g_realm_guilds_1 g_slices_ContainsFunc___api_Label_api_Label_) K Tryd.f26 A_realm_guilds R_realm_guilds x = some y) : SndF Tryd.prog G n_realm_guilds ⟨n_realm_guilds, A_realm_guilds, R_realm_guilds, 0, spec⟩ := SndF.mk (by kernel_rfl) (((((hb.cons h_slices_ContainsFunc___api_Label_api_Label_).cons h_realm_guilds_1).cons h_slices_Contains___api_Label_api_Label_).cons h_realm_within).cons h_label_Hall) Tryd.func26 (by kernel_rfl) (by kernel_rfl) rfl hev
def E_realm_quotas (g_realm_quotas_1 : A_realm_quotas_1.I → Option R_realm_quotas_1.I) (g_realm_numbers : A_realm_numbers.I → Option R_realm_numbers.I) (g_slices_ContainsFunc___int_int_ : A_slices_ContainsFunc___int_int_.I → Option R_slices_ContainsFunc___int_int_.I) : Env := ⟨types, [(n_realm_quotas_1, ⟨n_realm_quotas_1, A_realm_quotas_1, R_realm_quotas_1, 0, g_realm_quotas_1⟩), (n_realm_numbers, ⟨n_realm_numbers, A_realm_numbers, R_realm_numbers, 0, g_realm_numbers⟩), (n_slices_ContainsFunc___int_int_, ⟨n_slices_ContainsFunc___int_int_, A_slices_ContainsFunc___int_int_, R_slices_ContainsFunc___int_int_, 0, g_slices_ContainsFunc___int_int_⟩)], glob, 0⟩
-- loops: [[1, 1, 1, 0, 1, 0]]
theorem snd_realm_quotas {G : FH} (hb : EnvOk Tryd.prog G ⟨types, [], glob, 0⟩) {g_realm_quotas_1 : A_realm_quotas_1.I → Option R_realm_quotas_1.I} (h_realm_quotas_1 : SndF Tryd.prog G n_realm_quotas_1 ⟨n_realm_quotas_1, A_realm_quotas_1, R_realm_quotas_1, 0, g_realm_quotas_1⟩) {g_realm_numbers : A_realm_numbers.I → Option R_realm_numbers.I} (h_realm_numbers : SndF Tryd.prog G n_realm_numbers ⟨n_realm_numbers, A_realm_numbers, R_realm_numbers, 0, g_realm_numbers⟩) {g_slices_ContainsFunc___int_int_ : A_slices_ContainsFunc___int_int_.I → Option R_slices_ContainsFunc___int_int_.I} (h_slices_ContainsFunc___int_int_ : SndF Tryd.prog G n_slices_ContainsFunc___int_int_ ⟨n_slices_ContainsFunc___int_int_, A_slices_ContainsFunc___int_int_, R_slices_ContainsFunc___int_int_, 0, g_slices_ContainsFunc___int_int_⟩) {spec : A_realm_quotas.I → Option R_realm_quotas.I} (hev : ∀ x y, spec x = some y → ∃ K, evF (E_realm_quotas g_realm_quotas_1 g_realm_numbers g_slices_ContainsFunc___int_int_) K Tryd.f27 A_realm_quotas R_realm_quotas x = some y) : SndF Tryd.prog G n_realm_quotas ⟨n_realm_quotas, A_realm_quotas, R_realm_quotas, 0, spec⟩ := SndF.mk (by kernel_rfl) (((hb.cons h_slices_ContainsFunc___int_int_).cons h_realm_numbers).cons h_realm_quotas_1) Tryd.func27 (by kernel_rfl) (by kernel_rfl) rfl hev
def E_realm_rest (g_realm_within : A_realm_within.I → Option R_realm_within.I) : Env := ⟨types, [(n_realm_within, ⟨n_realm_within, A_realm_within, R_realm_within, 0, g_realm_within⟩)], glob, 0⟩
theorem snd_realm_rest {G : FH} (hb : EnvOk Tryd.prog G ⟨types, [], glob, 0⟩) {g_realm_within : A_realm_within.I → Option R_realm_within.I} (h_realm_within : SndF Tryd.prog G n_realm_within ⟨n_realm_within, A_realm_within, R_realm_within, 0, g_realm_within⟩) {spec : A_realm_rest.I → Option R_realm_rest.I} (hev : ∀ x y, spec x = some y → ∃ K, evF (E_realm_rest g_realm_within) K Tryd.f28 A_realm_rest R_realm_rest x = some y) : SndF Tryd.prog G n_realm_rest ⟨n_realm_rest, A_realm_rest, R_realm_rest, 0, spec⟩ := SndF.mk (by kernel_rfl) (hb.cons h_realm_within) Tryd.func28 (by kernel_rfl) (by kernel_rfl) rfl hev
def E_vault_may  : Env := ⟨types, [], glob, 0⟩
theorem snd_vault_may {G : FH} (hb : EnvOk Tryd.prog G ⟨types, [], glob, 0⟩)  {spec : A_vault_may.I → Option R_vault_may.I} (hev : ∀ x y, spec x = some y → ∃ K, evF (E_vault_may ) K Tryd.f29 A_vault_may R_vault_may x = some y) : SndF Tryd.prog G n_vault_may ⟨n_vault_may, A_vault_may, R_vault_may, 0, spec⟩ := SndF.mk (by kernel_rfl) hb Tryd.func29 (by kernel_rfl) (by kernel_rfl) rfl hev
def E_area_Room  : Env := ⟨types, [], glob, 0⟩
theorem snd_area_Room {G : FH} (hb : EnvOk Tryd.prog G ⟨types, [], glob, 0⟩)  {spec : A_area_Room.I → Option R_area_Room.I} (hev : ∀ x y, spec x = some y → ∃ K, evF (E_area_Room ) K Tryd.f30 A_area_Room R_area_Room x = some y) : SndF Tryd.prog G n_area_Room ⟨n_area_Room, A_area_Room, R_area_Room, 0, spec⟩ := SndF.mk (by kernel_rfl) hb Tryd.func30 (by kernel_rfl) (by kernel_rfl) rfl hev
def E_ref05_labels (g_ref01_Right : A_ref01_Right.I → Option R_ref01_Right.I) (g_ref01_Cmp : A_ref01_Cmp.I → Option R_ref01_Cmp.I) : Env := ⟨types, [(n_ref01_Right, ⟨n_ref01_Right, A_ref01_Right, R_ref01_Right, 0, g_ref01_Right⟩), (n_ref01_Cmp, ⟨n_ref01_Cmp, A_ref01_Cmp, R_ref01_Cmp, 0, g_ref01_Cmp⟩)], glob, 0⟩
-- loops: [[1, 1, 0, 1, 0]]
theorem snd_ref05_labels {G : FH} (hb : EnvOk Tryd.prog G ⟨types, [], glob, 0⟩) {g_ref01_Right : A_ref01_Right.I → Option R_ref01_Right.I} (h_ref01_Right : SndF Tryd.prog G n_ref01_Right ⟨n_ref01_Right, A_ref01_Right, R_ref01_Right, 0, g_ref01_Right⟩) {g_ref01_Cmp : A_ref01_Cmp.I → Option R_ref01_Cmp.I} (h_ref01_Cmp : SndF Tryd.prog G n_ref01_Cmp ⟨n_ref01_Cmp, A_ref01_Cmp, R_ref01_Cmp, 0, g_ref01_Cmp⟩) {spec : A_ref05_labels.I → Option R_ref05_labels.I} (hev : ∀ x y, spec x = some y → ∃ K, evF (E_ref05_labels g_ref01_Right g_ref01_Cmp) K Tryd.f31 A_ref05_labels R_ref05_labels x = some y) : SndF Tryd.prog G n_ref05_labels ⟨n_ref05_labels, A_ref05_labels, R_ref05_labels, 0, spec⟩ := SndF.mk (by kernel_rfl) ((hb.cons h_ref01_Cmp).cons h_ref01_Right) Tryd.func31 (by kernel_rfl) (by kernel_rfl) rfl hev
def E_ref05_accounts (g_ref03_Right : A_ref03_Right.I → Option R_ref03_Right.I) : Env := ⟨types, [(n_ref03_Right, ⟨n_ref03_Right, A_ref03_Right, R_ref03_Right, 0, g_ref03_Right⟩)], glob, 0⟩
-- loops: [[1, 1, 0, 1, 0], [1, 1, 0, 1, 0, 0, 1, 0, 0, 1, 1, 0]]
theorem snd_ref05_accounts {G : FH} (hb : EnvOk Tryd.prog G ⟨types, [], glob, 0⟩) {g_ref03_Right : A_ref03_Right.I → Option R_ref03_Right.I} (h_ref03_Right : SndF Tryd.prog G n_ref03_Right ⟨n_ref03_Right, A_ref03_Right, R_ref03_Right, 0, g_ref03_Right⟩) {spec : A_ref05_accounts.I → Option R_ref05_accounts.I} (hev : ∀ x y, spec x = some y → ∃ K, evF (E_ref05_accounts g_ref03_Right) K Tryd.f32 A_ref05_accounts R_ref05_accounts x = some y) : SndF Tryd.prog G n_ref05_accounts ⟨n_ref05_accounts, A_ref05_accounts, R_ref05_accounts, 0, spec⟩ := SndF.mk (by kernel_rfl) (hb.cons h_ref03_Right) Tryd.func32 (by kernel_rfl) (by kernel_rfl) rfl hev
def E_ref05_guilds (g_ref05_hall : A_ref05_hall.I → Option R_ref05_hall.I) (g_ref05_place : A_ref05_place.I → Option R_ref05_place.I) (g_ref01_Has : A_ref01_Has.I → Option R_ref01_Has.I) (g_ref05_has : A_ref05_has.I → Option R_ref05_has.I) : Env := ⟨types, [(n_ref05_hall, ⟨n_ref05_hall, A_ref05_hall, R_ref05_hall, 0, g_ref05_hall⟩), (n_ref05_place, ⟨n_ref05_place, A_ref05_place, R_ref05_place, 0, g_ref05_place⟩), (n_ref01_Has, ⟨n_ref01_Has, A_ref01_Has, R_ref01_Has, 0, g_ref01_Has⟩), (n_ref05_has, ⟨n_ref05_has, A_ref05_has, R_ref05_has, 0, g_ref05_has⟩)], glob, 0⟩
-- loops: [[1, 1, 0, 1, 0], [1, 1, 1, 0, 1, 0], [1, 1, 1, 0, 1, 0, 0, 1, 0, 0, 1, 0]]
theorem snd_ref05_guilds {G : FH} (hb : EnvOk Tryd.prog G ⟨types, [], glob, 0⟩) {g_ref05_hall : A_ref05_hall.I → Option R_ref05_hall.I} (h_ref05_hall : SndF Tryd.prog G n_ref05_hall ⟨n_ref05_hall, A_ref05_hall, R_ref05_hall, 0, g_ref05_hall⟩) {g_ref05_place : A_ref05_place.I → Option R_ref05_place.I} (h_ref05_place : SndF Tryd.prog G n_ref05_place ⟨n_ref05_place, A_ref05_place, R_ref05_place, 0, g_ref05_place⟩) {g_ref01_Has : A_ref01_Has.I → Option R_ref01_Has.I} (h_ref01_Has : SndF Tryd.prog G n_ref01_Has ⟨n_ref01_Has, A_ref01_Has, R_ref01_Has, 0, g_ref01_Has⟩) {g_ref05_has : A_ref05_has.I → Option R_ref05_has.I} (h_ref05_has : SndF Tryd.prog G n_ref05_has ⟨n_ref05_has, A_ref05_has, R_ref05_has, 0, g_ref05_has⟩) {spec : A_ref05_guilds.I → Option R_ref05_guilds.I} (hev : ∀ x y, spec x = some y → ∃ K, evF (E_ref05_guilds g_ref05_hall g_ref05_place g_ref01_Has g_ref05_has) K Tryd.f33 A_ref05_guilds R_ref05_guilds x = some y) : SndF Tryd.prog G n_ref05_guilds ⟨n_ref05_guilds, A_ref05_guilds, R_ref05_guilds, 0, spec⟩ := SndF.mk (by kernel_rfl) ((((hb.cons h_ref05_has).cons h_ref01_Has).cons h_ref05_place).cons h_ref05_hall) Tryd.func33 (by kernel_rfl) (by kernel_rfl) rfl hev
def E_ref05_quotas (g_ref05_slots : A_ref05_slots.I → Option R_ref05_slots.I) : Env := ⟨types, [(n_ref05_slots, ⟨n_ref05_slots, A_ref05_slots, R_ref05_slots, 0, g_ref05_slots⟩)], glob, 0⟩
-- loops: [[1, 1, 0, 1, 0]]
theorem snd_ref05_quotas {G : FH} (hb : EnvOk Tryd.prog G ⟨types, [], glob, 0⟩) {g_ref05_slots : A_ref05_slots.I → Option R_ref05_slots.I} (h_ref05_slots : SndF Tryd.prog G n_ref05_slots ⟨n_ref05_slots, A_ref05_slots, R_ref05_slots, 0, g_ref05_slots⟩) {spec : A_ref05_quotas.I → Option R_ref05_quotas.I} (hev : ∀ x y, spec x = some y → ∃ K, evF (E_ref05_quotas g_ref05_slots) K Tryd.f34 A_ref05_quotas R_ref05_quotas x = some y) : SndF Tryd.prog G n_ref05_quotas ⟨n_ref05_quotas, A_ref05_quotas, R_ref05_quotas, 0, spec⟩ := SndF.mk (by kernel_rfl) (hb.cons h_ref05_slots) Tryd.func34 (by kernel_rfl) (by kernel_rfl) rfl hev
def E_realm_labels_1 (g_label_Right : A_label_Right.I → Option R_label_Right.I) : Env := ⟨types, [(n_label_Right, ⟨n_label_Right, A_label_Right, R_label_Right, 0, g_label_Right⟩)], glob, 0⟩
theorem snd_realm_labels_1 {G : FH} (hb : EnvOk Tryd.prog G ⟨types, [], glob, 0⟩) {g_label_Right : A_label_Right.I → Option R_label_Right.I} (h_label_Right : SndF Tryd.prog G n_label_Right ⟨n_label_Right, A_label_Right, R_label_Right, 0, g_label_Right⟩) {spec : A_realm_labels_1.I → Option R_realm_labels_1.I} (hev : ∀ x y, spec x = some y → ∃ K, evF (E_realm_labels_1 g_label_Right) K Tryd.f35 A_realm_labels_1 R_realm_labels_1 x = some y) : SndF Tryd.prog G n_realm_labels_1 ⟨n_realm_labels_1, A_realm_labels_1, R_realm_labels_1, 0, spec⟩ := SndF.mk (by kernel_rfl) (hb.cons h_label_Right) Tryd.func35 (by kernel_rfl) (by kernel_rfl) rfl hev
def E_label_Right  : Env := ⟨types, [], glob, 0⟩
theorem snd_label_Right {G : FH} (hb : EnvOk Tryd.prog G ⟨types, [], glob, 0⟩)  {spec : A_label_Right.I → Option R_label_Right.I} (hev : ∀ x y, spec x = some y → ∃ K, evF (E_label_Right ) K Tryd.f36 A_label_Right R_label_Right x = some y) : SndF Tryd.prog G n_label_Right ⟨n_label_Right, A_label_Right, R_label_Right, 0, spec⟩ := SndF.mk (by kernel_rfl) hb Tryd.func36 (by kernel_rfl) (by kernel_rfl) rfl hev
def E_realm_within  : Env := ⟨types, [], glob, 0⟩
theorem snd_realm_within {G : FH} (hb : EnvOk Tryd.prog G ⟨types, [], glob, 0⟩)  {spec : A_realm_within.I → Option R_realm_within.I} (hev : ∀ x y, spec x = some y → ∃ K, evF (E_realm_within ) K Tryd.f37 A_realm_within R_realm_within x = some y) : SndF Tryd.prog G n_realm_within ⟨n_realm_within, A_realm_within, R_realm_within, 0, spec⟩ := SndF.mk (by kernel_rfl) hb Tryd.func37 (by kernel_rfl) (by kernel_rfl) rfl hev
def E_slices_ContainsFunc___api_Label_api_Label_ (g_slices_IndexFunc___api_Label_api_Label_ : A_slices_IndexFunc___api_Label_api_Label_.I → Option R_slices_IndexFunc___api_Label_api_Label_.I) : Env := ⟨types, [(n_slices_IndexFunc___api_Label_api_Label_, ⟨n_slices_IndexFunc___api_Label_api_Label_, A_slices_IndexFunc___api_Label_api_Label_, R_slices_IndexFunc___api_Label_api_Label_, 0, g_slices_IndexFunc___api_Label_api_Label_⟩)], glob, 0⟩
theorem snd_slices_ContainsFunc___api_Label_api_Label_ {G : FH} (hb : EnvOk Tryd.prog G ⟨types, [], glob, 0⟩) {g_slices_IndexFunc___api_Label_api_Label_ : A_slices_IndexFunc___api_Label_api_Label_.I → Option R_slices_IndexFunc___api_Label_api_Label_.I} (h_slices_IndexFunc___api_Label_api_Label_ : SndF Tryd.prog G n_slices_IndexFunc___api_Label_api_Label_ ⟨n_slices_IndexFunc___api_Label_api_Label_, A_slices_IndexFunc___api_Label_api_Label_, R_slices_IndexFunc___api_Label_api_Label_, 0, g_slices_IndexFunc___api_Label_api_Label_⟩) {spec : A_slices_ContainsFunc___api_Label_api_Label_.I → Option R_slices_ContainsFunc___api_Label_api_Label_.I} (hev : ∀ x y, spec x = some y → ∃ K, evF (E_slices_ContainsFunc___api_Label_api_Label_ g_slices_IndexFunc___api_Label_api_Label_) K Tryd.f38 A_slices_ContainsFunc___api_Label_api_Label_ R_slices_ContainsFunc___api_Label_api_Label_ x = some y) : SndF Tryd.prog G n_slices_ContainsFunc___api_Label_api_Label_ ⟨n_slices_ContainsFunc___api_Label_api_Label_, A_slices_ContainsFunc___api_Label_api_Label_, R_slices_ContainsFunc___api_Label_api_Label_, 0, spec⟩ := SndF.mk (by kernel_rfl) (hb.cons h_slices_IndexFunc___api_Label_api_Label_) Tryd.func38 (by kernel_rfl) (by kernel_rfl) rfl hev
def E_label_Cmp (g_cmp_Compare_int_ : A_cmp_Compare_int_.I → Option R_cmp_Compare_int_.I) (g_cmp_Compare_uint64_ : A_cmp_Compare_uint64_.I → Option R_cmp_Compare_uint64_.I) (g_cmp_Or_int_ : A_cmp_Or_int_.I → Option R_cmp_Or_int_.I) : Env := ⟨types, [(n_cmp_Compare_int_, ⟨n_cmp_Compare_int_, A_cmp_Compare_int_, R_cmp_Compare_int_, 0, g_cmp_Compare_int_⟩), (n_cmp_Compare_uint64_, ⟨n_cmp_Compare_uint64_, A_cmp_Compare_uint64_, R_cmp_Compare_uint64_, 0, g_cmp_Compare_uint64_⟩), (n_cmp_Or_int_, ⟨n_cmp_Or_int_, A_cmp_Or_int_, R_cmp_Or_int_, 0, g_cmp_Or_int_⟩)], glob, 0⟩
theorem snd_label_Cmp {G : FH} (hb : EnvOk Tryd.prog G ⟨types, [], glob, 0⟩) {g_cmp_Compare_int_ : A_cmp_Compare_int_.I → Option R_cmp_Compare_int_.I} (h_cmp_Compare_int_ : SndF Tryd.prog G n_cmp_Compare_int_ ⟨n_cmp_Compare_int_, A_cmp_Compare_int_, R_cmp_Compare_int_, 0, g_cmp_Compare_int_⟩) {g_cmp_Compare_uint64_ : A_cmp_Compare_uint64_.I → Option R_cmp_Compare_uint64_.I} (h_cmp_Compare_uint64_ : SndF Tryd.prog G n_cmp_Compare_uint64_ ⟨n_cmp_Compare_uint64_, A_cmp_Compare_uint64_, R_cmp_Compare_uint64_, 0, g_cmp_Compare_uint64_⟩) {g_cmp_Or_int_ : A_cmp_Or_int_.I → Option R_cmp_Or_int_.I} (h_cmp_Or_int_ : SndF Tryd.prog G n_cmp_Or_int_ ⟨n_cmp_Or_int_, A_cmp_Or_int_, R_cmp_Or_int_, 0, g_cmp_Or_int_⟩) {spec : A_label_Cmp.I → Option R_label_Cmp.I} (hev : ∀ x y, spec x = some y → ∃ K, evF (E_label_Cmp g_cmp_Compare_int_ g_cmp_Compare_uint64_ g_cmp_Or_int_) K Tryd.f39 A_label_Cmp R_label_Cmp x = some y) : SndF Tryd.prog G n_label_Cmp ⟨n_label_Cmp, A_label_Cmp, R_label_Cmp, 0, spec⟩ := SndF.mk (by kernel_rfl) (((hb.cons h_cmp_Or_int_).cons h_cmp_Compare_uint64_).cons h_cmp_Compare_int_) Tryd.func39 (by kernel_rfl) (by kernel_rfl) rfl hev
def E_realm_lines_1 (g_realm_within : A_realm_within.I → Option R_realm_within.I) : Env := ⟨types, [(n_realm_within, ⟨n_realm_within, A_realm_within, R_realm_within, 0, g_realm_within⟩)], glob, 0⟩
theorem snd_realm_lines_1 {G : FH} (hb : EnvOk Tryd.prog G ⟨types, [], glob, 0⟩) {g_realm_within : A_realm_within.I → Option R_realm_within.I} (h_realm_within : SndF Tryd.prog G n_realm_within ⟨n_realm_within, A_realm_within, R_realm_within, 0, g_realm_within⟩) {spec : A_realm_lines_1.I → Option R_realm_lines_1.I} (hev : ∀ x y, spec x = some y → ∃ K, evF (E_realm_lines_1 g_realm_within) K Tryd.f40 A_realm_lines_1 R_realm_lines_1 x = some y) : SndF Tryd.prog G n_realm_lines_1 ⟨n_realm_lines_1, A_realm_lines_1, R_realm_lines_1, 0, spec⟩ := SndF.mk (by kernel_rfl) (hb.cons h_realm_within) Tryd.func40 (by kernel_rfl) (by kernel_rfl) rfl hev
def E_slices_ContainsFunc___int_int_ (g_slices_IndexFunc___int_int_ : A_slices_IndexFunc___int_int_.I → Option R_slices_IndexFunc___int_int_.I) : Env := ⟨types, [(n_slices_IndexFunc___int_int_, ⟨n_slices_IndexFunc___int_int_, A_slices_IndexFunc___int_int_, R_slices_IndexFunc___int_int_, 0, g_slices_IndexFunc___int_int_⟩)], glob, 0⟩
theorem snd_slices_ContainsFunc___int_int_ {G : FH} (hb : EnvOk Tryd.prog G ⟨types, [], glob, 0⟩) {g_slices_IndexFunc___int_int_ : A_slices_IndexFunc___int_int_.I → Option R_slices_IndexFunc___int_int_.I} (h_slices_IndexFunc___int_int_ : SndF Tryd.prog G n_slices_IndexFunc___int_int_ ⟨n_slices_IndexFunc___int_int_, A_slices_IndexFunc___int_int_, R_slices_IndexFunc___int_int_, 0, g_slices_IndexFunc___int_int_⟩) {spec : A_slices_ContainsFunc___int_int_.I → Option R_slices_ContainsFunc___int_int_.I} (hev : ∀ x y, spec x = some y → ∃ K, evF (E_slices_ContainsFunc___int_int_ g_slices_IndexFunc___int_int_) K Tryd.f41 A_slices_ContainsFunc___int_int_ R_slices_ContainsFunc___int_int_ x = some y) : SndF Tryd.prog G n_slices_ContainsFunc___int_int_ ⟨n_slices_ContainsFunc___int_int_, A_slices_ContainsFunc___int_int_, R_slices_ContainsFunc___int_int_, 0, spec⟩ := SndF.mk (by kernel_rfl) (hb.cons h_slices_IndexFunc___int_int_) Tryd.func41 (by kernel_rfl) (by kernel_rfl) rfl hev
def E_realm_accounts_1 (g_name_Right : A_name_Right.I → Option R_name_Right.I) (g_realm_within : A_realm_within.I → Option R_realm_within.I) : Env := ⟨types, [(n_name_Right, ⟨n_name_Right, A_name_Right, R_name_Right, 0, g_name_Right⟩), (n_realm_within, ⟨n_realm_within, A_realm_within, R_realm_within, 0, g_realm_within⟩)], glob, 0⟩
theorem snd_realm_accounts_1 {G : FH} (hb : EnvOk Tryd.prog G ⟨types, [], glob, 0⟩) {g_name_Right : A_name_Right.I → Option R_name_Right.I} (h_name_Right : SndF Tryd.prog G n_name_Right ⟨n_name_Right, A_name_Right, R_name_Right, 0, g_name_Right⟩) {g_realm_within : A_realm_within.I → Option R_realm_within.I} (h_realm_within : SndF Tryd.prog G n_realm_within ⟨n_realm_within, A_realm_within, R_realm_within, 0, g_realm_within⟩) {spec : A_realm_accounts_1.I → Option R_realm_accounts_1.I} (hev : ∀ x y, spec x = some y → ∃ K, evF (E_realm_accounts_1 g_name_Right g_realm_within) K Tryd.f42 A_realm_accounts_1 R_realm_accounts_1 x = some y) : SndF Tryd.prog G n_realm_accounts_1 ⟨n_realm_accounts_1, A_realm_accounts_1, R_realm_accounts_1, 0, spec⟩ := SndF.mk (by kernel_rfl) ((hb.cons h_realm_within).cons h_name_Right) Tryd.func42 (by kernel_rfl) (by kernel_rfl) rfl hev
def E_name_Right (g_name_small : A_name_small.I → Option R_name_small.I) (g_name_all : A_name_all.I → Option R_name_all.I) (g_name_Right_1 : A_name_Right_1.I → Option R_name_Right_1.I) : Env := ⟨types, [(n_name_small, ⟨n_name_small, A_name_small, R_name_small, 0, g_name_small⟩), (n_name_all, ⟨n_name_all, A_name_all, R_name_all, 0, g_name_all⟩), (n_name_Right_1, ⟨n_name_Right_1, A_name_Right_1, R_name_Right_1, 0, g_name_Right_1⟩)], glob, 0⟩
theorem snd_name_Right {G : FH} (hb : EnvOk Tryd.prog G ⟨types, [], glob, 0⟩) {g_name_small : A_name_small.I → Option R_name_small.I} (h_name_small : SndF Tryd.prog G n_name_small ⟨n_name_small, A_name_small, R_name_small, 0, g_name_small⟩) {g_name_all : A_name_all.I → Option R_name_all.I} (h_name_all : SndF Tryd.prog G n_name_all ⟨n_name_all, A_name_all, R_name_all, 0, g_name_all⟩) {g_name_Right_1 : A_name_Right_1.I → Option R_name_Right_1.I} (h_name_Right_1 : SndF Tryd.prog G n_name_Right_1 ⟨n_name_Right_1, A_name_Right_1, R_name_Right_1, 0, g_name_Right_1⟩) {spec : A_name_Right.I → Option R_name_Right.I} (hev : ∀ x y, spec x = some y → ∃ K, evF (E_name_Right g_name_small g_name_all g_name_Right_1) K Tryd.f43 A_name_Right R_name_Right x = some y) : SndF Tryd.prog G n_name_Right ⟨n_name_Right, A_name_Right, R_name_Right, 0, spec⟩ := SndF.mk (by kernel_rfl) (((hb.cons h_name_Right_1).cons h_name_all).cons h_name_small) Tryd.func43 (by kernel_rfl) (by kernel_rfl) rfl hev
def E_slices_ContainsFunc___api_Account_api_Account_ (g_slices_IndexFunc___api_Account_api_Account_ : A_slices_IndexFunc___api_Account_api_Account_.I → Option R_slices_IndexFunc___api_Account_api_Account_.I) : Env := ⟨types, [(n_slices_IndexFunc___api_Account_api_Account_, ⟨n_slices_IndexFunc___api_Account_api_Account_, A_slices_IndexFunc___api_Account_api_Account_, R_slices_IndexFunc___api_Account_api_Account_, 0, g_slices_IndexFunc___api_Account_api_Account_⟩)], glob, 0⟩
theorem snd_slices_ContainsFunc___api_Account_api_Account_ {G : FH} (hb : EnvOk Tryd.prog G ⟨types, [], glob, 0⟩) {g_slices_IndexFunc___api_Account_api_Account_ : A_slices_IndexFunc___api_Account_api_Account_.I → Option R_slices_IndexFunc___api_Account_api_Account_.I} (h_slices_IndexFunc___api_Account_api_Account_ : SndF Tryd.prog G n_slices_IndexFunc___api_Account_api_Account_ ⟨n_slices_IndexFunc___api_Account_api_Account_, A_slices_IndexFunc___api_Account_api_Account_, R_slices_IndexFunc___api_Account_api_Account_, 0, g_slices_IndexFunc___api_Account_api_Account_⟩) {spec : A_slices_ContainsFunc___api_Account_api_Account_.I → Option R_slices_ContainsFunc___api_Account_api_Account_.I} (hev : ∀ x y, spec x = some y → ∃ K, evF (E_slices_ContainsFunc___api_Account_api_Account_ g_slices_IndexFunc___api_Account_api_Account_) K Tryd.f44 A_slices_ContainsFunc___api_Account_api_Account_ R_slices_ContainsFunc___api_Account_api_Account_ x = some y) : SndF Tryd.prog G n_slices_ContainsFunc___api_Account_api_Account_ ⟨n_slices_ContainsFunc___api_Account_api_Account_, A_slices_ContainsFunc___api_Account_api_Account_, R_slices_ContainsFunc___api_Account_api_Account_, 0, spec⟩ := SndF.mk (by kernel_rfl) (hb.cons h_slices_IndexFunc___api_Account_api_Account_) Tryd.func44 (by kernel_rfl) (by kernel_rfl) rfl hev
def E_name_Apart  : Env := ⟨types, [], glob, 0⟩
-- loops: [[1, 1, 0, 1, 0]]
theorem snd_name_Apart {G : FH} (hb : EnvOk Tryd.prog G ⟨types, [], glob, 0⟩)  {spec : A_name_Apart.I → Option R_name_Apart.I} (hev : ∀ x y, spec x = some y → ∃ K, evF (E_name_Apart ) K Tryd.f45 A_name_Apart R_name_Apart x = some y) : SndF Tryd.prog G n_name_Apart ⟨n_name_Apart, A_name_Apart, R_name_Apart, 0, spec⟩ := SndF.mk (by kernel_rfl) hb Tryd.func45 (by kernel_rfl) (by kernel_rfl) rfl hev
def E_realm_callNames  : Env := ⟨types, [], glob, 0⟩
-- loops: [[1, 1, 0, 1, 0]]
theorem snd_realm_callNames {G : FH} (hb : EnvOk Tryd.prog G ⟨types, [], glob, 0⟩)  {spec : A_realm_callNames.I → Option R_realm_callNames.I} (hev : ∀ x y, spec x = some y → ∃ K, evF (E_realm_callNames ) K Tryd.f46 A_realm_callNames R_realm_callNames x = some y) : SndF Tryd.prog G n_realm_callNames ⟨n_realm_callNames, A_realm_callNames, R_realm_callNames, 0, spec⟩ := SndF.mk (by kernel_rfl) hb Tryd.func46 (by kernel_rfl) (by kernel_rfl) rfl hev
def E_label_Hall  : Env := ⟨types, [], glob, 0⟩
theorem snd_label_Hall {G : FH} (hb : EnvOk Tryd.prog G ⟨types, [], glob, 0⟩)  {spec : A_label_Hall.I → Option R_label_Hall.I} (hev : ∀ x y, spec x = some y → ∃ K, evF (E_label_Hall ) K Tryd.f47 A_label_Hall R_label_Hall x = some y) : SndF Tryd.prog G n_label_Hall ⟨n_label_Hall, A_label_Hall, R_label_Hall, 0, spec⟩ := SndF.mk (by kernel_rfl) hb Tryd.func47 (by kernel_rfl) (by kernel_rfl) rfl hev
def E_slices_Contains___api_Label_api_Label_ (g_slices_Index___api_Label_api_Label_ : A_slices_Index___api_Label_api_Label_.I → Option R_slices_Index___api_Label_api_Label_.I) : Env := ⟨types, [(n_slices_Index___api_Label_api_Label_, ⟨n_slices_Index___api_Label_api_Label_, A_slices_Index___api_Label_api_Label_, R_slices_Index___api_Label_api_Label_, 0, g_slices_Index___api_Label_api_Label_⟩)], glob, 0⟩
theorem snd_slices_Contains___api_Label_api_Label_ {G : FH} (hb : EnvOk Tryd.prog G ⟨types, [], glob, 0⟩) {g_slices_Index___api_Label_api_Label_ : A_slices_Index___api_Label_api_Label_.I → Option R_slices_Index___api_Label_api_Label_.I} (h_slices_Index___api_Label_api_Label_ : SndF Tryd.prog G n_slices_Index___api_Label_api_Label_ ⟨n_slices_Index___api_Label_api_Label_, A_slices_Index___api_Label_api_Label_, R_slices_Index___api_Label_api_Label_, 0, g_slices_Index___api_Label_api_Label_⟩) {spec : A_slices_Contains___api_Label_api_Label_.I → Option R_slices_Contains___api_Label_api_Label_.I} (hev : ∀ x y, spec x = some y → ∃ K, evF (E_slices_Contains___api_Label_api_Label_ g_slices_Index___api_Label_api_Label_) K Tryd.f48 A_slices_Contains___api_Label_api_Label_ R_slices_Contains___api_Label_api_Label_ x = some y) : SndF Tryd.prog G n_slices_Contains___api_Label_api_Label_ ⟨n_slices_Contains___api_Label_api_Label_, A_slices_Contains___api_Label_api_Label_, R_slices_Contains___api_Label_api_Label_, 0, spec⟩ := SndF.mk (by kernel_rfl) (hb.cons h_slices_Index___api_Label_api_Label_) Tryd.func48 (by kernel_rfl) (by kernel_rfl) rfl hev
def E_realm_guilds_1  : Env := ⟨types, [], glob, 0⟩
theorem snd_realm_guilds_1 {G : FH} (hb : EnvOk Tryd.prog G ⟨types, [], glob, 0⟩)  {spec : A_realm_guilds_1.I → Option R_realm_guilds_1.I} (hev : ∀ x y, spec x = some y → ∃ K, evF (E_realm_guilds_1 ) K Tryd.f49 A_realm_guilds_1 R_realm_guilds_1 x = some y) : SndF Tryd.prog G n_realm_guilds_1 ⟨n_realm_guilds_1, A_realm_guilds_1, R_realm_guilds_1, 0, spec⟩ := SndF.mk (by kernel_rfl) hb Tryd.func49 (by kernel_rfl) (by kernel_rfl) rfl hev
def E_realm_quotas_1 (g_realm_within : A_realm_within.I → Option R_realm_within.I) : Env := ⟨types, [(n_realm_within, ⟨n_realm_within, A_realm_within, R_realm_within, 0, g_realm_within⟩)], glob, 0⟩
theorem snd_realm_quotas_1 {G : FH} (hb : EnvOk Tryd.prog G ⟨types, [], glob, 0⟩) {g_realm_within : A_realm_within.I → Option R_realm_within.I} (h_realm_within : SndF Tryd.prog G n_realm_within ⟨n_realm_within, A_realm_within, R_realm_within, 0, g_realm_within⟩) {spec : A_realm_quotas_1.I → Option R_realm_quotas_1.I} (hev : ∀ x y, spec x = some y → ∃ K, evF (E_realm_quotas_1 g_realm_within) K Tryd.f50 A_realm_quotas_1 R_realm_quotas_1 x = some y) : SndF Tryd.prog G n_realm_quotas_1 ⟨n_realm_quotas_1, A_realm_quotas_1, R_realm_quotas_1, 0, spec⟩ := SndF.mk (by kernel_rfl) (hb.cons h_realm_within) Tryd.func50 (by kernel_rfl) (by kernel_rfl) rfl hev
def E_realm_numbers  : Env := ⟨types, [], glob, 0⟩
theorem snd_realm_numbers {G : FH} (hb : EnvOk Tryd.prog G ⟨types, [], glob, 0⟩)  {spec : A_realm_numbers.I → Option R_realm_numbers.I} (hev : ∀ x y, spec x = some y → ∃ K, evF (E_realm_numbers ) K Tryd.f51 A_realm_numbers R_realm_numbers x = some y) : SndF Tryd.prog G n_realm_numbers ⟨n_realm_numbers, A_realm_numbers, R_realm_numbers, 0, spec⟩ := SndF.mk (by kernel_rfl) hb Tryd.func51 (by kernel_rfl) (by kernel_rfl) rfl hev
def E_ref01_Right  : Env := ⟨types, [], glob, 0⟩
theorem snd_ref01_Right {G : FH} (hb : EnvOk Tryd.prog G ⟨types, [], glob, 0⟩)  {spec : A_ref01_Right.I → Option R_ref01_Right.I} (hev : ∀ x y, spec x = some y → ∃ K, evF (E_ref01_Right ) K Tryd.f52 A_ref01_Right R_ref01_Right x = some y) : SndF Tryd.prog G n_ref01_Right ⟨n_ref01_Right, A_ref01_Right, R_ref01_Right, 0, spec⟩ := SndF.mk (by kernel_rfl) hb Tryd.func52 (by kernel_rfl) (by kernel_rfl) rfl hev
def E_ref01_Cmp  : Env := ⟨types, [], glob, 0⟩
theorem snd_ref01_Cmp {G : FH} (hb : EnvOk Tryd.prog G ⟨types, [], glob, 0⟩)  {spec : A_ref01_Cmp.I → Option R_ref01_Cmp.I} (hev : ∀ x y, spec x = some y → ∃ K, evF (E_ref01_Cmp ) K Tryd.f53 A_ref01_Cmp R_ref01_Cmp x = some y) : SndF Tryd.prog G n_ref01_Cmp ⟨n_ref01_Cmp, A_ref01_Cmp, R_ref01_Cmp, 0, spec⟩ := SndF.mk (by kernel_rfl) hb Tryd.func53 (by kernel_rfl) (by kernel_rfl) rfl hev
def E_ref03_Right  : Env := ⟨types, [], glob, 0⟩
-- loops: [[1, 1, 0, 1, 0]]
theorem snd_ref03_Right {G : FH} (hb : EnvOk Tryd.prog G ⟨types, [], glob, 0⟩)  {spec : A_ref03_Right.I → Option R_ref03_Right.I} (hev : ∀ x y, spec x = some y → ∃ K, evF (E_ref03_Right ) K Tryd.f54 A_ref03_Right R_ref03_Right x = some y) : SndF Tryd.prog G n_ref03_Right ⟨n_ref03_Right, A_ref03_Right, R_ref03_Right, 0, spec⟩ := SndF.mk (by kernel_rfl) hb Tryd.func54 (by kernel_rfl) (by kernel_rfl) rfl hev
def E_ref05_place  : Env := ⟨types, [], glob, 0⟩
-- loops: [[1, 0, 1, 0]]
theorem snd_ref05_place {G : FH} (hb : EnvOk Tryd.prog G ⟨types, [], glob, 0⟩)  {spec : A_ref05_place.I → Option R_ref05_place.I} (hev : ∀ x y, spec x = some y → ∃ K, evF (E_ref05_place ) K Tryd.f55 A_ref05_place R_ref05_place x = some y) : SndF Tryd.prog G n_ref05_place ⟨n_ref05_place, A_ref05_place, R_ref05_place, 0, spec⟩ := SndF.mk (by kernel_rfl) hb Tryd.func55 (by kernel_rfl) (by kernel_rfl) rfl hev
def E_ref05_hall  : Env := ⟨types, [], glob, 0⟩
theorem snd_ref05_hall {G : FH} (hb : EnvOk Tryd.prog G ⟨types, [], glob, 0⟩)  {spec : A_ref05_hall.I → Option R_ref05_hall.I} (hev : ∀ x y, spec x = some y → ∃ K, evF (E_ref05_hall ) K Tryd.f56 A_ref05_hall R_ref05_hall x = some y) : SndF Tryd.prog G n_ref05_hall ⟨n_ref05_hall, A_ref05_hall, R_ref05_hall, 0, spec⟩ := SndF.mk (by kernel_rfl) hb Tryd.func56 (by kernel_rfl) (by kernel_rfl) rfl hev
def E_ref01_Has  : Env := ⟨types, [], glob, 0⟩
theorem snd_ref01_Has {G : FH} (hb : EnvOk Tryd.prog G ⟨types, [], glob, 0⟩)  {spec : A_ref01_Has.I → Option R_ref01_Has.I} (hev : ∀ x y, spec x = some y → ∃ K, evF (E_ref01_Has ) K Tryd.f57 A_ref01_Has R_ref01_Has x = some y) : SndF Tryd.prog G n_ref01_Has ⟨n_ref01_Has, A_ref01_Has, R_ref01_Has, 0, spec⟩ := SndF.mk (by kernel_rfl) hb Tryd.func57 (by kernel_rfl) (by kernel_rfl) rfl hev
def E_ref05_has  : Env := ⟨types, [], glob, 0⟩
-- loops: [[1, 0, 1, 0]]
theorem snd_ref05_has {G : FH} (hb : EnvOk Tryd.prog G ⟨types, [], glob, 0⟩)  {spec : A_ref05_has.I → Option R_ref05_has.I} (hev : ∀ x y, spec x = some y → ∃ K, evF (E_ref05_has ) K Tryd.f58 A_ref05_has R_ref05_has x = some y) : SndF Tryd.prog G n_ref05_has ⟨n_ref05_has, A_ref05_has, R_ref05_has, 0, spec⟩ := SndF.mk (by kernel_rfl) hb Tryd.func58 (by kernel_rfl) (by kernel_rfl) rfl hev
def E_ref05_slots  : Env := ⟨types, [], glob, 0⟩
theorem snd_ref05_slots {G : FH} (hb : EnvOk Tryd.prog G ⟨types, [], glob, 0⟩)  {spec : A_ref05_slots.I → Option R_ref05_slots.I} (hev : ∀ x y, spec x = some y → ∃ K, evF (E_ref05_slots ) K Tryd.f59 A_ref05_slots R_ref05_slots x = some y) : SndF Tryd.prog G n_ref05_slots ⟨n_ref05_slots, A_ref05_slots, R_ref05_slots, 0, spec⟩ := SndF.mk (by kernel_rfl) hb Tryd.func59 (by kernel_rfl) (by kernel_rfl) rfl hev
def E_slices_IndexFunc___api_Label_api_Label_  : Env := ⟨types, [], glob, 0⟩
-- loops: [[1, 0, 1, 0]]
theorem snd_slices_IndexFunc___api_Label_api_Label_ {G : FH} (hb : EnvOk Tryd.prog G ⟨types, [], glob, 0⟩)  {spec : A_slices_IndexFunc___api_Label_api_Label_.I → Option R_slices_IndexFunc___api_Label_api_Label_.I} (hev : ∀ x y, spec x = some y → ∃ K, evF (E_slices_IndexFunc___api_Label_api_Label_ ) K Tryd.f60 A_slices_IndexFunc___api_Label_api_Label_ R_slices_IndexFunc___api_Label_api_Label_ x = some y) : SndF Tryd.prog G n_slices_IndexFunc___api_Label_api_Label_ ⟨n_slices_IndexFunc___api_Label_api_Label_, A_slices_IndexFunc___api_Label_api_Label_, R_slices_IndexFunc___api_Label_api_Label_, 0, spec⟩ := SndF.mk (by kernel_rfl) hb Tryd.func60 (by kernel_rfl) (by kernel_rfl) rfl hev
def E_cmp_Or_int_  : Env := ⟨types, [], glob, 0⟩
-- loops: [[1, 1, 0, 1, 0]]
theorem snd_cmp_Or_int_ {G : FH} (hb : EnvOk Tryd.prog G ⟨types, [], glob, 0⟩)  {spec : A_cmp_Or_int_.I → Option R_cmp_Or_int_.I} (hev : ∀ x y, spec x = some y → ∃ K, evF (E_cmp_Or_int_ ) K Tryd.f61 A_cmp_Or_int_ R_cmp_Or_int_ x = some y) : SndF Tryd.prog G n_cmp_Or_int_ ⟨n_cmp_Or_int_, A_cmp_Or_int_, R_cmp_Or_int_, 0, spec⟩ := SndF.mk (by kernel_rfl) hb Tryd.func61 (by kernel_rfl) (by kernel_rfl) rfl hev
def E_cmp_Compare_int_ (g_cmp_isNaN_int_ : A_cmp_isNaN_int_.I → Option R_cmp_isNaN_int_.I) : Env := ⟨types, [(n_cmp_isNaN_int_, ⟨n_cmp_isNaN_int_, A_cmp_isNaN_int_, R_cmp_isNaN_int_, 0, g_cmp_isNaN_int_⟩)], glob, 0⟩
theorem snd_cmp_Compare_int_ {G : FH} (hb : EnvOk Tryd.prog G ⟨types, [], glob, 0⟩) {g_cmp_isNaN_int_ : A_cmp_isNaN_int_.I → Option R_cmp_isNaN_int_.I} (h_cmp_isNaN_int_ : SndF Tryd.prog G n_cmp_isNaN_int_ ⟨n_cmp_isNaN_int_, A_cmp_isNaN_int_, R_cmp_isNaN_int_, 0, g_cmp_isNaN_int_⟩) {spec : A_cmp_Compare_int_.I → Option R_cmp_Compare_int_.I} (hev : ∀ x y, spec x = some y → ∃ K, evF (E_cmp_Compare_int_ g_cmp_isNaN_int_) K Tryd.f62 A_cmp_Compare_int_ R_cmp_Compare_int_ x = some y) : SndF Tryd.prog G n_cmp_Compare_int_ ⟨n_cmp_Compare_int_, A_cmp_Compare_int_, R_cmp_Compare_int_, 0, spec⟩ := SndF.mk (by kernel_rfl) (hb.cons h_cmp_isNaN_int_) Tryd.func62 (by kernel_rfl) (by kernel_rfl) rfl hev
def E_cmp_Compare_uint64_ (g_cmp_isNaN_uint64_ : A_cmp_isNaN_uint64_.I → Option R_cmp_isNaN_uint64_.I) : Env := ⟨types, [(n_cmp_isNaN_uint64_, ⟨n_cmp_isNaN_uint64_, A_cmp_isNaN_uint64_, R_cmp_isNaN_uint64_, 0, g_cmp_isNaN_uint64_⟩)], glob, 0⟩
theorem snd_cmp_Compare_uint64_ {G : FH} (hb : EnvOk Tryd.prog G ⟨types, [], glob, 0⟩) {g_cmp_isNaN_uint64_ : A_cmp_isNaN_uint64_.I → Option R_cmp_isNaN_uint64_.I} (h_cmp_isNaN_uint64_ : SndF Tryd.prog G n_cmp_isNaN_uint64_ ⟨n_cmp_isNaN_uint64_, A_cmp_isNaN_uint64_, R_cmp_isNaN_uint64_, 0, g_cmp_isNaN_uint64_⟩) {spec : A_cmp_Compare_uint64_.I → Option R_cmp_Compare_uint64_.I} (hev : ∀ x y, spec x = some y → ∃ K, evF (E_cmp_Compare_uint64_ g_cmp_isNaN_uint64_) K Tryd.f63 A_cmp_Compare_uint64_ R_cmp_Compare_uint64_ x = some y) : SndF Tryd.prog G n_cmp_Compare_uint64_ ⟨n_cmp_Compare_uint64_, A_cmp_Compare_uint64_, R_cmp_Compare_uint64_, 0, spec⟩ := SndF.mk (by kernel_rfl) (hb.cons h_cmp_isNaN_uint64_) Tryd.func63 (by kernel_rfl) (by kernel_rfl) rfl hev
def E_slices_IndexFunc___int_int_  : Env := ⟨types, [], glob, 0⟩
-- loops: [[1, 0, 1, 0]]
theorem snd_slices_IndexFunc___int_int_ {G : FH} (hb : EnvOk Tryd.prog G ⟨types, [], glob, 0⟩)  {spec : A_slices_IndexFunc___int_int_.I → Option R_slices_IndexFunc___int_int_.I} (hev : ∀ x y, spec x = some y → ∃ K, evF (E_slices_IndexFunc___int_int_ ) K Tryd.f64 A_slices_IndexFunc___int_int_ R_slices_IndexFunc___int_int_ x = some y) : SndF Tryd.prog G n_slices_IndexFunc___int_int_ ⟨n_slices_IndexFunc___int_int_, A_slices_IndexFunc___int_int_, R_slices_IndexFunc___int_int_, 0, spec⟩ := SndF.mk (by kernel_rfl) hb Tryd.func64 (by kernel_rfl) (by kernel_rfl) rfl hev
def E_name_small  : Env := ⟨types, [], glob, 0⟩
theorem snd_name_small {G : FH} (hb : EnvOk Tryd.prog G ⟨types, [], glob, 0⟩)  {spec : A_name_small.I → Option R_name_small.I} (hev : ∀ x y, spec x = some y → ∃ K, evF (E_name_small ) K Tryd.f65 A_name_small R_name_small x = some y) : SndF Tryd.prog G n_name_small ⟨n_name_small, A_name_small, R_name_small, 0, spec⟩ := SndF.mk (by kernel_rfl) hb Tryd.func65 (by kernel_rfl) (by kernel_rfl) rfl hev
def E_name_all (g_name_all_1 : A_name_all_1.I → Option R_name_all_1.I) (g_slices_ContainsFunc___byte_byte_ : A_slices_ContainsFunc___byte_byte_.I → Option R_slices_ContainsFunc___byte_byte_.I) : Env := ⟨types, [(n_name_all_1, ⟨n_name_all_1, A_name_all_1, R_name_all_1, 0, g_name_all_1⟩), (n_slices_ContainsFunc___byte_byte_, ⟨n_slices_ContainsFunc___byte_byte_, A_slices_ContainsFunc___byte_byte_, R_slices_ContainsFunc___byte_byte_, 0, g_slices_ContainsFunc___byte_byte_⟩)], glob, 0⟩
theorem snd_name_all {G : FH} (hb : EnvOk Tryd.prog G ⟨types, [], glob, 0⟩) {g_name_all_1 : A_name_all_1.I → Option R_name_all_1.I} (h_name_all_1 : SndF Tryd.prog G n_name_all_1 ⟨n_name_all_1, A_name_all_1, R_name_all_1, 0, g_name_all_1⟩) {g_slices_ContainsFunc___byte_byte_ : A_slices_ContainsFunc___byte_byte_.I → Option R_slices_ContainsFunc___byte_byte_.I} (h_slices_ContainsFunc___byte_byte_ : SndF Tryd.prog G n_slices_ContainsFunc___byte_byte_ ⟨n_slices_ContainsFunc___byte_byte_, A_slices_ContainsFunc___byte_byte_, R_slices_ContainsFunc___byte_byte_, 0, g_slices_ContainsFunc___byte_byte_⟩) {spec : A_name_all.I → Option R_name_all.I} (hev : ∀ x y, spec x = some y → ∃ K, evF (E_name_all g_name_all_1 g_slices_ContainsFunc___byte_byte_) K Tryd.f66 A_name_all R_name_all x = some y) : SndF Tryd.prog G n_name_all ⟨n_name_all, A_name_all, R_name_all, 0, spec⟩ := SndF.mk (by kernel_rfl) ((hb.cons h_slices_ContainsFunc___byte_byte_).cons h_name_all_1) Tryd.func66 (by kernel_rfl) (by kernel_rfl) rfl hev
def E_name_Right_1 (g_name_small : A_name_small.I → Option R_name_small.I) (g_name_digit : A_name_digit.I → Option R_name_digit.I) : Env := ⟨types, [(n_name_small, ⟨n_name_small, A_name_small, R_name_small, 0, g_name_small⟩), (n_name_digit, ⟨n_name_digit, A_name_digit, R_name_digit, 0, g_name_digit⟩)], glob, 0⟩
theorem snd_name_Right_1 {G : FH} (hb : EnvOk Tryd.prog G ⟨types, [], glob, 0⟩) {g_name_small : A_name_small.I → Option R_name_small.I} (h_name_small : SndF Tryd.prog G n_name_small ⟨n_name_small, A_name_small, R_name_small, 0, g_name_small⟩) {g_name_digit : A_name_digit.I → Option R_name_digit.I} (h_name_digit : SndF Tryd.prog G n_name_digit ⟨n_name_digit, A_name_digit, R_name_digit, 0, g_name_digit⟩) {spec : A_name_Right_1.I → Option R_name_Right_1.I} (hev : ∀ x y, spec x = some y → ∃ K, evF (E_name_Right_1 g_name_small g_name_digit) K Tryd.f67 A_name_Right_1 R_name_Right_1 x = some y) : SndF Tryd.prog G n_name_Right_1 ⟨n_name_Right_1, A_name_Right_1, R_name_Right_1, 0, spec⟩ := SndF.mk (by kernel_rfl) ((hb.cons h_name_digit).cons h_name_small) Tryd.func67 (by kernel_rfl) (by kernel_rfl) rfl hev
def E_name_digit  : Env := ⟨types, [], glob, 0⟩
theorem snd_name_digit {G : FH} (hb : EnvOk Tryd.prog G ⟨types, [], glob, 0⟩)  {spec : A_name_digit.I → Option R_name_digit.I} (hev : ∀ x y, spec x = some y → ∃ K, evF (E_name_digit ) K Tryd.f68 A_name_digit R_name_digit x = some y) : SndF Tryd.prog G n_name_digit ⟨n_name_digit, A_name_digit, R_name_digit, 0, spec⟩ := SndF.mk (by kernel_rfl) hb Tryd.func68 (by kernel_rfl) (by kernel_rfl) rfl hev
def E_slices_IndexFunc___api_Account_api_Account_  : Env := ⟨types, [], glob, 0⟩
-- loops: [[1, 0, 1, 0]]
theorem snd_slices_IndexFunc___api_Account_api_Account_ {G : FH} (hb : EnvOk Tryd.prog G ⟨types, [], glob, 0⟩)  {spec : A_slices_IndexFunc___api_Account_api_Account_.I → Option R_slices_IndexFunc___api_Account_api_Account_.I} (hev : ∀ x y, spec x = some y → ∃ K, evF (E_slices_IndexFunc___api_Account_api_Account_ ) K Tryd.f69 A_slices_IndexFunc___api_Account_api_Account_ R_slices_IndexFunc___api_Account_api_Account_ x = some y) : SndF Tryd.prog G n_slices_IndexFunc___api_Account_api_Account_ ⟨n_slices_IndexFunc___api_Account_api_Account_, A_slices_IndexFunc___api_Account_api_Account_, R_slices_IndexFunc___api_Account_api_Account_, 0, spec⟩ := SndF.mk (by kernel_rfl) hb Tryd.func69 (by kernel_rfl) (by kernel_rfl) rfl hev
def E_slices_Index___api_Label_api_Label_  : Env := ⟨types, [], glob, 0⟩
-- loops: [[1, 0, 1, 0]]
theorem snd_slices_Index___api_Label_api_Label_ {G : FH} (hb : EnvOk Tryd.prog G ⟨types, [], glob, 0⟩)  {spec : A_slices_Index___api_Label_api_Label_.I → Option R_slices_Index___api_Label_api_Label_.I} (hev : ∀ x y, spec x = some y → ∃ K, evF (E_slices_Index___api_Label_api_Label_ ) K Tryd.f70 A_slices_Index___api_Label_api_Label_ R_slices_Index___api_Label_api_Label_ x = some y) : SndF Tryd.prog G n_slices_Index___api_Label_api_Label_ ⟨n_slices_Index___api_Label_api_Label_, A_slices_Index___api_Label_api_Label_, R_slices_Index___api_Label_api_Label_, 0, spec⟩ := SndF.mk (by kernel_rfl) hb Tryd.func70 (by kernel_rfl) (by kernel_rfl) rfl hev
def E_cmp_isNaN_int_  : Env := ⟨types, [], glob, 0⟩
theorem snd_cmp_isNaN_int_ {G : FH} (hb : EnvOk Tryd.prog G ⟨types, [], glob, 0⟩)  {spec : A_cmp_isNaN_int_.I → Option R_cmp_isNaN_int_.I} (hev : ∀ x y, spec x = some y → ∃ K, evF (E_cmp_isNaN_int_ ) K Tryd.f71 A_cmp_isNaN_int_ R_cmp_isNaN_int_ x = some y) : SndF Tryd.prog G n_cmp_isNaN_int_ ⟨n_cmp_isNaN_int_, A_cmp_isNaN_int_, R_cmp_isNaN_int_, 0, spec⟩ := SndF.mk (by kernel_rfl) hb Tryd.func71 (by kernel_rfl) (by kernel_rfl) rfl hev
def E_cmp_isNaN_uint64_  : Env := ⟨types, [], glob, 0⟩
theorem snd_cmp_isNaN_uint64_ {G : FH} (hb : EnvOk Tryd.prog G ⟨types, [], glob, 0⟩)  {spec : A_cmp_isNaN_uint64_.I → Option R_cmp_isNaN_uint64_.I} (hev : ∀ x y, spec x = some y → ∃ K, evF (E_cmp_isNaN_uint64_ ) K Tryd.f72 A_cmp_isNaN_uint64_ R_cmp_isNaN_uint64_ x = some y) : SndF Tryd.prog G n_cmp_isNaN_uint64_ ⟨n_cmp_isNaN_uint64_, A_cmp_isNaN_uint64_, R_cmp_isNaN_uint64_, 0, spec⟩ := SndF.mk (by kernel_rfl) hb Tryd.func72 (by kernel_rfl) (by kernel_rfl) rfl hev
def E_name_all_1  : Env := ⟨types, [], glob, 0⟩
theorem snd_name_all_1 {G : FH} (hb : EnvOk Tryd.prog G ⟨types, [], glob, 0⟩)  {spec : A_name_all_1.I → Option R_name_all_1.I} (hev : ∀ x y, spec x = some y → ∃ K, evF (E_name_all_1 ) K Tryd.f73 A_name_all_1 R_name_all_1 x = some y) : SndF Tryd.prog G n_name_all_1 ⟨n_name_all_1, A_name_all_1, R_name_all_1, 0, spec⟩ := SndF.mk (by kernel_rfl) hb Tryd.func73 (by kernel_rfl) (by kernel_rfl) rfl hev
def E_slices_ContainsFunc___byte_byte_ (g_slices_IndexFunc___byte_byte_ : A_slices_IndexFunc___byte_byte_.I → Option R_slices_IndexFunc___byte_byte_.I) : Env := ⟨types, [(n_slices_IndexFunc___byte_byte_, ⟨n_slices_IndexFunc___byte_byte_, A_slices_IndexFunc___byte_byte_, R_slices_IndexFunc___byte_byte_, 0, g_slices_IndexFunc___byte_byte_⟩)], glob, 0⟩
theorem snd_slices_ContainsFunc___byte_byte_ {G : FH} (hb : EnvOk Tryd.prog G ⟨types, [], glob, 0⟩) {g_slices_IndexFunc___byte_byte_ : A_slices_IndexFunc___byte_byte_.I → Option R_slices_IndexFunc___byte_byte_.I} (h_slices_IndexFunc___byte_byte_ : SndF Tryd.prog G n_slices_IndexFunc___byte_byte_ ⟨n_slices_IndexFunc___byte_byte_, A_slices_IndexFunc___byte_byte_, R_slices_IndexFunc___byte_byte_, 0, g_slices_IndexFunc___byte_byte_⟩) {spec : A_slices_ContainsFunc___byte_byte_.I → Option R_slices_ContainsFunc___byte_byte_.I} (hev : ∀ x y, spec x = some y → ∃ K, evF (E_slices_ContainsFunc___byte_byte_ g_slices_IndexFunc___byte_byte_) K Tryd.f74 A_slices_ContainsFunc___byte_byte_ R_slices_ContainsFunc___byte_byte_ x = some y) : SndF Tryd.prog G n_slices_ContainsFunc___byte_byte_ ⟨n_slices_ContainsFunc___byte_byte_, A_slices_ContainsFunc___byte_byte_, R_slices_ContainsFunc___byte_byte_, 0, spec⟩ := SndF.mk (by kernel_rfl) (hb.cons h_slices_IndexFunc___byte_byte_) Tryd.func74 (by kernel_rfl) (by kernel_rfl) rfl hev
def E_slices_IndexFunc___byte_byte_  : Env := ⟨types, [], glob, 0⟩
-- loops: [[1, 0, 1, 0]]
theorem snd_slices_IndexFunc___byte_byte_ {G : FH} (hb : EnvOk Tryd.prog G ⟨types, [], glob, 0⟩)  {spec : A_slices_IndexFunc___byte_byte_.I → Option R_slices_IndexFunc___byte_byte_.I} (hev : ∀ x y, spec x = some y → ∃ K, evF (E_slices_IndexFunc___byte_byte_ ) K Tryd.f75 A_slices_IndexFunc___byte_byte_ R_slices_IndexFunc___byte_byte_ x = some y) : SndF Tryd.prog G n_slices_IndexFunc___byte_byte_ ⟨n_slices_IndexFunc___byte_byte_, A_slices_IndexFunc___byte_byte_, R_slices_IndexFunc___byte_byte_, 0, spec⟩ := SndF.mk (by kernel_rfl) hb Tryd.func75 (by kernel_rfl) (by kernel_rfl) rfl hev
def E_gosem_cut_vars  : Env := ⟨types, [], glob, 0⟩
theorem snd_gosem_cut_vars {G : FH} (hb : EnvOk Tryd.prog G ⟨types, [], glob, 0⟩)  {spec : A_gosem_cut_vars.I → Option R_gosem_cut_vars.I} (hev : ∀ x y, spec x = some y → ∃ K, evF (E_gosem_cut_vars ) K Tryd.f96 A_gosem_cut_vars R_gosem_cut_vars x = some y) : SndF Tryd.prog G n_gosem_cut_vars ⟨n_gosem_cut_vars, A_gosem_cut_vars, R_gosem_cut_vars, 0, spec⟩ := SndF.mk (by kernel_rfl) hb Tryd.func96 (by kernel_rfl) (by kernel_rfl) rfl hev
end Go.Proofs.YticimhklggikiaaDoor

/-! Plain specs: the leaves. -/
namespace Go.Proofs.YticimhklggikiaaDoor
open Go.Ev
set_option linter.unusedVariables false
set_option linter.unusedSimpArgs false

/-- A function that always comes to something. -/
def tot {a r : Ty} (f : a.I → r.I) : a.I → Option r.I := fun x => some (f x)
theorem ev_tot {E : Env} {fn : Func} {a r : Ty} {f : a.I → r.I} (h : ∀ x, ∃ K, evF E K fn a r x = some (f x)) : ∀ x y, tot f x = some y → ∃ K, evF E K fn a r x = some y := by
  intro x y hy
  cases hy
  exact h x

/-! ### realm.within -/
def within (a lo hi : Int) : Bool := decide (lo ≤ a) && decide (a ≤ hi)
def s_realm_within : A_realm_within.I → R_realm_within.I := fun x => (within x.1 x.2.1 x.2.2.1, ())
theorem t_realm_within (x : A_realm_within.I) : ∃ K, evF E_realm_within K Tryd.f37 A_realm_within R_realm_within x = some (s_realm_within x) := by
  obtain ⟨a, lo, hi, ⟨⟩⟩ := x
  have h (a lo hi : Int) : evF E_realm_within 0 Tryd.f37 A_realm_within R_realm_within (a, lo, hi, ()) = cond (decide (a ≥ lo)) (cond (decide (a ≤ hi)) (some (true, ())) (some (false, ()))) (some (false, ())) := by kernel_rfl
  refine ⟨0, (h a lo hi).trans ?_⟩
  show _ = some (within a lo hi, ())
  unfold within
  cases h1 : decide (a ≥ lo) <;> cases h2 : decide (a ≤ hi) <;> simp_all

/-! ### name: letters and digits -/
def small (c : Int) : Bool := decide (97 ≤ c) && decide (c ≤ 122)
def digit (c : Int) : Bool := decide (48 ≤ c) && decide (c ≤ 57)
theorem t_name_small (x : A_name_small.I) : ∃ K, evF E_name_small K Tryd.f65 A_name_small R_name_small x = some (small x.1, ()) := by
  obtain ⟨a, ⟨⟩⟩ := x
  have h (a : Int) : evF E_name_small 0 Tryd.f65 A_name_small R_name_small (a, ()) = cond (decide (a ≥ 97)) (cond (decide (a ≤ 122)) (some (true, ())) (some (false, ()))) (some (false, ())) := by kernel_rfl
  refine ⟨0, (h a).trans ?_⟩
  show _ = some (small a, ())
  unfold small
  cases h1 : decide (a ≥ 97) <;> cases h2 : decide (a ≤ 122) <;> simp_all
theorem t_name_digit (x : A_name_digit.I) : ∃ K, evF E_name_digit K Tryd.f68 A_name_digit R_name_digit x = some (digit x.1, ()) := by
  obtain ⟨a, ⟨⟩⟩ := x
  have h (a : Int) : evF E_name_digit 0 Tryd.f68 A_name_digit R_name_digit (a, ()) = cond (decide (a ≥ 48)) (cond (decide (a ≤ 57)) (some (true, ())) (some (false, ()))) (some (false, ())) := by kernel_rfl
  refine ⟨0, (h a).trans ?_⟩
  show _ = some (digit a, ())
  unfold digit
  cases h1 : decide (a ≥ 48) <;> cases h2 : decide (a ≤ 57) <;> simp_all
def wordc (c : Int) : Bool := small c || digit c
theorem t_name_Right_1 (x : A_name_Right_1.I) : ∃ K, evF (E_name_Right_1 (fun x => some (small x.1, ())) (fun x => some (digit x.1, ()))) K Tryd.f67 A_name_Right_1 R_name_Right_1 x = some (wordc x.1, ()) := by
  obtain ⟨a, ⟨⟩⟩ := x
  have h (g1 : A_name_small.I → Option R_name_small.I) (g2 : A_name_digit.I → Option R_name_digit.I) (a : Int) : evF (E_name_Right_1 g1 g2) 0 Tryd.f67 A_name_Right_1 R_name_Right_1 (a, ()) = (g1 (a, ())).bind fun r => cond r.1 (some (true, ())) ((g2 (a, ())).bind fun r => cond r.1 (some (true, ())) (some (false, ()))) := by kernel_rfl
  refine ⟨0, (h _ _ a).trans ?_⟩
  show _ = some (wordc a, ())
  unfold wordc
  simp only [Option.bind_some]
  cases small a <;> cases digit a <;> rfl

/-! ### cmp -/
theorem t_cmp_isNaN_int (x : A_cmp_isNaN_int_.I) : ∃ K, evF E_cmp_isNaN_int_ K Tryd.f71 A_cmp_isNaN_int_ R_cmp_isNaN_int_ x = some (false, ()) := by
  obtain ⟨a, ⟨⟩⟩ := x
  have h (a : Int) : evF E_cmp_isNaN_int_ 0 Tryd.f71 A_cmp_isNaN_int_ R_cmp_isNaN_int_ (a, ()) = cond (a != a) (some (true, ())) (some (false, ())) := by kernel_rfl
  refine ⟨0, (h a).trans ?_⟩
  simp
theorem t_cmp_isNaN_uint64 (x : A_cmp_isNaN_uint64_.I) : ∃ K, evF E_cmp_isNaN_uint64_ K Tryd.f72 A_cmp_isNaN_uint64_ R_cmp_isNaN_uint64_ x = some (false, ()) := by
  obtain ⟨a, ⟨⟩⟩ := x
  have h (a : Int) : evF E_cmp_isNaN_uint64_ 0 Tryd.f72 A_cmp_isNaN_uint64_ R_cmp_isNaN_uint64_ (a, ()) = cond (a != a) (some (true, ())) (some (false, ())) := by kernel_rfl
  refine ⟨0, (h a).trans ?_⟩
  simp
def cmpZ (a b : Int) : Int := if a < b then -1 else if a > b then 1 else 0
theorem cmp_tree (a b : Int) : (cond (decide (a < b)) (some ((-1 : Int), ())) (cond (decide (a > b)) (some ((1 : Int), ())) (some ((0 : Int), ())))) = some (cmpZ a b, ()) := by
  unfold cmpZ
  simp only [Bool.cond_eq_ite, decide_eq_true_eq]
  (repeat' split) <;> rfl
theorem t_cmp_Compare_int (x : A_cmp_Compare_int_.I) : ∃ K, evF (E_cmp_Compare_int_ (fun _ => some (false, ()))) K Tryd.f62 A_cmp_Compare_int_ R_cmp_Compare_int_ x = some (cmpZ x.1 x.2.1, ()) := by
  obtain ⟨a, b, ⟨⟩⟩ := x
  have h (g : A_cmp_isNaN_int_.I → Option R_cmp_isNaN_int_.I) (a b : Int) : evF (E_cmp_Compare_int_ g) 0 Tryd.f62 A_cmp_Compare_int_ R_cmp_Compare_int_ (a, b, ()) =
      (g (a, ())).bind fun r => cond r.1 ((g (b, ())).bind fun r => cond r.1 (some (0, ())) (some (-1, ()))) ((g (b, ())).bind fun r => cond r.1 (some (1, ())) (cond (decide (a < b)) (some (-1, ())) (cond (decide (a > b)) (some (1, ())) (some (0, ()))))) := by kernel_rfl
  refine ⟨0, (h _ a b).trans ?_⟩
  exact cmp_tree a b
theorem t_cmp_Compare_uint64 (x : A_cmp_Compare_uint64_.I) : ∃ K, evF (E_cmp_Compare_uint64_ (fun _ => some (false, ()))) K Tryd.f63 A_cmp_Compare_uint64_ R_cmp_Compare_uint64_ x = some (cmpZ x.1 x.2.1, ()) := by
  obtain ⟨a, b, ⟨⟩⟩ := x
  have h (g : A_cmp_isNaN_uint64_.I → Option R_cmp_isNaN_uint64_.I) (a b : Int) : evF (E_cmp_Compare_uint64_ g) 0 Tryd.f63 A_cmp_Compare_uint64_ R_cmp_Compare_uint64_ (a, b, ()) =
      (g (a, ())).bind fun r => cond r.1 ((g (b, ())).bind fun r => cond r.1 (some (0, ())) (some (-1, ()))) ((g (b, ())).bind fun r => cond r.1 (some (1, ())) (cond (decide (a < b)) (some (-1, ())) (cond (decide (a > b)) (some (1, ())) (some (0, ()))))) := by kernel_rfl
  refine ⟨0, (h _ a b).trans ?_⟩
  exact cmp_tree a b

/-! ### label.Right, ref01.Right -/
def labelOk (l : Int) : Bool := decide (0 ≤ l) && decide (l < 4)
theorem t_label_Right (x : A_label_Right.I) : ∃ K, evF E_label_Right K Tryd.f36 A_label_Right R_label_Right x = some (labelOk x.1.1, ()) := by
  obtain ⟨⟨l, c, ⟨⟩⟩, ⟨⟩⟩ := x
  have h (l c : Int) : evF E_label_Right 0 Tryd.f36 A_label_Right R_label_Right ((l, c, ()), ()) = cond (decide (l ≥ 0)) (cond (decide (l < 4)) (some (true, ())) (some (false, ()))) (some (false, ())) := by kernel_rfl
  refine ⟨0, (h l c).trans ?_⟩
  show _ = some (labelOk l, ())
  unfold labelOk
  cases h1 : decide (l ≥ 0) <;> cases h2 : decide (l < 4) <;> simp_all
theorem t_ref01_Right (x : A_ref01_Right.I) : ∃ K, evF E_ref01_Right K Tryd.f52 A_ref01_Right R_ref01_Right x = some (labelOk x.1.1, ()) := by
  obtain ⟨⟨l, c, ⟨⟩⟩, ⟨⟩⟩ := x
  have h (l c : Int) : evF E_ref01_Right 0 Tryd.f52 A_ref01_Right R_ref01_Right ((l, c, ()), ()) = cond (l == 0) (some (true, ())) (cond (l == 1) (some (true, ())) (cond (l == 2) (some (true, ())) (cond (l == 3) (some (true, ())) (some (false, ()))))) := by kernel_rfl
  refine ⟨0, (h l c).trans ?_⟩
  show _ = some (labelOk l, ())
  unfold labelOk
  simp only [Bool.cond_eq_ite, beq_iff_eq]
  (repeat' split) <;> simp_all <;> omega

/-! ### ref05.slots, ref24.up -/
theorem t_ref05_slots (x : A_ref05_slots.I) : ∃ K, evF E_ref05_slots K Tryd.f59 A_ref05_slots R_ref05_slots x = some (within x.1 0 12, ()) := by
  obtain ⟨a, ⟨⟩⟩ := x
  have h (a : Int) : evF E_ref05_slots 0 Tryd.f59 A_ref05_slots R_ref05_slots (a, ()) = cond (decide (a ≥ 0)) (cond (decide (a ≤ 12)) (some (true, ())) (some (false, ()))) (some (false, ())) := by kernel_rfl
  refine ⟨0, (h a).trans ?_⟩
  show _ = some (within a 0 12, ())
  unfold within
  cases h1 : decide (a ≥ 0) <;> cases h2 : decide (a ≤ 12) <;> simp_all
end Go.Proofs.YticimhklggikiaaDoor

/-! Plain specs: Go's slices. -/
namespace Go.Proofs.YticimhklggikiaaDoor
open Go.Ev
set_option linter.unusedVariables false
set_option linter.unusedSimpArgs false

abbrev B1 (τ : Ty) : Ty := .fn (.pair τ .unit) (.pair .bool .unit)
abbrev G1 (τ : Ty) : Type := (Ty.pair τ .unit).I → Option (Ty.pair .bool .unit).I
abbrev stIdx (τ : Ty) (xs : List τ.I) (g : G1 τ) (i : Int) : St := ⟨[(0, .dat (.sl τ) xs), (1, .dat (B1 τ) (some g)), (7, .dat (.int .i64) (Int.ofNat xs.length)), (8, .dat (.int .i64) i)], []⟩
def bodyIdx (τ : Ty) (g : G1 τ) (s : Unit) (i : Int) (x : τ.I) (k : Unit → Option (Int × Unit)) : Option (Int × Unit) := (g (x, ())).bind fun r => cond r.1 (some (i, ())) (k s)
/-- slices.IndexFunc. -/
def sp_IndexFunc (τ : Ty) (x : (Ty.pair (.sl τ) (.pair (B1 τ) .unit)).I) : Option (Ty.pair (.int .i64) .unit).I :=
  match x.2.1 with
  | some g => if List.length x.1 ≤ Go.maxLen then forL (bodyIdx τ g) (fun _ => some (-1, ())) x.1 0 () else none
  | none => none
/-- slices.ContainsFunc. -/
def sp_ContainsFunc (τ : Ty) (x : (Ty.pair (.sl τ) (.pair (B1 τ) .unit)).I) : Option (Ty.pair .bool .unit).I :=
  (sp_IndexFunc τ x).bind fun r => some (decide ((show Int from r.1) ≥ 0), ())
theorem sp_IndexFunc_eq {τ : Ty} {xs : List τ.I} {g : G1 τ} {p : τ.I → Bool} (hl : xs.length ≤ Go.maxLen) (hp : ∀ x ∈ xs, g (x, ()) = some (p x, ())) : sp_IndexFunc τ (xs, some g, ()) = some (idxB p xs 0, ()) := by
  simp only [sp_IndexFunc]
  rw [if_pos hl]
  exact forL_idx (g := fun x => g (x, ())) xs 0 hp
theorem sp_ContainsFunc_eq {τ : Ty} {xs : List τ.I} {g : G1 τ} {p : τ.I → Bool} (hl : xs.length ≤ Go.maxLen) (hp : ∀ x ∈ xs, g (x, ()) = some (p x, ())) : sp_ContainsFunc τ (xs, some g, ()) = some (xs.any p, ()) := by
  unfold sp_ContainsFunc
  rw [sp_IndexFunc_eq hl hp, Option.bind_some]
  congr 2
  exact idxB_any xs 0 (Int.le_refl 0)

theorem ev_IndexFunc_Label : ∀ x y, sp_IndexFunc T_api_Label x = some y → ∃ K, evF E_slices_IndexFunc___api_Label_api_Label_ K f_slices_IndexFunc___api_Label_api_Label_ A_slices_IndexFunc___api_Label_api_Label_ R_slices_IndexFunc___api_Label_api_Label_ x = some y := by
  rintro ⟨xs, g, ⟨⟩⟩ y h
  cases g with
  | none => cases h
  | some g =>
    simp only [sp_IndexFunc] at h
    split at h
    · rename_i hl
      have h0 (K : Nat) (xs : List (T_api_Label : Ty).I) (g : G1 T_api_Label) : evF E_slices_IndexFunc___api_Label_api_Label_ K f_slices_IndexFunc___api_Label_api_Label_ A_slices_IndexFunc___api_Label_api_Label_ R_slices_IndexFunc___api_Label_api_Label_ (xs, some g, ()) = evL E_slices_IndexFunc___api_Label_api_Label_ K f_slices_IndexFunc___api_Label_api_Label_ R_slices_IndexFunc___api_Label_api_Label_ [1,0,1,0] [] K (stIdx T_api_Label xs g 0) := by kernel_rfl
      have hs (K n : Nat) (xs : List (T_api_Label : Ty).I) (g : G1 T_api_Label) (s : Unit) (i : Int) : evL E_slices_IndexFunc___api_Label_api_Label_ K f_slices_IndexFunc___api_Label_api_Label_ R_slices_IndexFunc___api_Label_api_Label_ [1,0,1,0] [] (n + 1) (stIdx T_api_Label xs g i) = cond (decide (i < Int.ofNat xs.length)) (cond (decide (0 ≤ i)) (cond (decide (i < (xs.length : Int))) (bodyIdx T_api_Label g s i (xs.getD i.toNat (dflt T_api_Label)) fun s' => evL E_slices_IndexFunc___api_Label_api_Label_ K f_slices_IndexFunc___api_Label_api_Label_ R_slices_IndexFunc___api_Label_api_Label_ [1,0,1,0] [] n (stIdx T_api_Label xs g (Go.IntKind.wrap .i64 (i + 1)))) none) none) (some (-1, ())) := by kernel_rfl
      refine ⟨List.length xs + 1, (h0 _ xs g).trans ?_⟩
      rw [← h]
      exact for_loop0 (σ := Unit) (L := fun n _ i => evL E_slices_IndexFunc___api_Label_api_Label_ (List.length xs + 1) f_slices_IndexFunc___api_Label_api_Label_ R_slices_IndexFunc___api_Label_api_Label_ [1,0,1,0] [] n (stIdx T_api_Label xs g i)) (d := dflt T_api_Label) (body := bodyIdx T_api_Label g) (fin := fun _ => some (-1, ())) hl (fun n s i => hs _ n xs g s i) ()
    · cases h
theorem ev_ContainsFunc_Label : ∀ x y, sp_ContainsFunc T_api_Label x = some y → ∃ K, evF (E_slices_ContainsFunc___api_Label_api_Label_ (sp_IndexFunc T_api_Label)) K f_slices_ContainsFunc___api_Label_api_Label_ A_slices_ContainsFunc___api_Label_api_Label_ R_slices_ContainsFunc___api_Label_api_Label_ x = some y := by
  rintro ⟨xs, g, ⟨⟩⟩ y h
  have h0 (gi : A_slices_IndexFunc___api_Label_api_Label_.I → Option R_slices_IndexFunc___api_Label_api_Label_.I) (xs : List (T_api_Label : Ty).I) (g : Option (G1 T_api_Label)) : evF (E_slices_ContainsFunc___api_Label_api_Label_ gi) 0 f_slices_ContainsFunc___api_Label_api_Label_ A_slices_ContainsFunc___api_Label_api_Label_ R_slices_ContainsFunc___api_Label_api_Label_ (xs, g, ()) = (gi (xs, g, ())).bind fun r => cond (decide ((show Int from r.1) ≥ 0)) (some (true, ())) (some (false, ())) := by kernel_rfl
  refine ⟨0, (h0 _ xs g).trans ?_⟩
  rw [← h]
  unfold sp_ContainsFunc
  congr 1
  funext r
  cases decide ((show Int from r.1) ≥ 0) <;> rfl

theorem ev_IndexFunc_Int : ∀ x y, sp_IndexFunc (.int .i64) x = some y → ∃ K, evF E_slices_IndexFunc___int_int_ K f_slices_IndexFunc___int_int_ A_slices_IndexFunc___int_int_ R_slices_IndexFunc___int_int_ x = some y := by
  rintro ⟨xs, g, ⟨⟩⟩ y h
  cases g with
  | none => cases h
  | some g =>
    simp only [sp_IndexFunc] at h
    split at h
    · rename_i hl
      have h0 (K : Nat) (xs : List ((.int .i64) : Ty).I) (g : G1 (.int .i64)) : evF E_slices_IndexFunc___int_int_ K f_slices_IndexFunc___int_int_ A_slices_IndexFunc___int_int_ R_slices_IndexFunc___int_int_ (xs, some g, ()) = evL E_slices_IndexFunc___int_int_ K f_slices_IndexFunc___int_int_ R_slices_IndexFunc___int_int_ [1,0,1,0] [] K (stIdx (.int .i64) xs g 0) := by kernel_rfl
      have hs (K n : Nat) (xs : List ((.int .i64) : Ty).I) (g : G1 (.int .i64)) (s : Unit) (i : Int) : evL E_slices_IndexFunc___int_int_ K f_slices_IndexFunc___int_int_ R_slices_IndexFunc___int_int_ [1,0,1,0] [] (n + 1) (stIdx (.int .i64) xs g i) = cond (decide (i < Int.ofNat xs.length)) (cond (decide (0 ≤ i)) (cond (decide (i < (xs.length : Int))) (bodyIdx (.int .i64) g s i (xs.getD i.toNat (dflt (.int .i64))) fun s' => evL E_slices_IndexFunc___int_int_ K f_slices_IndexFunc___int_int_ R_slices_IndexFunc___int_int_ [1,0,1,0] [] n (stIdx (.int .i64) xs g (Go.IntKind.wrap .i64 (i + 1)))) none) none) (some (-1, ())) := by kernel_rfl
      refine ⟨List.length xs + 1, (h0 _ xs g).trans ?_⟩
      rw [← h]
      exact for_loop0 (σ := Unit) (L := fun n _ i => evL E_slices_IndexFunc___int_int_ (List.length xs + 1) f_slices_IndexFunc___int_int_ R_slices_IndexFunc___int_int_ [1,0,1,0] [] n (stIdx (.int .i64) xs g i)) (d := dflt (.int .i64)) (body := bodyIdx (.int .i64) g) (fin := fun _ => some (-1, ())) hl (fun n s i => hs _ n xs g s i) ()
    · cases h
theorem ev_ContainsFunc_Int : ∀ x y, sp_ContainsFunc (.int .i64) x = some y → ∃ K, evF (E_slices_ContainsFunc___int_int_ (sp_IndexFunc (.int .i64))) K f_slices_ContainsFunc___int_int_ A_slices_ContainsFunc___int_int_ R_slices_ContainsFunc___int_int_ x = some y := by
  rintro ⟨xs, g, ⟨⟩⟩ y h
  have h0 (gi : A_slices_IndexFunc___int_int_.I → Option R_slices_IndexFunc___int_int_.I) (xs : List ((.int .i64) : Ty).I) (g : Option (G1 (.int .i64))) : evF (E_slices_ContainsFunc___int_int_ gi) 0 f_slices_ContainsFunc___int_int_ A_slices_ContainsFunc___int_int_ R_slices_ContainsFunc___int_int_ (xs, g, ()) = (gi (xs, g, ())).bind fun r => cond (decide ((show Int from r.1) ≥ 0)) (some (true, ())) (some (false, ())) := by kernel_rfl
  refine ⟨0, (h0 _ xs g).trans ?_⟩
  rw [← h]
  unfold sp_ContainsFunc
  congr 1
  funext r
  cases decide ((show Int from r.1) ≥ 0) <;> rfl

theorem ev_IndexFunc_Account : ∀ x y, sp_IndexFunc T_api_Account x = some y → ∃ K, evF E_slices_IndexFunc___api_Account_api_Account_ K f_slices_IndexFunc___api_Account_api_Account_ A_slices_IndexFunc___api_Account_api_Account_ R_slices_IndexFunc___api_Account_api_Account_ x = some y := by
  rintro ⟨xs, g, ⟨⟩⟩ y h
  cases g with
  | none => cases h
  | some g =>
    simp only [sp_IndexFunc] at h
    split at h
    · rename_i hl
      have h0 (K : Nat) (xs : List (T_api_Account : Ty).I) (g : G1 T_api_Account) : evF E_slices_IndexFunc___api_Account_api_Account_ K f_slices_IndexFunc___api_Account_api_Account_ A_slices_IndexFunc___api_Account_api_Account_ R_slices_IndexFunc___api_Account_api_Account_ (xs, some g, ()) = evL E_slices_IndexFunc___api_Account_api_Account_ K f_slices_IndexFunc___api_Account_api_Account_ R_slices_IndexFunc___api_Account_api_Account_ [1,0,1,0] [] K (stIdx T_api_Account xs g 0) := by kernel_rfl
      have hs (K n : Nat) (xs : List (T_api_Account : Ty).I) (g : G1 T_api_Account) (s : Unit) (i : Int) : evL E_slices_IndexFunc___api_Account_api_Account_ K f_slices_IndexFunc___api_Account_api_Account_ R_slices_IndexFunc___api_Account_api_Account_ [1,0,1,0] [] (n + 1) (stIdx T_api_Account xs g i) = cond (decide (i < Int.ofNat xs.length)) (cond (decide (0 ≤ i)) (cond (decide (i < (xs.length : Int))) (bodyIdx T_api_Account g s i (xs.getD i.toNat (dflt T_api_Account)) fun s' => evL E_slices_IndexFunc___api_Account_api_Account_ K f_slices_IndexFunc___api_Account_api_Account_ R_slices_IndexFunc___api_Account_api_Account_ [1,0,1,0] [] n (stIdx T_api_Account xs g (Go.IntKind.wrap .i64 (i + 1)))) none) none) (some (-1, ())) := by kernel_rfl
      refine ⟨List.length xs + 1, (h0 _ xs g).trans ?_⟩
      rw [← h]
      exact for_loop0 (σ := Unit) (L := fun n _ i => evL E_slices_IndexFunc___api_Account_api_Account_ (List.length xs + 1) f_slices_IndexFunc___api_Account_api_Account_ R_slices_IndexFunc___api_Account_api_Account_ [1,0,1,0] [] n (stIdx T_api_Account xs g i)) (d := dflt T_api_Account) (body := bodyIdx T_api_Account g) (fin := fun _ => some (-1, ())) hl (fun n s i => hs _ n xs g s i) ()
    · cases h
theorem ev_ContainsFunc_Account : ∀ x y, sp_ContainsFunc T_api_Account x = some y → ∃ K, evF (E_slices_ContainsFunc___api_Account_api_Account_ (sp_IndexFunc T_api_Account)) K f_slices_ContainsFunc___api_Account_api_Account_ A_slices_ContainsFunc___api_Account_api_Account_ R_slices_ContainsFunc___api_Account_api_Account_ x = some y := by
  rintro ⟨xs, g, ⟨⟩⟩ y h
  have h0 (gi : A_slices_IndexFunc___api_Account_api_Account_.I → Option R_slices_IndexFunc___api_Account_api_Account_.I) (xs : List (T_api_Account : Ty).I) (g : Option (G1 T_api_Account)) : evF (E_slices_ContainsFunc___api_Account_api_Account_ gi) 0 f_slices_ContainsFunc___api_Account_api_Account_ A_slices_ContainsFunc___api_Account_api_Account_ R_slices_ContainsFunc___api_Account_api_Account_ (xs, g, ()) = (gi (xs, g, ())).bind fun r => cond (decide ((show Int from r.1) ≥ 0)) (some (true, ())) (some (false, ())) := by kernel_rfl
  refine ⟨0, (h0 _ xs g).trans ?_⟩
  rw [← h]
  unfold sp_ContainsFunc
  congr 1
  funext r
  cases decide ((show Int from r.1) ≥ 0) <;> rfl

theorem ev_IndexFunc_Byte : ∀ x y, sp_IndexFunc (.int .u8) x = some y → ∃ K, evF E_slices_IndexFunc___byte_byte_ K f_slices_IndexFunc___byte_byte_ A_slices_IndexFunc___byte_byte_ R_slices_IndexFunc___byte_byte_ x = some y := by
  rintro ⟨xs, g, ⟨⟩⟩ y h
  cases g with
  | none => cases h
  | some g =>
    simp only [sp_IndexFunc] at h
    split at h
    · rename_i hl
      have h0 (K : Nat) (xs : List ((.int .u8) : Ty).I) (g : G1 (.int .u8)) : evF E_slices_IndexFunc___byte_byte_ K f_slices_IndexFunc___byte_byte_ A_slices_IndexFunc___byte_byte_ R_slices_IndexFunc___byte_byte_ (xs, some g, ()) = evL E_slices_IndexFunc___byte_byte_ K f_slices_IndexFunc___byte_byte_ R_slices_IndexFunc___byte_byte_ [1,0,1,0] [] K (stIdx (.int .u8) xs g 0) := by kernel_rfl
      have hs (K n : Nat) (xs : List ((.int .u8) : Ty).I) (g : G1 (.int .u8)) (s : Unit) (i : Int) : evL E_slices_IndexFunc___byte_byte_ K f_slices_IndexFunc___byte_byte_ R_slices_IndexFunc___byte_byte_ [1,0,1,0] [] (n + 1) (stIdx (.int .u8) xs g i) = cond (decide (i < Int.ofNat xs.length)) (cond (decide (0 ≤ i)) (cond (decide (i < (xs.length : Int))) (bodyIdx (.int .u8) g s i (xs.getD i.toNat (dflt (.int .u8))) fun s' => evL E_slices_IndexFunc___byte_byte_ K f_slices_IndexFunc___byte_byte_ R_slices_IndexFunc___byte_byte_ [1,0,1,0] [] n (stIdx (.int .u8) xs g (Go.IntKind.wrap .i64 (i + 1)))) none) none) (some (-1, ())) := by kernel_rfl
      refine ⟨List.length xs + 1, (h0 _ xs g).trans ?_⟩
      rw [← h]
      exact for_loop0 (σ := Unit) (L := fun n _ i => evL E_slices_IndexFunc___byte_byte_ (List.length xs + 1) f_slices_IndexFunc___byte_byte_ R_slices_IndexFunc___byte_byte_ [1,0,1,0] [] n (stIdx (.int .u8) xs g i)) (d := dflt (.int .u8)) (body := bodyIdx (.int .u8) g) (fin := fun _ => some (-1, ())) hl (fun n s i => hs _ n xs g s i) ()
    · cases h
theorem ev_ContainsFunc_Byte : ∀ x y, sp_ContainsFunc (.int .u8) x = some y → ∃ K, evF (E_slices_ContainsFunc___byte_byte_ (sp_IndexFunc (.int .u8))) K f_slices_ContainsFunc___byte_byte_ A_slices_ContainsFunc___byte_byte_ R_slices_ContainsFunc___byte_byte_ x = some y := by
  rintro ⟨xs, g, ⟨⟩⟩ y h
  have h0 (gi : A_slices_IndexFunc___byte_byte_.I → Option R_slices_IndexFunc___byte_byte_.I) (xs : List ((.int .u8) : Ty).I) (g : Option (G1 (.int .u8))) : evF (E_slices_ContainsFunc___byte_byte_ gi) 0 f_slices_ContainsFunc___byte_byte_ A_slices_ContainsFunc___byte_byte_ R_slices_ContainsFunc___byte_byte_ (xs, g, ()) = (gi (xs, g, ())).bind fun r => cond (decide ((show Int from r.1) ≥ 0)) (some (true, ())) (some (false, ())) := by kernel_rfl
  refine ⟨0, (h0 _ xs g).trans ?_⟩
  rw [← h]
  unfold sp_ContainsFunc
  congr 1
  funext r
  cases decide ((show Int from r.1) ≥ 0) <;> rfl

end Go.Proofs.YticimhklggikiaaDoor
/-! Plain specs: labels. -/
namespace Go.Proofs.YticimhklggikiaaDoor
open Go.Ev
set_option linter.unusedVariables false
set_option linter.unusedSimpArgs false

/-! ### cmp.Or, label.Cmp -/
def bodyOr (s : Unit) (i : Int) (x : Int) (k : Unit → Option (Int × Unit)) : Option (Int × Unit) := cond (x != 0) (some (x, ())) (k s)
def sp_Or (x : A_cmp_Or_int_.I) : Option R_cmp_Or_int_.I := if List.length x.1 ≤ Go.maxLen then forL bodyOr (fun _ => some ((0 : Int), ())) x.1 0 () else none
abbrev stOr (xs : List Int) (i : Int) : St := ⟨[(3, .dat (.int .i64) (0 : Int)), (6, .dat (.sl (.int .i64)) xs), (7, .dat (.int .i64) (Int.ofNat xs.length)), (8, .dat (.int .i64) i)], []⟩
theorem ev_Or : ∀ x y, sp_Or x = some y → ∃ K, evF E_cmp_Or_int_ K f_cmp_Or_int_ A_cmp_Or_int_ R_cmp_Or_int_ x = some y := by
  rintro ⟨xs, ⟨⟩⟩ y h
  simp only [sp_Or] at h
  split at h
  · rename_i hl
    have h0 (K : Nat) (xs : List Int) : evF E_cmp_Or_int_ K f_cmp_Or_int_ A_cmp_Or_int_ R_cmp_Or_int_ (xs, ()) = evL E_cmp_Or_int_ K f_cmp_Or_int_ R_cmp_Or_int_ [1,1,0,1,0] [] K (stOr xs 0) := by kernel_rfl
    have hs (K n : Nat) (xs : List Int) (s : Unit) (i : Int) : evL E_cmp_Or_int_ K f_cmp_Or_int_ R_cmp_Or_int_ [1,1,0,1,0] [] (n + 1) (stOr xs i) = cond (decide (i < Int.ofNat xs.length)) (cond (decide (0 ≤ i)) (cond (decide (i < (xs.length : Int))) (bodyOr s i (xs.getD i.toNat 0) fun s' => evL E_cmp_Or_int_ K f_cmp_Or_int_ R_cmp_Or_int_ [1,1,0,1,0] [] n (stOr xs (Go.IntKind.wrap .i64 (i + 1)))) none) none) (some ((0 : Int), ())) := by kernel_rfl
    refine ⟨List.length xs + 1, (h0 _ xs).trans ?_⟩
    rw [← h]
    exact for_loop0 (σ := Unit) (L := fun n _ i => evL E_cmp_Or_int_ (List.length xs + 1) f_cmp_Or_int_ R_cmp_Or_int_ [1,1,0,1,0] [] n (stOr xs i)) (d := (0 : Int)) (body := bodyOr) (fin := fun _ => some ((0 : Int), ())) hl (fun n s i => hs _ n xs s i) ()
  · cases h
theorem sp_Or2 (a b : Int) : sp_Or ([a, b], ()) = some (if a ≠ 0 then a else b, ()) := by
  unfold sp_Or
  rw [if_pos (by show 2 ≤ Go.maxLen; decide)]
  show bodyOr () 0 a (fun _ => bodyOr () 1 b fun _ => some ((0 : Int), ())) = _
  unfold bodyOr
  by_cases h : a = 0
  · by_cases h2 : b = 0
    · subst h; subst h2; rfl
    · subst h
      rw [show (b != 0) = true by simp [h2]]
      rfl
  · rw [show (a != 0) = true by simp [h], if_pos h]
    rfl

def labelCmp (a b : T_api_Label.I) : Int := if cmpZ a.1 b.1 ≠ 0 then cmpZ a.1 b.1 else cmpZ a.2.1 b.2.1
abbrev gCmpI : A_cmp_Compare_int_.I → Option R_cmp_Compare_int_.I := fun x => some (cmpZ x.1 x.2.1, ())
abbrev gCmpU : A_cmp_Compare_uint64_.I → Option R_cmp_Compare_uint64_.I := fun x => some (cmpZ x.1 x.2.1, ())
theorem t_label_Cmp (x : A_label_Cmp.I) : ∃ K, evF (E_label_Cmp gCmpI gCmpU sp_Or) K f_label_Cmp A_label_Cmp R_label_Cmp x = some (labelCmp x.1 x.2.1, ()) := by
  obtain ⟨⟨l, c, ⟨⟩⟩, ⟨l', c', ⟨⟩⟩, ⟨⟩⟩ := x
  have h (g1 : A_cmp_Compare_int_.I → Option R_cmp_Compare_int_.I) (g2 : A_cmp_Compare_uint64_.I → Option R_cmp_Compare_uint64_.I) (g3 : A_cmp_Or_int_.I → Option R_cmp_Or_int_.I) (l c l' c' : Int) : evF (E_label_Cmp g1 g2 g3) 0 f_label_Cmp A_label_Cmp R_label_Cmp ((l, c, ()), (l', c', ()), ()) =
      (g1 (l, l', ())).bind fun r => (g2 (c, c', ())).bind fun r' => (g3 ([(show Int from r.1), (show Int from r'.1)], ())).bind fun q => some ((show Int from q.1), ()) := by kernel_rfl
  refine ⟨0, (h _ _ _ l c l' c').trans ?_⟩
  simp only [Option.bind_some]
  rw [sp_Or2]
  rfl
theorem t_ref01_Cmp (x : A_ref01_Cmp.I) : ∃ K, evF E_ref01_Cmp K f_ref01_Cmp A_ref01_Cmp R_ref01_Cmp x = some (labelCmp x.1 x.2.1, ()) := by
  obtain ⟨⟨l, c, ⟨⟩⟩, ⟨l', c', ⟨⟩⟩, ⟨⟩⟩ := x
  have h (l c l' c' : Int) : evF E_ref01_Cmp 0 f_ref01_Cmp A_ref01_Cmp R_ref01_Cmp ((l, c, ()), (l', c', ()), ()) =
      cond (decide (l < l')) (some ((-1 : Int), ())) (cond (l == l') (cond (decide (c < c')) (some ((-1 : Int), ())) (cond (cond (l == l') (cond (c == c') true false) false) (some ((0 : Int), ())) (some ((1 : Int), ())))) (cond (cond (l == l') (cond (c == c') true false) false) (some ((0 : Int), ())) (some ((1 : Int), ())))) := by kernel_rfl
  have key (l c l' c' : Int) : cond (decide (l < l')) (some ((-1 : Int), ())) (cond (l == l') (cond (decide (c < c')) (some ((-1 : Int), ())) (cond (cond (l == l') (cond (c == c') true false) false) (some ((0 : Int), ())) (some ((1 : Int), ())))) (cond (cond (l == l') (cond (c == c') true false) false) (some ((0 : Int), ())) (some ((1 : Int), ())))) = some (if cmpZ l l' ≠ 0 then cmpZ l l' else cmpZ c c', ()) := by
    unfold cmpZ
    simp only [Bool.cond_eq_ite, decide_eq_true_eq, beq_iff_eq]
    (repeat' split) <;> simp_all <;> omega
  exact ⟨0, (h l c l' c').trans (key l c l' c')⟩
end Go.Proofs.YticimhklggikiaaDoor

/-! Plain specs: plans. -/
namespace Go.Proofs.YticimhklggikiaaDoor
open Go.Ev
set_option linter.unusedVariables false
set_option linter.unusedSimpArgs false

/-! ### bound.least -/
def leastN (g : G1 (.int .i64)) : Nat → Int → Option (Int × Unit)
  | 0, _ => none
  | n + 1, i => (g (i, ())).bind fun r => cond r.1 (some (i, ())) (leastN g n (Go.IntKind.wrap .i64 (i + 1)))
def sp_least (x : A_bound_least.I) : Option R_bound_least.I := match x.1 with | some g => leastN g 20000 1 | none => none
abbrev stLeast (g : G1 (.int .i64)) (i : Int) : St := ⟨[(0, .dat (B1 (.int .i64)) (some g)), (3, .dat (.int .i64) i)], []⟩
theorem ev_least : ∀ x y, sp_least x = some y → ∃ K, evF E_bound_least K f_bound_least A_bound_least R_bound_least x = some y := by
  rintro ⟨g, ⟨⟩⟩ y h
  cases g with
  | none => cases h
  | some g =>
    have h0 (K : Nat) (g : G1 (.int .i64)) : evF E_bound_least K f_bound_least A_bound_least R_bound_least (some g, ()) = evL E_bound_least K f_bound_least R_bound_least [1,1,0,0] [] K (stLeast g 1) := by kernel_rfl
    have hz (K : Nat) (g : G1 (.int .i64)) (i : Int) : evL E_bound_least K f_bound_least R_bound_least [1,1,0,0] [] 0 (stLeast g i) = none := by kernel_rfl
    have hs (K n : Nat) (g : G1 (.int .i64)) (i : Int) : evL E_bound_least K f_bound_least R_bound_least [1,1,0,0] [] (n + 1) (stLeast g i) = (g (i, ())).bind fun r => cond r.1 (some (i, ())) (evL E_bound_least K f_bound_least R_bound_least [1,1,0,0] [] n (stLeast g (Go.IntKind.wrap .i64 (i + 1)))) := by kernel_rfl
    have key : ∀ (n : Nat) (i : Int), evL E_bound_least 20000 f_bound_least R_bound_least [1,1,0,0] [] n (stLeast g i) = leastN g n i := by
      intro n
      induction n with
      | zero => intro i; exact hz 20000 g i
      | succ n ih => intro i; rw [hs, leastN]; simp only [ih]
    refine ⟨20000, (h0 20000 g).trans ?_⟩
    rw [← h]
    exact key 20000 1

/-! ### vault, area -/
def mayP (p : T_api_Plan.I) : Bool := (within p.1 1 16384 && within p.2.2.1 1 16384 && within p.2.1 1 16) && decide (2 * p.1 + p.2.1 * p.2.2.1 ≤ 16384)
theorem wrap64 {n : Int} (h : -9223372036854775808 ≤ n ∧ n ≤ 9223372036854775807) : Go.IntKind.wrap .i64 n = n := Go.IntWalk.i64_in n h
theorem t_vault_may (x : A_vault_may.I) : ∃ K, evF E_vault_may K f_vault_may A_vault_may R_vault_may x = some (mayP x.1, ()) := by
  obtain ⟨⟨a, p, e, ⟨⟩⟩, ⟨⟩⟩ := x
  have h (a p e : Int) : evF E_vault_may 0 f_vault_may A_vault_may R_vault_may ((a, p, e, ()), ()) =
      cond (decide (a < 1)) (some (false, ())) (cond (decide (a > 16384)) (some (false, ())) (cond (decide (e < 1)) (some (false, ())) (cond (decide (e > 16384)) (some (false, ())) (cond (decide (p < 1)) (some (false, ())) (cond (decide (p > 16)) (some (false, ()))
        (cond (decide (Go.IntKind.wrap .i64 (Go.IntKind.wrap .i64 (2 * a) + Go.IntKind.wrap .i64 (p * e)) ≤ 16384)) (some (true, ())) (some (false, ())))))))) := by kernel_rfl
  have key (a p e : Int) : (cond (decide (a < 1)) (some (false, ())) (cond (decide (a > 16384)) (some (false, ())) (cond (decide (e < 1)) (some (false, ())) (cond (decide (e > 16384)) (some (false, ())) (cond (decide (p < 1)) (some (false, ())) (cond (decide (p > 16)) (some (false, ()))
        (cond (decide (Go.IntKind.wrap .i64 (Go.IntKind.wrap .i64 (2 * a) + Go.IntKind.wrap .i64 (p * e)) ≤ 16384)) (some (true, ())) (some (false, ())))))))) : Option (Bool × Unit)) = some (mayP (a, p, e, ()), ()) := by
    unfold mayP within
    simp only [Bool.cond_eq_ite, decide_eq_true_eq]
    split
    · rename_i h1; rw [decide_eq_false (show ¬ (1 : Int) ≤ a by omega)]; rfl
    split
    · rename_i h1; rw [decide_eq_false (show ¬ a ≤ 16384 by omega)]; simp
    split
    · rename_i h1; rw [decide_eq_false (show ¬ (1 : Int) ≤ e by omega)]; simp
    split
    · rename_i h1; rw [decide_eq_false (show ¬ e ≤ 16384 by omega)]; simp
    split
    · rename_i h1; rw [decide_eq_false (show ¬ (1 : Int) ≤ p by omega)]; simp
    split
    · rename_i h1; rw [decide_eq_false (show ¬ p ≤ 16 by omega)]; simp
    rename_i h1 h2 h3 h4 h5 h6
    have hpe : 0 ≤ p * e := Int.mul_nonneg (by omega) (by omega)
    have hpe2 : p * e ≤ 16 * 16384 := Int.mul_le_mul (by omega) (by omega) (by omega) (by omega)
    rw [wrap64 (n := 2 * a) (by omega), wrap64 (n := p * e) (by omega), wrap64 (n := 2 * a + p * e) (by omega)]
    rw [decide_eq_true (show (1 : Int) ≤ a by omega), decide_eq_true (show a ≤ 16384 by omega), decide_eq_true (show (1 : Int) ≤ e by omega), decide_eq_true (show e ≤ 16384 by omega), decide_eq_true (show (1 : Int) ≤ p by omega), decide_eq_true (show p ≤ 16 by omega)]
    split
    · rename_i h7; rw [decide_eq_true h7]; rfl
    · rename_i h7; rw [decide_eq_false h7]; rfl
  exact ⟨0, (h a p e).trans (key a p e)⟩
/-- How much so many sectors hold. -/
def roomA (n : Int) : Int := if 108 * n - 4 < 0 then 0 else 108 * n - 4
def sp_Room (x : A_area_Room.I) : Option R_area_Room.I := if within x.1 1 16384 = true then some (roomA x.1, ()) else none
theorem ev_area_Room : ∀ x y, sp_Room x = some y → ∃ K, evF E_area_Room K f_area_Room A_area_Room R_area_Room x = some y := by
  rintro ⟨n, ⟨⟩⟩ y h
  have h0 (n : Int) : evF E_area_Room 0 f_area_Room A_area_Room R_area_Room (n, ()) = some ((if Go.IntKind.wrap .i64 (Go.IntKind.wrap .i64 (108 * if n < 0 then 0 else n) - 4) < 0 then (0 : Int) else Go.IntKind.wrap .i64 (Go.IntKind.wrap .i64 (108 * if n < 0 then 0 else n) - 4)), ()) := by kernel_rfl
  have key (n : Int) (hw : within n 1 16384 = true) : (if Go.IntKind.wrap .i64 (Go.IntKind.wrap .i64 (108 * if n < 0 then 0 else n) - 4) < 0 then (0 : Int) else Go.IntKind.wrap .i64 (Go.IntKind.wrap .i64 (108 * if n < 0 then 0 else n) - 4)) = roomA n := by
    unfold within at hw
    simp only [Bool.and_eq_true, decide_eq_true_eq] at hw
    rw [if_neg (show ¬ n < 0 by omega), wrap64 (n := 108 * n) (by omega), wrap64 (n := 108 * n - 4) (by omega)]
    rfl
  simp only [sp_Room] at h
  split at h
  · rename_i hw
    refine ⟨0, (h0 n).trans ?_⟩
    rw [← h, key n hw]
  · cases h
end Go.Proofs.YticimhklggikiaaDoor

/-! Plain specs: plans, on. -/
namespace Go.Proofs.YticimhklggikiaaDoor
open Go.Ev
set_option linter.unusedVariables false
set_option linter.unusedSimpArgs false

theorem leastN_spec {g : G1 (.int .i64)} {m : Int} (hm : m ≤ 1000000) (ht : g (m, ()) = some (true, ())) : ∀ (k n : Nat) (i : Int), 0 ≤ i → i + k = m → k < n → (∀ j : Int, i ≤ j → j < m → g (j, ()) = some (false, ())) → leastN g n i = some (m, ())
  | 0, n, i, h0, hi, hn, _ => by
    obtain ⟨n, rfl⟩ : ∃ n', n = n' + 1 := ⟨n - 1, by omega⟩
    have : i = m := by omega
    subst this
    simp only [leastN, ht, Option.bind_some, cond_true]
  | k + 1, n, i, h0, hi, hn, hf => by
    obtain ⟨n, rfl⟩ : ∃ n', n = n' + 1 := ⟨n - 1, by omega⟩
    simp only [leastN]
    rw [hf i (by omega) (by omega), Option.bind_some, cond_false, wrap64 (by omega)]
    exact leastN_spec hm ht k n (i + 1) (by omega) (by omega) (by omega) fun j h1 h2 => hf j (by omega) h2

abbrev gMay : A_vault_may.I → Option R_vault_may.I := fun x => some (mayP x.1, ())
def roomV (p : T_api_Plan.I) : Int × Int := if mayP p = true then (if roomA p.1 - 8 < 0 then 0 else roomA p.1 - 8, roomA p.2.2.1) else (0, 0)
theorem t_vault_Room (x : A_vault_Room.I) : ∃ K, evF (E_vault_Room gMay sp_Room) K f_vault_Room A_vault_Room R_vault_Room x = some ((roomV x.1).1, (roomV x.1).2, ()) := by
  obtain ⟨⟨a, p, e, ⟨⟩⟩, ⟨⟩⟩ := x
  have h (g1 : A_vault_may.I → Option R_vault_may.I) (g2 : A_area_Room.I → Option R_area_Room.I) (a p e : Int) : evF (E_vault_Room g1 g2) 0 f_vault_Room A_vault_Room R_vault_Room ((a, p, e, ()), ()) =
      (g1 ((a, p, e, ()), ())).bind fun r => cond r.1 ((g2 (a, ())).bind fun s => (g2 (e, ())).bind fun t => some ((if Go.IntKind.wrap .i64 ((show Int from s.1) - 8) < 0 then (0 : Int) else Go.IntKind.wrap .i64 ((show Int from s.1) - 8)), (show Int from t.1), ())) (some ((0 : Int), (0 : Int), ())) := by kernel_rfl
  have key (a p e : Int) : ((gMay ((a, p, e, ()), ())).bind fun r => cond r.1 ((sp_Room (a, ())).bind fun s => (sp_Room (e, ())).bind fun t => some ((if Go.IntKind.wrap .i64 ((show Int from s.1) - 8) < 0 then (0 : Int) else Go.IntKind.wrap .i64 ((show Int from s.1) - 8)), (show Int from t.1), ())) (some ((0 : Int), (0 : Int), ()))) = some ((roomV (a, p, e, ())).1, (roomV (a, p, e, ())).2, ()) := by
    simp only [Option.bind_some]
    by_cases hm : mayP (a, p, e, ()) = true
    · have hw : within a 1 16384 = true ∧ within e 1 16384 = true := by
        unfold mayP at hm
        simp only [Bool.and_eq_true] at hm
        exact ⟨hm.1.1.1, hm.1.1.2⟩
      have hb : 1 ≤ a ∧ a ≤ 16384 := by have := hw.1; unfold within at this; simpa using this
      have hr : roomA a = 108 * a - 4 := by unfold roomA; rw [if_neg (by omega)]
      unfold roomV
      rw [hm, if_pos rfl]
      simp only [cond_true, sp_Room]
      rw [if_pos hw.1, if_pos hw.2, Option.bind_some, Option.bind_some]
      rw [wrap64 (n := roomA a - 8) (by omega)]
    · simp only [Bool.not_eq_true] at hm
      unfold roomV
      rw [hm]
      rfl
  exact ⟨0, (h _ _ a p e).trans (key a p e)⟩
theorem t_vault_Need (x : A_vault_Need.I) : ∃ K, evF (E_vault_Need gMay) K f_vault_Need A_vault_Need R_vault_Need x = some (if mayP x.1 = true then 2 * x.1.1 + x.1.2.1 * x.1.2.2.1 else (0 : Int), ()) := by
  obtain ⟨⟨a, p, e, ⟨⟩⟩, ⟨⟩⟩ := x
  have h (g1 : A_vault_may.I → Option R_vault_may.I) (a p e : Int) : evF (E_vault_Need g1) 0 f_vault_Need A_vault_Need R_vault_Need ((a, p, e, ()), ()) =
      (g1 ((a, p, e, ()), ())).bind fun r => cond r.1 (some (Go.IntKind.wrap .i64 (Go.IntKind.wrap .i64 (2 * a) + Go.IntKind.wrap .i64 (p * e)), ())) (some ((0 : Int), ())) := by kernel_rfl
  have key (a p e : Int) : ((gMay ((a, p, e, ()), ())).bind fun r => cond r.1 (some (Go.IntKind.wrap .i64 (Go.IntKind.wrap .i64 (2 * a) + Go.IntKind.wrap .i64 (p * e)), ())) (some ((0 : Int), ()))) = some (if mayP (a, p, e, ()) = true then 2 * a + p * e else (0 : Int), ()) := by
    simp only [Option.bind_some]
    by_cases hm : mayP (a, p, e, ()) = true
    · have hw := hm
      unfold mayP within at hw
      simp only [Bool.and_eq_true, decide_eq_true_eq] at hw
      obtain ⟨⟨⟨⟨h1, h2⟩, h3, h4⟩, h5, h6⟩, h7⟩ := hw
      have hpe : 0 ≤ p * e := Int.mul_nonneg (by omega) (by omega)
      have h7' : 2 * a + p * e ≤ 16384 := h7
      rw [hm, if_pos rfl, wrap64 (n := 2 * a) (by omega), wrap64 (n := p * e) (by omega), wrap64 (n := 2 * a + p * e) (by omega)]
      rfl
    · simp only [Bool.not_eq_true] at hm
      rw [hm]
      rfl
  exact ⟨0, (h _ a p e).trans (key a p e)⟩

/-! ### ref24.up -/
def sp_up (x : A_ref24_up.I) : Option R_ref24_up.I := if within x.1 0 1000000 = true then some ((show Int from x.1 + 107) / 108, ()) else none
theorem ev_up : ∀ x y, sp_up x = some y → ∃ K, evF E_ref24_up K f_ref24_up A_ref24_up R_ref24_up x = some y := by
  rintro ⟨n, ⟨⟩⟩ y h
  have h0 (n : Int) : evF E_ref24_up 0 f_ref24_up A_ref24_up R_ref24_up (n, ()) = some (Go.IntKind.wrap .i64 (Int.tdiv (Go.IntKind.wrap .i64 (n + 107)) 108), ()) := by kernel_rfl
  have key (n : Int) (hw : within n 0 1000000 = true) : Go.IntKind.wrap .i64 (Int.tdiv (Go.IntKind.wrap .i64 (n + 107)) 108) = (n + 107) / 108 := by
    unfold within at hw
    simp only [Bool.and_eq_true, decide_eq_true_eq] at hw
    rw [wrap64 (n := n + 107) (by omega), Int.tdiv_eq_ediv_of_nonneg (by omega)]
    exact wrap64 (by omega)
  simp only [sp_up] at h
  split at h
  · rename_i hw
    refine ⟨0, (h0 n).trans ?_⟩
    rw [← h, key n hw]
  · cases h

/-! ### Plan's closures -/
abbrev gRoom : A_vault_Room.I → Option R_vault_Room.I := fun x => some ((roomV x.1).1, (roomV x.1).2, ())
def sp_Plan_1 (img : A_bound_Image.I → Option R_bound_Image.I) (x : A_bound_Plan_1.I) : Option R_bound_Plan_1.I := match x.2.1 with
  | some r => (img (r, ())).bind fun q => some (decide ((roomV (x.1, 1, 1, ())).1 ≥ (show Int from q.1)), ())
  | none => none
theorem ev_Plan_1 (img : A_bound_Image.I → Option R_bound_Image.I) : ∀ x y, sp_Plan_1 img x = some y → ∃ K, evF (E_bound_Plan_1 gRoom img) K f_bound_Plan_1 A_bound_Plan_1 R_bound_Plan_1 x = some y := by
  rintro ⟨n, r, ⟨⟩⟩ y h
  cases r with
  | none => cases h
  | some r =>
    have h0 (g1 : A_vault_Room.I → Option R_vault_Room.I) (img : A_bound_Image.I → Option R_bound_Image.I) (n : Int) (r : T_api_Realm.I) : evF (E_bound_Plan_1 g1 img) 0 f_bound_Plan_1 A_bound_Plan_1 R_bound_Plan_1 (n, some r, ()) = (g1 ((n, 1, 1, ()), ())).bind fun q => (img (r, ())).bind fun t => cond (decide ((show Int from q.1) ≥ (show Int from t.1))) (some (true, ())) (some (false, ())) := by kernel_rfl
    refine ⟨0, (h0 _ _ n r).trans ?_⟩
    rw [← h]
    simp only [Option.bind_some, sp_Plan_1]
    congr 1
    funext q
    cases decide ((roomV (n, 1, 1, ())).1 ≥ (show Int from q.1)) <;> rfl
def sp_Plan_2 (rec : A_bound_Record.I → Option R_bound_Record.I) (x : A_bound_Plan_2.I) : Option R_bound_Plan_2.I := match x.2.1 with
  | some r => (rec (r, ())).bind fun q => some (decide ((roomV (1, 1, x.1, ())).2 ≥ (show Int from q.1)), ())
  | none => none
theorem ev_Plan_2 (rec : A_bound_Record.I → Option R_bound_Record.I) : ∀ x y, sp_Plan_2 rec x = some y → ∃ K, evF (E_bound_Plan_2 gRoom rec) K f_bound_Plan_2 A_bound_Plan_2 R_bound_Plan_2 x = some y := by
  rintro ⟨n, r, ⟨⟩⟩ y h
  cases r with
  | none => cases h
  | some r =>
    have h0 (g1 : A_vault_Room.I → Option R_vault_Room.I) (rec : A_bound_Record.I → Option R_bound_Record.I) (n : Int) (r : T_api_Realm.I) : evF (E_bound_Plan_2 g1 rec) 0 f_bound_Plan_2 A_bound_Plan_2 R_bound_Plan_2 (n, some r, ()) = (g1 ((1, 1, n, ()), ())).bind fun q => (rec (r, ())).bind fun t => cond (decide ((show Int from q.2.1) ≥ (show Int from t.1))) (some (true, ())) (some (false, ())) := by kernel_rfl
    refine ⟨0, (h0 _ _ n r).trans ?_⟩
    rw [← h]
    simp only [Option.bind_some, sp_Plan_2]
    congr 1
    funext q
    cases decide ((roomV (1, 1, n, ())).2 ≥ (show Int from q.1)) <;> rfl
end Go.Proofs.YticimhklggikiaaDoor

/-! Plain specs: the plan. -/
namespace Go.Proofs.YticimhklggikiaaDoor
open Go.Ev
set_option linter.unusedVariables false
set_option linter.unusedSimpArgs false

section
def roundsOf (r : T_api_Realm.I) : Int := r.2.2.2.2.2.2.2.2.1
def planOf (b : Bool) (i c : Int) (r : T_api_Realm.I) : T_api_Plan.I × Int := if b = true then (((i + 119) / 108, roundsOf r, (c + 111) / 108, ()), 0) else ((0, 0, 0, ()), 1)

theorem mayP1 (n : Int) (h : 1 ≤ n ∧ n ≤ 8000) : mayP (n, 1, 1, ()) = true ∧ mayP (1, 1, n, ()) = true := by
  unfold mayP within
  simp only [Bool.and_eq_true, decide_eq_true_eq]
  constructor <;> (refine ⟨⟨⟨⟨?_, ?_⟩, ?_, ?_⟩, ?_, ?_⟩, ?_⟩ <;> first | omega | (show _ ≤ (16384 : Int); omega))

theorem least_area {i : Int} (h : 1 ≤ i ∧ i ≤ 500000) {g : G1 (.int .i64)} (hg : ∀ n : Int, 1 ≤ n → n ≤ 8000 → g (n, ()) = some (decide ((roomV (n, 1, 1, ())).1 ≥ i), ())) : leastN g 20000 1 = some ((i + 119) / 108, ()) := by
  have hroom : ∀ n : Int, 1 ≤ n → n ≤ 8000 → (roomV (n, 1, 1, ())).1 = 108 * n - 12 := by
    intro n h1 h2
    unfold roomV
    rw [if_pos (mayP1 n ⟨h1, h2⟩).1]
    show (if roomA n - 8 < 0 then 0 else roomA n - 8) = _
    have hr : roomA n = 108 * n - 4 := by unfold roomA; rw [if_neg (by omega)]
    rw [hr, if_neg (by omega)]
    omega
  refine leastN_spec (by omega) ?_ ((i + 119) / 108 - 1).toNat 20000 1 (by omega) (by omega) (by omega) fun j h1 h2 => ?_
  · rw [hg _ (by omega) (by omega), hroom _ (by omega) (by omega), decide_eq_true (by omega)]
  · rw [hg _ (by omega) (by omega), hroom _ (by omega) (by omega), decide_eq_false (by omega)]
theorem least_each {i : Int} (h : 1 ≤ i ∧ i ≤ 500000) {g : G1 (.int .i64)} (hg : ∀ n : Int, 1 ≤ n → n ≤ 8000 → g (n, ()) = some (decide ((roomV (1, 1, n, ())).2 ≥ i), ())) : leastN g 20000 1 = some ((i + 111) / 108, ()) := by
  have hroom : ∀ n : Int, 1 ≤ n → n ≤ 8000 → (roomV (1, 1, n, ())).2 = 108 * n - 4 := by
    intro n h1 h2
    unfold roomV
    rw [if_pos (mayP1 n ⟨h1, h2⟩).2]
    show roomA n = _
    unfold roomA
    rw [if_neg (by omega)]
  refine leastN_spec (by omega) ?_ ((i + 111) / 108 - 1).toNat 20000 1 (by omega) (by omega) (by omega) fun j h1 h2 => ?_
  · rw [hg _ (by omega) (by omega), hroom _ (by omega) (by omega), decide_eq_true (by omega)]
  · rw [hg _ (by omega) (by omega), hroom _ (by omega) (by omega), decide_eq_false (by omega)]

theorem t_Plan {gr : A_realm_Right.I → Option R_realm_Right.I} {gi : A_bound_Image.I → Option R_bound_Image.I} {gc : A_bound_Record.I → Option R_bound_Record.I} {r : T_api_Realm.I} {b : Bool} {i c : Int} (hg : gr (r, ()) = some (b, ())) (hi : gi (r, ()) = some (i, ())) (hc : gc (r, ()) = some (c, ())) (hb : b = true → (1 ≤ i ∧ i ≤ 500000) ∧ 1 ≤ c ∧ c ≤ 500000) :
    ∃ K, evF (E_bound_Plan gr (sp_Plan_1 gi) sp_least (sp_Plan_2 gc)) K f_bound_Plan A_bound_Plan R_bound_Plan (r, ()) = some ((planOf b i c r).1, (planOf b i c r).2, ()) := by
  have h (g1 : A_realm_Right.I → Option R_realm_Right.I) (g2 : A_bound_Plan_1.I → Option R_bound_Plan_1.I) (g3 : A_bound_least.I → Option R_bound_least.I) (g4 : A_bound_Plan_2.I → Option R_bound_Plan_2.I) (r : T_api_Realm.I) : evF (E_bound_Plan g1 g2 g3 g4) 0 f_bound_Plan A_bound_Plan R_bound_Plan (r, ()) =
      (g1 (r, ())).bind fun q => cond q.1 ((g3 (some fun z => g2 (z.1, some r, ()), ())).bind fun s => (g3 (some fun z => g4 (z.1, some r, ()), ())).bind fun t => some ((s.1, r.2.2.2.2.2.2.2.2.1, t.1, ()), (0 : Int), ())) (some (((0 : Int), (0 : Int), (0 : Int), ()), (1 : Int), ())) := by kernel_rfl
  refine ⟨0, (h _ _ _ _ r).trans ?_⟩
  rw [hg, Option.bind_some]
  cases b with
  | true =>
    obtain ⟨h1, h2⟩ := hb rfl
    have e1 : sp_least (some fun z => sp_Plan_1 gi (z.1, some r, ()), ()) = some ((i + 119) / 108, ()) := least_area h1 (g := fun z => sp_Plan_1 gi (z.1, some r, ())) fun n _ _ => by simp only [sp_Plan_1, hi, Option.bind_some]
    have e2 : sp_least (some fun z => sp_Plan_2 gc (z.1, some r, ()), ()) = some ((c + 111) / 108, ()) := least_each h2 (g := fun z => sp_Plan_2 gc (z.1, some r, ())) fun n _ _ => by simp only [sp_Plan_2, hc, Option.bind_some]
    unfold planOf
    rw [if_pos rfl, cond_true, e1, Option.bind_some, e2, Option.bind_some]
    rfl
  | false => rfl

theorem t_ref24_Plan {gr : A_ref05_Right.I → Option R_ref05_Right.I} {gi : A_ref24_Image.I → Option R_ref24_Image.I} {gc : A_ref24_Record.I → Option R_ref24_Record.I} {r : T_api_Realm.I} {b : Bool} {i c : Int} (hg : gr (r, ()) = some (b, ())) (hi : gi (r, ()) = some (i, ())) (hc : gc (r, ()) = some (c, ())) (hb : b = true → (1 ≤ i ∧ i ≤ 500000) ∧ 1 ≤ c ∧ c ≤ 500000) :
    ∃ K, evF (E_ref24_Plan gr gi sp_up gc) K f_ref24_Plan A_ref24_Plan R_ref24_Plan (r, ()) = some ((planOf b i c r).1, (planOf b i c r).2, ()) := by
  have h (g1 : A_ref05_Right.I → Option R_ref05_Right.I) (g2 : A_ref24_Image.I → Option R_ref24_Image.I) (g3 : A_ref24_up.I → Option R_ref24_up.I) (g4 : A_ref24_Record.I → Option R_ref24_Record.I) (r : T_api_Realm.I) : evF (E_ref24_Plan g1 g2 g3 g4) 0 f_ref24_Plan A_ref24_Plan R_ref24_Plan (r, ()) =
      (g1 (r, ())).bind fun q => cond q.1 ((g2 (r, ())).bind fun i => (g3 (Go.IntKind.wrap .i64 ((show Int from i.1) + 12), ())).bind fun s => (g4 (r, ())).bind fun c => (g3 (Go.IntKind.wrap .i64 ((show Int from c.1) + 4), ())).bind fun t => some ((s.1, r.2.2.2.2.2.2.2.2.1, t.1, ()), (0 : Int), ())) (some (((0 : Int), (0 : Int), (0 : Int), ()), (1 : Int), ())) := by kernel_rfl
  refine ⟨0, (h _ _ _ _ r).trans ?_⟩
  rw [hg, Option.bind_some]
  cases b with
  | true =>
    obtain ⟨h1, h2⟩ := hb rfl
    have up (n : Int) (hn : 0 ≤ n ∧ n ≤ 600000) (k : Int) (hk : k = (n + 107) / 108) : sp_up (Go.IntKind.wrap .i64 n, ()) = some (k, ()) := by
      unfold sp_up
      rw [wrap64 (by omega), if_pos (by unfold within; simp; omega), hk]
    unfold planOf
    rw [if_pos rfl, cond_true, hi, Option.bind_some, up (i + 12) (by omega) ((i + 119) / 108) (by omega), Option.bind_some, hc, Option.bind_some, up (c + 4) (by omega) ((c + 111) / 108) (by omega), Option.bind_some]
    rfl
  | false => rfl
end
end Go.Proofs.YticimhklggikiaaDoor

/-! Plain specs: images and records. -/
namespace Go.Proofs.YticimhklggikiaaDoor
open Go.Ev
set_option linter.unusedVariables false
set_option linter.unusedSimpArgs false

/-- What is asked of a realm's numbers here. -/
structure OkR (r : T_api_Realm.I) : Prop where
  lines : 1 ≤ List.length r.2.1 ∧ List.length r.2.1 ≤ 8
  accounts : List.length r.2.2.1 ≤ 8
  guilds : List.length r.2.2.2.1 ≤ 8
  quotas : List.length r.2.2.2.2.1 ≤ 8
  slots : ∀ q ∈ (show List T_api_Quota.I from r.2.2.2.2.1), within q.1 0 12 = true ∧ within q.2.1 0 12 = true ∧ within q.2.2.1 0 12 = true ∧ within q.2.2.2.1 0 12 = true ∧ within q.2.2.2.2.1 0 12 = true
  orders : within r.2.2.2.2.2.1 0 24 = true
  audits : within r.2.2.2.2.2.2.1 0 48 = true

def shelfV (q : T_api_Quota.I) (m : Int) : Int := 64 + 34 * m + 14 * q.1 + 6 * q.2.1 + 18 * q.2.2.1 + 45 * q.2.2.2.1 + 23 * q.2.2.2.2.1
def slotsOk (q : T_api_Quota.I) : Bool := within q.1 0 12 && (within q.2.1 0 12 && (within q.2.2.1 0 12 && (within q.2.2.2.1 0 12 && within q.2.2.2.2.1 0 12)))
def sp_shelf (x : A_bound_shelf.I) : Option R_bound_shelf.I := if (slotsOk x.1 && within x.2.1 0 8) = true then some (shelfV x.1 x.2.1, ()) else none
theorem ev_shelf : ∀ x y, sp_shelf x = some y → ∃ K, evF E_bound_shelf K f_bound_shelf A_bound_shelf R_bound_shelf x = some y := by
  rintro ⟨⟨a, b, c, d, e, u, ⟨⟩⟩, m, ⟨⟩⟩ y h
  have h0 (a b c d e u m : Int) : evF E_bound_shelf 6 f_bound_shelf A_bound_shelf R_bound_shelf ((a, b, c, d, e, u, ()), m, ()) =
      some (Go.IntKind.wrap .i64 (Go.IntKind.wrap .i64 (Go.IntKind.wrap .i64 (Go.IntKind.wrap .i64 (Go.IntKind.wrap .i64 (Go.IntKind.wrap .i64 (64 + Go.IntKind.wrap .i64 (34 * m)) + Go.IntKind.wrap .i64 (14 * a)) + Go.IntKind.wrap .i64 (6 * b)) + Go.IntKind.wrap .i64 (18 * c)) + Go.IntKind.wrap .i64 (45 * d)) + Go.IntKind.wrap .i64 (23 * e)), ()) := by kernel_rfl
  have key (a b c d e u m : Int) (hw : (slotsOk (a, b, c, d, e, u, ()) && within m 0 8) = true) : (Go.IntKind.wrap .i64 (Go.IntKind.wrap .i64 (Go.IntKind.wrap .i64 (Go.IntKind.wrap .i64 (Go.IntKind.wrap .i64 (Go.IntKind.wrap .i64 (64 + Go.IntKind.wrap .i64 (34 * m)) + Go.IntKind.wrap .i64 (14 * a)) + Go.IntKind.wrap .i64 (6 * b)) + Go.IntKind.wrap .i64 (18 * c)) + Go.IntKind.wrap .i64 (45 * d)) + Go.IntKind.wrap .i64 (23 * e))) = shelfV (a, b, c, d, e, u, ()) m := by
    unfold slotsOk within at hw
    simp only [Bool.and_eq_true, decide_eq_true_eq] at hw
    obtain ⟨⟨⟨h1, h2⟩, ⟨h3, h4⟩, ⟨h5, h6⟩, ⟨h7, h8⟩, h9, h10⟩, h11, h12⟩ := hw
    rw [wrap64 (n := 34 * m) (by omega), wrap64 (n := 14 * a) (by omega), wrap64 (n := 6 * b) (by omega), wrap64 (n := 18 * c) (by omega), wrap64 (n := 45 * d) (by omega), wrap64 (n := 23 * e) (by omega)]
    rw [wrap64 (n := 64 + 34 * m) (by omega), wrap64 (n := 64 + 34 * m + 14 * a) (by omega), wrap64 (n := 64 + 34 * m + 14 * a + 6 * b) (by omega), wrap64 (n := 64 + 34 * m + 14 * a + 6 * b + 18 * c) (by omega), wrap64 (n := 64 + 34 * m + 14 * a + 6 * b + 18 * c + 45 * d) (by omega), wrap64 (n := 64 + 34 * m + 14 * a + 6 * b + 18 * c + 45 * d + 23 * e) (by omega)]
    rfl
  simp only [sp_shelf] at h
  split at h
  · rename_i hw
    refine ⟨6, (h0 a b c d e u m).trans ?_⟩
    rw [← h, key a b c d e u m hw]
  · cases h

def recV (b : Bool) (r : T_api_Realm.I) : Int := if b = true then 8 + 61 * (List.length r.2.1 : Int) else 0
theorem t_Record {gr : A_realm_Right.I → Option R_realm_Right.I} {r : T_api_Realm.I} {b : Bool} (hg : gr (r, ()) = some (b, ())) (hb : b = true → OkR r) : ∃ K, evF (E_bound_Record gr) K f_bound_Record A_bound_Record R_bound_Record (r, ()) = some (recV b r, ()) := by
  have h (g : A_realm_Right.I → Option R_realm_Right.I) (r : T_api_Realm.I) : evF (E_bound_Record g) 0 f_bound_Record A_bound_Record R_bound_Record (r, ()) = (g (r, ())).bind fun q => cond q.1 (some (Go.IntKind.wrap .i64 (8 + Go.IntKind.wrap .i64 (61 * (List.length r.2.1 : Int))), ())) (some ((0 : Int), ())) := by kernel_rfl
  refine ⟨0, (h _ r).trans ?_⟩
  rw [hg, Option.bind_some]
  unfold recV
  cases b with
  | true =>
    have := (hb rfl).lines
    rw [if_pos rfl, cond_true, wrap64 (n := 61 * (List.length r.2.1 : Int)) (by omega), wrap64 (by omega)]
  | false => rfl
theorem t_ref24_Record {gr : A_ref05_Right.I → Option R_ref05_Right.I} {r : T_api_Realm.I} {b : Bool} (hg : gr (r, ()) = some (b, ())) (hb : b = true → OkR r) : ∃ K, evF (E_ref24_Record gr) K f_ref24_Record A_ref24_Record R_ref24_Record (r, ()) = some (recV b r, ()) := by
  have h (g : A_ref05_Right.I → Option R_ref05_Right.I) (r : T_api_Realm.I) : evF (E_ref24_Record g) 0 f_ref24_Record A_ref24_Record R_ref24_Record (r, ()) = (g (r, ())).bind fun q => cond q.1 (some (Go.IntKind.wrap .i64 (8 + Go.IntKind.wrap .i64 (61 * (List.length r.2.1 : Int))), ())) (some ((0 : Int), ())) := by kernel_rfl
  refine ⟨0, (h _ r).trans ?_⟩
  rw [hg, Option.bind_some]
  unfold recV
  cases b with
  | true =>
    have := (hb rfl).lines
    rw [if_pos rfl, cond_true, wrap64 (n := 61 * (List.length r.2.1 : Int)) (by omega), wrap64 (by omega)]
  | false => rfl
end Go.Proofs.YticimhklggikiaaDoor

/-! Plain specs: images. -/
namespace Go.Proofs.YticimhklggikiaaDoor
open Go.Ev
set_option linter.unusedVariables false
set_option linter.unusedSimpArgs false

def sumV (m : Int) : List T_api_Quota.I → Int → Int
  | [], s => s
  | q :: qs, s => sumV m qs (s + shelfV q m)
def startV (r : T_api_Realm.I) : Int := 9 + (List.length r.2.1 : Int) + (List.length r.2.2.2.1 : Int) * (List.length r.2.2.1 : Int) + 23 * r.2.2.2.2.2.1 + 31 * r.2.2.2.2.2.2.1
theorem shelfV_le {q : T_api_Quota.I} {m : Int} (hm : 0 ≤ m ∧ m ≤ 8) (h : slotsOk q = true) : 0 ≤ shelfV q m ∧ shelfV q m ≤ 2000 := by
  obtain ⟨a, b, c, d, e, u, ⟨⟩⟩ := q
  have key (a b c d e m : Int) (hm : 0 ≤ m ∧ m ≤ 8) (h : ((decide (0 ≤ a) && decide (a ≤ 12)) && ((decide (0 ≤ b) && decide (b ≤ 12)) && ((decide (0 ≤ c) && decide (c ≤ 12)) && ((decide (0 ≤ d) && decide (d ≤ 12)) && (decide (0 ≤ e) && decide (e ≤ 12)))))) = true) : 0 ≤ 64 + 34 * m + 14 * a + 6 * b + 18 * c + 45 * d + 23 * e ∧ 64 + 34 * m + 14 * a + 6 * b + 18 * c + 45 * d + 23 * e ≤ 2000 := by
    simp only [Bool.and_eq_true, decide_eq_true_eq] at h
    omega
  exact key a b c d e m hm h
theorem sumV_le {m : Int} (hm : 0 ≤ m ∧ m ≤ 8) : ∀ (qs : List T_api_Quota.I) (s : Int), (∀ q ∈ qs, slotsOk q = true) → s ≤ sumV m qs s ∧ sumV m qs s ≤ s + 2000 * qs.length
  | [], s, _ => ⟨Int.le_refl _, by simp [sumV]⟩
  | q :: qs, s, h => by
    have h1 := shelfV_le hm (h q (by simp))
    have h2 := sumV_le hm qs (s + shelfV q m) fun q hq => h q (by simp [hq])
    simp only [sumV, List.length_cons]
    omega

def imgV (b : Bool) (r : T_api_Realm.I) : Int := if b = true then sumV (List.length r.2.2.1 : Int) r.2.2.2.2.1 (startV r) else 0
theorem OkR.start {r : T_api_Realm.I} (h : OkR r) : 9 ≤ startV r ∧ startV r ≤ 3000 := by
  obtain ⟨labels, lines, accs, guilds, quotas, o, a, rest⟩ := r
  have key (n1 n2 n3 : Nat) (o a : Int) (h1 : n1 ≤ 8) (h2 : n2 ≤ 8) (h3 : n3 ≤ 8) (h4 : within o 0 24 = true) (h5 : within a 0 48 = true) : 9 ≤ 9 + (n1 : Int) + (n2 : Int) * (n3 : Int) + 23 * o + 31 * a ∧ 9 + (n1 : Int) + (n2 : Int) * (n3 : Int) + 23 * o + 31 * a ≤ 3000 := by
    unfold within at h4 h5
    simp only [Bool.and_eq_true, decide_eq_true_eq] at h4 h5
    have h6 : (n2 : Int) * (n3 : Int) ≤ 8 * 8 := by
      have := Nat.mul_le_mul h2 h3
      omega
    have h7 : 0 ≤ (n2 : Int) * (n3 : Int) := Int.mul_nonneg (by omega) (by omega)
    omega
  exact key _ _ _ o a h.lines.2 h.guilds h.accounts h.orders h.audits
theorem OkR.slotsOk {r : T_api_Realm.I} (h : OkR r) : ∀ q ∈ (show List T_api_Quota.I from r.2.2.2.2.1), slotsOk q = true := by
  intro q hq
  obtain ⟨h1, h2, h3, h4, h5⟩ := h.slots q hq
  unfold Go.Proofs.YticimhklggikiaaDoor.slotsOk
  rw [h1, h2, h3, h4, h5]
  rfl
theorem imgV_le {r : T_api_Realm.I} (h : OkR r) : 1 ≤ imgV true r ∧ imgV true r ≤ 500000 := by
  unfold imgV
  rw [if_pos rfl]
  have h1 := h.start
  have h2 := sumV_le (m := (List.length r.2.2.1 : Int)) (by have := h.accounts; omega) r.2.2.2.2.1 (startV r) h.slotsOk
  have h3 := h.quotas
  omega

/-! ### bound.Image -/
abbrev stImg (m : Int) (qs : List T_api_Quota.I) (s i : Int) : St := ⟨[(3, .dat (.int .i64) m), (4, .dat (.int .i64) s), (32, .dat (.sl T_api_Quota) qs), (33, .dat (.int .i64) (Int.ofNat qs.length)), (34, .dat (.int .i64) i)], []⟩
def bodyImg (m : Int) (s i : Int) (q : T_api_Quota.I) (k : Int → Option (Int × Unit)) : Option (Int × Unit) := (sp_shelf (q, m, ())).bind fun t => k (Go.IntKind.wrap .i64 (s + (show Int from t.1)))
theorem forL_img {m : Int} (hm : 0 ≤ m ∧ m ≤ 8) : ∀ (qs : List T_api_Quota.I) (s i : Int), (∀ q ∈ qs, slotsOk q = true) → 0 ≤ s → s + 2000 * qs.length ≤ 1000000 → forL (bodyImg m) (fun s => some (s, ())) qs i s = some (sumV m qs s, ())
  | [], s, i, _, _, _ => rfl
  | q :: qs, s, i, h, h0, hb => by
    have hq := h q (by simp)
    have h1 := shelfV_le hm hq
    simp only [forL, sumV, bodyImg, sp_shelf]
    rw [if_pos (by rw [hq, Bool.true_and]; unfold within; simp; omega), Option.bind_some]
    simp only [List.length_cons] at hb
    rw [wrap64 (n := s + shelfV q m) (by omega)]
    exact forL_img hm qs (s + shelfV q m) (i + 1) (fun q hq => h q (by simp [hq])) (by omega) (by omega)

def wrapStart (l g m : Nat) (o a : Int) : Int := Go.IntKind.wrap .i64 (Go.IntKind.wrap .i64 (Go.IntKind.wrap .i64 (Go.IntKind.wrap .i64 (9 + (l : Int)) + Go.IntKind.wrap .i64 ((g : Int) * (m : Int))) + Go.IntKind.wrap .i64 (23 * o)) + Go.IntKind.wrap .i64 (31 * a))
theorem wrapStart_eq {l g m : Nat} {o a : Int} (h1 : l ≤ 8) (h2 : g ≤ 8) (h3 : m ≤ 8) (h4 : within o 0 24 = true) (h5 : within a 0 48 = true) : wrapStart l g m o a = 9 + (l : Int) + (g : Int) * (m : Int) + 23 * o + 31 * a := by
  unfold within at h4 h5
  simp only [Bool.and_eq_true, decide_eq_true_eq] at h4 h5
  have h6 : (g : Int) * (m : Int) ≤ 8 * 8 := by have := Nat.mul_le_mul h2 h3; omega
  have h7 : 0 ≤ (g : Int) * (m : Int) := Int.mul_nonneg (by omega) (by omega)
  unfold wrapStart
  rw [wrap64 (n := 9 + (l : Int)) (by omega), wrap64 (n := (g : Int) * (m : Int)) (by omega), wrap64 (n := 23 * o) (by omega), wrap64 (n := 31 * a) (by omega), wrap64 (n := 9 + (l : Int) + (g : Int) * (m : Int)) (by omega), wrap64 (n := 9 + (l : Int) + (g : Int) * (m : Int) + 23 * o) (by omega), wrap64 (by omega)]

theorem t_Image {gr : A_realm_Right.I → Option R_realm_Right.I} {r : T_api_Realm.I} {b : Bool} (hg : gr (r, ()) = some (b, ())) (hb : b = true → OkR r) : ∃ K, evF (E_bound_Image gr sp_shelf) K f_bound_Image A_bound_Image R_bound_Image (r, ()) = some (imgV b r, ()) := by
  have h (K : Nat) (g : A_realm_Right.I → Option R_realm_Right.I) (g2 : A_bound_shelf.I → Option R_bound_shelf.I) (r : T_api_Realm.I) : evF (E_bound_Image g g2) K f_bound_Image A_bound_Image R_bound_Image (r, ()) = (g (r, ())).bind fun q => cond q.1 (evL (E_bound_Image g g2) K f_bound_Image R_bound_Image [1,1,1,1,0,1,0] [] K (stImg (List.length r.2.2.1 : Int) r.2.2.2.2.1 (wrapStart (List.length r.2.1) (List.length r.2.2.2.1) (List.length r.2.2.1) r.2.2.2.2.2.1 r.2.2.2.2.2.2.1) 0)) (some ((0 : Int), ())) := by kernel_rfl
  have hs (K n : Nat) (g : A_realm_Right.I → Option R_realm_Right.I) (m : Int) (qs : List T_api_Quota.I) (s i : Int) : evL (E_bound_Image g sp_shelf) K f_bound_Image R_bound_Image [1,1,1,1,0,1,0] [] (n + 1) (stImg m qs s i) = cond (decide (i < Int.ofNat qs.length)) (cond (decide (0 ≤ i)) (cond (decide (i < (qs.length : Int))) (bodyImg m s i (qs.getD i.toNat (dflt T_api_Quota)) fun s' => evL (E_bound_Image g sp_shelf) K f_bound_Image R_bound_Image [1,1,1,1,0,1,0] [] n (stImg m qs s' (Go.IntKind.wrap .i64 (i + 1)))) none) none) (some (s, ())) := by kernel_rfl
  refine ⟨List.length r.2.2.2.2.1 + 1, (h _ _ _ r).trans ?_⟩
  rw [hg, Option.bind_some]
  cases b with
  | true =>
    have hok := hb rfl
    have hq := hok.quotas
    have hst := hok.start
    rw [cond_true]
    have := for_loop0 (σ := Int) (L := fun n s i => evL (E_bound_Image gr sp_shelf) (List.length r.2.2.2.2.1 + 1) f_bound_Image R_bound_Image [1,1,1,1,0,1,0] [] n (stImg (List.length r.2.2.1 : Int) r.2.2.2.2.1 s i)) (d := dflt T_api_Quota) (body := bodyImg (List.length r.2.2.1 : Int)) (fin := fun s => some (s, ())) (xs := r.2.2.2.2.1) (by unfold Go.maxLen; omega) (fun n s i => hs _ n _ _ _ s i) (startV r)
    have hw : wrapStart (List.length r.2.1) (List.length r.2.2.2.1) (List.length r.2.2.1) r.2.2.2.2.2.1 r.2.2.2.2.2.2.1 = startV r := wrapStart_eq hok.lines.2 hok.guilds hok.accounts hok.orders hok.audits
    rw [hw]
    refine this.trans ?_
    have hq' : startV r + 2000 * ((List.length r.2.2.2.2.1 : Nat) : Int) ≤ 1000000 := by omega
    rw [forL_img (by have := hok.accounts; omega) _ _ _ hok.slotsOk (by omega) hq']
    unfold imgV
    rw [if_pos rfl]
  | false => rfl
end Go.Proofs.YticimhklggikiaaDoor

/-! Plain specs: images, the document's; sectors. -/
namespace Go.Proofs.YticimhklggikiaaDoor
open Go.Ev
set_option linter.unusedVariables false
set_option linter.unusedSimpArgs false

def wrapQ (s : Int) (q : T_api_Quota.I) (m : Nat) : Int :=
  Go.IntKind.wrap .i64 (Go.IntKind.wrap .i64 (Go.IntKind.wrap .i64 (Go.IntKind.wrap .i64 (Go.IntKind.wrap .i64 (Go.IntKind.wrap .i64 (Go.IntKind.wrap .i64 (s + Go.IntKind.wrap .i64 (14 * q.1)) + Go.IntKind.wrap .i64 (6 * q.2.1)) + Go.IntKind.wrap .i64 (18 * q.2.2.1)) + Go.IntKind.wrap .i64 (45 * q.2.2.2.1)) + Go.IntKind.wrap .i64 (23 * q.2.2.2.2.1)) + Go.IntKind.wrap .i64 (34 * (m : Int))) + 64)
theorem wrapQ_eq {s : Int} {q : T_api_Quota.I} {m : Nat} (hs : 0 ≤ s ∧ s ≤ 1000000) (hm : m ≤ 8) (h : slotsOk q = true) : wrapQ s q m = s + shelfV q (m : Int) := by
  obtain ⟨a, b, c, d, e, u, ⟨⟩⟩ := q
  have key (s a b c d e : Int) (m : Nat) (hs : 0 ≤ s ∧ s ≤ 1000000) (hm : m ≤ 8) (h : ((decide (0 ≤ a) && decide (a ≤ 12)) && ((decide (0 ≤ b) && decide (b ≤ 12)) && ((decide (0 ≤ c) && decide (c ≤ 12)) && ((decide (0 ≤ d) && decide (d ≤ 12)) && (decide (0 ≤ e) && decide (e ≤ 12)))))) = true) :
      Go.IntKind.wrap .i64 (Go.IntKind.wrap .i64 (Go.IntKind.wrap .i64 (Go.IntKind.wrap .i64 (Go.IntKind.wrap .i64 (Go.IntKind.wrap .i64 (Go.IntKind.wrap .i64 (s + Go.IntKind.wrap .i64 (14 * a)) + Go.IntKind.wrap .i64 (6 * b)) + Go.IntKind.wrap .i64 (18 * c)) + Go.IntKind.wrap .i64 (45 * d)) + Go.IntKind.wrap .i64 (23 * e)) + Go.IntKind.wrap .i64 (34 * (m : Int))) + 64) = s + (64 + 34 * (m : Int) + 14 * a + 6 * b + 18 * c + 45 * d + 23 * e) := by
    simp only [Bool.and_eq_true, decide_eq_true_eq] at h
    rw [wrap64 (n := 14 * a) (by omega), wrap64 (n := 6 * b) (by omega), wrap64 (n := 18 * c) (by omega), wrap64 (n := 45 * d) (by omega), wrap64 (n := 23 * e) (by omega), wrap64 (n := 34 * (m : Int)) (by omega)]
    rw [wrap64 (n := s + 14 * a) (by omega), wrap64 (n := s + 14 * a + 6 * b) (by omega), wrap64 (n := s + 14 * a + 6 * b + 18 * c) (by omega), wrap64 (n := s + 14 * a + 6 * b + 18 * c + 45 * d) (by omega), wrap64 (n := s + 14 * a + 6 * b + 18 * c + 45 * d + 23 * e) (by omega), wrap64 (n := s + 14 * a + 6 * b + 18 * c + 45 * d + 23 * e + 34 * (m : Int)) (by omega), wrap64 (by omega)]
    omega
  exact key s a b c d e m hs hm h
abbrev stImgR (r : T_api_Realm.I) (s i : Int) : St := ⟨[(1, .bp 0 []), (3, .dat (.int .i64) s), (4, .dat (.int .i64) i)], [.bx (.dat T_api_Realm r) false]⟩
def bodyImgR (m : Nat) (s i : Int) (q : T_api_Quota.I) (k : Int → Option (Int × Unit)) : Option (Int × Unit) := k (wrapQ s q m)
theorem forL_imgR {m : Nat} (hm : m ≤ 8) : ∀ (qs : List T_api_Quota.I) (s i : Int), (∀ q ∈ qs, slotsOk q = true) → 0 ≤ s → s + 2000 * qs.length ≤ 1000000 → forL (bodyImgR m) (fun s => some (s, ())) qs i s = some (sumV (m : Int) qs s, ())
  | [], s, i, _, _, _ => rfl
  | q :: qs, s, i, h, h0, hb => by
    have hq := h q (by simp)
    have h1 := shelfV_le (m := (m : Int)) (by omega) hq
    simp only [List.length_cons] at hb
    simp only [forL, sumV, bodyImgR]
    rw [wrapQ_eq (by omega) hm hq]
    exact forL_imgR hm qs (s + shelfV q m) (i + 1) (fun q hq => h q (by simp [hq])) (by omega) (by omega)
theorem t_ref24_Image {gr : A_ref05_Right.I → Option R_ref05_Right.I} {r : T_api_Realm.I} {b : Bool} (hg : gr (r, ()) = some (b, ())) (hb : b = true → OkR r) : ∃ K, evF (E_ref24_Image gr) K f_ref24_Image A_ref24_Image R_ref24_Image (r, ()) = some (imgV b r, ()) := by
  have h (K : Nat) (g : A_ref05_Right.I → Option R_ref05_Right.I) (r : T_api_Realm.I) : evF (E_ref24_Image g) K f_ref24_Image A_ref24_Image R_ref24_Image (r, ()) = (g (r, ())).bind fun q => cond q.1 (evL (E_ref24_Image g) K f_ref24_Image R_ref24_Image [1,1,1,0,1,0] [] K (stImgR r (wrapStart (List.length r.2.1) (List.length r.2.2.2.1) (List.length r.2.2.1) r.2.2.2.2.2.1 r.2.2.2.2.2.2.1) 0)) (some ((0 : Int), ())) := by kernel_rfl
  have hs (K n : Nat) (g : A_ref05_Right.I → Option R_ref05_Right.I) (r : T_api_Realm.I) (s i : Int) : evL (E_ref24_Image g) K f_ref24_Image R_ref24_Image [1,1,1,0,1,0] [] (n + 1) (stImgR r s i) = cond (decide (i < Int.ofNat (List.length r.2.2.2.2.1))) (cond (decide (0 ≤ i)) (cond (decide (i < (List.length r.2.2.2.2.1 : Int))) (bodyImgR (List.length r.2.2.1) s i (List.getD r.2.2.2.2.1 i.toNat (dflt T_api_Quota)) fun s' => evL (E_ref24_Image g) K f_ref24_Image R_ref24_Image [1,1,1,0,1,0] [] n (stImgR r s' (Go.IntKind.wrap .i64 (i + 1)))) none) none) (some (s, ())) := by kernel_rfl
  refine ⟨List.length r.2.2.2.2.1 + 1, (h _ _ r).trans ?_⟩
  rw [hg, Option.bind_some]
  cases b with
  | true =>
    have hok := hb rfl
    have hq := hok.quotas
    have hst := hok.start
    rw [cond_true]
    have := for_loop0 (σ := Int) (L := fun n s i => evL (E_ref24_Image gr) (List.length r.2.2.2.2.1 + 1) f_ref24_Image R_ref24_Image [1,1,1,0,1,0] [] n (stImgR r s i)) (d := dflt T_api_Quota) (body := bodyImgR (List.length r.2.2.1)) (fin := fun s => some (s, ())) (xs := r.2.2.2.2.1) (by unfold Go.maxLen; omega) (fun n s i => hs _ n _ r s i) (startV r)
    have hw : wrapStart (List.length r.2.1) (List.length r.2.2.2.1) (List.length r.2.2.1) r.2.2.2.2.2.1 r.2.2.2.2.2.2.1 = startV r := wrapStart_eq hok.lines.2 hok.guilds hok.accounts hok.orders hok.audits
    rw [hw]
    refine this.trans ?_
    have hq' : startV r + 2000 * ((List.length r.2.2.2.2.1 : Nat) : Int) ≤ 1000000 := by omega
    rw [forL_imgR hok.accounts _ _ _ hok.slotsOk (by omega) hq']
    unfold imgV
    rw [if_pos rfl]
  | false => rfl
end Go.Proofs.YticimhklggikiaaDoor

/-! Plain specs: a realm's parts. -/
namespace Go.Proofs.YticimhklggikiaaDoor
open Go.Ev
set_option linter.unusedVariables false
set_option linter.unusedSimpArgs false

abbrev gWithin : A_realm_within.I → Option R_realm_within.I := fun x => some (within x.1 x.2.1 x.2.2.1, ())
abbrev gLabelRight : A_label_Right.I → Option R_label_Right.I := fun x => some (labelOk x.1.1, ())
theorem t_labels_1 (x : A_realm_labels_1.I) : ∃ K, evF (E_realm_labels_1 gLabelRight) K f_realm_labels_1 A_realm_labels_1 R_realm_labels_1 x = some (!labelOk x.1.1, ()) := by
  obtain ⟨a, ⟨⟩⟩ := x
  have h (g : A_label_Right.I → Option R_label_Right.I) (a : T_api_Label.I) : evF (E_realm_labels_1 g) 0 f_realm_labels_1 A_realm_labels_1 R_realm_labels_1 (a, ()) = (g (a, ())).bind fun q => cond q.1 (some (false, ())) (some (true, ())) := by kernel_rfl
  refine ⟨0, (h _ a).trans ?_⟩
  rw [Option.bind_some]
  cases labelOk a.1 <;> rfl
theorem t_quotas_1 (x : A_realm_quotas_1.I) : ∃ K, evF (E_realm_quotas_1 gWithin) K f_realm_quotas_1 A_realm_quotas_1 R_realm_quotas_1 x = some (!within x.1 0 12, ()) := by
  obtain ⟨a, ⟨⟩⟩ := x
  have h (g : A_realm_within.I → Option R_realm_within.I) (a : Int) : evF (E_realm_quotas_1 g) 0 f_realm_quotas_1 A_realm_quotas_1 R_realm_quotas_1 (a, ()) = (g (a, 0, 12, ())).bind fun q => cond q.1 (some (false, ())) (some (true, ())) := by kernel_rfl
  refine ⟨0, (h _ a).trans ?_⟩
  rw [Option.bind_some]
  cases within a 0 12 <;> rfl
def numbersV (q : T_api_Quota.I) : List Int := [q.1, q.2.1, q.2.2.1, q.2.2.2.1, q.2.2.2.2.1]
theorem t_numbers (x : A_realm_numbers.I) : ∃ K, evF E_realm_numbers K f_realm_numbers A_realm_numbers R_realm_numbers x = some (numbersV x.1, ()) := by
  obtain ⟨q, ⟨⟩⟩ := x
  have h (q : T_api_Quota.I) : evF E_realm_numbers 0 f_realm_numbers A_realm_numbers R_realm_numbers (q, ()) = some (numbersV q, ()) := by kernel_rfl
  exact ⟨0, h q⟩
def restB (r : T_api_Realm.I) : Bool := within r.2.2.2.2.2.1 0 24 && (within r.2.2.2.2.2.2.1 0 48 && (within r.2.2.2.2.2.2.2.1 1 4 && within r.2.2.2.2.2.2.2.2.1 1 16))
theorem t_rest (x : A_realm_rest.I) : ∃ K, evF (E_realm_rest gWithin) K f_realm_rest A_realm_rest R_realm_rest x = some (restB x.1, ()) := by
  obtain ⟨r, ⟨⟩⟩ := x
  have h (g : A_realm_within.I → Option R_realm_within.I) (r : T_api_Realm.I) : evF (E_realm_rest g) 0 f_realm_rest A_realm_rest R_realm_rest (r, ()) = (g (r.2.2.2.2.2.1, 0, 24, ())).bind fun q => cond q.1 ((g (r.2.2.2.2.2.2.1, 0, 48, ())).bind fun q => cond q.1 ((g (r.2.2.2.2.2.2.2.1, 1, 4, ())).bind fun q => cond q.1 ((g (r.2.2.2.2.2.2.2.2.1, 1, 16, ())).bind fun q => cond q.1 (some (true, ())) (some (false, ()))) (some (false, ()))) (some (false, ()))) (some (false, ())) := by kernel_rfl
  refine ⟨0, (h _ r).trans ?_⟩
  simp only [Option.bind_some]
  show _ = some (restB r, ())
  unfold restB
  cases within r.2.2.2.2.2.1 0 24 <;> cases within r.2.2.2.2.2.2.1 0 48 <;> cases within r.2.2.2.2.2.2.2.1 1 4 <;> cases within r.2.2.2.2.2.2.2.2.1 1 16 <;> rfl

/-! ### lines -/
def sp_lines_1 (x : A_realm_lines_1.I) : Option R_realm_lines_1.I := match x.2.1 with
  | some r => some (!within x.1 0 (Go.IntKind.wrap .i64 ((List.length (show T_api_Realm.I from r).1 : Int) - 1)), ())
  | none => none
theorem ev_lines_1 : ∀ x y, sp_lines_1 x = some y → ∃ K, evF (E_realm_lines_1 gWithin) K f_realm_lines_1 A_realm_lines_1 R_realm_lines_1 x = some y := by
  rintro ⟨n, r, ⟨⟩⟩ y h
  cases r with
  | none => cases h
  | some r =>
    have h0 (g : A_realm_within.I → Option R_realm_within.I) (n : Int) (r : T_api_Realm.I) : evF (E_realm_lines_1 g) 0 f_realm_lines_1 A_realm_lines_1 R_realm_lines_1 (n, some r, ()) = (g (n, 0, Go.IntKind.wrap .i64 ((List.length r.1 : Int) - 1), ())).bind fun q => cond q.1 (some (false, ())) (some (true, ())) := by kernel_rfl
    refine ⟨0, (h0 _ n r).trans ?_⟩
    rw [← h, Option.bind_some]
    show _ = some (!within n 0 (Go.IntKind.wrap .i64 ((List.length r.1 : Int) - 1)), ())
    cases within n 0 (Go.IntKind.wrap .i64 ((List.length r.1 : Int) - 1)) <;> rfl
def linesB (r : T_api_Realm.I) : Bool := within (List.length r.2.1 : Int) 1 8 && !(List.any r.2.1 fun i => !within i 0 (Go.IntKind.wrap .i64 ((List.length r.1 : Int) - 1)))
theorem t_lines (x : A_realm_lines.I) : ∃ K, evF (E_realm_lines sp_lines_1 gWithin (sp_ContainsFunc (.int .i64))) K f_realm_lines A_realm_lines R_realm_lines x = some (linesB x.1, ()) := by
  obtain ⟨r, ⟨⟩⟩ := x
  have h (g1 : A_realm_lines_1.I → Option R_realm_lines_1.I) (g2 : A_realm_within.I → Option R_realm_within.I) (g3 : A_slices_ContainsFunc___int_int_.I → Option R_slices_ContainsFunc___int_int_.I) (r : T_api_Realm.I) : evF (E_realm_lines g1 g2 g3) 0 f_realm_lines A_realm_lines R_realm_lines (r, ()) =
      (g2 ((List.length r.2.1 : Int), 1, 8, ())).bind fun q => cond q.1 ((g3 (r.2.1, some fun z => g1 (z.1, some r, ()), ())).bind fun q => cond q.1 (some (false, ())) (some (true, ()))) (some (false, ())) := by kernel_rfl
  refine ⟨0, (h _ _ _ r).trans ?_⟩
  simp only [Option.bind_some]
  show _ = some (linesB r, ())
  unfold linesB
  by_cases hw : within (List.length r.2.1 : Int) 1 8 = true
  · have hl : List.length r.2.1 ≤ Go.maxLen := by
      unfold within at hw
      simp only [Bool.and_eq_true, decide_eq_true_eq] at hw
      unfold Go.maxLen
      omega
    rw [hw, cond_true, sp_ContainsFunc_eq (τ := .int .i64) (p := fun i => !within i 0 (Go.IntKind.wrap .i64 ((List.length r.1 : Int) - 1))) hl (fun x _ => rfl), Option.bind_some]
    cases (List.any r.2.1 fun i => !within i 0 (Go.IntKind.wrap .i64 ((List.length r.1 : Int) - 1))) <;> rfl
  · simp only [Bool.not_eq_true] at hw
    rw [hw]
    rfl
end Go.Proofs.YticimhklggikiaaDoor

/-! Plain specs: places of labels; names. -/
namespace Go.Proofs.YticimhklggikiaaDoor
open Go.Ev
set_option linter.unusedVariables false
set_option linter.unusedSimpArgs false

/-! ### slices.Index, Contains of labels -/
abbrev stIx (xs : List T_api_Label.I) (a : T_api_Label.I) (i : Int) : St := ⟨[(0, .dat (.sl T_api_Label) xs), (3, .bp 0 []), (7, .dat (.int .i64) (Int.ofNat xs.length)), (8, .dat (.int .i64) i)], [.bx (.dat T_api_Label a) false]⟩
def bodyIx (a : T_api_Label.I) (s : Unit) (i : Int) (x : T_api_Label.I) (k : Unit → Option (Int × Unit)) : Option (Int × Unit) := cond (eqI T_api_Label a x) (some (i, ())) (k s)
def sp_Index (x : A_slices_Index___api_Label_api_Label_.I) : Option R_slices_Index___api_Label_api_Label_.I := if List.length x.1 ≤ Go.maxLen then some (idxB (fun y => eqI T_api_Label x.2.1 y) x.1 0, ()) else none
theorem forL_ix (a : T_api_Label.I) : ∀ (xs : List T_api_Label.I) (i : Int), forL (bodyIx a) (fun _ => some ((-1 : Int), ())) xs i () = some (idxB (fun y => eqI T_api_Label a y) xs i, ())
  | [], _ => rfl
  | x :: xs, i => by
    simp only [forL, idxB, bodyIx]
    by_cases h : eqI T_api_Label a x = true
    · rw [h]; rfl
    · simp only [Bool.not_eq_true] at h
      rw [h]
      exact forL_ix a xs (i + 1)
theorem ev_Index : ∀ x y, sp_Index x = some y → ∃ K, evF E_slices_Index___api_Label_api_Label_ K f_slices_Index___api_Label_api_Label_ A_slices_Index___api_Label_api_Label_ R_slices_Index___api_Label_api_Label_ x = some y := by
  rintro ⟨xs, a, ⟨⟩⟩ y h
  simp only [sp_Index] at h
  split at h
  · rename_i hl
    have h0 (K : Nat) (xs : List T_api_Label.I) (a : T_api_Label.I) : evF E_slices_Index___api_Label_api_Label_ K f_slices_Index___api_Label_api_Label_ A_slices_Index___api_Label_api_Label_ R_slices_Index___api_Label_api_Label_ (xs, a, ()) = evL E_slices_Index___api_Label_api_Label_ K f_slices_Index___api_Label_api_Label_ R_slices_Index___api_Label_api_Label_ [1,0,1,0] [] K (stIx xs a 0) := by kernel_rfl
    have hs (K n : Nat) (xs : List T_api_Label.I) (a : T_api_Label.I) (s : Unit) (i : Int) : evL E_slices_Index___api_Label_api_Label_ K f_slices_Index___api_Label_api_Label_ R_slices_Index___api_Label_api_Label_ [1,0,1,0] [] (n + 1) (stIx xs a i) = cond (decide (i < Int.ofNat xs.length)) (cond (decide (0 ≤ i)) (cond (decide (i < (xs.length : Int))) (bodyIx a s i (xs.getD i.toNat (dflt T_api_Label)) fun s' => evL E_slices_Index___api_Label_api_Label_ K f_slices_Index___api_Label_api_Label_ R_slices_Index___api_Label_api_Label_ [1,0,1,0] [] n (stIx xs a (Go.IntKind.wrap .i64 (i + 1)))) none) none) (some ((-1 : Int), ())) := by kernel_rfl
    refine ⟨List.length xs + 1, (h0 _ xs a).trans ?_⟩
    rw [← h, ← forL_ix]
    exact for_loop0 (σ := Unit) (L := fun n _ i => evL E_slices_Index___api_Label_api_Label_ (List.length xs + 1) f_slices_Index___api_Label_api_Label_ R_slices_Index___api_Label_api_Label_ [1,0,1,0] [] n (stIx xs a i)) (d := dflt T_api_Label) (body := bodyIx a) (fin := fun _ => some ((-1 : Int), ())) hl (fun n s i => hs _ n xs a s i) ()
  · cases h
def sp_Contains (x : A_slices_Contains___api_Label_api_Label_.I) : Option R_slices_Contains___api_Label_api_Label_.I := if List.length x.1 ≤ Go.maxLen then some (List.any x.1 (fun y => eqI T_api_Label x.2.1 y), ()) else none
theorem ev_Contains : ∀ x y, sp_Contains x = some y → ∃ K, evF (E_slices_Contains___api_Label_api_Label_ sp_Index) K f_slices_Contains___api_Label_api_Label_ A_slices_Contains___api_Label_api_Label_ R_slices_Contains___api_Label_api_Label_ x = some y := by
  rintro ⟨xs, a, ⟨⟩⟩ y h
  have h0 (g : A_slices_Index___api_Label_api_Label_.I → Option R_slices_Index___api_Label_api_Label_.I) (xs : List T_api_Label.I) (a : T_api_Label.I) : evF (E_slices_Contains___api_Label_api_Label_ g) 0 f_slices_Contains___api_Label_api_Label_ A_slices_Contains___api_Label_api_Label_ R_slices_Contains___api_Label_api_Label_ (xs, a, ()) = (g (xs, a, ())).bind fun q => cond (decide ((show Int from q.1) ≥ 0)) (some (true, ())) (some (false, ())) := by kernel_rfl
  simp only [sp_Contains] at h
  split at h
  · rename_i hl
    refine ⟨0, (h0 _ xs a).trans ?_⟩
    rw [← h]
    simp only [sp_Index]
    rw [if_pos hl, Option.bind_some]
    have := idxB_any (p := fun y => eqI T_api_Label a y) xs 0 (Int.le_refl 0)
    show cond (decide (idxB (fun y => eqI T_api_Label a y) xs 0 ≥ 0)) _ _ = _
    rw [this]
    cases xs.any (fun y => eqI T_api_Label a y) <;> rfl
  · cases h
end Go.Proofs.YticimhklggikiaaDoor

/-! Plain specs: names. -/
namespace Go.Proofs.YticimhklggikiaaDoor
open Go.Ev
set_option linter.unusedVariables false
set_option linter.unusedSimpArgs false

def bytesI (s : ByteArray) : List Int := (ByteArray.data s).toList.map fun b => (b.toNat : Int)
theorem bytesI_length (s : ByteArray) : (bytesI s).length = s.size := by unfold bytesI; rw [List.length_map]; rfl
def sp_all_1 (x : A_name_all_1.I) : Option R_name_all_1.I := match x.2.1 with
  | some (some g) => (g (x.1, ())).bind fun r => some (!(show Bool from r.1), ())
  | _ => none
theorem ev_all_1 : ∀ x y, sp_all_1 x = some y → ∃ K, evF E_name_all_1 K f_name_all_1 A_name_all_1 R_name_all_1 x = some y := by
  rintro ⟨c, g, ⟨⟩⟩ y h
  cases g with
  | none => cases h
  | some g =>
    cases g with
    | none => cases h
    | some g =>
      have h0 (c : Int) (g : G1 (.int .u8)) : evF E_name_all_1 0 f_name_all_1 A_name_all_1 R_name_all_1 (c, some (some g), ()) = (g (c, ())).bind fun r => cond r.1 (some (false, ())) (some (true, ())) := by kernel_rfl
      refine ⟨0, (h0 c g).trans ?_⟩
      rw [← h]
      simp only [sp_all_1]
      congr 1
      funext r
      obtain ⟨r, ⟨⟩⟩ := r
      cases (show Bool from r) <;> rfl
def sp_all (x : A_name_all.I) : Option R_name_all.I := match x.2.1 with
  | some g => (sp_ContainsFunc (.int .u8) (bytesI x.1, some fun z => sp_all_1 (z.1, some (some g), ()), ())).bind fun r => some (!(show Bool from r.1), ())
  | none => none

theorem ev_all : ∀ x y, sp_all x = some y → ∃ K, evF (E_name_all sp_all_1 (sp_ContainsFunc (.int .u8))) K f_name_all A_name_all R_name_all x = some y := by
  rintro ⟨s, g, ⟨⟩⟩ y h
  cases g with
  | none => cases h
  | some g =>
    have h0 (g1 : A_name_all_1.I → Option R_name_all_1.I) (g2 : A_slices_ContainsFunc___byte_byte_.I → Option R_slices_ContainsFunc___byte_byte_.I) (s : ByteArray) (g : G1 (.int .u8)) : evF (E_name_all g1 g2) 0 f_name_all A_name_all R_name_all (s, some g, ()) = (g2 (bytesI s, some fun z => g1 (z.1, some (some g), ()), ())).bind fun r => cond r.1 (some (false, ())) (some (true, ())) := by kernel_rfl
    refine ⟨0, (h0 _ _ s g).trans ?_⟩
    rw [← h]
    simp only [sp_all]
    congr 1
    funext r
    obtain ⟨r, ⟨⟩⟩ := r
    cases (show Bool from r) <;> rfl
theorem sp_all_eq {s : ByteArray} {g : G1 (.int .u8)} {p : Int → Bool} (hl : s.size ≤ Go.maxLen) (hp : ∀ c : Int, g (c, ()) = some (p c, ())) : sp_all (s, some g, ()) = some ((bytesI s).all p, ()) := by
  simp only [sp_all]
  rw [sp_ContainsFunc_eq (τ := .int .u8) (p := fun c => !p c) (by rw [bytesI_length]; exact hl) (fun c _ => by simp only [sp_all_1, hp, Option.bind_some]), Option.bind_some]
  congr 2
  show (!(List.any (bytesI s) fun c => !p c)) = _
  rw [List.not_any_eq_all_not]
  congr 1
  funext c
  simp
/-- A right name. -/
def nameB (s : ByteArray) : Bool := decide (1 ≤ s.size) && (decide (s.size ≤ 12) && (small ((bytesI s).getD 0 0) && (bytesI s).all wordc))
abbrev gSmall : A_name_small.I → Option R_name_small.I := fun x => some (small x.1, ())
abbrev gWord : A_name_Right_1.I → Option R_name_Right_1.I := fun x => some (wordc x.1, ())
theorem t_name_Right (x : A_name_Right.I) : ∃ K, evF (E_name_Right gSmall sp_all gWord) K f_name_Right A_name_Right R_name_Right x = some (nameB x.1, ()) := by
  obtain ⟨s, ⟨⟩⟩ := x
  have h (g1 : A_name_small.I → Option R_name_small.I) (g2 : A_name_all.I → Option R_name_all.I) (g3 : A_name_Right_1.I → Option R_name_Right_1.I) (s : ByteArray) : evF (E_name_Right g1 g2 g3) 0 f_name_Right A_name_Right R_name_Right (s, ()) =
      cond (decide ((s.size : Int) < 1)) (some (false, ())) (cond (decide ((s.size : Int) > 12)) (some (false, ())) (cond (decide (0 < (s.size : Int))) ((g1 ((((s.data.toList.getD 0 0).toNat : Nat) : Int), ())).bind fun r => cond r.1 ((g2 (s, some g3, ())).bind fun r => cond r.1 (some (true, ())) (some (false, ()))) (some (false, ()))) none)) := by kernel_rfl
  refine ⟨0, (h _ _ _ s).trans ?_⟩
  show _ = some (nameB s, ())
  unfold nameB
  by_cases h1 : s.size < 1
  · rw [decide_eq_true (show (s.size : Int) < 1 by omega), decide_eq_false (show ¬ 1 ≤ s.size by omega)]; rfl
  · rw [decide_eq_false (show ¬ (s.size : Int) < 1 by omega), decide_eq_true (show 1 ≤ s.size by omega)]
    by_cases h2 : s.size > 12
    · rw [decide_eq_true (show (s.size : Int) > 12 by omega), decide_eq_false (show ¬ s.size ≤ 12 by omega)]; rfl
    · rw [decide_eq_false (show ¬ (s.size : Int) > 12 by omega), decide_eq_true (show s.size ≤ 12 by omega), decide_eq_true (show 0 < (s.size : Int) by omega)]
      have hb : (bytesI s).getD 0 0 = (((s.data.toList.getD 0 0).toNat : Nat) : Int) := by
        unfold bytesI
        cases hs : s.data.toList with
        | nil => rfl
        | cons c l => rfl
      rw [hb, sp_all_eq (p := wordc) (by unfold Go.maxLen; omega) (fun c => rfl)]
      simp only [cond_false, cond_true, Option.bind_some, Bool.true_and]
      cases small (((s.data.toList.getD 0 0).toNat : Nat) : Int) <;> cases (bytesI s).all wordc <;> rfl
end Go.Proofs.YticimhklggikiaaDoor

/-! Plain specs: a realm's labels. -/
namespace Go.Proofs.YticimhklggikiaaDoor
open Go.Ev
set_option linter.unusedVariables false
set_option linter.unusedSimpArgs false

/-- Labels that rise. -/
def risesL : T_api_Label.I → List T_api_Label.I → Bool
  | _, [] => true
  | a, b :: l => !decide (labelCmp a b ≥ 0) && risesL b l
abbrev gLabelCmp : A_label_Cmp.I → Option R_label_Cmp.I := fun x => some (labelCmp x.1 x.2.1, ())
abbrev gLabels1 : A_realm_labels_1.I → Option R_realm_labels_1.I := fun x => some (!labelOk x.1.1, ())
abbrev stLab (r : T_api_Realm.I) (i : Int) : St := ⟨[(1, .bp 0 []), (4, .dat (.int .i64) i)], [.bx (.dat T_api_Realm r) false]⟩
def bodyLab (cmp : T_api_Label.I → T_api_Label.I → Option (Int × Unit)) (l : List T_api_Label.I) (s : Unit) (i : Int) (k : Unit → Option (Bool × Unit)) : Option (Bool × Unit) :=
  cond (decide (0 ≤ Go.IntKind.wrap .i64 (i - 1))) (cond (decide (Go.IntKind.wrap .i64 (i - 1) < (l.length : Int))) (cond (decide (0 ≤ i)) (cond (decide (i < (l.length : Int))) ((cmp (l.getD (Go.IntKind.wrap .i64 (i - 1)).toNat (dflt T_api_Label)) (l.getD i.toNat (dflt T_api_Label))).bind fun q => cond (decide ((show Int from q.1) ≥ 0)) (some (false, ())) (k s)) none) none) none) none
theorem cntL_lab (l : List T_api_Label.I) (hl : l.length ≤ 1000000) : ∀ (rest : List T_api_Label.I) (a : T_api_Label.I) (i : Nat), l.drop i = a :: rest →
    cntL (bodyLab (fun a b => some (labelCmp a b, ())) l) (fun _ => some (true, ())) rest.length ((i + 1 : Nat) : Int) () = some (risesL a rest, ())
  | [], a, i, h => rfl
  | b :: rest, a, i, h => by
    have hi : i < l.length := by
      rcases Nat.lt_or_ge i l.length with h' | h'
      · exact h'
      · rw [List.drop_eq_nil_iff.2 h'] at h; cases h
    have h1 := List.drop_eq_getElem_cons hi
    rw [h] at h1
    simp only [List.cons.injEq] at h1
    have hi2 : i + 1 < l.length := by
      rcases Nat.lt_or_ge (i + 1) l.length with h' | h'
      · exact h'
      · have := List.drop_eq_nil_iff.2 h'; rw [← h1.2] at this; cases this
    have h2 := List.drop_eq_getElem_cons hi2
    rw [← h1.2] at h2
    simp only [List.cons.injEq] at h2
    have ga : l.getD i (dflt T_api_Label) = a := by simp [hi, h1.1]
    have gb : l.getD (i + 1) (dflt T_api_Label) = b := by simp [hi2, h2.1]
    have hw : Go.IntKind.wrap .i64 (((i + 1 : Nat) : Int) - 1) = (i : Int) := by rw [wrap64 (by omega)]; omega
    have ih := cntL_lab l hl rest b (i + 1) h1.2.symm
    simp only [List.length_cons, cntL, bodyLab, risesL]
    rw [hw, decide_eq_true (show (0 : Int) ≤ (i : Int) by omega), decide_eq_true (show (i : Int) < (l.length : Int) by omega), decide_eq_true (show (0 : Int) ≤ ((i + 1 : Nat) : Int) by omega), decide_eq_true (show ((i + 1 : Nat) : Int) < (l.length : Int) by omega), Int.toNat_natCast, Int.toNat_natCast, ga, gb]
    simp only [cond_true, Option.bind_some]
    by_cases hc : labelCmp a b ≥ 0
    · rw [decide_eq_true hc]; rfl
    · rw [decide_eq_false hc]
      exact ih

def labelsB (l : List T_api_Label.I) : Bool := within (l.length : Int) 1 8 && (eqI T_api_Label (l.getD 0 (dflt T_api_Label)) (dflt T_api_Label) && (!(l.any fun a => !labelOk a.1) && risesL (l.getD 0 (dflt T_api_Label)) l.tail))
theorem t_labels (x : A_realm_labels.I) : ∃ K, evF (E_realm_labels gLabels1 gWithin (sp_ContainsFunc T_api_Label) gLabelCmp) K f_realm_labels A_realm_labels R_realm_labels x = some (labelsB x.1.1, ()) := by
  obtain ⟨r, ⟨⟩⟩ := x
  have h (K : Nat) (g1 : A_realm_labels_1.I → Option R_realm_labels_1.I) (g2 : A_realm_within.I → Option R_realm_within.I) (g3 : A_slices_ContainsFunc___api_Label_api_Label_.I → Option R_slices_ContainsFunc___api_Label_api_Label_.I) (g4 : A_label_Cmp.I → Option R_label_Cmp.I) (r : T_api_Realm.I) : evF (E_realm_labels g1 g2 g3 g4) K f_realm_labels A_realm_labels R_realm_labels (r, ()) =
      (g2 ((List.length r.1 : Int), 1, 8, ())).bind fun q => cond q.1 (cond (decide (0 < (List.length r.1 : Int))) (cond (!eqI T_api_Label (List.getD r.1 0 (dflt T_api_Label)) (dflt T_api_Label)) (some (false, ())) ((g3 (r.1, some g1, ())).bind fun q => cond q.1 (some (false, ())) (evL (E_realm_labels g1 g2 g3 g4) K f_realm_labels R_realm_labels [1,1,1,0,1,0] [] K (stLab r 1)))) none) (some (false, ())) := by kernel_rfl
  have hs (K n : Nat) (g1 : A_realm_labels_1.I → Option R_realm_labels_1.I) (g2 : A_realm_within.I → Option R_realm_within.I) (g3 : A_slices_ContainsFunc___api_Label_api_Label_.I → Option R_slices_ContainsFunc___api_Label_api_Label_.I) (r : T_api_Realm.I) (s : Unit) (i : Int) : evL (E_realm_labels g1 g2 g3 gLabelCmp) K f_realm_labels R_realm_labels [1,1,1,0,1,0] [] (n + 1) (stLab r i) = cond (decide (i < (List.length r.1 : Int))) (bodyLab (fun a b => some (labelCmp a b, ())) r.1 s i fun s' => evL (E_realm_labels g1 g2 g3 gLabelCmp) K f_realm_labels R_realm_labels [1,1,1,0,1,0] [] n (stLab r (Go.IntKind.wrap .i64 (i + 1)))) (some (true, ())) := by kernel_rfl
  refine ⟨List.length r.1 + 1, (h _ _ _ _ _ r).trans ?_⟩
  simp only [Option.bind_some]
  show _ = some (labelsB r.1, ())
  unfold labelsB
  by_cases hw : within (List.length r.1 : Int) 1 8 = true
  · have hb : 1 ≤ List.length r.1 ∧ List.length r.1 ≤ 8 := by
      unfold within at hw
      simp only [Bool.and_eq_true, decide_eq_true_eq] at hw
      omega
    have hl : List.length r.1 ≤ Go.maxLen := by unfold Go.maxLen; omega
    rw [hw, cond_true, decide_eq_true (show 0 < (List.length r.1 : Int) by omega), cond_true]
    by_cases hz : eqI T_api_Label (List.getD r.1 0 (dflt T_api_Label)) (dflt T_api_Label) = true
    · rw [hz, sp_ContainsFunc_eq (τ := T_api_Label) (p := fun a => !labelOk a.1) hl (fun x _ => rfl)]
      simp only [Option.bind_some, Bool.not_true, cond_false, Bool.true_and]
      by_cases ha : (List.any r.1 fun a => !labelOk a.1) = true
      · rw [ha]; rfl
      · simp only [Bool.not_eq_true] at ha
        rw [ha]
        simp only [cond_false, Bool.not_false, Bool.true_and]
        have hloop := cnt_loop (σ := Unit) (L := fun n _ i => evL (E_realm_labels gLabels1 gWithin (sp_ContainsFunc T_api_Label) gLabelCmp) (List.length r.1 + 1) f_realm_labels R_realm_labels [1,1,1,0,1,0] [] n (stLab r i)) (body := bodyLab (fun a b => some (labelCmp a b, ())) r.1) (fin := fun _ => some (true, ())) hl (fun n s i => hs _ n _ _ _ r s i) (List.length r.1 - 1) 1 (List.length r.1 + 1) () (by omega) (by omega)
        refine hloop.trans ?_
        have hsplit : List.drop 0 r.1 = (List.getD r.1 0 (dflt T_api_Label)) :: List.tail r.1 := by
          cases hr : r.1 with
          | nil => rw [hr] at hb; simp at hb
          | cons a l => rfl
        have := cntL_lab r.1 (by omega) (List.tail r.1) (List.getD r.1 0 (dflt T_api_Label)) 0 hsplit
        rw [List.length_tail] at this
        exact this
    · simp only [Bool.not_eq_true] at hz
      rw [hz]
      rfl
  · simp only [Bool.not_eq_true] at hw
    rw [hw]
    rfl
end Go.Proofs.YticimhklggikiaaDoor

/-! Plain specs: the document's labels. -/
namespace Go.Proofs.YticimhklggikiaaDoor
open Go.Ev
set_option linter.unusedVariables false
set_option linter.unusedSimpArgs false

abbrev gRef01Right : A_ref01_Right.I → Option R_ref01_Right.I := fun x => some (labelOk x.1.1, ())
abbrev gRef01Cmp : A_ref01_Cmp.I → Option R_ref01_Cmp.I := fun x => some (labelCmp x.1 x.2.1, ())
abbrev stLabR (l : List T_api_Label.I) (i : Int) : St := ⟨[(0, .dat (.sl T_api_Label) l), (3, .dat (.int .i64) i)], []⟩
def bodyLabR (l : List T_api_Label.I) (s : Unit) (i : Int) (k : Unit → Option (Bool × Unit)) : Option (Bool × Unit) :=
  cond (decide (0 ≤ i)) (cond (decide (i < (l.length : Int))) (cond (labelOk (l.getD i.toNat (dflt T_api_Label)).1) (bodyLab (fun a b => some (labelCmp a b, ())) l s i k) (some (false, ()))) none) none
theorem s_ref05_labels (K n : Nat) (l : List T_api_Label.I) (s : Unit) (i : Int) : evL (E_ref05_labels gRef01Right gRef01Cmp) K f_ref05_labels R_ref05_labels [1,1,0,1,0] [] (n + 1) (stLabR l i) = cond (decide (i < (l.length : Int))) (bodyLabR l s i fun s' => evL (E_ref05_labels gRef01Right gRef01Cmp) K f_ref05_labels R_ref05_labels [1,1,0,1,0] [] n (stLabR l (Go.IntKind.wrap .i64 (i + 1)))) (some (true, ())) := by kernel_rfl
theorem h_ref05_labels (K : Nat) (g1 : A_ref01_Right.I → Option R_ref01_Right.I) (g2 : A_ref01_Cmp.I → Option R_ref01_Cmp.I) (l : List T_api_Label.I) : evF (E_ref05_labels g1 g2) K f_ref05_labels A_ref05_labels R_ref05_labels (l, ()) = cond (decide ((l.length : Int) < 1)) (some (false, ())) (cond (decide ((l.length : Int) > 8)) (some (false, ())) (cond (decide (0 < (l.length : Int))) (cond (!eqI T_api_Label (l.getD 0 (dflt T_api_Label)) (dflt T_api_Label)) (some (false, ())) (evL (E_ref05_labels g1 g2) K f_ref05_labels R_ref05_labels [1,1,0,1,0] [] K (stLabR l 1))) none)) := by kernel_rfl

theorem cntL_labR (l : List T_api_Label.I) (hl : l.length ≤ 1000000) : ∀ (rest : List T_api_Label.I) (a : T_api_Label.I) (i : Nat), l.drop i = a :: rest →
    cntL (bodyLabR l) (fun _ => some (true, ())) rest.length ((i + 1 : Nat) : Int) () = some (!(rest.any fun a => !labelOk a.1) && risesL a rest, ())
  | [], a, i, h => rfl
  | b :: rest, a, i, h => by
    have hi : i < l.length := by
      rcases Nat.lt_or_ge i l.length with h' | h'
      · exact h'
      · rw [List.drop_eq_nil_iff.2 h'] at h; cases h
    have h1 := List.drop_eq_getElem_cons hi
    rw [h] at h1
    simp only [List.cons.injEq] at h1
    have hi2 : i + 1 < l.length := by
      rcases Nat.lt_or_ge (i + 1) l.length with h' | h'
      · exact h'
      · have := List.drop_eq_nil_iff.2 h'; rw [← h1.2] at this; cases this
    have h2 := List.drop_eq_getElem_cons hi2
    rw [← h1.2] at h2
    simp only [List.cons.injEq] at h2
    have ga : l.getD i (dflt T_api_Label) = a := by simp [hi, h1.1]
    have gb : l.getD (i + 1) (dflt T_api_Label) = b := by simp [hi2, h2.1]
    have hw : Go.IntKind.wrap .i64 (((i + 1 : Nat) : Int) - 1) = (i : Int) := by rw [wrap64 (by omega)]; omega
    have ih := cntL_labR l hl rest b (i + 1) h1.2.symm
    simp only [List.length_cons, cntL, bodyLabR, bodyLab, risesL, List.any_cons]
    rw [hw, decide_eq_true (show (0 : Int) ≤ (i : Int) by omega), decide_eq_true (show (i : Int) < (l.length : Int) by omega), decide_eq_true (show (0 : Int) ≤ ((i + 1 : Nat) : Int) by omega), decide_eq_true (show ((i + 1 : Nat) : Int) < (l.length : Int) by omega), Int.toNat_natCast, Int.toNat_natCast, ga, gb]
    simp only [cond_true, Option.bind_some]
    by_cases ho : labelOk b.1 = true
    · rw [ho, cond_true]
      by_cases hc : labelCmp a b ≥ 0
      · rw [decide_eq_true hc]
        cases (rest.any fun a => !labelOk a.1) <;> rfl
      · rw [decide_eq_false hc]
        exact ih
    · simp only [Bool.not_eq_true] at ho
      rw [ho]
      rfl
theorem t_ref05_labels (x : A_ref05_labels.I) : ∃ K, evF (E_ref05_labels gRef01Right gRef01Cmp) K f_ref05_labels A_ref05_labels R_ref05_labels x = some (labelsB x.1, ()) := by
  obtain ⟨l, ⟨⟩⟩ := x
  have key (l : List T_api_Label.I) : ∃ K, evF (E_ref05_labels gRef01Right gRef01Cmp) K f_ref05_labels A_ref05_labels R_ref05_labels (l, ()) = some (labelsB l, ()) := by
    refine ⟨l.length + 1, (h_ref05_labels _ _ _ l).trans ?_⟩
    unfold labelsB within
    by_cases h1 : (l.length : Int) < 1
    · rw [decide_eq_true h1, decide_eq_false (show ¬ (1 : Int) ≤ (l.length : Int) by omega)]; rfl
    rw [decide_eq_false h1, decide_eq_true (show (1 : Int) ≤ (l.length : Int) by omega)]
    by_cases h2 : (l.length : Int) > 8
    · rw [decide_eq_true h2, decide_eq_false (show ¬ (l.length : Int) ≤ 8 by omega)]; rfl
    rw [decide_eq_false h2, decide_eq_true (show (l.length : Int) ≤ 8 by omega), decide_eq_true (show 0 < (l.length : Int) by omega)]
    cases hl0 : l with
    | nil => subst hl0; simp at h1
    | cons a rest =>
      have hl : l.length ≤ Go.maxLen := by unfold Go.maxLen; omega
      rw [← hl0]
      have g0 : l.getD 0 (dflt T_api_Label) = a := by rw [hl0]; rfl
      have gt : l.tail = rest := by rw [hl0]; rfl
      have gl : l.length = rest.length + 1 := by rw [hl0]; rfl
      rw [g0, gt]
      simp only [cond_false, cond_true, Bool.true_and]
      by_cases hz : eqI T_api_Label a (dflt T_api_Label) = true
      · have hok : labelOk a.1 = true := by
          obtain ⟨x, c, ⟨⟩⟩ := a
          have hz' : cond ((x : Int) == 0) (cond ((c : Int) == 0) true false) false = true := hz
          have : (x : Int) = 0 := by
            cases hx : ((x : Int) == 0) with
            | true => simpa using hx
            | false => rw [hx] at hz'; cases hz'
          show labelOk x = true
          rw [this]
          rfl
        rw [hz]
        simp only [Bool.not_true, cond_false, Bool.true_and]
        have hloop := cnt_loop (σ := Unit) (L := fun n _ i => evL (E_ref05_labels gRef01Right gRef01Cmp) (l.length + 1) f_ref05_labels R_ref05_labels [1,1,0,1,0] [] n (stLabR l i)) (body := bodyLabR l) (fin := fun _ => some (true, ())) hl (fun n s i => s_ref05_labels _ n l s i) (l.length - 1) 1 (l.length + 1) () (by omega) (by omega)
        refine hloop.trans ?_
        have := cntL_labR l (by omega) rest a 0 (by rw [hl0]; rfl)
        rw [show l.length - 1 = rest.length by omega]
        refine this.trans ?_
        rw [hl0, List.any_cons, hok]
        rfl
      · simp only [Bool.not_eq_true] at hz
        rw [hz]
        rfl
  exact key l
end Go.Proofs.YticimhklggikiaaDoor

/-! Plain specs: quotas. -/
namespace Go.Proofs.YticimhklggikiaaDoor
open Go.Ev
set_option linter.unusedVariables false
set_option linter.unusedSimpArgs false

abbrev gQuotas1 : A_realm_quotas_1.I → Option R_realm_quotas_1.I := fun x => some (!within x.1 0 12, ())
abbrev gNumbers : A_realm_numbers.I → Option R_realm_numbers.I := fun x => some (numbersV x.1, ())
def slotsB (q : T_api_Quota.I) : Bool := !((numbersV q).any fun n => !within n 0 12)
/-- Quotas whose caps are together at most what is left. -/
def quotasL : Int → List T_api_Quota.I → Bool
  | _, [] => true
  | left, q :: qs => !decide ((show Int from q.2.2.2.2.2.1) > left) && (slotsB q && quotasL (Go.IntKind.wrap .u64 (left - (show Int from q.2.2.2.2.2.1))) qs)
abbrev stQuo (left : Int) (qs : List T_api_Quota.I) (i : Int) : St := ⟨[(3, .dat (.int .u64) left), (23, .dat (.sl T_api_Quota) qs), (24, .dat (.int .i64) (Int.ofNat qs.length)), (25, .dat (.int .i64) i)], []⟩
def bodyQuo (left i : Int) (q : T_api_Quota.I) (k : Int → Option (Bool × Unit)) : Option (Bool × Unit) :=
  cond (decide ((show Int from q.2.2.2.2.2.1) > left)) (some (false, ())) ((sp_ContainsFunc (.int .i64) (numbersV q, some gQuotas1, ())).bind fun r => cond r.1 (some (false, ())) (k (Go.IntKind.wrap .u64 (left - (show Int from q.2.2.2.2.2.1)))))
theorem s_quotas (K n : Nat) (left : Int) (qs : List T_api_Quota.I) (i : Int) : evL (E_realm_quotas gQuotas1 gNumbers (sp_ContainsFunc (.int .i64))) K f_realm_quotas R_realm_quotas [1,1,1,0,1,0] [] (n + 1) (stQuo left qs i) = cond (decide (i < Int.ofNat qs.length)) (cond (decide (0 ≤ i)) (cond (decide (i < (qs.length : Int))) (bodyQuo left i (qs.getD i.toNat (dflt T_api_Quota)) fun left => evL (E_realm_quotas gQuotas1 gNumbers (sp_ContainsFunc (.int .i64))) K f_realm_quotas R_realm_quotas [1,1,1,0,1,0] [] n (stQuo left qs (Go.IntKind.wrap .i64 (i + 1)))) none) none) (some (true, ())) := by kernel_rfl
theorem forL_quo : ∀ (qs : List T_api_Quota.I) (left i : Int), forL bodyQuo (fun _ => some (true, ())) qs i left = some (quotasL left qs, ())
  | [], _, _ => rfl
  | q :: qs, left, i => by
    simp only [forL, quotasL, bodyQuo]
    by_cases h : (show Int from q.2.2.2.2.2.1) > left
    · rw [decide_eq_true h]; rfl
    · rw [decide_eq_false h, sp_ContainsFunc_eq (τ := .int .i64) (p := fun n => !within n 0 12) (by show 5 ≤ Go.maxLen; decide) (fun x _ => rfl)]
      simp only [cond_false, Option.bind_some, Bool.not_false, Bool.true_and]
      unfold slotsB
      have ih := forL_quo qs (Go.IntKind.wrap .u64 (left - (show Int from q.2.2.2.2.2.1))) (i + 1)
      cases (List.any (numbersV q) fun n => !within n 0 12) with
      | true => rfl
      | false => exact ih

def quotasB (labels : Nat) (qs : List T_api_Quota.I) : Bool := decide (qs.length = labels) && (!decide ((show Int from (qs.getD 0 (dflt T_api_Quota)).1) < 1) && quotasL 4611686018427387904 qs)
def sp_quotas (x : A_realm_quotas.I) : Option R_realm_quotas.I := if within (List.length x.1.1 : Int) 1 8 = true then some (quotasB (List.length x.1.1) x.1.2.2.2.2.1, ()) else none
theorem ev_quotas : ∀ x y, sp_quotas x = some y → ∃ K, evF (E_realm_quotas gQuotas1 gNumbers (sp_ContainsFunc (.int .i64))) K f_realm_quotas A_realm_quotas R_realm_quotas x = some y := by
  rintro ⟨r, ⟨⟩⟩ y h
  have h0 (K : Nat) (g1 : A_realm_quotas_1.I → Option R_realm_quotas_1.I) (g2 : A_realm_numbers.I → Option R_realm_numbers.I) (g3 : A_slices_ContainsFunc___int_int_.I → Option R_slices_ContainsFunc___int_int_.I) (r : T_api_Realm.I) : evF (E_realm_quotas g1 g2 g3) K f_realm_quotas A_realm_quotas R_realm_quotas (r, ()) =
      cond ((List.length r.2.2.2.2.1 : Int) != (List.length r.1 : Int)) (some (false, ())) (cond (decide (0 < (List.length r.2.2.2.2.1 : Int))) (cond (decide ((show Int from (List.getD r.2.2.2.2.1 0 (dflt T_api_Quota)).1) < 1)) (some (false, ())) (evL (E_realm_quotas g1 g2 g3) K f_realm_quotas R_realm_quotas [1,1,1,0,1,0] [] K (stQuo 4611686018427387904 r.2.2.2.2.1 0))) none) := by kernel_rfl
  simp only [sp_quotas] at h
  split at h
  · rename_i hw
    rw [← h]
    have hb : 1 ≤ List.length r.1 ∧ List.length r.1 ≤ 8 := by
      unfold within at hw
      simp only [Bool.and_eq_true, decide_eq_true_eq] at hw
      omega
    refine ⟨List.length r.2.2.2.2.1 + 1, (h0 _ _ _ _ r).trans ?_⟩
    show _ = some (quotasB (List.length r.1) r.2.2.2.2.1, ())
    unfold quotasB
    by_cases hn : List.length r.2.2.2.2.1 = List.length r.1
    · have e1 : ((List.length r.2.2.2.2.1 : Int) != (List.length r.1 : Int)) = false := by rw [hn]; simp
      rw [e1, cond_false, decide_eq_true hn, decide_eq_true (show 0 < (List.length r.2.2.2.2.1 : Int) by omega), cond_true, Bool.true_and]
      by_cases hr : (show Int from (List.getD r.2.2.2.2.1 0 (dflt T_api_Quota)).1) < 1
      · rw [decide_eq_true hr]; rfl
      · rw [decide_eq_false hr, cond_false, Bool.not_false, Bool.true_and]
        have hloop := for_loop0 (σ := Int) (L := fun n left i => evL (E_realm_quotas gQuotas1 gNumbers (sp_ContainsFunc (.int .i64))) (List.length r.2.2.2.2.1 + 1) f_realm_quotas R_realm_quotas [1,1,1,0,1,0] [] n (stQuo left r.2.2.2.2.1 i)) (d := dflt T_api_Quota) (body := bodyQuo) (fin := fun _ => some (true, ())) (xs := r.2.2.2.2.1) (by unfold Go.maxLen; omega) (fun n left i => s_quotas _ n left _ i) 4611686018427387904
        exact hloop.trans (forL_quo _ _ _)
    · have e1 : ((List.length r.2.2.2.2.1 : Int) != (List.length r.1 : Int)) = true := by simp; omega
      rw [e1, decide_eq_false hn]
      rfl
  · cases h
end Go.Proofs.YticimhklggikiaaDoor

/-! Plain specs: the document's quotas. -/
namespace Go.Proofs.YticimhklggikiaaDoor
open Go.Ev
set_option linter.unusedVariables false
set_option linter.unusedSimpArgs false

abbrev gSlots : A_ref05_slots.I → Option R_ref05_slots.I := fun x => some (within x.1 0 12, ())
abbrev stQuoR (l : List T_api_Quota.I) (left i : Int) : St := ⟨[(0, .dat (.sl T_api_Quota) l), (3, .dat (.int .u64) left), (4, .dat (.int .i64) i)], []⟩
def bodyQuoR (left i : Int) (q : T_api_Quota.I) (k : Int → Option (Bool × Unit)) : Option (Bool × Unit) :=
  cond (within q.1 0 12) (cond (within q.2.1 0 12) (cond (within q.2.2.1 0 12) (cond (within q.2.2.2.1 0 12) (cond (within q.2.2.2.2.1 0 12) (cond (decide ((show Int from q.2.2.2.2.2.1) > left)) (some (false, ())) (k (Go.IntKind.wrap .u64 (left - (show Int from q.2.2.2.2.2.1))))) (some (false, ()))) (some (false, ()))) (some (false, ()))) (some (false, ()))) (some (false, ()))
def finQuoR (l : List T_api_Quota.I) : Option (Bool × Unit) := cond (decide ((l.length : Int) > 0)) (cond (decide (0 < (l.length : Int))) (cond (decide ((show Int from (l.getD 0 (dflt T_api_Quota)).1) > 0)) (some (true, ())) (some (false, ()))) none) (some (false, ()))
theorem s_ref05_quotas (K n : Nat) (l : List T_api_Quota.I) (left i : Int) : evL (E_ref05_quotas gSlots) K f_ref05_quotas R_ref05_quotas [1,1,0,1,0] [] (n + 1) (stQuoR l left i) = cond (decide (i < Int.ofNat l.length)) (cond (decide (0 ≤ i)) (cond (decide (i < (l.length : Int))) (bodyQuoR left i (l.getD i.toNat (dflt T_api_Quota)) fun left => evL (E_ref05_quotas gSlots) K f_ref05_quotas R_ref05_quotas [1,1,0,1,0] [] n (stQuoR l left (Go.IntKind.wrap .i64 (i + 1)))) none) none) (finQuoR l) := by kernel_rfl
theorem forL_quoR (f : Option (Bool × Unit)) : ∀ (qs : List T_api_Quota.I) (left i : Int), forL bodyQuoR (fun _ => f) qs i left = cond (quotasL left qs) f (some (false, ()))
  | [], _, _ => rfl
  | q :: qs, left, i => by
    have ih := forL_quoR f qs (Go.IntKind.wrap .u64 (left - (show Int from q.2.2.2.2.2.1))) (i + 1)
    have hs : slotsB q = (within q.1 0 12 && (within q.2.1 0 12 && (within q.2.2.1 0 12 && (within q.2.2.2.1 0 12 && within q.2.2.2.2.1 0 12)))) := by
      simp only [slotsB, numbersV, List.any_cons, List.any_nil, Bool.or_false]
      cases within q.1 0 12 <;> cases within q.2.1 0 12 <;> cases within q.2.2.1 0 12 <;> cases within q.2.2.2.1 0 12 <;> cases within q.2.2.2.2.1 0 12 <;> rfl
    simp only [forL, quotasL, bodyQuoR]
    rw [hs, ih]
    cases within q.1 0 12 <;> cases within q.2.1 0 12 <;> cases within q.2.2.1 0 12 <;> cases within q.2.2.2.1 0 12 <;> cases within q.2.2.2.2.1 0 12 <;> cases decide ((show Int from q.2.2.2.2.2.1) > left) <;> rfl

def quotasBR (l : List T_api_Quota.I) : Bool := quotasL 4611686018427387904 l && (decide (0 < l.length) && !decide ((show Int from (l.getD 0 (dflt T_api_Quota)).1) < 1))
def sp_ref05_quotas (x : A_ref05_quotas.I) : Option R_ref05_quotas.I := if List.length x.1 ≤ 8 then some (quotasBR x.1, ()) else none
theorem ev_ref05_quotas : ∀ x y, sp_ref05_quotas x = some y → ∃ K, evF (E_ref05_quotas gSlots) K f_ref05_quotas A_ref05_quotas R_ref05_quotas x = some y := by
  rintro ⟨l, ⟨⟩⟩ y h
  have h0 (K : Nat) (g : A_ref05_slots.I → Option R_ref05_slots.I) (l : List T_api_Quota.I) : evF (E_ref05_quotas g) K f_ref05_quotas A_ref05_quotas R_ref05_quotas (l, ()) = evL (E_ref05_quotas g) K f_ref05_quotas R_ref05_quotas [1,1,0,1,0] [] K (stQuoR l 4611686018427387904 0) := by kernel_rfl
  simp only [sp_ref05_quotas] at h
  split at h
  · rename_i hl
    rw [← h]
    have key (l : List T_api_Quota.I) (hl : l.length ≤ 8) : evF (E_ref05_quotas gSlots) (l.length + 1) f_ref05_quotas A_ref05_quotas R_ref05_quotas (l, ()) = some (quotasBR l, ()) := by
      refine (h0 _ _ l).trans ?_
      have hloop := for_loop0 (σ := Int) (L := fun n left i => evL (E_ref05_quotas gSlots) (l.length + 1) f_ref05_quotas R_ref05_quotas [1,1,0,1,0] [] n (stQuoR l left i)) (d := dflt T_api_Quota) (body := bodyQuoR) (fin := fun _ => finQuoR l) (xs := l) (by unfold Go.maxLen; omega) (fun n left i => s_ref05_quotas _ n l left i) 4611686018427387904
      refine hloop.trans ((forL_quoR (finQuoR l) l _ _).trans ?_)
      unfold quotasBR finQuoR
      cases quotasL 4611686018427387904 l with
      | false => rfl
      | true =>
        simp only [cond_true, Bool.true_and]
        by_cases hn : 0 < l.length
        · rw [decide_eq_true (show (l.length : Int) > 0 by omega), decide_eq_true hn]
          by_cases hr : (show Int from (l.getD 0 (dflt T_api_Quota)).1) < 1
          · rw [decide_eq_true hr, decide_eq_false (show ¬ (show Int from (l.getD 0 (dflt T_api_Quota)).1) > 0 by exact fun h => by have := Int.lt_iff_add_one_le.1 h; exact absurd hr (by exact Int.not_lt.2 (by simpa using this)))]
            rfl
          · rw [decide_eq_false hr, decide_eq_true (show (show Int from (l.getD 0 (dflt T_api_Quota)).1) > 0 by exact Int.lt_of_lt_of_le (by decide) (Int.not_lt.1 hr))]
            rfl
        · rw [decide_eq_false (show ¬ (l.length : Int) > 0 by omega), decide_eq_false hn]
          rfl
    exact ⟨_, key l hl⟩
  · cases h
end Go.Proofs.YticimhklggikiaaDoor

/-! Plain specs: names of accounts. -/
namespace Go.Proofs.YticimhklggikiaaDoor
open Go.Ev
set_option linter.unusedVariables false
set_option linter.unusedSimpArgs false

def stCN (l : List T_api_Account.I) (ns : List ByteArray) (i : Int) : St := match ns with
  | [] => ⟨[(3, .clip .str []), (7, .dat (.sl T_api_Account) l), (8, .dat (.int .i64) (Int.ofNat l.length)), (9, .dat (.int .i64) i)], []⟩
  | n :: ns => ⟨[(3, .ow 0), (7, .dat (.sl T_api_Account) l), (8, .dat (.int .i64) (Int.ofNat l.length)), (9, .dat (.int .i64) i)], [.row .str (n :: ns) false]⟩
def bodyCN (ns : List ByteArray) (i : Int) (a : T_api_Account.I) (k : List ByteArray → Option (List ByteArray × Unit)) : Option (List ByteArray × Unit) := match ns with
  | [] => k [a.1]
  | n :: ns => cond (decide ((n :: ns).length + 1 ≤ lim)) (k (n :: (ns ++ [a.1]))) none
theorem s_callNames (K n : Nat) (l : List T_api_Account.I) (ns : List ByteArray) (i : Int) : evL E_realm_callNames K f_realm_callNames R_realm_callNames [1,1,0,1,0] [] (n + 1) (stCN l ns i) = cond (decide (i < Int.ofNat l.length)) (cond (decide (0 ≤ i)) (cond (decide (i < (l.length : Int))) (bodyCN ns i (l.getD i.toNat (dflt T_api_Account)) fun ns => evL E_realm_callNames K f_realm_callNames R_realm_callNames [1,1,0,1,0] [] n (stCN l ns (Go.IntKind.wrap .i64 (i + 1)))) none) none) (some (ns, ())) := by
  cases ns with
  | nil => kernel_rfl
  | cons m ns => kernel_rfl

theorem forL_CN : ∀ (l : List T_api_Account.I) (ns : List ByteArray) (i : Int), ns.length + l.length ≤ 4294967296 → forL bodyCN (fun ns => some (ns, ())) l i ns = some (ns ++ l.map (·.1), ())
  | [], ns, i, h => by simp [forL]
  | a :: l, ns, i, h => by
    have ih := forL_CN l (ns ++ [a.1]) (i + 1) (by simp at h ⊢; omega)
    cases ns with
    | nil =>
      simp only [forL, bodyCN]
      exact ih.trans (by simp)
    | cons n ns =>
      simp only [forL, bodyCN]
      rw [decide_eq_true (by simp at h ⊢; unfold lim; omega), cond_true]
      exact ih.trans (by simp)
def sp_callNames (x : A_realm_callNames.I) : Option R_realm_callNames.I := if List.length x.1.2.2.1 ≤ 8 then some (List.map (fun a : T_api_Account.I => a.1) x.1.2.2.1, ()) else none
theorem ev_callNames : ∀ x y, sp_callNames x = some y → ∃ K, evF E_realm_callNames K f_realm_callNames A_realm_callNames R_realm_callNames x = some y := by
  rintro ⟨r, ⟨⟩⟩ y h
  have h0 (K : Nat) (r : T_api_Realm.I) : evF E_realm_callNames K f_realm_callNames A_realm_callNames R_realm_callNames (r, ()) = evL E_realm_callNames K f_realm_callNames R_realm_callNames [1,1,0,1,0] [] K (stCN r.2.2.1 [] 0) := by kernel_rfl
  simp only [sp_callNames] at h
  split at h
  · rename_i hl
    rw [← h]
    refine ⟨List.length r.2.2.1 + 1, (h0 _ r).trans ?_⟩
    have hloop := for_loop0 (σ := List ByteArray) (L := fun n ns i => evL E_realm_callNames (List.length r.2.2.1 + 1) f_realm_callNames R_realm_callNames [1,1,0,1,0] [] n (stCN r.2.2.1 ns i)) (d := dflt T_api_Account) (body := bodyCN) (fin := fun ns => some (ns, ())) (xs := r.2.2.1) (by unfold Go.maxLen; omega) (fun n ns i => s_callNames _ n _ ns i) []
    exact hloop.trans ((forL_CN _ _ _ (by simp; omega)).trans rfl)
  · cases h
end Go.Proofs.YticimhklggikiaaDoor

/-! Plain specs: names apart. -/
namespace Go.Proofs.YticimhklggikiaaDoor
open Go.Ev
set_option linter.unusedVariables false
set_option linter.unusedSimpArgs false

abbrev Ents : Type := List (ByteArray × Int)
abbrev stAp (l : List ByteArray) (es : Ents) (i : Int) : St := ⟨[(0, .dat (.sl .str) l), (3, .om 0), (7, .dat (.sl .str) l), (8, .dat (.int .i64) (Int.ofNat l.length)), (9, .dat (.int .i64) i)], [.mp .str (.int .i64) es]⟩
def bodyAp (es : Ents) (i : Int) (a : ByteArray) (k : Ents → Option (Bool × Unit)) : Option (Bool × Unit) := k (mput .str es a (Go.IntKind.wrap .i64 (mget .str (dflt (.int .i64)) es a + 1)))
theorem s_Apart (K n : Nat) (l : List ByteArray) (es : Ents) (i : Int) : evL E_name_Apart K f_name_Apart R_name_Apart [1,1,0,1,0] [] (n + 1) (stAp l es i) = cond (decide (i < Int.ofNat l.length)) (cond (decide (0 ≤ i)) (cond (decide (i < (l.length : Int))) (bodyAp es i (l.getD i.toNat (dflt .str)) fun es => evL E_name_Apart K f_name_Apart R_name_Apart [1,1,0,1,0] [] n (stAp l es (Go.IntKind.wrap .i64 (i + 1)))) none) none) (cond ((es.length : Int) == (l.length : Int)) (some (true, ())) (some (false, ()))) := by kernel_rfl

/-- Names that no other one is. -/
def apartL (seen : List ByteArray) : List ByteArray → Bool
  | [] => true
  | a :: l => !(seen.any fun b => eqI .str a b) && apartL (seen ++ [a]) l
theorem mput_keys (es : Ents) (a : ByteArray) (y : Int) : (mput .str es a y).map (·.1) = if (es.map (·.1)).any (fun b => eqI .str a b) = true then es.map (·.1) else es.map (·.1) ++ [a] := by
  induction es with
  | nil => rfl
  | cons e es ih =>
    simp only [mput, List.map_cons, List.any_cons]
    by_cases h : eqI .str a e.1 = true
    · rw [h]; simp
    · simp only [Bool.not_eq_true] at h
      rw [h]
      simp only [cond_false, List.map_cons, Bool.false_or]
      rw [ih]
      split <;> simp

def esN : List ByteArray → Ents → Ents
  | [], es => es
  | a :: l, es => esN l (mput .str es a (Go.IntKind.wrap .i64 (mget .str (dflt (.int .i64)) es a + 1)))
theorem forL_Ap (f : Ents → Option (Bool × Unit)) : ∀ (l : List ByteArray) (es : Ents) (i : Int), forL bodyAp f l i es = f (esN l es)
  | [], _, _ => rfl
  | a :: l, es, i => forL_Ap f l _ _
theorem esN_length : ∀ (l : List ByteArray) (es : Ents), (esN l es).length ≤ es.length + l.length ∧ ((esN l es).length = es.length + l.length ↔ apartL (es.map (·.1)) l = true)
  | [], es => by simp [esN, apartL]
  | a :: l, es => by
    obtain ⟨h1, h2⟩ := esN_length l (mput .str es a (Go.IntKind.wrap .i64 (mget .str (dflt (.int .i64)) es a + 1)))
    have hk := mput_keys es a (Go.IntKind.wrap .i64 (mget .str (dflt (.int .i64)) es a + 1))
    have hlen := congrArg List.length hk
    simp only [List.length_map] at hlen
    simp only [esN, apartL, List.length_cons]
    by_cases hs : (es.map (·.1)).any (fun b => eqI .str a b) = true
    · rw [if_pos hs, List.length_map] at hlen
      rw [hs]
      simp only [Bool.not_true, Bool.false_and]
      constructor
      · omega
      · constructor
        · intro h; omega
        · intro h; cases h
    · rw [if_neg hs, List.length_append, List.length_map] at hlen
      rw [if_neg hs] at hk
      simp only [List.length_cons, List.length_nil] at hlen
      rw [hk] at h2
      simp only [Bool.not_eq_true] at hs
      rw [hs]
      simp only [Bool.not_false, Bool.true_and]
      constructor
      · omega
      · rw [← h2]
        constructor <;> intro h <;> omega
def sp_Apart (x : A_name_Apart.I) : Option R_name_Apart.I := if List.length x.1 ≤ 8 then some (apartL [] x.1, ()) else none
theorem ev_Apart : ∀ x y, sp_Apart x = some y → ∃ K, evF E_name_Apart K f_name_Apart A_name_Apart R_name_Apart x = some y := by
  rintro ⟨l, ⟨⟩⟩ y h
  have h0 (K : Nat) (l : List ByteArray) : evF E_name_Apart K f_name_Apart A_name_Apart R_name_Apart (l, ()) = evL E_name_Apart K f_name_Apart R_name_Apart [1,1,0,1,0] [] K (stAp l [] 0) := by kernel_rfl
  have key (l : List ByteArray) (hl : l.length ≤ 8) : evF E_name_Apart (l.length + 1) f_name_Apart A_name_Apart R_name_Apart (l, ()) = some (apartL [] l, ()) := by
    refine (h0 _ l).trans ?_
    have hloop := for_loop0 (σ := Ents) (L := fun n es i => evL E_name_Apart (l.length + 1) f_name_Apart R_name_Apart [1,1,0,1,0] [] n (stAp l es i)) (d := (dflt .str : ByteArray)) (body := bodyAp) (fin := fun es => cond ((es.length : Int) == (l.length : Int)) (some (true, ())) (some (false, ()))) (xs := l) (by unfold Go.maxLen; omega) (fun n es i => s_Apart _ n l es i) []
    refine hloop.trans ((forL_Ap _ l [] 0).trans ?_)
    obtain ⟨_, h2⟩ := esN_length l []
    simp only [List.length_nil, Nat.zero_add, List.map_nil] at h2
    by_cases ha : apartL [] l = true
    · have := h2.2 ha
      rw [this, ha]
      simp
    · simp only [Bool.not_eq_true] at ha
      have : (esN l []).length ≠ l.length := fun e => by have := h2.1 e; rw [ha] at this; cases this
      rw [ha, show (((esN l []).length : Int) == (l.length : Int)) = false by simp; omega]
      rfl
  simp only [sp_Apart] at h
  split at h
  · rename_i hl
    rw [← h]
    exact ⟨_, key l hl⟩
  · cases h
end Go.Proofs.YticimhklggikiaaDoor

/-! Plain specs: accounts. -/
namespace Go.Proofs.YticimhklggikiaaDoor
open Go.Ev
set_option linter.unusedVariables false
set_option linter.unusedSimpArgs false

abbrev gName : A_name_Right.I → Option R_name_Right.I := fun x => some (nameB x.1, ())
def accountB (a : T_api_Account.I) : Bool := nameB a.1 && (nameB a.2.1 && within a.2.2.1 0 3)
theorem t_accounts_1 (x : A_realm_accounts_1.I) : ∃ K, evF (E_realm_accounts_1 gName gWithin) K f_realm_accounts_1 A_realm_accounts_1 R_realm_accounts_1 x = some (!accountB x.1, ()) := by
  obtain ⟨a, ⟨⟩⟩ := x
  have h (g1 : A_name_Right.I → Option R_name_Right.I) (g2 : A_realm_within.I → Option R_realm_within.I) (a : T_api_Account.I) : evF (E_realm_accounts_1 g1 g2) 0 f_realm_accounts_1 A_realm_accounts_1 R_realm_accounts_1 (a, ()) = (g1 (a.1, ())).bind fun q => cond q.1 ((g1 (a.2.1, ())).bind fun q => cond q.1 ((g2 (a.2.2.1, 0, 3, ())).bind fun q => cond q.1 (some (false, ())) (some (true, ()))) (some (true, ()))) (some (true, ())) := by kernel_rfl
  refine ⟨0, (h _ _ a).trans ?_⟩
  simp only [Option.bind_some]
  show _ = some (!accountB a, ())
  unfold accountB
  cases nameB a.1 <;> cases nameB a.2.1 <;> cases within a.2.2.1 0 3 <;> rfl

abbrev gAccounts1 : A_realm_accounts_1.I → Option R_realm_accounts_1.I := fun x => some (!accountB x.1, ())
def accountsB (l : List T_api_Account.I) : Bool := within (l.length : Int) 1 8 && (!(l.any fun a => !accountB a) && apartL [] (l.map fun a => a.1))
theorem t_accounts (x : A_realm_accounts.I) : ∃ K, evF (E_realm_accounts gAccounts1 gWithin (sp_ContainsFunc T_api_Account) sp_callNames sp_Apart) K f_realm_accounts A_realm_accounts R_realm_accounts x = some (accountsB x.1.2.2.1, ()) := by
  obtain ⟨r, ⟨⟩⟩ := x
  have h (g1 : A_realm_accounts_1.I → Option R_realm_accounts_1.I) (g2 : A_realm_within.I → Option R_realm_within.I) (g3 : A_slices_ContainsFunc___api_Account_api_Account_.I → Option R_slices_ContainsFunc___api_Account_api_Account_.I) (g4 : A_realm_callNames.I → Option R_realm_callNames.I) (g5 : A_name_Apart.I → Option R_name_Apart.I) (r : T_api_Realm.I) : evF (E_realm_accounts g1 g2 g3 g4 g5) 0 f_realm_accounts A_realm_accounts R_realm_accounts (r, ()) =
      (g2 ((List.length r.2.2.1 : Int), 1, 8, ())).bind fun q => cond q.1 ((g3 (r.2.2.1, some g1, ())).bind fun q => cond q.1 (some (false, ())) ((g4 (r, ())).bind fun ns => (g5 (ns.1, ())).bind fun q => cond q.1 (some (true, ())) (some (false, ())))) (some (false, ())) := by kernel_rfl
  refine ⟨0, (h _ _ _ _ _ r).trans ?_⟩
  simp only [Option.bind_some]
  show _ = some (accountsB r.2.2.1, ())
  unfold accountsB
  by_cases hw : within (List.length r.2.2.1 : Int) 1 8 = true
  · have hb : List.length r.2.2.1 ≤ 8 := by
      unfold within at hw
      simp only [Bool.and_eq_true, decide_eq_true_eq] at hw
      omega
    rw [hw, cond_true, sp_ContainsFunc_eq (τ := T_api_Account) (p := fun a => !accountB a) (by unfold Go.maxLen; omega) (fun x _ => rfl)]
    simp only [Option.bind_some, sp_callNames, sp_Apart]
    rw [if_pos hb, Option.bind_some, if_pos (by simpa using hb), Option.bind_some]
    cases (List.any r.2.2.1 fun a => !accountB a) <;> cases apartL [] (List.map (fun a : T_api_Account.I => a.1) r.2.2.1) <;> rfl
  · simp only [Bool.not_eq_true] at hw
    rw [hw]
    rfl
end Go.Proofs.YticimhklggikiaaDoor

/-! Plain specs: the document's names. -/
namespace Go.Proofs.YticimhklggikiaaDoor
open Go.Ev
set_option linter.unusedVariables false
set_option linter.unusedSimpArgs false

abbrev stNm (s : ByteArray) (i : Int) : St := ⟨[(0, .dat .str s), (3, .dat (.int .i64) i)], []⟩
def chrI (s : ByteArray) (i : Int) : Int := (((s.data.toList.getD i.toNat 0).toNat : Nat) : Int)
/-- An index in range, and what comes then. -/
def inS (s : ByteArray) (i : Int) (k : Option (Bool × Unit)) : Option (Bool × Unit) := cond (decide (0 ≤ i)) (cond (decide (i < (s.size : Int))) k none) none
def bodyNm (s : ByteArray) (u : Unit) (i : Int) (k : Unit → Option (Bool × Unit)) : Option (Bool × Unit) :=
  inS s i (cond (decide (chrI s i ≥ 97)) (inS s i (cond (decide (chrI s i ≤ 122)) (k u) (cond (i == 0) (some (false, ())) (inS s i (cond (decide (chrI s i < 48)) (some (false, ())) (inS s i (cond (decide (chrI s i > 57)) (some (false, ())) (k u))))))))
    (cond (i == 0) (some (false, ())) (inS s i (cond (decide (chrI s i < 48)) (some (false, ())) (inS s i (cond (decide (chrI s i > 57)) (some (false, ())) (k u)))))))
theorem s_ref03_Right (K n : Nat) (s : ByteArray) (u : Unit) (i : Int) : evL E_ref03_Right K f_ref03_Right R_ref03_Right [1,1,0,1,0] [] (n + 1) (stNm s i) = cond (decide (i < (s.size : Int))) (bodyNm s u i fun _ => evL E_ref03_Right K f_ref03_Right R_ref03_Right [1,1,0,1,0] [] n (stNm s (Go.IntKind.wrap .i64 (i + 1)))) (some (true, ())) := by kernel_rfl

theorem bodyNm_eq (s : ByteArray) (i : Nat) (hi : i < s.size) (k : Unit → Option (Bool × Unit)) : bodyNm s () (i : Int) k = cond (small (chrI s i) || (!((i : Int) == 0) && digit (chrI s i))) (k ()) (some (false, ())) := by
  have h1 : decide ((0 : Int) ≤ (i : Int)) = true := decide_eq_true (by omega)
  have h2 : decide ((i : Int) < (s.size : Int)) = true := decide_eq_true (by omega)
  unfold bodyNm inS small digit
  simp only [h1, h2, cond_true]
  generalize chrI s (i : Int) = c
  simp only [Bool.cond_eq_ite, decide_eq_true_eq, Bool.or_eq_true, Bool.and_eq_true, Bool.not_eq_true', beq_iff_eq, beq_eq_false_iff_ne]
  (repeat' split) <;> first | rfl | (exfalso; omega) | (exfalso; simp_all; omega) | skip
  all_goals simp_all
  all_goals omega

theorem bytesI_at (s : ByteArray) (i : Nat) (hi : i < s.size) : (bytesI s).drop i = chrI s (i : Int) :: (bytesI s).drop (i + 1) := by
  have hl : i < (bytesI s).length := by rw [bytesI_length]; exact hi
  rw [List.drop_eq_getElem_cons hl]
  congr 1
  have hd : i < s.data.toList.length := by unfold bytesI at hl; simpa using hl
  simp only [bytesI, chrI, List.getElem_map, Int.toNat_natCast]
  rw [List.getD_eq_getElem?_getD, List.getElem?_eq_getElem hd]
  rfl
theorem cntL_nm (s : ByteArray) : ∀ (k i : Nat), i + k = s.size → 1 ≤ i → cntL (bodyNm s) (fun _ => some (true, ())) k (i : Int) () = some (((bytesI s).drop i).all wordc, ())
  | 0, i, h, _ => by
    rw [List.drop_of_length_le (by rw [bytesI_length]; omega)]
    rfl
  | k + 1, i, h, h1 => by
    have ih := cntL_nm s k (i + 1) (by omega) (by omega)
    simp only [cntL]
    rw [bodyNm_eq s i (by omega), bytesI_at s i (by omega), List.all_cons]
    rw [show ((i : Int) == 0) = false by simp; omega]
    unfold wordc at ih ⊢
    simp only [Bool.not_false, Bool.true_and]
    cases (small (chrI s (i : Int)) || digit (chrI s (i : Int))) with
    | false => rfl
    | true => exact ih
theorem t_ref03_Right (x : A_ref03_Right.I) : ∃ K, evF E_ref03_Right K f_ref03_Right A_ref03_Right R_ref03_Right x = some (nameB x.1, ()) := by
  obtain ⟨s, ⟨⟩⟩ := x
  have h0 (K : Nat) (s : ByteArray) : evF E_ref03_Right K f_ref03_Right A_ref03_Right R_ref03_Right (s, ()) = cond ((s.size : Int) == 0) (some (false, ())) (cond (decide ((s.size : Int) > 12)) (some (false, ())) (evL E_ref03_Right K f_ref03_Right R_ref03_Right [1,1,0,1,0] [] K (stNm s 0))) := by kernel_rfl
  have key (s : ByteArray) : evF E_ref03_Right (s.size + 1) f_ref03_Right A_ref03_Right R_ref03_Right (s, ()) = some (nameB s, ()) := by
    refine (h0 _ s).trans ?_
    unfold nameB
    by_cases h1 : s.size = 0
    · rw [show ((s.size : Int) == 0) = true by rw [h1]; rfl, decide_eq_false (show ¬ 1 ≤ s.size by omega)]; rfl
    rw [show ((s.size : Int) == 0) = false by (cases hq : ((s.size : Int) == 0) with | false => rfl | true => exact absurd (Int.ofNat.inj (eq_of_beq hq)) h1), decide_eq_true (show 1 ≤ s.size by omega)]
    by_cases h2 : s.size > 12
    · rw [decide_eq_true (show (s.size : Int) > 12 by omega), decide_eq_false (show ¬ s.size ≤ 12 by omega)]; rfl
    rw [decide_eq_false (show ¬ (s.size : Int) > 12 by omega), decide_eq_true (show s.size ≤ 12 by omega)]
    simp only [cond_false, Bool.true_and]
    have hloop := cnt_loop (σ := Unit) (L := fun n _ i => evL E_ref03_Right (s.size + 1) f_ref03_Right R_ref03_Right [1,1,0,1,0] [] n (stNm s i)) (body := bodyNm s) (fin := fun _ => some (true, ())) (len := s.size) (by unfold Go.maxLen; omega) (fun n u i => s_ref03_Right _ n s u i) s.size 0 (s.size + 1) () (by omega) (by omega)
    refine hloop.trans ?_
    obtain ⟨k, hk⟩ : ∃ k, s.size = k + 1 := ⟨s.size - 1, by omega⟩
    rw [hk]
    simp only [cntL]
    have hb := bodyNm_eq s 0 (by omega) (fun s' => cntL (bodyNm s) (fun _ => some (true, ())) k (((0 : Nat) : Int) + 1) s')
    refine hb.trans ?_
    have h3 := bytesI_at s 0 (by omega)
    rw [List.drop_zero] at h3
    have h4 := cntL_nm s k 1 (by omega) (by omega)
    rw [h3]
    simp only [List.getD_cons_zero, List.all_cons]
    rw [show (((0 : Nat) : Int) == 0) = true by rfl]
    simp only [Bool.not_true, Bool.false_and, Bool.or_false]
    unfold wordc at h4 ⊢
    cases hs : small (chrI s ((0 : Nat) : Int)) with
    | false => rfl
    | true =>
      simp only [cond_true, Bool.true_or, Bool.true_and]
      exact h4
  exact ⟨_, key s⟩
end Go.Proofs.YticimhklggikiaaDoor

/-! Plain specs: halls. -/
namespace Go.Proofs.YticimhklggikiaaDoor
open Go.Ev
set_option linter.unusedVariables false
set_option linter.unusedSimpArgs false

def bitV (b : Int) : Int := ((2 ^ b.toNat : Nat) : Int)
def hallOk (b : Int) : Bool := decide (0 ≤ b) && decide (b < 64)
def hallF (b : Int) : T_api_Label.I × Int := if hallOk b = true then ((0, bitV b, ()), 0) else ((0, 0, ()), 1)
theorem shl_eq {b : Int} (h : hallOk b = true) : Go.IntKind.wrap .u64 (1 * 2 ^ (min (Int.toNat b) (Go.IntKind.bits .u64))) = bitV b := by
  unfold hallOk at h
  simp only [Bool.and_eq_true, decide_eq_true_eq] at h
  obtain ⟨n, rfl⟩ := Int.eq_ofNat_of_zero_le h.1
  have hn : n < 64 := by omega
  unfold bitV
  rw [Int.toNat_natCast]
  have hm : min n (Go.IntKind.bits .u64) = n := Nat.min_eq_left (by show n ≤ 64; omega)
  rw [hm]
  have : ∀ n : Fin 64, Go.IntKind.wrap .u64 (1 * 2 ^ n.val) = ((2 ^ n.val : Nat) : Int) := by decide +kernel
  exact this ⟨n, hn⟩
theorem t_label_Hall (x : A_label_Hall.I) : ∃ K, evF E_label_Hall K f_label_Hall A_label_Hall R_label_Hall x = some ((hallF x.1).1, (hallF x.1).2, ()) := by
  obtain ⟨b, ⟨⟩⟩ := x
  have h (b : Int) : evF E_label_Hall 0 f_label_Hall A_label_Hall R_label_Hall (b, ()) = cond (decide (b < 0)) (some (((0 : Int), (0 : Int), ()), (1 : Int), ())) (cond (decide (b ≥ 64)) (some (((0 : Int), (0 : Int), ()), (1 : Int), ())) (cond (decide (b < 0)) none (some (((0 : Int), Go.IntKind.wrap .u64 (1 * 2 ^ (min (Int.toNat b) (Go.IntKind.bits .u64))), ()), (0 : Int), ())))) := by kernel_rfl
  have key (b : Int) : cond (decide (b < 0)) (some (((0 : Int), (0 : Int), ()), (1 : Int), ())) (cond (decide (b ≥ 64)) (some (((0 : Int), (0 : Int), ()), (1 : Int), ())) (cond (decide (b < 0)) none (some (((0 : Int), Go.IntKind.wrap .u64 (1 * 2 ^ (min (Int.toNat b) (Go.IntKind.bits .u64))), ()), (0 : Int), ())))) = some ((hallF b).1, (hallF b).2, ()) := by
    unfold hallF
    by_cases hb : hallOk b = true
    · rw [shl_eq hb, if_pos hb]
      unfold hallOk at hb
      simp only [Bool.and_eq_true, decide_eq_true_eq] at hb
      rw [decide_eq_false (show ¬ b < 0 by omega), decide_eq_false (show ¬ b ≥ 64 by omega)]
      rfl
    · rw [if_neg hb]
      unfold hallOk at hb
      simp only [Bool.and_eq_true, decide_eq_true_eq] at hb
      by_cases h1 : b < 0
      · rw [decide_eq_true h1]; rfl
      · rw [decide_eq_false h1, decide_eq_true (show b ≥ 64 by omega)]; rfl
  exact ⟨0, (h b).trans (key b)⟩
end Go.Proofs.YticimhklggikiaaDoor
