import PyProof.Rows.All
import Wide.All
import OpenK.AllK
import Wide.FinOn
import Lean
import PySem.Challenge.RW_np0063_01
set_option Elab.async false
set_option maxRecDepth 100000
namespace Mine
local macro_rules | `(tactic| omega) => `(tactic| lia)
section
open PySem PySem.W PyProof.Rows
section
-- the written top: the objects behind the text's body, as the constant hd.heap_1
local macro_rules | `(tactic| o_head $_) => `(tactic| exact False.elim (by assumption))
set_option maxHeartbeats 8000000 in
theorem hd (h : False) : PySem.Challenge.rw_np0063_01.row.Holds := by
  k_head
end
noncomputable def isName : Stmt → Bool
  | .Assign [.Name x _] _ _ => x == "__name__"
  | _ => false
-- the text's body less the rows `__name__ = ..`
noncomputable def viewOf (p : Program) : Program := { p with main := { p.main with body := p.main.body.filter (fun s => !isName s) } }
noncomputable abbrev view : Program := viewOf PySem.Challenge.pw_np0063_01
noncomputable abbrev hook := kHook hd.heap_1 [2, 3, 15, 17, 18, 20, 21, 22, 29, 31, 32, 34, 35, 36, 37, 38, 39, 49, 51, 52, 54, 55, 56, 58, 59, 61, 62, 63, 65, 66, 68, 69, 70, 72, 73, 75, 76, 77, 79, 80, 82, 83, 84, 86, 87, 89, 90, 91, 92, 93, 94, 95, 105, 106, 108, 109, 111, 112, 113, 115, 116, 118, 119, 120, 122, 123, 125, 126, 127, 129, 130, 132, 133, 134, 136, 137, 139, 140, 141, 143, 144, 146, 147, 148, 150, 151, 153, 154, 155, 157, 158, 160, 161, 162, 163, 164, 165, 166, 169, 171, 172, 174, 175, 176, 178, 179, 181, 182, 183, 185, 186, 188, 189, 190, 192, 193, 195, 196, 197, 199, 200, 202, 203, 204, 206, 207, 209, 210, 211, 214, 215, 216, 219, 220, 221, 224, 225, 226, 229, 230, 231, 234, 235, 236, 238, 239, 241, 242, 243, 246, 247, 248, 250, 251, 253, 254, 255, 257, 258, 260, 261, 262, 265, 266, 267, 269, 270, 272, 273, 274, 276, 277, 279, 280, 281, 283, 284, 286, 287, 288, 290, 291, 293, 294, 295, 297, 298, 300, 301, 302, 304, 305, 307, 308, 309, 312, 313, 314, 317, 318, 319, 322, 323] (fun _ => by kernel_rfl)
-- the top's run over a tree of objects, in one
theorem run_of {tb : String → Option Builtin} {p : Program} {w : World} {n₀ : Nat} {ann : Option Value} : ∀ {n : Nat} {s s' : Shared} {t : Thread} {f : Flow} {c : Code} {q : Pos}, segRun tb p w n₀ ann 0 n s t = some (f, s', c, q) → topRun tb p w n₀ ann n s t = some s'
  | 0, _, _, _, _, _, _, h => by cases h
  | n + 1, s, s', ⟨cur, code, pos, st⟩, f, c, q, h => by
    unfold segRun at h
    unfold topRun
    cases he : endAt 0 ⟨cur, code, pos, st⟩ with
    | some x =>
      rw [he] at h
      have ht : through ⟨cur, code, pos, st⟩ = true := by
        cases st with
        | nil => cases cur with
          | pure y => cases y with
            | done g => rfl
            | again k => simp [endAt] at he
          | _ => simp [endAt] at he
        | cons a b => simp [endAt] at he
      rw [ht]
      cases h; rfl
    | none =>
      rw [he] at h
      have ht : through ⟨cur, code, pos, st⟩ = false := by
        cases st with
        | nil => cases cur with
          | pure y => cases y with
            | done g => simp [endAt] at he
            | again k => rfl
          | _ => rfl
        | cons a b => rfl
      rw [ht]
      cases hk : stepOk n₀ ann ⟨cur, code, pos, st⟩ with
      | false => rw [hk] at h; cases h
      | true =>
        rw [hk] at h
        cases hs : step (denote tb) p w s ⟨cur, code, pos, st⟩ with
        | halt o s' => rw [hs] at h; cases h
        | go s2 t2 => rw [hs] at h; exact run_of h
noncomputable def treeOf (P : Params) : BT := ((boot_heap P).objs.toList.foldl (fun (x : BT × Nat) o => (x.1.ins x.2 o, x.2 + 1)) (.nil, 0)).1
theorem tree_boot (P : Params) : absHeap (treeOf P) 11 (boot_heap P).life = boot_heap P := by kernel_rfl
theorem boot_size (P : Params) : ((boot_heap P).isNs mainGlobals, (boot_heap P).objs.size) = (true, 11) := by kernel_rfl
theorem boot_ann (P : Params) : (boot_heap P).nsMap mainGlobals "__annotations__" = some (.ref 6) := by kernel_rfl
-- what is looked at behind the top
noncomputable abbrev looks (p : Program) (w : World) (s : Shared) :=
  (staticsOk (importedModules p.main.body) (boot_heap w.params) s.heap && namesBound p s.heap && gensDone s && laidKept (boot_heap w.params) s.heap, openSeen (viewOf p) [] (importedModules p.main.body) (fun s => xlAt (viewOf p) [] s && recOk [] s) true s, Hook.obs hook s)
-- what the kernel is asked of the text
noncomputable def Asked (p : Program) : Prop := OpenLaw.wellSaid { prog := p, name := "law", about := ["balance"], foot := 4, most := some 63, bound := none, writes := false } = true ∧ opening p = plainProg p.main.scope.names ∧ (∀ s, fenceModules? p s = some s) ∧
  ∀ (w : World) (os : OsState), (segRunT treeTable p w 11 (some (.ref 6)) 0 4070 ⟨treeOf w.params, 11, (boot_heap w.params).life, Array.mk [], boot_drawn, boot_toks, os⟩ (topStub p)).map (fun r => looks p w r.2.1.abs) = some (true, openGood (viewOf p) [], Hook.val hook w)
theorem lift (P : Str → Str → Str → Str → Str → Str → Str → Str → Str → Str → Str → Str → Str → Str → Str → Str → Str → Str → Str → Str → Str → Str → Str → Str → Str → Str → Str → Str → Str → Str → Str → Str → Str → Str → Str → Str → Str → Str → Str → Str → Str → Str → Str → Str → Str → Str → Str → Str → Str → Str → Str → Str → Str → Str → Str → Str → Str → Str → Str → Str → Str → Str → Str → Str → Str → Str → Str → Str → Str → Str → Str → Str → Str → Str → Str → Str → Str → Str → Str → Str → Str → Str → Str → Str → Str → Str → Str → Str → Str → Str → Str → Str → Str → Str → Str → Str → Str → Str → Str → Str → Str → Str → Str → Str → Str → Str → Str → Str → Str → Str → Str → Str → Str → Str → Str → Str → Str → Str → Str → Str → Str → Str → Str → Str → Str → Str → Str → Str → Str → Str → Str → Str → Str → Str → Str → Str → Str → Str → Str → Str → Str → Str → Str → Str → Str → Str → Str → Str → Str → Str → Str → Program) (Z : Program → Prop) {x0 x1 x2 x3 x4 x5 x6 x7 x8 x9 x10 x11 x12 x13 x14 x15 x16 x17 x18 x19 x20 x21 x22 x23 x24 x25 x26 x27 x28 x29 x30 x31 x32 x33 x34 x35 x36 x37 x38 x39 x40 x41 x42 x43 x44 x45 x46 x47 x48 x49 x50 x51 x52 x53 x54 x55 x56 x57 x58 x59 x60 x61 x62 x63 x64 x65 x66 x67 x68 x69 x70 x71 x72 x73 x74 x75 x76 x77 x78 x79 x80 x81 x82 x83 x84 x85 x86 x87 x88 x89 x90 x91 x92 x93 x94 x95 x96 x97 x98 x99 x100 x101 x102 x103 x104 x105 x106 x107 x108 x109 x110 x111 x112 x113 x114 x115 x116 x117 x118 x119 x120 x121 x122 x123 x124 x125 x126 x127 x128 x129 x130 x131 x132 x133 x134 x135 x136 x137 x138 x139 x140 x141 x142 x143 x144 x145 x146 x147 x148 x149 x150 s0 s1 s2 s3 s4 s5 s6 s7 s8 s9 s10 s11 s12 s13 s14 s15 s16 s17 s18 s19 s20 s21 s22 s23 s24 s25 s26 s27 s28 s29 s30 s31 s32 s33 s34 s35 s36 s37 s38 s39 s40 s41 s42 s43 s44 s45 s46 s47 s48 s49 s50 s51 s52 s53 s54 s55 s56 s57 s58 s59 s60 s61 s62 s63 s64 s65 s66 s67 s68 s69 s70 s71 s72 s73 s74 s75 s76 s77 s78 s79 s80 s81 s82 s83 s84 s85 s86 s87 s88 s89 s90 s91 s92 s93 s94 s95 s96 s97 s98 s99 s100 s101 s102 s103 s104 s105 s106 s107 s108 s109 s110 s111 s112 s113 s114 s115 s116 s117 s118 s119 s120 s121 s122 s123 s124 s125 s126 s127 s128 s129 s130 s131 s132 s133 s134 s135 s136 s137 s138 s139 s140 s141 s142 s143 s144 s145 s146 s147 s148 s149 s150 : Str}
  (h0 : x0 = s0) (h1 : x1 = s1) (h2 : x2 = s2) (h3 : x3 = s3) (h4 : x4 = s4) (h5 : x5 = s5) (h6 : x6 = s6) (h7 : x7 = s7) (h8 : x8 = s8) (h9 : x9 = s9) (h10 : x10 = s10) (h11 : x11 = s11) (h12 : x12 = s12) (h13 : x13 = s13) (h14 : x14 = s14) (h15 : x15 = s15) (h16 : x16 = s16) (h17 : x17 = s17) (h18 : x18 = s18) (h19 : x19 = s19) (h20 : x20 = s20) (h21 : x21 = s21) (h22 : x22 = s22) (h23 : x23 = s23) (h24 : x24 = s24) (h25 : x25 = s25) (h26 : x26 = s26) (h27 : x27 = s27) (h28 : x28 = s28) (h29 : x29 = s29) (h30 : x30 = s30) (h31 : x31 = s31) (h32 : x32 = s32) (h33 : x33 = s33) (h34 : x34 = s34) (h35 : x35 = s35) (h36 : x36 = s36) (h37 : x37 = s37) (h38 : x38 = s38) (h39 : x39 = s39) (h40 : x40 = s40) (h41 : x41 = s41) (h42 : x42 = s42) (h43 : x43 = s43) (h44 : x44 = s44) (h45 : x45 = s45) (h46 : x46 = s46) (h47 : x47 = s47) (h48 : x48 = s48) (h49 : x49 = s49) (h50 : x50 = s50) (h51 : x51 = s51) (h52 : x52 = s52) (h53 : x53 = s53) (h54 : x54 = s54) (h55 : x55 = s55) (h56 : x56 = s56) (h57 : x57 = s57) (h58 : x58 = s58) (h59 : x59 = s59) (h60 : x60 = s60) (h61 : x61 = s61) (h62 : x62 = s62) (h63 : x63 = s63) (h64 : x64 = s64) (h65 : x65 = s65) (h66 : x66 = s66) (h67 : x67 = s67) (h68 : x68 = s68) (h69 : x69 = s69) (h70 : x70 = s70) (h71 : x71 = s71) (h72 : x72 = s72) (h73 : x73 = s73) (h74 : x74 = s74) (h75 : x75 = s75) (h76 : x76 = s76) (h77 : x77 = s77) (h78 : x78 = s78) (h79 : x79 = s79) (h80 : x80 = s80) (h81 : x81 = s81) (h82 : x82 = s82) (h83 : x83 = s83) (h84 : x84 = s84) (h85 : x85 = s85) (h86 : x86 = s86) (h87 : x87 = s87) (h88 : x88 = s88) (h89 : x89 = s89) (h90 : x90 = s90) (h91 : x91 = s91) (h92 : x92 = s92) (h93 : x93 = s93) (h94 : x94 = s94) (h95 : x95 = s95) (h96 : x96 = s96) (h97 : x97 = s97) (h98 : x98 = s98) (h99 : x99 = s99) (h100 : x100 = s100) (h101 : x101 = s101) (h102 : x102 = s102) (h103 : x103 = s103) (h104 : x104 = s104) (h105 : x105 = s105) (h106 : x106 = s106) (h107 : x107 = s107) (h108 : x108 = s108) (h109 : x109 = s109) (h110 : x110 = s110) (h111 : x111 = s111) (h112 : x112 = s112) (h113 : x113 = s113) (h114 : x114 = s114) (h115 : x115 = s115) (h116 : x116 = s116) (h117 : x117 = s117) (h118 : x118 = s118) (h119 : x119 = s119) (h120 : x120 = s120) (h121 : x121 = s121) (h122 : x122 = s122) (h123 : x123 = s123) (h124 : x124 = s124) (h125 : x125 = s125) (h126 : x126 = s126) (h127 : x127 = s127) (h128 : x128 = s128) (h129 : x129 = s129) (h130 : x130 = s130) (h131 : x131 = s131) (h132 : x132 = s132) (h133 : x133 = s133) (h134 : x134 = s134) (h135 : x135 = s135) (h136 : x136 = s136) (h137 : x137 = s137) (h138 : x138 = s138) (h139 : x139 = s139) (h140 : x140 = s140) (h141 : x141 = s141) (h142 : x142 = s142) (h143 : x143 = s143) (h144 : x144 = s144) (h145 : x145 = s145) (h146 : x146 = s146) (h147 : x147 = s147) (h148 : x148 = s148) (h149 : x149 = s149) (h150 : x150 = s150)
  (z : Z (P s0 s1 s2 s3 s4 s5 s6 s7 s8 s9 s10 s11 s12 s13 s14 s15 s16 s17 s18 s19 s20 s21 s22 s23 s24 s25 s26 s27 s28 s29 s30 s31 s32 s33 s34 s35 s36 s37 s38 s39 s40 s41 s42 s43 s44 s45 s46 s47 s48 s49 s50 s51 s52 s53 s54 s55 s56 s57 s58 s59 s60 s61 s62 s63 s64 s65 s66 s67 s68 s69 s70 s71 s72 s73 s74 s75 s76 s77 s78 s79 s80 s81 s82 s83 s84 s85 s86 s87 s88 s89 s90 s91 s92 s93 s94 s95 s96 s97 s98 s99 s100 s101 s102 s103 s104 s105 s106 s107 s108 s109 s110 s111 s112 s113 s114 s115 s116 s117 s118 s119 s120 s121 s122 s123 s124 s125 s126 s127 s128 s129 s130 s131 s132 s133 s134 s135 s136 s137 s138 s139 s140 s141 s142 s143 s144 s145 s146 s147 s148 s149 s150)) : Z (P x0 x1 x2 x3 x4 x5 x6 x7 x8 x9 x10 x11 x12 x13 x14 x15 x16 x17 x18 x19 x20 x21 x22 x23 x24 x25 x26 x27 x28 x29 x30 x31 x32 x33 x34 x35 x36 x37 x38 x39 x40 x41 x42 x43 x44 x45 x46 x47 x48 x49 x50 x51 x52 x53 x54 x55 x56 x57 x58 x59 x60 x61 x62 x63 x64 x65 x66 x67 x68 x69 x70 x71 x72 x73 x74 x75 x76 x77 x78 x79 x80 x81 x82 x83 x84 x85 x86 x87 x88 x89 x90 x91 x92 x93 x94 x95 x96 x97 x98 x99 x100 x101 x102 x103 x104 x105 x106 x107 x108 x109 x110 x111 x112 x113 x114 x115 x116 x117 x118 x119 x120 x121 x122 x123 x124 x125 x126 x127 x128 x129 x130 x131 x132 x133 x134 x135 x136 x137 x138 x139 x140 x141 x142 x143 x144 x145 x146 x147 x148 x149 x150) :=
  Eq.mpr (congrArg Z (congr (congr (congr (congr (congr (congr (congr (congr (congr (congr (congr (congr (congr (congr (congr (congr (congr (congr (congr (congr (congr (congr (congr (congr (congr (congr (congr (congr (congr (congr (congr (congr (congr (congr (congr (congr (congr (congr (congr (congr (congr (congr (congr (congr (congr (congr (congr (congr (congr (congr (congr (congr (congr (congr (congr (congr (congr (congr (congr (congr (congr (congr (congr (congr (congr (congr (congr (congr (congr (congr (congr (congr (congr (congr (congr (congr (congr (congr (congr (congr (congr (congr (congr (congr (congr (congr (congr (congr (congr (congr (congr (congr (congr (congr (congr (congr (congr (congr (congr (congr (congr (congr (congr (congr (congr (congr (congr (congr (congr (congr (congr (congr (congr (congr (congr (congr (congr (congr (congr (congr (congr (congr (congr (congr (congr (congr (congr (congr (congr (congr (congr (congr (congr (congr (congr (congr (congr (congr (congr (congr (congr (congr (congr (congr (congr (congr (congr (congr (congr (congr (congrArg P h0) h1) h2) h3) h4) h5) h6) h7) h8) h9) h10) h11) h12) h13) h14) h15) h16) h17) h18) h19) h20) h21) h22) h23) h24) h25) h26) h27) h28) h29) h30) h31) h32) h33) h34) h35) h36) h37) h38) h39) h40) h41) h42) h43) h44) h45) h46) h47) h48) h49) h50) h51) h52) h53) h54) h55) h56) h57) h58) h59) h60) h61) h62) h63) h64) h65) h66) h67) h68) h69) h70) h71) h72) h73) h74) h75) h76) h77) h78) h79) h80) h81) h82) h83) h84) h85) h86) h87) h88) h89) h90) h91) h92) h93) h94) h95) h96) h97) h98) h99) h100) h101) h102) h103) h104) h105) h106) h107) h108) h109) h110) h111) h112) h113) h114) h115) h116) h117) h118) h119) h120) h121) h122) h123) h124) h125) h126) h127) h128) h129) h130) h131) h132) h133) h134) h135) h136) h137) h138) h139) h140) h141) h142) h143) h144) h145) h146) h147) h148) h149) h150)) z
set_option maxHeartbeats 8000000 in
theorem asked : Asked PySem.Challenge.pw_np0063_01 := by
  delta PySem.Challenge.pw_np0063_01
  generalize h0 : Str.ofString "__name__" = x0, h1 : Str.ofString "law_np0063_01" = x1, h2 : Str.ofString "_law_draw" = x2, h3 : Str.ofString "deck" = x3, h4 : Str.ofString "many" = x4, h5 : Str.ofString "len" = x5, h6 : Str.ofString "_law_long" = x6, h7 : Str.ofString "tree" = x7, h8 : Str.ofString "number" = x8, h9 : Str.ofString "axis" = x9, h10 : Str.ofString "shown_window" = x10, h11 : Str.ofString "windows" = x11, h12 : Str.ofString "sort" = x12, h13 : Str.ofString "LEAF" = x13, h14 : Str.ofString "found" = x14, h15 : Str.ofString "child" = x15, h16 : Str.ofString "children" = x16, h17 : Str.ofString ".0" = x17, h18 : Str.ofString "COLUMN" = x18, h19 : Str.ofString "HEIGHT" = x19, h20 : Str.ofString "sum" = x20, h21 : Str.ofString "max" = x21, h22 : Str.ofString "fast" = x22, h23 : Str.ofString "_law_is_fair" = x23, h24 : Str.ofString "WIDTH" = x24, h25 : Str.ofString "shares_due" = x25, h26 : Str.ofString "sizes" = x26, h27 : Str.ofString "size" = x27, h28 : Str.ofString "part" = x28, h29 : Str.ofString "zip" = x29, h30 : Str.ofString "at" = x30, h31 : Str.ofString "range" = x31, h32 : Str.ofString "law" = x32, h33 : Str.ofString "script" = x33, h34 : Str.ofString "abs" = x34, h35 : Str.ofString "cell" = x35, h36 : Str.ofString "WindowTree" = x36, h37 : Str.ofString "lap" = x37, h38 : Str.ofString "leaves" = x38, h39 : Str.ofString "split" = x39, h40 : Str.ofString "LispSignal" = x40, h41 : Str.ofString "kept" = x41, h42 : Str.ofString "shown" = x42, h43 : Str.ofString "root" = x43, h44 : Str.ofString "width" = x44, h45 : Str.ofString "height" = x45, h46 : Str.ofString "balance" = x46, h47 : Str.ofString "answer" = x47, h48 : Str.ofString "configuration" = x48, h49 : Str.ofString "tree_error" = x49, h50 : Str.ofString "emacs.splits" = x50, h51 : Str.ofString "split_parts" = x51, h52 : Str.ofString "whole" = x52, h53 : Str.ofString "window" = x53, h54 : Str.ofString "new" = x54, h55 : Str.ofString "old" = x55, h56 : Str.ofString "least_size" = x56, h57 : Str.ofString "least_leaf" = x57, h58 : Str.ofString "error" = x58, h59 : Str.ofString "Window too small for splitting" = x59, h60 : Str.ofString "combined" = x60, h61 : Str.ofString "here" = x61, h62 : Str.ofString "parent" = x62, h63 : Str.ofString "along" = x63, h64 : Str.ofString "around" = x64, h65 : Str.ofString "fresh" = x65, h66 : Str.ofString "sort_along" = x66, h67 : Str.ofString "left" = x67, h68 : Str.ofString "top" = x68, h69 : Str.ofString "replace_child" = x69, h70 : Str.ofString "is_ahead" = x70, h71 : Str.ofString "model" = x71, h72 : Str.ofString "leaves_under" = x72, h73 : Str.ofString "set_size" = x73, h74 : Str.ofString "show" = x74, h75 : Str.ofString "earlier" = x75, h76 : Str.ofString "list" = x76, h77 : Str.ofString "index" = x77, h78 : Str.ofString "insert" = x78, h79 : Str.ofString "set_tree_size" = x79, h80 : Str.ofString "joined" = x80, h81 : Str.ofString "set_places" = x81, h82 : Str.ofString "own" = x82, h83 : Str.ofString "extend" = x83, h84 : Str.ofString "pop" = x84, h85 : Str.ofString "append" = x85, h86 : Str.ofString "wrong_window" = x86, h87 : Str.ofString "least_width" = x87, h88 : Str.ofString "least_height" = x88, h89 : Str.ofString "least" = x89, h90 : Str.ofString "alone" = x90, h91 : Str.ofString "place" = x91, h92 : Str.ofString "get" = x92, h93 : Str.ofString "cover" = x93, h94 : Str.ofString "windows_under" = x94, h95 : Str.ofString "word" = x95, h96 : Str.ofString "sorted" = x96, h97 : Str.ofString "strangers" = x97, h98 : Str.ofString "selected" = x98, h99 : Str.ofString "emacs.configuration" = x99, h100 : Str.ofString "node_of" = x100, h101 : Str.ofString "made" = x101, h102 : Str.ofString "is_dedicated" = x102, h103 : Str.ofString "use_time" = x103, h104 : Str.ofString "tuple" = x104, h105 : Str.ofString "later" = x105, h106 : Str.ofString "nodes" = x106, h107 : Str.ofString "shares" = x107, h108 : Str.ofString "total" = x108, h109 : Str.ofString "weights" = x109, h110 : Str.ofString "leasts" = x110, h111 : Str.ofString "room" = x111, h112 : Str.ofString "weight" = x112, h113 : Str.ofString "rest" = x113, h114 : Str.ofString "enumerate" = x114, h115 : Str.ofString "level_shares" = x115, h116 : Str.ofString "fixed" = x116, h117 : Str.ofString "free" = x117, h118 : Str.ofString "some" = x118, h119 : Str.ofString "short" = x119, h120 : Str.ofString "waiting" = x120, h121 : Str.ofString "much" = x121, h122 : Str.ofString "spare" = x122, h123 : Str.ofString "weight_of" = x123, h124 : Str.ofString "emacs.sizes" = x124, h125 : Str.ofString "__init__" = x125, h126 : Str.ofString "self" = x126, h127 : Str.ofString "buffer" = x127, h128 : Str.ofString "last" = x128, h129 : Str.ofString "clock" = x129, h130 : Str.ofString "first" = x130, h131 : Str.ofString "touch" = x131, h132 : Str.ofString "Window" = x132, h133 : Str.ofString "No such window" = x133, h134 : Str.ofString "leaf" = x134, h135 : Str.ofString "No live window" = x135, h136 : Str.ofString "select" = x136, h137 : Str.ofString "_wall" = x137, h138 : Str.ofString "frame_size" = x138, h139 : Str.ofString "ROW" = x139, h140 : Str.ofString "start" = x140, h141 : Str.ofString "point" = x141, h142 : Str.ofString "hscroll" = x142, h143 : Str.ofString "told" = x143, h144 : Str.ofString "k" = x144, h145 : Str.ofString "emacs.errors" = x145, h146 : Str.ofString "Exception" = x146, h147 : Str.ofString "symbol" = x147, h148 : Str.ofString "data" = x148, h149 : Str.ofString "emacs.windows" = x149, h150 : Str.ofString "/claim/cut.py" = x150
  have k := fun P => lift P Asked (h0.symm.trans (Fast.ofString_ofList ['_', '_', 'n', 'a', 'm', 'e', '_', '_'] : _ = ⟨⟨[95, 95, 110, 97, 109, 101, 95, 95]⟩⟩)) (h1.symm.trans (Fast.ofString_ofList ['l', 'a', 'w', '_', 'n', 'p', '0', '0', '6', '3', '_', '0', '1'] : _ = ⟨⟨[108, 97, 119, 95, 110, 112, 48, 48, 54, 51, 95, 48, 49]⟩⟩)) (h2.symm.trans (Fast.ofString_ofList ['_', 'l', 'a', 'w', '_', 'd', 'r', 'a', 'w'] : _ = ⟨⟨[95, 108, 97, 119, 95, 100, 114, 97, 119]⟩⟩)) (h3.symm.trans (Fast.ofString_ofList ['d', 'e', 'c', 'k'] : _ = ⟨⟨[100, 101, 99, 107]⟩⟩)) (h4.symm.trans (Fast.ofString_ofList ['m', 'a', 'n', 'y'] : _ = ⟨⟨[109, 97, 110, 121]⟩⟩)) (h5.symm.trans (Fast.ofString_ofList ['l', 'e', 'n'] : _ = ⟨⟨[108, 101, 110]⟩⟩)) (h6.symm.trans (Fast.ofString_ofList ['_', 'l', 'a', 'w', '_', 'l', 'o', 'n', 'g'] : _ = ⟨⟨[95, 108, 97, 119, 95, 108, 111, 110, 103]⟩⟩)) (h7.symm.trans (Fast.ofString_ofList ['t', 'r', 'e', 'e'] : _ = ⟨⟨[116, 114, 101, 101]⟩⟩)) (h8.symm.trans (Fast.ofString_ofList ['n', 'u', 'm', 'b', 'e', 'r'] : _ = ⟨⟨[110, 117, 109, 98, 101, 114]⟩⟩)) (h9.symm.trans (Fast.ofString_ofList ['a', 'x', 'i', 's'] : _ = ⟨⟨[97, 120, 105, 115]⟩⟩)) (h10.symm.trans (Fast.ofString_ofList ['s', 'h', 'o', 'w', 'n', '_', 'w', 'i', 'n', 'd', 'o', 'w'] : _ = ⟨⟨[115, 104, 111, 119, 110, 95, 119, 105, 110, 100, 111, 119]⟩⟩)) (h11.symm.trans (Fast.ofString_ofList ['w', 'i', 'n', 'd', 'o', 'w', 's'] : _ = ⟨⟨[119, 105, 110, 100, 111, 119, 115]⟩⟩)) (h12.symm.trans (Fast.ofString_ofList ['s', 'o', 'r', 't'] : _ = ⟨⟨[115, 111, 114, 116]⟩⟩)) (h13.symm.trans (Fast.ofString_ofList ['L', 'E', 'A', 'F'] : _ = ⟨⟨[76, 69, 65, 70]⟩⟩)) (h14.symm.trans (Fast.ofString_ofList ['f', 'o', 'u', 'n', 'd'] : _ = ⟨⟨[102, 111, 117, 110, 100]⟩⟩)) (h15.symm.trans (Fast.ofString_ofList ['c', 'h', 'i', 'l', 'd'] : _ = ⟨⟨[99, 104, 105, 108, 100]⟩⟩)) (h16.symm.trans (Fast.ofString_ofList ['c', 'h', 'i', 'l', 'd', 'r', 'e', 'n'] : _ = ⟨⟨[99, 104, 105, 108, 100, 114, 101, 110]⟩⟩)) (h17.symm.trans (Fast.ofString_ofList ['.', '0'] : _ = ⟨⟨[46, 48]⟩⟩)) (h18.symm.trans (Fast.ofString_ofList ['C', 'O', 'L', 'U', 'M', 'N'] : _ = ⟨⟨[67, 79, 76, 85, 77, 78]⟩⟩)) (h19.symm.trans (Fast.ofString_ofList ['H', 'E', 'I', 'G', 'H', 'T'] : _ = ⟨⟨[72, 69, 73, 71, 72, 84]⟩⟩)) (h20.symm.trans (Fast.ofString_ofList ['s', 'u', 'm'] : _ = ⟨⟨[115, 117, 109]⟩⟩)) (h21.symm.trans (Fast.ofString_ofList ['m', 'a', 'x'] : _ = ⟨⟨[109, 97, 120]⟩⟩)) (h22.symm.trans (Fast.ofString_ofList ['f', 'a', 's', 't'] : _ = ⟨⟨[102, 97, 115, 116]⟩⟩)) (h23.symm.trans (Fast.ofString_ofList ['_', 'l', 'a', 'w', '_', 'i', 's', '_', 'f', 'a', 'i', 'r'] : _ = ⟨⟨[95, 108, 97, 119, 95, 105, 115, 95, 102, 97, 105, 114]⟩⟩)) (h24.symm.trans (Fast.ofString_ofList ['W', 'I', 'D', 'T', 'H'] : _ = ⟨⟨[87, 73, 68, 84, 72]⟩⟩)) (h25.symm.trans (Fast.ofString_ofList ['s', 'h', 'a', 'r', 'e', 's', '_', 'd', 'u', 'e'] : _ = ⟨⟨[115, 104, 97, 114, 101, 115, 95, 100, 117, 101]⟩⟩)) (h26.symm.trans (Fast.ofString_ofList ['s', 'i', 'z', 'e', 's'] : _ = ⟨⟨[115, 105, 122, 101, 115]⟩⟩)) (h27.symm.trans (Fast.ofString_ofList ['s', 'i', 'z', 'e'] : _ = ⟨⟨[115, 105, 122, 101]⟩⟩)) (h28.symm.trans (Fast.ofString_ofList ['p', 'a', 'r', 't'] : _ = ⟨⟨[112, 97, 114, 116]⟩⟩)) (h29.symm.trans (Fast.ofString_ofList ['z', 'i', 'p'] : _ = ⟨⟨[122, 105, 112]⟩⟩)) (h30.symm.trans (Fast.ofString_ofList ['a', 't'] : _ = ⟨⟨[97, 116]⟩⟩)) (h31.symm.trans (Fast.ofString_ofList ['r', 'a', 'n', 'g', 'e'] : _ = ⟨⟨[114, 97, 110, 103, 101]⟩⟩)) (h32.symm.trans (Fast.ofString_ofList ['l', 'a', 'w'] : _ = ⟨⟨[108, 97, 119]⟩⟩)) (h33.symm.trans (Fast.ofString_ofList ['s', 'c', 'r', 'i', 'p', 't'] : _ = ⟨⟨[115, 99, 114, 105, 112, 116]⟩⟩)) (h34.symm.trans (Fast.ofString_ofList ['a', 'b', 's'] : _ = ⟨⟨[97, 98, 115]⟩⟩)) (h35.symm.trans (Fast.ofString_ofList ['c', 'e', 'l', 'l'] : _ = ⟨⟨[99, 101, 108, 108]⟩⟩)) (h36.symm.trans (Fast.ofString_ofList ['W', 'i', 'n', 'd', 'o', 'w', 'T', 'r', 'e', 'e'] : _ = ⟨⟨[87, 105, 110, 100, 111, 119, 84, 114, 101, 101]⟩⟩)) (h37.symm.trans (Fast.ofString_ofList ['l', 'a', 'p'] : _ = ⟨⟨[108, 97, 112]⟩⟩)) (h38.symm.trans (Fast.ofString_ofList ['l', 'e', 'a', 'v', 'e', 's'] : _ = ⟨⟨[108, 101, 97, 118, 101, 115]⟩⟩)) (h39.symm.trans (Fast.ofString_ofList ['s', 'p', 'l', 'i', 't'] : _ = ⟨⟨[115, 112, 108, 105, 116]⟩⟩)) (h40.symm.trans (Fast.ofString_ofList ['L', 'i', 's', 'p', 'S', 'i', 'g', 'n', 'a', 'l'] : _ = ⟨⟨[76, 105, 115, 112, 83, 105, 103, 110, 97, 108]⟩⟩)) (h41.symm.trans (Fast.ofString_ofList ['k', 'e', 'p', 't'] : _ = ⟨⟨[107, 101, 112, 116]⟩⟩)) (h42.symm.trans (Fast.ofString_ofList ['s', 'h', 'o', 'w', 'n'] : _ = ⟨⟨[115, 104, 111, 119, 110]⟩⟩)) (h43.symm.trans (Fast.ofString_ofList ['r', 'o', 'o', 't'] : _ = ⟨⟨[114, 111, 111, 116]⟩⟩)) (h44.symm.trans (Fast.ofString_ofList ['w', 'i', 'd', 't', 'h'] : _ = ⟨⟨[119, 105, 100, 116, 104]⟩⟩)) (h45.symm.trans (Fast.ofString_ofList ['h', 'e', 'i', 'g', 'h', 't'] : _ = ⟨⟨[104, 101, 105, 103, 104, 116]⟩⟩)) (h46.symm.trans (Fast.ofString_ofList ['b', 'a', 'l', 'a', 'n', 'c', 'e'] : _ = ⟨⟨[98, 97, 108, 97, 110, 99, 101]⟩⟩)) (h47.symm.trans (Fast.ofString_ofList ['a', 'n', 's', 'w', 'e', 'r'] : _ = ⟨⟨[97, 110, 115, 119, 101, 114]⟩⟩)) (h48.symm.trans (Fast.ofString_ofList ['c', 'o', 'n', 'f', 'i', 'g', 'u', 'r', 'a', 't', 'i', 'o', 'n'] : _ = ⟨⟨[99, 111, 110, 102, 105, 103, 117, 114, 97, 116, 105, 111, 110]⟩⟩)) (h49.symm.trans (Fast.ofString_ofList ['t', 'r', 'e', 'e', '_', 'e', 'r', 'r', 'o', 'r'] : _ = ⟨⟨[116, 114, 101, 101, 95, 101, 114, 114, 111, 114]⟩⟩)) (h50.symm.trans (Fast.ofString_ofList ['e', 'm', 'a', 'c', 's', '.', 's', 'p', 'l', 'i', 't', 's'] : _ = ⟨⟨[101, 109, 97, 99, 115, 46, 115, 112, 108, 105, 116, 115]⟩⟩)) (h51.symm.trans (Fast.ofString_ofList ['s', 'p', 'l', 'i', 't', '_', 'p', 'a', 'r', 't', 's'] : _ = ⟨⟨[115, 112, 108, 105, 116, 95, 112, 97, 114, 116, 115]⟩⟩)) (h52.symm.trans (Fast.ofString_ofList ['w', 'h', 'o', 'l', 'e'] : _ = ⟨⟨[119, 104, 111, 108, 101]⟩⟩)) (h53.symm.trans (Fast.ofString_ofList ['w', 'i', 'n', 'd', 'o', 'w'] : _ = ⟨⟨[119, 105, 110, 100, 111, 119]⟩⟩)) (h54.symm.trans (Fast.ofString_ofList ['n', 'e', 'w'] : _ = ⟨⟨[110, 101, 119]⟩⟩)) (h55.symm.trans (Fast.ofString_ofList ['o', 'l', 'd'] : _ = ⟨⟨[111, 108, 100]⟩⟩)) (h56.symm.trans (Fast.ofString_ofList ['l', 'e', 'a', 's', 't', '_', 's', 'i', 'z', 'e'] : _ = ⟨⟨[108, 101, 97, 115, 116, 95, 115, 105, 122, 101]⟩⟩)) (h57.symm.trans (Fast.ofString_ofList ['l', 'e', 'a', 's', 't', '_', 'l', 'e', 'a', 'f'] : _ = ⟨⟨[108, 101, 97, 115, 116, 95, 108, 101, 97, 102]⟩⟩)) (h58.symm.trans (Fast.ofString_ofList ['e', 'r', 'r', 'o', 'r'] : _ = ⟨⟨[101, 114, 114, 111, 114]⟩⟩)) (h59.symm.trans (Fast.ofString_ofList ['W', 'i', 'n', 'd', 'o', 'w', ' ', 't', 'o', 'o', ' ', 's', 'm', 'a', 'l', 'l', ' ', 'f', 'o', 'r', ' ', 's', 'p', 'l', 'i', 't', 't', 'i', 'n', 'g'] : _ = ⟨⟨[87, 105, 110, 100, 111, 119, 32, 116, 111, 111, 32, 115, 109, 97, 108, 108, 32, 102, 111, 114, 32, 115, 112, 108, 105, 116, 116, 105, 110, 103]⟩⟩)) (h60.symm.trans (Fast.ofString_ofList ['c', 'o', 'm', 'b', 'i', 'n', 'e', 'd'] : _ = ⟨⟨[99, 111, 109, 98, 105, 110, 101, 100]⟩⟩)) (h61.symm.trans (Fast.ofString_ofList ['h', 'e', 'r', 'e'] : _ = ⟨⟨[104, 101, 114, 101]⟩⟩)) (h62.symm.trans (Fast.ofString_ofList ['p', 'a', 'r', 'e', 'n', 't'] : _ = ⟨⟨[112, 97, 114, 101, 110, 116]⟩⟩)) (h63.symm.trans (Fast.ofString_ofList ['a', 'l', 'o', 'n', 'g'] : _ = ⟨⟨[97, 108, 111, 110, 103]⟩⟩)) (h64.symm.trans (Fast.ofString_ofList ['a', 'r', 'o', 'u', 'n', 'd'] : _ = ⟨⟨[97, 114, 111, 117, 110, 100]⟩⟩)) (h65.symm.trans (Fast.ofString_ofList ['f', 'r', 'e', 's', 'h'] : _ = ⟨⟨[102, 114, 101, 115, 104]⟩⟩)) (h66.symm.trans (Fast.ofString_ofList ['s', 'o', 'r', 't', '_', 'a', 'l', 'o', 'n', 'g'] : _ = ⟨⟨[115, 111, 114, 116, 95, 97, 108, 111, 110, 103]⟩⟩)) (h67.symm.trans (Fast.ofString_ofList ['l', 'e', 'f', 't'] : _ = ⟨⟨[108, 101, 102, 116]⟩⟩)) (h68.symm.trans (Fast.ofString_ofList ['t', 'o', 'p'] : _ = ⟨⟨[116, 111, 112]⟩⟩)) (h69.symm.trans (Fast.ofString_ofList ['r', 'e', 'p', 'l', 'a', 'c', 'e', '_', 'c', 'h', 'i', 'l', 'd'] : _ = ⟨⟨[114, 101, 112, 108, 97, 99, 101, 95, 99, 104, 105, 108, 100]⟩⟩)) (h70.symm.trans (Fast.ofString_ofList ['i', 's', '_', 'a', 'h', 'e', 'a', 'd'] : _ = ⟨⟨[105, 115, 95, 97, 104, 101, 97, 100]⟩⟩)) (h71.symm.trans (Fast.ofString_ofList ['m', 'o', 'd', 'e', 'l'] : _ = ⟨⟨[109, 111, 100, 101, 108]⟩⟩)) (h72.symm.trans (Fast.ofString_ofList ['l', 'e', 'a', 'v', 'e', 's', '_', 'u', 'n', 'd', 'e', 'r'] : _ = ⟨⟨[108, 101, 97, 118, 101, 115, 95, 117, 110, 100, 101, 114]⟩⟩)) (h73.symm.trans (Fast.ofString_ofList ['s', 'e', 't', '_', 's', 'i', 'z', 'e'] : _ = ⟨⟨[115, 101, 116, 95, 115, 105, 122, 101]⟩⟩)) (h74.symm.trans (Fast.ofString_ofList ['s', 'h', 'o', 'w'] : _ = ⟨⟨[115, 104, 111, 119]⟩⟩)) (h75.symm.trans (Fast.ofString_ofList ['e', 'a', 'r', 'l', 'i', 'e', 'r'] : _ = ⟨⟨[101, 97, 114, 108, 105, 101, 114]⟩⟩)) (h76.symm.trans (Fast.ofString_ofList ['l', 'i', 's', 't'] : _ = ⟨⟨[108, 105, 115, 116]⟩⟩)) (h77.symm.trans (Fast.ofString_ofList ['i', 'n', 'd', 'e', 'x'] : _ = ⟨⟨[105, 110, 100, 101, 120]⟩⟩)) (h78.symm.trans (Fast.ofString_ofList ['i', 'n', 's', 'e', 'r', 't'] : _ = ⟨⟨[105, 110, 115, 101, 114, 116]⟩⟩)) (h79.symm.trans (Fast.ofString_ofList ['s', 'e', 't', '_', 't', 'r', 'e', 'e', '_', 's', 'i', 'z', 'e'] : _ = ⟨⟨[115, 101, 116, 95, 116, 114, 101, 101, 95, 115, 105, 122, 101]⟩⟩)) (h80.symm.trans (Fast.ofString_ofList ['j', 'o', 'i', 'n', 'e', 'd'] : _ = ⟨⟨[106, 111, 105, 110, 101, 100]⟩⟩)) (h81.symm.trans (Fast.ofString_ofList ['s', 'e', 't', '_', 'p', 'l', 'a', 'c', 'e', 's'] : _ = ⟨⟨[115, 101, 116, 95, 112, 108, 97, 99, 101, 115]⟩⟩)) (h82.symm.trans (Fast.ofString_ofList ['o', 'w', 'n'] : _ = ⟨⟨[111, 119, 110]⟩⟩)) (h83.symm.trans (Fast.ofString_ofList ['e', 'x', 't', 'e', 'n', 'd'] : _ = ⟨⟨[101, 120, 116, 101, 110, 100]⟩⟩)) (h84.symm.trans (Fast.ofString_ofList ['p', 'o', 'p'] : _ = ⟨⟨[112, 111, 112]⟩⟩)) (h85.symm.trans (Fast.ofString_ofList ['a', 'p', 'p', 'e', 'n', 'd'] : _ = ⟨⟨[97, 112, 112, 101, 110, 100]⟩⟩)) (h86.symm.trans (Fast.ofString_ofList ['w', 'r', 'o', 'n', 'g', '_', 'w', 'i', 'n', 'd', 'o', 'w'] : _ = ⟨⟨[119, 114, 111, 110, 103, 95, 119, 105, 110, 100, 111, 119]⟩⟩)) (h87.symm.trans (Fast.ofString_ofList ['l', 'e', 'a', 's', 't', '_', 'w', 'i', 'd', 't', 'h'] : _ = ⟨⟨[108, 101, 97, 115, 116, 95, 119, 105, 100, 116, 104]⟩⟩)) (h88.symm.trans (Fast.ofString_ofList ['l', 'e', 'a', 's', 't', '_', 'h', 'e', 'i', 'g', 'h', 't'] : _ = ⟨⟨[108, 101, 97, 115, 116, 95, 104, 101, 105, 103, 104, 116]⟩⟩)) (h89.symm.trans (Fast.ofString_ofList ['l', 'e', 'a', 's', 't'] : _ = ⟨⟨[108, 101, 97, 115, 116]⟩⟩)) (h90.symm.trans (Fast.ofString_ofList ['a', 'l', 'o', 'n', 'e'] : _ = ⟨⟨[97, 108, 111, 110, 101]⟩⟩)) (h91.symm.trans (Fast.ofString_ofList ['p', 'l', 'a', 'c', 'e'] : _ = ⟨⟨[112, 108, 97, 99, 101]⟩⟩)) (h92.symm.trans (Fast.ofString_ofList ['g', 'e', 't'] : _ = ⟨⟨[103, 101, 116]⟩⟩)) (h93.symm.trans (Fast.ofString_ofList ['c', 'o', 'v', 'e', 'r'] : _ = ⟨⟨[99, 111, 118, 101, 114]⟩⟩)) (h94.symm.trans (Fast.ofString_ofList ['w', 'i', 'n', 'd', 'o', 'w', 's', '_', 'u', 'n', 'd', 'e', 'r'] : _ = ⟨⟨[119, 105, 110, 100, 111, 119, 115, 95, 117, 110, 100, 101, 114]⟩⟩)) (h95.symm.trans (Fast.ofString_ofList ['w', 'o', 'r', 'd'] : _ = ⟨⟨[119, 111, 114, 100]⟩⟩)) (h96.symm.trans (Fast.ofString_ofList ['s', 'o', 'r', 't', 'e', 'd'] : _ = ⟨⟨[115, 111, 114, 116, 101, 100]⟩⟩)) (h97.symm.trans (Fast.ofString_ofList ['s', 't', 'r', 'a', 'n', 'g', 'e', 'r', 's'] : _ = ⟨⟨[115, 116, 114, 97, 110, 103, 101, 114, 115]⟩⟩)) (h98.symm.trans (Fast.ofString_ofList ['s', 'e', 'l', 'e', 'c', 't', 'e', 'd'] : _ = ⟨⟨[115, 101, 108, 101, 99, 116, 101, 100]⟩⟩)) (h99.symm.trans (Fast.ofString_ofList ['e', 'm', 'a', 'c', 's', '.', 'c', 'o', 'n', 'f', 'i', 'g', 'u', 'r', 'a', 't', 'i', 'o', 'n'] : _ = ⟨⟨[101, 109, 97, 99, 115, 46, 99, 111, 110, 102, 105, 103, 117, 114, 97, 116, 105, 111, 110]⟩⟩)) (h100.symm.trans (Fast.ofString_ofList ['n', 'o', 'd', 'e', '_', 'o', 'f'] : _ = ⟨⟨[110, 111, 100, 101, 95, 111, 102]⟩⟩)) (h101.symm.trans (Fast.ofString_ofList ['m', 'a', 'd', 'e'] : _ = ⟨⟨[109, 97, 100, 101]⟩⟩)) (h102.symm.trans (Fast.ofString_ofList ['i', 's', '_', 'd', 'e', 'd', 'i', 'c', 'a', 't', 'e', 'd'] : _ = ⟨⟨[105, 115, 95, 100, 101, 100, 105, 99, 97, 116, 101, 100]⟩⟩)) (h103.symm.trans (Fast.ofString_ofList ['u', 's', 'e', '_', 't', 'i', 'm', 'e'] : _ = ⟨⟨[117, 115, 101, 95, 116, 105, 109, 101]⟩⟩)) (h104.symm.trans (Fast.ofString_ofList ['t', 'u', 'p', 'l', 'e'] : _ = ⟨⟨[116, 117, 112, 108, 101]⟩⟩)) (h105.symm.trans (Fast.ofString_ofList ['l', 'a', 't', 'e', 'r'] : _ = ⟨⟨[108, 97, 116, 101, 114]⟩⟩)) (h106.symm.trans (Fast.ofString_ofList ['n', 'o', 'd', 'e', 's'] : _ = ⟨⟨[110, 111, 100, 101, 115]⟩⟩)) (h107.symm.trans (Fast.ofString_ofList ['s', 'h', 'a', 'r', 'e', 's'] : _ = ⟨⟨[115, 104, 97, 114, 101, 115]⟩⟩)) (h108.symm.trans (Fast.ofString_ofList ['t', 'o', 't', 'a', 'l'] : _ = ⟨⟨[116, 111, 116, 97, 108]⟩⟩)) (h109.symm.trans (Fast.ofString_ofList ['w', 'e', 'i', 'g', 'h', 't', 's'] : _ = ⟨⟨[119, 101, 105, 103, 104, 116, 115]⟩⟩)) (h110.symm.trans (Fast.ofString_ofList ['l', 'e', 'a', 's', 't', 's'] : _ = ⟨⟨[108, 101, 97, 115, 116, 115]⟩⟩)) (h111.symm.trans (Fast.ofString_ofList ['r', 'o', 'o', 'm'] : _ = ⟨⟨[114, 111, 111, 109]⟩⟩)) (h112.symm.trans (Fast.ofString_ofList ['w', 'e', 'i', 'g', 'h', 't'] : _ = ⟨⟨[119, 101, 105, 103, 104, 116]⟩⟩)) (h113.symm.trans (Fast.ofString_ofList ['r', 'e', 's', 't'] : _ = ⟨⟨[114, 101, 115, 116]⟩⟩)) (h114.symm.trans (Fast.ofString_ofList ['e', 'n', 'u', 'm', 'e', 'r', 'a', 't', 'e'] : _ = ⟨⟨[101, 110, 117, 109, 101, 114, 97, 116, 101]⟩⟩)) (h115.symm.trans (Fast.ofString_ofList ['l', 'e', 'v', 'e', 'l', '_', 's', 'h', 'a', 'r', 'e', 's'] : _ = ⟨⟨[108, 101, 118, 101, 108, 95, 115, 104, 97, 114, 101, 115]⟩⟩)) (h116.symm.trans (Fast.ofString_ofList ['f', 'i', 'x', 'e', 'd'] : _ = ⟨⟨[102, 105, 120, 101, 100]⟩⟩)) (h117.symm.trans (Fast.ofString_ofList ['f', 'r', 'e', 'e'] : _ = ⟨⟨[102, 114, 101, 101]⟩⟩)) (h118.symm.trans (Fast.ofString_ofList ['s', 'o', 'm', 'e'] : _ = ⟨⟨[115, 111, 109, 101]⟩⟩)) (h119.symm.trans (Fast.ofString_ofList ['s', 'h', 'o', 'r', 't'] : _ = ⟨⟨[115, 104, 111, 114, 116]⟩⟩)) (h120.symm.trans (Fast.ofString_ofList ['w', 'a', 'i', 't', 'i', 'n', 'g'] : _ = ⟨⟨[119, 97, 105, 116, 105, 110, 103]⟩⟩)) (h121.symm.trans (Fast.ofString_ofList ['m', 'u', 'c', 'h'] : _ = ⟨⟨[109, 117, 99, 104]⟩⟩)) (h122.symm.trans (Fast.ofString_ofList ['s', 'p', 'a', 'r', 'e'] : _ = ⟨⟨[115, 112, 97, 114, 101]⟩⟩)) (h123.symm.trans (Fast.ofString_ofList ['w', 'e', 'i', 'g', 'h', 't', '_', 'o', 'f'] : _ = ⟨⟨[119, 101, 105, 103, 104, 116, 95, 111, 102]⟩⟩)) (h124.symm.trans (Fast.ofString_ofList ['e', 'm', 'a', 'c', 's', '.', 's', 'i', 'z', 'e', 's'] : _ = ⟨⟨[101, 109, 97, 99, 115, 46, 115, 105, 122, 101, 115]⟩⟩)) (h125.symm.trans (Fast.ofString_ofList ['_', '_', 'i', 'n', 'i', 't', '_', '_'] : _ = ⟨⟨[95, 95, 105, 110, 105, 116, 95, 95]⟩⟩)) (h126.symm.trans (Fast.ofString_ofList ['s', 'e', 'l', 'f'] : _ = ⟨⟨[115, 101, 108, 102]⟩⟩)) (h127.symm.trans (Fast.ofString_ofList ['b', 'u', 'f', 'f', 'e', 'r'] : _ = ⟨⟨[98, 117, 102, 102, 101, 114]⟩⟩)) (h128.symm.trans (Fast.ofString_ofList ['l', 'a', 's', 't'] : _ = ⟨⟨[108, 97, 115, 116]⟩⟩)) (h129.symm.trans (Fast.ofString_ofList ['c', 'l', 'o', 'c', 'k'] : _ = ⟨⟨[99, 108, 111, 99, 107]⟩⟩)) (h130.symm.trans (Fast.ofString_ofList ['f', 'i', 'r', 's', 't'] : _ = ⟨⟨[102, 105, 114, 115, 116]⟩⟩)) (h131.symm.trans (Fast.ofString_ofList ['t', 'o', 'u', 'c', 'h'] : _ = ⟨⟨[116, 111, 117, 99, 104]⟩⟩)) (h132.symm.trans (Fast.ofString_ofList ['W', 'i', 'n', 'd', 'o', 'w'] : _ = ⟨⟨[87, 105, 110, 100, 111, 119]⟩⟩)) (h133.symm.trans (Fast.ofString_ofList ['N', 'o', ' ', 's', 'u', 'c', 'h', ' ', 'w', 'i', 'n', 'd', 'o', 'w'] : _ = ⟨⟨[78, 111, 32, 115, 117, 99, 104, 32, 119, 105, 110, 100, 111, 119]⟩⟩)) (h134.symm.trans (Fast.ofString_ofList ['l', 'e', 'a', 'f'] : _ = ⟨⟨[108, 101, 97, 102]⟩⟩)) (h135.symm.trans (Fast.ofString_ofList ['N', 'o', ' ', 'l', 'i', 'v', 'e', ' ', 'w', 'i', 'n', 'd', 'o', 'w'] : _ = ⟨⟨[78, 111, 32, 108, 105, 118, 101, 32, 119, 105, 110, 100, 111, 119]⟩⟩)) (h136.symm.trans (Fast.ofString_ofList ['s', 'e', 'l', 'e', 'c', 't'] : _ = ⟨⟨[115, 101, 108, 101, 99, 116]⟩⟩)) (h137.symm.trans (Fast.ofString_ofList ['_', 'w', 'a', 'l', 'l'] : _ = ⟨⟨[95, 119, 97, 108, 108]⟩⟩)) (h138.symm.trans (Fast.ofString_ofList ['f', 'r', 'a', 'm', 'e', '_', 's', 'i', 'z', 'e'] : _ = ⟨⟨[102, 114, 97, 109, 101, 95, 115, 105, 122, 101]⟩⟩)) (h139.symm.trans (Fast.ofString_ofList ['R', 'O', 'W'] : _ = ⟨⟨[82, 79, 87]⟩⟩)) (h140.symm.trans (Fast.ofString_ofList ['s', 't', 'a', 'r', 't'] : _ = ⟨⟨[115, 116, 97, 114, 116]⟩⟩)) (h141.symm.trans (Fast.ofString_ofList ['p', 'o', 'i', 'n', 't'] : _ = ⟨⟨[112, 111, 105, 110, 116]⟩⟩)) (h142.symm.trans (Fast.ofString_ofList ['h', 's', 'c', 'r', 'o', 'l', 'l'] : _ = ⟨⟨[104, 115, 99, 114, 111, 108, 108]⟩⟩)) (h143.symm.trans (Fast.ofString_ofList ['t', 'o', 'l', 'd'] : _ = ⟨⟨[116, 111, 108, 100]⟩⟩)) (h144.symm.trans (Fast.ofString_ofList ['k'] : _ = ⟨⟨[107]⟩⟩)) (h145.symm.trans (Fast.ofString_ofList ['e', 'm', 'a', 'c', 's', '.', 'e', 'r', 'r', 'o', 'r', 's'] : _ = ⟨⟨[101, 109, 97, 99, 115, 46, 101, 114, 114, 111, 114, 115]⟩⟩)) (h146.symm.trans (Fast.ofString_ofList ['E', 'x', 'c', 'e', 'p', 't', 'i', 'o', 'n'] : _ = ⟨⟨[69, 120, 99, 101, 112, 116, 105, 111, 110]⟩⟩)) (h147.symm.trans (Fast.ofString_ofList ['s', 'y', 'm', 'b', 'o', 'l'] : _ = ⟨⟨[115, 121, 109, 98, 111, 108]⟩⟩)) (h148.symm.trans (Fast.ofString_ofList ['d', 'a', 't', 'a'] : _ = ⟨⟨[100, 97, 116, 97]⟩⟩)) (h149.symm.trans (Fast.ofString_ofList ['e', 'm', 'a', 'c', 's', '.', 'w', 'i', 'n', 'd', 'o', 'w', 's'] : _ = ⟨⟨[101, 109, 97, 99, 115, 46, 119, 105, 110, 100, 111, 119, 115]⟩⟩)) (h150.symm.trans (Fast.ofString_ofList ['/', 'c', 'l', 'a', 'i', 'm', '/', 'c', 'u', 't', '.', 'p', 'y'] : _ = ⟨⟨[47, 99, 108, 97, 105, 109, 47, 99, 117, 116, 46, 112, 121]⟩⟩))
  apply k
  refine ⟨?_, ?_, fun s => ?_, fun w os => ?_⟩
  · k_qdec
  · kernel_rfl
  · kernel_rfl
  · kernel_rfl
noncomputable abbrev prog : Program := PySem.Challenge.rw_np0063_01.row.prog
theorem lo_open {α : Type} {p q : Program} {loose : List PySem.Str} {Xt : Shared → Bool} {Yf : Shared → α} {Ya : World → α} {N : Nat} {g0 : Bool} (hN : Nat.ble 600 N = true) (ho : opening p = plainProg p.main.scope.names) (hf : ∀ s, fenceModules? p s = some s)
    (h : ∀ (w : World) (os : OsState), (segRunT treeTable p w 11 (some (.ref 6)) 0 N ⟨treeOf w.params, 11, (boot_heap w.params).life, Array.mk [], boot_drawn, boot_toks, os⟩ (topStub p)).map (fun r => (staticsOk (importedModules p.main.body) (boot_heap w.params) r.2.1.abs.heap && namesBound p r.2.1.abs.heap && gensDone r.2.1.abs && laidKept (boot_heap w.params) r.2.1.abs.heap, openSeen q loose (importedModules p.main.body) Xt g0 r.2.1.abs, Yf r.2.1.abs)) = some (true, openGood q loose, Ya w)) : LeftO p q loose Xt Yf Ya N g0 := fun w => by
  obtain ⟨⟨h1, gs, d, k, os⟩, e, e'⟩ := Option.map_eq_some_iff.mp (boot_open (p := p) ho hN hf w)
  obtain ⟨rfl, rfl, rfl, rfl⟩ : h1 = boot_heap w.params ∧ gs = Array.mk [] ∧ d = boot_drawn ∧ k = boot_toks := by simpa using e'
  obtain ⟨⟨f, s, c, q'⟩, r, l⟩ := Option.map_eq_some_iff.mp (h w os)
  have r := run_of (segRun_of r)
  obtain ⟨l1, l2, l3⟩ : _ ∧ _ ∧ _ := by simpa only [Prod.mk.injEq] using l
  obtain ⟨z1, z2⟩ : _ ∧ _ := by simpa only [Prod.mk.injEq] using boot_size w.params
  have t : topFrom treeTable p w N ⟨boot_heap w.params, Array.mk [], boot_drawn, boot_toks, os⟩ = some s.abs := by
    unfold SharedT.abs at r
    dsimp only at r
    rw [tree_boot] at r
    unfold topFrom
    dsimp only
    rw [z1, z2, boot_ann, r]
    show (match staticsOk (importedModules p.main.body) (boot_heap w.params) s.abs.heap && namesBound p s.abs.heap && gensDone s.abs && laidKept (boot_heap w.params) s.abs.heap with | true => _ | false => _) = _
    rw [l1]
    rfl
  unfold openEnds
  rw [e]
  show (topFrom treeTable p w N _).map _ = _
  rw [t]
  exact congrArg some (Prod.ext l2 l3)
theorem left : LeftO prog view [] (fun s => xlAt view [] s && recOk (RowW.records (PySem.Challenge.rw_np0063_01.row.toRowW)) s) (Hook.obs hook) (Hook.val hook) 4070 :=
  lo_open (by rfl) asked.2.1 asked.2.2.1 asked.2.2.2
end
theorem said : PySem.Challenge.rw_np0063_01.wellSaid = true := asked.1
open PySem PySem.Spec PySem.Calls PyProof.Rows PySem.W
-- B1
section
noncomputable abbrev pg : Program := PySem.Challenge.rw_np0063_01.row.prog

inductive AV where
  | none
  | bool (b : Bool)
  | int (i : Int)
  | str (s : PySem.Str)
  | ref (i : Nat)
  | tup (l : List AV)
  | gl (v : PySem.Value)

inductive AO where
  | list (l : List AV)
  | inst (C : Addr) (d : PySem.Str → Option AV)
  | dict (l : List (Int × AV))

structure AH where
  n : Nat
  f : Nat → AO

noncomputable def AH.alloc (H : AH) (o : AO) : AH := ⟨H.n + 1, fun i => if i = H.n then o else H.f i⟩
noncomputable def AH.set (H : AH) (i : Nat) (o : AO) : AH := ⟨H.n, fun j => if j = i then o else H.f j⟩

theorem len0 {β : Type} {P : List β → Prop} (h : P []) : ∀ vs : List β, vs.length = 0 → P vs := fun vs e => List.eq_nil_of_length_eq_zero e ▸ h
theorem lenS {β : Type} {P : List β → Prop} {n : Nat} (h : ∀ a r, r.length = n → P (a :: r)) (vs : List β) (e : vs.length = n + 1) : P vs := by
  cases vs with
  | nil => cases e
  | cons a r => exact h a r (Nat.succ.inj e)
theorem len1 {β : Type} {P : List β → Prop} (h : ∀ a, P [a]) (vs : List β) (e : vs.length = 1) : P vs := lenS (P := P) (fun a r => len0 (P := fun r => P (a :: r)) (h a) r) vs e
theorem len2 {β : Type} {P : List β → Prop} (h : ∀ a b, P [a, b]) (vs : List β) (e : vs.length = 2) : P vs := lenS (P := P) (fun a r => len1 (P := fun r => P (a :: r)) (h a) r) vs e
theorem len3 {β : Type} {P : List β → Prop} (h : ∀ a b c, P [a, b, c]) (vs : List β) (e : vs.length = 3) : P vs := lenS (P := P) (fun a r => len2 (P := fun r => P (a :: r)) (h a) r) vs e
theorem len4 {β : Type} {P : List β → Prop} (h : ∀ a b c d, P [a, b, c, d]) (vs : List β) (e : vs.length = 4) : P vs := lenS (P := P) (fun a r => len3 (P := fun r => P (a :: r)) (h a) r) vs e
theorem len5 {β : Type} {P : List β → Prop} (h : ∀ a b c d e, P [a, b, c, d, e]) (vs : List β) (e : vs.length = 5) : P vs := lenS (P := P) (fun a r => len4 (P := fun r => P (a :: r)) (h a) r) vs e
theorem len6 {β : Type} {P : List β → Prop} (h : ∀ a b c d e f, P [a, b, c, d, e, f]) (vs : List β) (e : vs.length = 6) : P vs := lenS (P := P) (fun a r => len5 (P := fun r => P (a :: r)) (h a) r) vs e
mutual
inductive VR (B : List Addr) (h : Heap) (n : Nat) (α : Nat → Addr) : Value → AV → Prop
  | none : VR B h n α .none .none
  | bool (b : Bool) : VR B h n α (.bool b) (.bool b)
  | int (i : Int) (t : Tok) : VR B h n α (.int i t) (.int i)
  | str (x : PySem.Str) (t : Tok) : VR B h n α (.str x t) (.str x)
  | ref (i : Nat) : i < n → VR B h n α (.ref (α i)) (.ref i)
  | tup {p : Addr} {vs : List Value} {l : List AV} : p ∉ B → IsTup h p vs.toArray → VRs B h n α vs l → VR B h n α (.ref p) (.tup l)
  | gl (v : Value) : VR B h n α v (.gl v)
inductive VRs (B : List Addr) (h : Heap) (n : Nat) (α : Nat → Addr) : List Value → List AV → Prop
  | nil : VRs B h n α [] []
  | cons {v : Value} {a : AV} {vs : List Value} {l : List AV} : VR B h n α v a → VRs B h n α vs l → VRs B h n α (v :: vs) (a :: l)
end

section
variable {B : List Addr} {h h' : Heap} {n n' : Nat} {α α' : Nat → Addr}
theorem VR.mono (ht : ∀ p vs, p ∉ B → IsTup h p vs → IsTup h' p vs) (hn : n ≤ n') (ha : ∀ i, i < n → α' i = α i) {v : Value} {a : AV} (r : VR B h n α v a) : VR B h' n' α' v a :=
  VR.rec (motive_1 := fun v a _ => VR B h' n' α' v a) (motive_2 := fun vs l _ => VRs B h' n' α' vs l) .none .bool .int .str (fun i hi => ha i hi ▸ VR.ref (α := α') i (Nat.lt_of_lt_of_le hi hn)) (fun q x _ ih => .tup q (ht _ _ q x) ih) .gl .nil (fun _ _ ih1 ih2 => .cons ih1 ih2) r
theorem VRs.mono (ht : ∀ p vs, p ∉ B → IsTup h p vs → IsTup h' p vs) (hn : n ≤ n') (ha : ∀ i, i < n → α' i = α i) {vs : List Value} {l : List AV} (r : VRs B h n α vs l) : VRs B h' n' α' vs l :=
  VRs.rec (motive_1 := fun v a _ => VR B h' n' α' v a) (motive_2 := fun vs l _ => VRs B h' n' α' vs l) .none .bool .int .str (fun i hi => ha i hi ▸ VR.ref (α := α') i (Nat.lt_of_lt_of_le hi hn)) (fun q x _ ih => .tup q (ht _ _ q x) ih) .gl .nil (fun _ _ ih1 ih2 => .cons ih1 ih2) r
@[elab_as_elim] theorem VRs.inv1 {P : List Value → Prop} {vs : List Value} {a : AV} (r : VRs B h n α vs [a]) (k : ∀ v, VR B h n α v a → P [v]) : P vs := by
  cases r with | cons r rs => cases rs; exact k _ r
@[elab_as_elim] theorem VRs.inv2 {P : List Value → Prop} {vs : List Value} {a a' : AV} (r : VRs B h n α vs [a, a']) (k : ∀ v v', VR B h n α v a → VR B h n α v' a' → P [v, v']) : P vs := by
  cases r with | cons r rs => exact rs.inv1 (P := fun l => P (_ :: l)) fun v' r' => k _ v' r r'
@[elab_as_elim] theorem VRs.inv3 {P : List Value → Prop} {vs : List Value} {a a' a'' : AV} (r : VRs B h n α vs [a, a', a'']) (k : ∀ v v' v'', VR B h n α v a → VR B h n α v' a' → VR B h n α v'' a'' → P [v, v', v'']) : P vs := by
  cases r with | cons r rs => exact rs.inv2 (P := fun l => P (_ :: l)) fun v' v'' r' r'' => k _ v' v'' r r' r''
@[elab_as_elim] theorem VRs.inv0 {P : List Value → Prop} {vs : List Value} (r : VRs B h n α vs []) (k : P []) : P vs := by cases r; exact k
@[elab_as_elim] theorem VRs.invC {P : List Value → Prop} {vs : List Value} {a : AV} {l : List AV} (r : VRs B h n α vs (a :: l)) (k : ∀ v us, VR B h n α v a → VRs B h n α us l → P (v :: us)) : P vs := by cases r with | cons x r => exact k _ _ x r
@[elab_as_elim] theorem VR.invI {P : Value → Prop} {v : Value} {i : Int} (r : VR B h n α v (.int i)) (k : ∀ t, P (.int i t)) : P v := by cases r; exact k _
@[elab_as_elim] theorem VR.invR {P : Value → Prop} {v : Value} {i : Nat} (r : VR B h n α v (.ref i)) (k : i < n → P (.ref (α i))) : P v := by cases r; exact k (by assumption)
@[elab_as_elim] theorem VR.invB {P : Value → Prop} {v : Value} {t : Bool} (r : VR B h n α v (.bool t)) (k : P (.bool t)) : P v := by cases r; exact k
@[elab_as_elim] theorem VR.invN {P : Value → Prop} {v : Value} (r : VR B h n α v .none) (k : P .none) : P v := by cases r; exact k
@[elab_as_elim] theorem VR.invG {P : Value → Prop} {v w : Value} (r : VR B h n α v (.gl w)) (k : P w) : P v := by cases r; exact k
@[elab_as_elim] theorem VR.invT {P : Value → Prop} {v : Value} {l : List AV} (r : VR B h n α v (.tup l)) (k : ∀ p vs, p ∉ B → IsTup h p vs.toArray → VRs B h n α vs l → P (.ref p)) : P v := by cases r; exact k _ _ (by assumption) (by assumption) (by assumption)
theorem VRs.length {vs : List Value} {l : List AV} (r : VRs B h n α vs l) : vs.length = l.length := by
  induction l generalizing vs with
  | nil => exact r.inv0 rfl
  | cons a l ih => exact r.invC fun v us _ r => congrArg Nat.succ (ih r)
theorem VRs.append {vs : List Value} {l : List AV} {us : List Value} {k : List AV} (r : VRs B h n α vs l) (y : VRs B h n α us k) : VRs B h n α (vs ++ us) (l ++ k) := by
  induction l generalizing vs with
  | nil => exact r.inv0 y
  | cons a l ih => exact r.invC fun v us x r => .cons x (ih r)
theorem VRs.get {vs : List Value} {l : List AV} (r : VRs B h n α vs l) {i : Nat} {a : AV} (e : l[i]? = some a) : ∃ v, vs[i]? = some v ∧ VR B h n α v a := by
  induction l generalizing vs i with
  | nil => cases e
  | cons b l ih =>
    cases i with
    | zero => refine r.invC fun v us x _ => ?_; cases e; exact ⟨v, rfl, x⟩
    | succ i => exact r.invC fun v us _ r => ih r e
theorem VRs.take {vs : List Value} {l : List AV} (r : VRs B h n α vs l) (i : Nat) : VRs B h n α (vs.take i) (l.take i) := by
  induction l generalizing vs i with
  | nil => refine r.inv0 ?_; rw [List.take_nil, List.take_nil]; exact .nil
  | cons b l ih =>
    cases i with
    | zero => exact .nil
    | succ i => exact r.invC fun v us x r => .cons x (ih r i)
theorem VRs.drop {vs : List Value} {l : List AV} (r : VRs B h n α vs l) (i : Nat) : VRs B h n α (vs.drop i) (l.drop i) := by
  induction l generalizing vs i with
  | nil => refine r.inv0 ?_; rw [List.drop_nil, List.drop_nil]; exact .nil
  | cons b l ih =>
    cases i with
    | zero => exact r
    | succ i => exact r.invC fun v us x r => ih r i
theorem VRs.reverse {vs : List Value} {l : List AV} (r : VRs B h n α vs l) : VRs B h n α vs.reverse l.reverse := by
  induction l generalizing vs with
  | nil => exact r.inv0 .nil
  | cons b l ih => exact r.invC fun v us x r => by rw [List.reverse_cons, List.reverse_cons]; exact VRs.append (ih r) (.cons x .nil)
end

/-- what an option of a value is -/
inductive AR (B : List Addr) (h : Heap) (n : Nat) (α : Nat → Addr) : Option Value → Option AV → Prop
  | none : AR B h n α .none .none
  | some {v : Value} {a : AV} : VR B h n α v a → AR B h n α (.some v) (.some a)

inductive KR (B : List Addr) (h : Heap) (n : Nat) (α : Nat → Addr) : List (Int × Value) → List (Int × AV) → Prop
  | nil : KR B h n α [] []
  | cons {k : Int} {v : Value} {a : AV} {vs : List (Int × Value)} {l : List (Int × AV)} : VR B h n α v a → KR B h n α vs l → KR B h n α ((k, v) :: vs) ((k, a) :: l)

/-- the names of the attributes that instances hold here -/
noncomputable def attrs : List PySem.Str := ["number", "sort", "parent", "children", "left", "top", "width", "height", "buffer", "start", "point", "hscroll", "is_dedicated", "use_time", "earlier", "later",
  "windows", "last", "clock", "least_width", "least_height", "root", "selected"]

noncomputable def OR (B : List Addr) (w : World) (h : Heap) (n : Nat) (α δ : Nat → Addr) (i : Nat) : AO → Prop
  | .list l => δ i = α i ∧ ∃ (vs : List Value) (k : Nat), h.get? (α i) = some { cls := .type "list", data := .seq vs.toArray k } ∧ VRs B h n α vs l
  | .inst C d => ∃ ox mA, h.get? (α i) = some ox ∧ ox.cls = .ref C ∧ ox.data = .plain ∧ ox.dict = some (δ i) ∧ h.Ns1 (δ i) mA ∧ Within mA attrs ∧ ∀ x, AR B h n α (mA x) (d x)
  | .dict l => δ i = α i ∧ 2 ≤ α i ∧ ∃ kvs, h.DictOf (intKind pg w) (α i) kvs ∧ KR B h n α kvs l

structure AtH (B : List Addr) (w : World) (base h : Heap) (H : AH) (α δ : Nat → Addr) : Prop where
  ob : ∀ i, i < H.n → OR B w h H.n α δ i (H.f i)
  inj : ∀ i j, i < H.n → j < H.n → δ i = δ j → i = j
  db : ∀ i, i < H.n → base.get? (δ i) = none

noncomputable def Stor (o : Obj) : Prop := (o.cls = .type "list" ∧ ∃ xs k, o.data = .seq xs k) ∨ ∃ es k, o.data = .dict es k
theorem OR.stor {B : List Addr} {w : World} {h : Heap} {n : Nat} {α δ : Nat → Addr} {i : Nat} {o : AO} (x : OR B w h n α δ i o) : ∃ ob, h.get? (δ i) = some ob ∧ Stor ob := by
  cases o with
  | list l => obtain ⟨e, vs, k, ho, _⟩ := x; exact ⟨_, e ▸ ho, .inl ⟨rfl, _, k, rfl⟩⟩
  | inst C d => obtain ⟨ox, mA, _, _, _, _, ⟨o, es, ep, ho, hd, _⟩, _, _⟩ := x; exact ⟨o, ho, .inr ⟨es, ep, hd⟩⟩
  | dict l => obtain ⟨e, _, kvs, ⟨o, es, ep, ho, _, hd, _⟩, _⟩ := x; exact ⟨o, e ▸ ho, .inr ⟨es, ep, hd⟩⟩
theorem Stor.tup {h : Heap} {a b : Addr} {o : Obj} {vs : Array Value} (x : h.get? a = some o) (y : Stor o) (z : IsTup h b vs) : b ≠ a := by
  rintro rfl
  obtain ⟨o', ho, hc, k, hd⟩ := z
  rw [x] at ho; cases ho
  rcases y with ⟨c, _⟩ | ⟨es, k', d⟩
  · rw [hc] at c; simp at c
  · rw [hd] at d; cases d
theorem Stor.cell {h : Heap} {a b : Addr} {o : Obj} {v : Option Value} (x : h.get? a = some o) (y : Stor o) (z : h.IsCell b v) : b ≠ a := by
  rintro rfl
  obtain ⟨o', ho, hd⟩ := z
  rw [x] at ho; cases ho
  rcases y with ⟨_, es, k, d⟩ | ⟨es, k', d⟩ <;> (rw [hd] at d; cases d)
theorem Stor.fields {o : Obj} (y : Stor o) : ∀ vs, o.data ≠ .fields vs := by
  intro vs e
  rcases y with ⟨_, es, k, d⟩ | ⟨es, k', d⟩ <;> (rw [e] at d; cases d)
theorem Stor.plain {o : Obj} (y : Stor o) : o.data ≠ .plain := by
  intro e
  rcases y with ⟨_, es, k, d⟩ | ⟨es, k', d⟩ <;> (rw [e] at d; cases d)

section
variable {B : List Addr} {w : World} {h h' base : Heap} {n n' : Nat} {α α' δ δ' : Nat → Addr} {H : AH}
theorem AR.mono (ht : ∀ p vs, p ∉ B → IsTup h p vs → IsTup h' p vs) (hn : n ≤ n') (ha : ∀ i, i < n → α' i = α i) {v : Option Value} {a : Option AV} (x : AR B h n α v a) : AR B h' n' α' v a := by
  cases x with
  | none => exact .none
  | some x => exact .some (x.mono ht hn ha)
theorem KR.mono (ht : ∀ p vs, p ∉ B → IsTup h p vs → IsTup h' p vs) (hn : n ≤ n') (ha : ∀ i, i < n → α' i = α i) {v : List (Int × Value)} {a : List (Int × AV)} (r : KR B h n α v a) : KR B h' n' α' v a := by
  induction r with
  | nil => exact .nil
  | cons x _ ih => exact .cons (x.mono ht hn ha) ih

/-- an object goes over to another heap where its own two cells stand -/
theorem OR.mono {i : Nat} {o : AO} (hi : i < n) (x : OR B w h n α δ i o) (ht : ∀ p vs, p ∉ B → IsTup h p vs → IsTup h' p vs) (hn : n ≤ n') (ha : ∀ i, i < n → α' i = α i) (hd : δ' i = δ i)
    (k1 : ∀ ob, h.get? (α i) = some ob → ob.data = .plain → ∃ sl, h'.get? (α i) = some ⟨ob.cls, ob.dict, ob.data, sl⟩)
    (k2 : ∀ ob, h.get? (δ i) = some ob → h'.get? (δ i) = some ob) : OR B w h' n' α' δ' i o := by
  cases o with
  | list l =>
    obtain ⟨e, vs, k, ho, r⟩ := x
    have q := k2 _ (by rw [e]; exact ho)
    exact ⟨by rw [hd, e, ha i hi], vs, k, by rw [ha i hi, ← e]; exact q, r.mono ht hn ha⟩
  | inst C d =>
    obtain ⟨ox, mA, h1, h2, h3, h4, ⟨o, es, ep, ho, hdd, hr⟩, hw, r⟩ := x
    obtain ⟨sl, q⟩ := k1 ox h1 h3
    have q' := k2 o ho
    exact ⟨⟨ox.cls, ox.dict, ox.data, sl⟩, mA, by rw [ha i hi]; exact q, h2, h3, by rw [hd]; exact h4, ⟨o, es, ep, by rw [hd]; exact q', hdd, hr⟩, hw, fun x => (r x).mono ht hn ha⟩
  | dict l =>
    obtain ⟨e, eb, kvs, ⟨o, es, ep, ho, hr⟩, r⟩ := x
    have q := k2 o (e ▸ ho)
    exact ⟨by rw [hd, e, ha i hi], by rw [ha i hi]; exact eb, kvs, ⟨o, es, ep, by rw [ha i hi, ← e]; exact q, hr⟩, r.mono ht hn ha⟩
end

structure Cx where
  w : World
  A : Around
  env : Env
  fs : List Env
  base : Heap
  p : Program
  loose : List PySem.Str
  mg : PySem.Str → Option Value
  mb : PySem.Str → Option Value
  bad : List Addr

noncomputable abbrev Cx.K (c : Cx) : Frag := hd.heap_1 c.w.params
noncomputable abbrev Cx.L (c : Cx) : Addr := c.env.locals

/-- how deep calls may still go, and what is known of the heap below -/
structure Bd where
  n : Nat
  P : Heap → Prop
  F : List Env → Prop
noncomputable def Bd.dn (b : Bd) : Bd := ⟨b.n - 1, b.P, fun _ => True⟩

structure Cx.Ok (c : Cx) (b : Bd) : Prop where
  pb : b.P c.base
  fb : b.F c.fs
  hh : c.A.handled = none
  hf : c.A.frames = some c.fs
  dp : c.A.depth + b.n ≤ 900
  un : c.A.units + 8 * b.n ≤ 9000
  kind : c.env.scope.kind = .function
  glob : c.env.globals = mainGlobals
  bi : c.env.builtins = builtinsNs
  K : c.K.In c.base
  T : TopRead c.p c.loose c.mg c.mb c.base
  lk : ∀ x, c.env.kindOf x = some .cell → ∃ a, c.env.cells.lookup x = some a
  cd : ∀ x y a, c.env.cells.lookup x = some a → c.env.cells.lookup y = some a → x = y

structure At (c : Cx) (s : Shared) (lm cm : PySem.Str → Option Value) (H : AH) (α δ : Nat → Addr) : Prop extends AtH c.bad c.w c.base s.heap H α δ where
  ns : s.heap.Ns c.L lm
  bs : c.base.StaysIn s.heap
  bl : c.base.get? c.L = none
  cl : ∀ x a, c.env.cells.lookup x = some a → s.heap.IsCell a (cm x) ∧ c.base.get? a = none
  fr : s.heap.FunFrames c.base c.fs
  dl : ∀ i, i < H.n → δ i ≠ c.L
  df : ∀ i, i < H.n → ∀ e ∈ c.fs, e.frame ≠ some (δ i)
  bb : ∀ p ∈ c.bad, ∃ o, s.heap.get? p = some o

/-- the same but for the heap and the tokens -/
noncomputable def Sh (s s' : Shared) : Prop := ∃ h tk, s' = { s with heap := h, toks := tk }
theorem Sh.refl (s : Shared) : Sh s s := ⟨s.heap, s.toks, rfl⟩
theorem Sh.trans {s s' s'' : Shared} (x : Sh s s') (y : Sh s' s'') : Sh s s'' := by
  obtain ⟨_, _, rfl⟩ := x; obtain ⟨_, _, rfl⟩ := y; exact ⟨_, _, rfl⟩

/-- all stands but the abstract objects' cells -/
noncomputable def Keep (n : Nat) (δ : Nat → Addr) (h h' : Heap) : Prop := ∀ b o, h.get? b = some o → (∀ i, i < n → δ i ≠ b) → h'.get? b = some o
theorem Keep.refl {n : Nat} {δ : Nat → Addr} (h : Heap) : Keep n δ h h := fun _ _ e _ => e

/-- the abstract heap has grown, its addresses stand -/
structure Gr (n n' : Nat) (α δ α' δ' : Nat → Addr) : Prop where
  le : n ≤ n'
  a : ∀ i, i < n → α' i = α i
  d : ∀ i, i < n → δ' i = δ i
theorem Gr.refl {n : Nat} {α δ : Nat → Addr} : Gr n n α δ α δ := ⟨Nat.le_refl _, fun _ _ => rfl, fun _ _ => rfl⟩
theorem Gr.trans {n n' n'' : Nat} {α δ α' δ' α'' δ'' : Nat → Addr} (x : Gr n n' α δ α' δ') (y : Gr n' n'' α' δ' α'' δ'') : Gr n n'' α δ α'' δ'' :=
  ⟨Nat.le_trans x.le y.le, fun i hi => (y.a i (Nat.lt_of_lt_of_le hi x.le)).trans (x.a i hi), fun i hi => (y.d i (Nat.lt_of_lt_of_le hi x.le)).trans (x.d i hi)⟩
theorem none_of_le {h : Heap} {a : Addr} (e : h.objs.size ≤ a) : h.get? a = none := by
  cases q : h.get? a with
  | none => rfl
  | some o => exact absurd (Heap.lt_size q) (Nat.not_lt.mpr e)

/-- what a step leaves behind -/
structure Step (B : List Addr) (n n' : Nat) (α δ α' δ' : Nat → Addr) (s s' : Shared) : Prop where
  sh : Sh s s'
  gr : Gr n n' α δ α' δ'
  pr : ∀ a o, s.heap.get? a = some o → ∃ o', s'.heap.get? a = some o'
  kp : Keep n δ s.heap s'.heap
  nw : ∀ i, i < n' → n ≤ i → s.heap.get? (δ' i) = none
  tu : ∀ p vs, p ∉ B → IsTup s.heap p vs → IsTup s'.heap p vs
theorem Step.refl {B : List Addr} {n : Nat} {α δ : Nat → Addr} (s : Shared) : Step B n n α δ α δ s s := ⟨Sh.refl s, Gr.refl, fun _ o e => ⟨o, e⟩, Keep.refl _, fun _ a b => absurd a (Nat.not_lt.mpr b), fun _ _ _ x => x⟩
theorem none_back {h h' : Heap} (pr : ∀ a o, h.get? a = some o → ∃ o', h'.get? a = some o') {a : Addr} (e : h'.get? a = none) : h.get? a = none := by
  cases q : h.get? a with
  | none => rfl
  | some o => obtain ⟨o', z⟩ := pr a o q; rw [e] at z; cases z
theorem Step.trans {B : List Addr} {n n' n'' : Nat} {α δ α' δ' α'' δ'' : Nat → Addr} {s s' s'' : Shared} (x : Step B n n' α δ α' δ' s s') (y : Step B n' n'' α' δ' α'' δ'' s' s'') : Step B n n'' α δ α'' δ'' s s'' :=
  ⟨x.sh.trans y.sh, x.gr.trans y.gr, fun a o e => let ⟨o', e'⟩ := x.pr a o e; y.pr a o' e', fun b o e q => y.kp b o (x.kp b o e q) fun i hi r => by
      by_cases hin : i < n
      · exact q i hin ((x.gr.d i hin).symm.trans r)
      · have := x.nw i hi (Nat.le_of_not_lt hin); rw [r, e] at this; (cases this),
    fun i hi hn => by
      by_cases h : i < n'
      · rw [y.gr.d i h]; exact x.nw i h hn
      · exact none_back x.pr (y.nw i hi (Nat.le_of_not_lt h)), fun p vs q h => y.tu p vs q (x.tu p vs q h)⟩
theorem Step.vr {B : List Addr} {n n' : Nat} {α δ α' δ' : Nat → Addr} {s s' : Shared} (x : Step B n n' α δ α' δ' s s') {v : Value} {a : AV} (r : VR B s.heap n α v a) : VR B s'.heap n' α' v a := r.mono x.tu x.gr.le x.gr.a
theorem Step.vrs {B : List Addr} {n n' : Nat} {α δ α' δ' : Nat → Addr} {s s' : Shared} (x : Step B n n' α δ α' δ' s s') {v : List Value} {a : List AV} (r : VRs B s.heap n α v a) : VRs B s'.heap n' α' v a := r.mono x.tu x.gr.le x.gr.a

/-- the heap has grown alone -/
theorem AtH.more {B : List Addr} {w : World} {base h h' : Heap} {H : AH} {α δ : Nat → Addr} (x : AtH B w base h H α δ) (k : ∀ b o, h.get? b = some o → h'.get? b = some o) : AtH B w base h' H α δ :=
  ⟨fun i hi => (x.ob i hi).mono hi (fun _ _ _ t => t.keeps k) (Nat.le_refl _) (fun _ _ => rfl) rfl (fun ob e _ => ⟨ob.slots, k _ _ e⟩) (fun ob e => k _ _ e), x.inj, x.db⟩
theorem cell_keeps {h h' : Heap} (k : ∀ b o, h.get? b = some o → h'.get? b = some o) {c : Addr} {v : Option Value} (x : h.IsCell c v) : h'.IsCell c v := x.keeps k
theorem At.more {c : Cx} {s s' : Shared} {lm cm : PySem.Str → Option Value} {H : AH} {α δ : Nat → Addr} (x : At c s lm cm H α δ) (k : ∀ b o, s.heap.get? b = some o → s'.heap.get? b = some o) : At c s' lm cm H α δ :=
  ⟨x.toAtH.more k, x.ns.keeps k, fun b o e => k b o (x.bs b o e), x.bl, fun y a e => ⟨(x.cl y a e).1.keeps k, (x.cl y a e).2⟩, x.fr.of_keeps fun b o e _ => ⟨o, k b o e, rfl⟩, x.dl, x.df, fun p hp => let ⟨o, e⟩ := x.bb p hp; ⟨o, k _ _ e⟩⟩
theorem Step.more {B : List Addr} {n : Nat} {α δ : Nat → Addr} {s s' : Shared} (sh : Sh s s') (k : ∀ b o, s.heap.get? b = some o → s'.heap.get? b = some o) : Step B n n α δ α δ s s' :=
  ⟨sh, Gr.refl, fun a o e => ⟨o, k a o e⟩, fun b o e _ => k b o e, fun _ a b => absurd a (Nat.not_lt.mpr b), fun _ _ _ t => t.keeps k⟩

noncomputable def ups (f : Nat → Addr) (n : Nat) (a : Addr) : Nat → Addr := fun i => if i = n then a else f i
theorem ups_lt {f : Nat → Addr} {n i : Nat} {a : Addr} (h : i < n) : ups f n a i = f i := if_neg (Nat.ne_of_lt h)
theorem ups_self {f : Nat → Addr} {n : Nat} {a : Addr} : ups f n a n = a := if_pos rfl
theorem Gr.ups {n : Nat} {α δ : Nat → Addr} {a d : Addr} : Gr n (n + 1) α δ (ups α n a) (ups δ n d) := ⟨Nat.le_succ _, fun _ h => ups_lt h, fun _ h => ups_lt h⟩
theorem At.alloc {c : Cx} {s s' : Shared} {lm cm : PySem.Str → Option Value} {H : AH} {α δ : Nat → Addr} {a d : Addr} {o : AO} (x : At c s lm cm H α δ) (sh : Sh s s') (k : ∀ b o, s.heap.get? b = some o → s'.heap.get? b = some o)
    (hd : s.heap.get? d = none) (ho : OR c.bad c.w s'.heap (H.n + 1) (ups α H.n a) (ups δ H.n d) H.n o) :
    At c s' lm cm (H.alloc o) (ups α H.n a) (ups δ H.n d) ∧ Step c.bad H.n (H.n + 1) α δ (ups α H.n a) (ups δ H.n d) s s' := by
  have hlt : ∀ i, i < H.n → δ i ≠ d := fun i hi e => by obtain ⟨ob, h, _⟩ := (x.ob i hi).stor; rw [e, hd] at h; cases h
  refine ⟨⟨⟨fun i hi => ?_, fun i j hi hj e => ?_, fun i hi => ?_⟩, x.ns.keeps k, fun b o e => k b o (x.bs b o e), x.bl, fun y a e => ⟨(x.cl y a e).1.keeps k, (x.cl y a e).2⟩, x.fr.of_keeps fun b o e _ => ⟨o, k b o e, rfl⟩, fun i hi => ?_, fun i hi e he => ?_, fun p hp => let ⟨o, e⟩ := x.bb p hp; ⟨o, k _ _ e⟩⟩,
    sh, Gr.ups, fun a o e => ⟨o, k a o e⟩, fun b o e _ => k b o e, fun i hi hn => ?_, fun _ _ _ t => t.keeps k⟩
  · show OR c.bad c.w s'.heap (H.n + 1) _ _ i (if i = H.n then o else H.f i)
    by_cases h : i = H.n
    · subst h; rw [if_pos rfl]; exact ho
    · have hi' : i < H.n := Nat.lt_of_le_of_ne (Nat.le_of_lt_succ hi) h
      rw [if_neg h]
      exact (x.ob i hi').mono hi' (fun _ _ _ t => t.keeps k) (Nat.le_succ _) (fun _ q => ups_lt q) (ups_lt hi') (fun ob e _ => ⟨ob.slots, k _ _ e⟩) (fun ob e => k _ _ e)
  · have hi : i < H.n + 1 := hi
    have hj : j < H.n + 1 := hj
    by_cases h : i = H.n
    · by_cases h' : j = H.n
      · rw [h, h']
      · have hj' : j < H.n := by omega
        rw [h, ups_self, ups_lt hj'] at e
        exact absurd e.symm (hlt j hj')
    · have hi' : i < H.n := by omega
      by_cases h' : j = H.n
      · rw [h', ups_self, ups_lt hi'] at e
        exact absurd e (hlt i hi')
      · have hj' : j < H.n := by omega
        rw [ups_lt hi', ups_lt hj'] at e
        exact x.inj i j hi' hj' e
  · have hi : i < H.n + 1 := hi
    by_cases h : i = H.n
    · rw [h, ups_self]
      cases q : c.base.get? d with
      | none => rfl
      | some o => have := x.bs _ _ q; rw [hd] at this; cases this
    · rw [ups_lt (by omega)]; exact x.db i (by omega)
  · have hi : i < H.n + 1 := hi
    by_cases h : i = H.n
    · rw [h, ups_self]; rintro rfl; obtain ⟨o, _, _, e, _⟩ := x.ns; rw [hd] at e; cases e
    · rw [ups_lt (by omega)]; exact x.dl i (by omega)
  · have hi : i < H.n + 1 := hi
    by_cases h : i = H.n
    · rw [h, ups_self]
      intro q
      obtain ⟨_, o, ho, _⟩ := x.fr.mem (b := d) (List.mem_filterMap.mpr ⟨e, he, q⟩)
      rw [hd] at ho; cases ho
    · rw [ups_lt (by omega)]; exact x.df i (by omega) e he
  · have : i = H.n := by omega
    rw [this, ups_self]; exact hd

/-- one abstract object turned -/
theorem At.upd {c : Cx} {s s' : Shared} {lm cm : PySem.Str → Option Value} {H : AH} {α δ : Nat → Addr} {i : Nat} {o : AO} (x : At c s lm cm H α δ) (hi : i < H.n) (sh : Sh s s') (k : Heap.SameBut (δ i) s.heap s'.heap)
    (ho : OR c.bad c.w s'.heap H.n α δ i o) :
    At c s' lm cm (H.set i o) α δ ∧ Step c.bad H.n H.n α δ α δ s s' := by
  obtain ⟨ob, hob, st⟩ := (x.ob i hi).stor
  obtain ⟨ob', hob', st'⟩ := ho.stor
  have pr : ∀ a, (∃ o, s.heap.get? a = some o) → ∃ o, s'.heap.get? a = some o := fun a ⟨o, e⟩ => by
    by_cases q : a = δ i
    · exact ⟨ob', q ▸ hob'⟩
    · exact ⟨o, (k.2 a q).trans e⟩
  have tu : ∀ p vs, p ∉ c.bad → IsTup s.heap p vs → IsTup s'.heap p vs := fun p vs _ t => by
    have hp := st.tup hob t
    obtain ⟨o, ho, r⟩ := t
    exact ⟨o, (k.2 _ hp).trans ho, r⟩
  refine ⟨⟨⟨fun j hj => ?_, x.inj, x.db⟩, ?_, fun b o e => (k.2 b fun q => ?_).trans (x.bs b o e), x.bl, fun y a e => ⟨?_, (x.cl y a e).2⟩, ?_, x.dl, x.df, fun p hp => pr p (x.bb p hp)⟩,
    sh, Gr.refl, fun a o e => pr a ⟨o, e⟩, fun b o e q => (k.2 b fun z => q i hi z.symm).trans e, fun _ a b => absurd a (Nat.not_lt.mpr b), tu⟩
  · show OR c.bad c.w s'.heap H.n _ _ j (if j = i then o else H.f j)
    by_cases h : j = i
    · subst h; rw [if_pos rfl]; exact ho
    · rw [if_neg h]
      refine (x.ob j hj).mono hj tu (Nat.le_refl _) (fun _ _ => rfl) rfl (fun q e d => ⟨q.slots, (k.2 _ fun z => ?_).trans e⟩) (fun q e => (k.2 _ fun z => h (x.inj j i hj hi z)).trans e)
      rw [z, hob] at e; cases e; exact st.plain d
  · obtain ⟨o, es, ep, ho, r⟩ := x.ns
    exact ⟨o, es, ep, (k.2 _ (Ne.symm (x.dl i hi))).trans ho, r⟩
  · have := x.db i hi; rw [← q, e] at this; cases this
  · have z := (x.cl y a e).1
    exact z.sameBut k (st.cell hob z)
  · have : ∀ l : List Env, s.heap.FunFrames c.base l → s'.heap.FunFrames c.base l := by
      intro l
      induction l with
      | nil => intro _; trivial
      | cons env l ih =>
        rintro ⟨h1, ⟨L, o, h2, h3, h4, h5⟩, h6⟩
        refine ⟨h1, ?_, ih h6⟩
        by_cases q : L = δ i
        · subst q; exact ⟨_, ob', h2, h3, hob', st'.fields⟩
        · exact ⟨L, o, h2, h3, (k.2 _ q).trans h4, h5⟩
    exact this _ x.fr
end
-- B2
section
noncomputable abbrev Vars := PySem.Str → Option AV
noncomputable def up (m : Vars) (x : PySem.Str) (a : AV) : Vars := fun y => if y = x then some a else m y

/-- the names of a frame -/
noncomputable def NmR (c : Cx) (h : Heap) (lm cm : PySem.Str → Option Value) (n : Nat) (α : Nat → Addr) (m : Vars) : Prop :=
  ∀ x a, m x = some a → (c.env.kindOf x = some .local ∧ ∃ v, lm x = some v ∧ VR c.bad h n α v a) ∨
    ((c.env.kindOf x = some .cell ∨ c.env.kindOf x = some .free) ∧ ∃ ad v, c.env.cells.lookup x = some ad ∧ cm x = some v ∧ VR c.bad h n α v a)

theorem NmR.mono {c : Cx} {h h' : Heap} {lm cm : PySem.Str → Option Value} {n n' : Nat} {α α' : Nat → Addr} {m : Vars} (x : NmR c h lm cm n α m) (t : ∀ v a, VR c.bad h n α v a → VR c.bad h' n' α' v a) : NmR c h' lm cm n' α' m :=
  fun y a e => (x y a e).imp (fun ⟨k, v, hv, r⟩ => ⟨k, v, hv, t _ _ r⟩) fun ⟨k, ad, v, ha, hv, r⟩ => ⟨k, ad, v, ha, hv, t _ _ r⟩

/-- a LispSignal in flight: all that stood stands, but the frames' own notes -/
structure Exc (c : Cx) (s : Shared) (n : Nat) (α δ : Nat → Addr) (e : Addr) (s' : Shared) (H' : AH) (α' δ' : Nat → Addr) : Prop where
  sh : Sh s s'
  gr : Gr n H'.n α δ α' δ'
  ah : AtH c.bad c.w c.base s'.heap H' α' δ'
  nw : ∀ i, i < H'.n → n ≤ i → s.heap.get? (δ' i) = none
  k1 : ∀ b o, s.heap.get? b = some o → (∀ i, i < n → δ i ≠ b) → (∀ vs, o.data ≠ .fields vs) → ∃ sl, s'.heap.get? b = some ⟨o.cls, o.dict, o.data, sl⟩
  fl : ∃ xb a0, Heap.FlyingW xb c.fs e (.ref 38) a0 s'.heap ∧ (∀ b o, s.heap.get? b = some o → (∀ i, i < n → δ i ≠ b) → (∀ f ∈ c.fs, f.frame ≠ some b) → xb.get? b = some o) ∧
    ∀ i, i < H'.n → ∀ o, s'.heap.get? (δ' i) = some o → xb.get? (δ' i) = some o
theorem Exc.k2 {c : Cx} {s : Shared} {n : Nat} {α δ : Nat → Addr} {e : Addr} {s' : Shared} {H' : AH} {α' δ' : Nat → Addr} (x : Exc c s n α δ e s' H' α' δ') :
    ∀ b o, s.heap.get? b = some o → (∀ i, i < n → δ i ≠ b) → (∀ f ∈ c.fs, f.frame ≠ some b) → s'.heap.get? b = some o :=
  fun b o h q f => let ⟨_, _, fl, k, _⟩ := x.fl; fl.1 b o (k b o h q f)

variable {β γ : Type}

/-- a tree that reads and makes values: what comes back, and the abstract heap behind it -/
noncomputable def TR (b : Bd) (sc : Scope) (t : Env → Sem β) (R : List Addr → Heap → Nat → (Nat → Addr) → β → γ → Prop) (m : Vars) (H : AH) (Q : γ → AH → Prop) (X : AH → Prop) : Prop :=
  ∀ (c : Cx) (s : Shared) (lm cm : PySem.Str → Option Value) (α δ : Nat → Addr) (Qr : β → Shared → Prop) (Er : Value → Shared → Prop),
    c.Ok b → c.env.scope = sc → At c s lm cm H α δ → NmR c s.heap lm cm H.n α m →
    (∀ v a s' H' α' δ', Step c.bad H.n H'.n α δ α' δ' s s' → At c s' lm cm H' α' δ' → R c.bad s'.heap H'.n α' v a → Q a H' → Qr v s') →
    (∀ e s' H' α' δ', Exc c s H.n α δ e s' H' α' δ' → X H' → Er (.ref e) s') →
    wpAny (model pg c.w) c.A (t c.env) Qr Er s

noncomputable abbrev EV (b : Bd) (sc : Scope) (e : Expr) (m : Vars) (H : AH) (Q : AV → AH → Prop) (X : AH → Prop) : Prop := TR b sc (eval e) VR m H Q X
noncomputable abbrev ET (b : Bd) (sc : Scope) (e : Expr) (m : Vars) (H : AH) (Q : Bool → AH → Prop) (X : AH → Prop) : Prop := TR b sc (fun env => isTrue e env (eval e env)) (fun _ _ _ _ x y => x = y) m H Q X

/-- a tree over values -/
noncomputable def OP (b : Bd) (t : List Value → Sem β) (R : List Addr → Heap → Nat → (Nat → Addr) → β → γ → Prop) (args : List AV) (H : AH) (Q : γ → AH → Prop) (X : AH → Prop) : Prop :=
  ∀ (c : Cx) (s : Shared) (lm cm : PySem.Str → Option Value) (α δ : Nat → Addr) (vs : List Value) (Qr : β → Shared → Prop) (Er : Value → Shared → Prop),
    c.Ok b → At c s lm cm H α δ → VRs c.bad s.heap H.n α vs args →
    (∀ v a s' H' α' δ', Step c.bad H.n H'.n α δ α' δ' s s' → At c s' lm cm H' α' δ' → R c.bad s'.heap H'.n α' v a → Q a H' → Qr v s') →
    (∀ e s' H' α' δ', Exc c s H.n α δ e s' H' α' δ' → X H' → Er (.ref e) s') →
    wpAny (model pg c.w) c.A (t vs) Qr Er s

inductive Fl where
  | next
  | ret (a : AV)
inductive FR (B : List Addr) (h : Heap) (n : Nat) (α : Nat → Addr) : Flow → Fl → Prop
  | next : FR B h n α .next .next
  | ret {v : Value} {a : AV} : VR B h n α v a → FR B h n α (.ret v) (.ret a)

/-- what statements leave behind: the frame's own names may have turned -/
structure StepX (c : Cx) (n n' : Nat) (α δ α' δ' : Nat → Addr) (s s' : Shared) : Prop where
  sh : Sh s s'
  gr : Gr n n' α δ α' δ'
  pr : ∀ a o, s.heap.get? a = some o → ∃ o', s'.heap.get? a = some o'
  kp : ∀ b o, s.heap.get? b = some o → (∀ i, i < n → δ i ≠ b) → b ≠ c.L → (∀ x, c.env.cells.lookup x ≠ some b) → s'.heap.get? b = some o
  nw : ∀ i, i < n' → n ≤ i → s.heap.get? (δ' i) = none
  tu : ∀ p vs, p ∉ c.bad → IsTup s.heap p vs → IsTup s'.heap p vs

theorem Step.x {c : Cx} {n n' : Nat} {α δ α' δ' : Nat → Addr} {s s' : Shared} (x : Step c.bad n n' α δ α' δ' s s') : StepX c n n' α δ α' δ' s s' :=
  ⟨x.sh, x.gr, x.pr, fun b o e q _ _ => x.kp b o e q, x.nw, x.tu⟩
theorem off_new {n n' : Nat} {α δ α' δ' : Nat → Addr} {h : Heap} (gr : Gr n n' α δ α' δ') (nw : ∀ i, i < n' → n ≤ i → h.get? (δ' i) = none) (b : Addr) (o : Obj) (e : h.get? b = some o) (q : ∀ i, i < n → δ i ≠ b) : ∀ i, i < n' → δ' i ≠ b := fun i hi r => by
  by_cases hin : i < n
  · exact q i hin ((gr.d i hin).symm.trans r)
  · have := nw i hi (Nat.le_of_not_lt hin); rw [r, e] at this; cases this
theorem nw_trans {n n' n'' : Nat} {α' δ' α'' δ'' : Nat → Addr} {h h' : Heap} (y : Gr n' n'' α' δ' α'' δ'') (pr : ∀ a o, h.get? a = some o → ∃ o', h'.get? a = some o') (a : ∀ i, i < n' → n ≤ i → h.get? (δ' i) = none) (b : ∀ i, i < n'' → n' ≤ i → h'.get? (δ'' i) = none) :
    ∀ i, i < n'' → n ≤ i → h.get? (δ'' i) = none := fun i hi hn => by
  by_cases h : i < n'
  · rw [y.d i h]; exact a i h hn
  · exact none_back pr (b i hi (Nat.le_of_not_lt h))
theorem StepX.trans {c : Cx} {n n' n'' : Nat} {α δ α' δ' α'' δ'' : Nat → Addr} {s s' s'' : Shared} (x : StepX c n n' α δ α' δ' s s') (y : StepX c n' n'' α' δ' α'' δ'' s' s'') : StepX c n n'' α δ α'' δ'' s s'' :=
  ⟨x.sh.trans y.sh, x.gr.trans y.gr, fun a o e => let ⟨o', e'⟩ := x.pr a o e; y.pr a o' e', fun b o e q l k => y.kp b o (x.kp b o e q l k) (off_new x.gr x.nw b o e q) l k,
    nw_trans y.gr x.pr x.nw y.nw, fun p vs q h => y.tu p vs q (x.tu p vs q h)⟩
theorem StepX.vr {c : Cx} {n n' : Nat} {α δ α' δ' : Nat → Addr} {s s' : Shared} (x : StepX c n n' α δ α' δ' s s') {v : Value} {a : AV} (r : VR c.bad s.heap n α v a) : VR c.bad s'.heap n' α' v a := r.mono x.tu x.gr.le x.gr.a

structure ExcX (c : Cx) (s : Shared) (n : Nat) (α δ : Nat → Addr) (e : Addr) (s' : Shared) (H' : AH) (α' δ' : Nat → Addr) : Prop where
  sh : Sh s s'
  gr : Gr n H'.n α δ α' δ'
  nw : ∀ i, i < H'.n → n ≤ i → s.heap.get? (δ' i) = none
  k1 : ∀ b o, s.heap.get? b = some o → (∀ i, i < n → δ i ≠ b) → b ≠ c.L → (∀ x, c.env.cells.lookup x ≠ some b) → (∀ vs, o.data ≠ .fields vs) → ∃ sl, s'.heap.get? b = some ⟨o.cls, o.dict, o.data, sl⟩
  fl : (∃ xb a0, Heap.FlyingW xb c.fs e (.ref 38) a0 s'.heap ∧ (∀ b o, s.heap.get? b = some o → (∀ i, i < n → δ i ≠ b) → b ≠ c.L → (∀ x, c.env.cells.lookup x ≠ some b) → (∀ f ∈ c.fs, f.frame ≠ some b) → xb.get? b = some o) ∧
    ∀ i, i < H'.n → ∀ o, s'.heap.get? (δ' i) = some o → xb.get? (δ' i) = some o) ∨
    ((∃ oe vs a0, s'.heap.get? e = some oe ∧ oe.cls = .ref 38 ∧ oe.data = .fields vs ∧ vs[0]? = some a0 ∧ vs[1]? = some .none) ∧ s.heap.get? e = none ∧
      ∀ b o, s.heap.get? b = some o → (∀ i, i < n → δ i ≠ b) → b ≠ c.L → (∀ x, c.env.cells.lookup x ≠ some b) → s'.heap.get? b = some o)
theorem Exc.x {c : Cx} {s s' : Shared} {n : Nat} {α δ α' δ' : Nat → Addr} {H' : AH} {e : Addr} (x : Exc c s n α δ e s' H' α' δ') : ExcX c s n α δ e s' H' α' δ' :=
  ⟨x.sh, x.gr, x.nw, fun b o h q _ _ f => x.k1 b o h q f, .inl (let ⟨xb, a0, fl, k, d⟩ := x.fl; ⟨xb, a0, fl, fun b o h q _ _ f => k b o h q f, d⟩)⟩
theorem Exc.after {c : Cx} {s s' s'' : Shared} {n : Nat} {α δ α' δ' : Nat → Addr} {H' : AH} {n' : Nat} {α'' δ'' : Nat → Addr} {e : Addr} (x : Step c.bad n n' α δ α' δ' s s') (y : Exc c s' n' α' δ' e s'' H' α'' δ'') : Exc c s n α δ e s'' H' α'' δ'' :=
  ⟨x.sh.trans y.sh, x.gr.trans y.gr, y.ah, nw_trans y.gr x.pr x.nw y.nw,
    fun b o e q f => y.k1 b o (x.kp b o e q) (off_new x.gr x.nw b o e q) f, let ⟨xb, a0, fl, k, d⟩ := y.fl; ⟨xb, a0, fl, fun b o e q f => k b o (x.kp b o e q) (off_new x.gr x.nw b o e q) f, d⟩⟩
theorem ExcX.after {c : Cx} {s s' s'' : Shared} {n : Nat} {α δ α' δ' : Nat → Addr} {H' : AH} {n' : Nat} {α'' δ'' : Nat → Addr} {e : Addr} (x : StepX c n n' α δ α' δ' s s') (y : ExcX c s' n' α' δ' e s'' H' α'' δ'') : ExcX c s n α δ e s'' H' α'' δ'' :=
  ⟨x.sh.trans y.sh, x.gr.trans y.gr, nw_trans y.gr x.pr x.nw y.nw,
    fun b o e q l k f => y.k1 b o (x.kp b o e q l k) (off_new x.gr x.nw b o e q) l k f, y.fl.imp (fun ⟨xb, a0, fl, kk, d⟩ => ⟨xb, a0, fl, fun b o e q l k f => kk b o (x.kp b o e q l k) (off_new x.gr x.nw b o e q) l k f, d⟩)
      fun ⟨z, nn, kk⟩ => ⟨z, none_back x.pr nn, fun b o e q l k => kk b o (x.kp b o e q l k) (off_new x.gr x.nw b o e q) l k⟩⟩
theorem funFrames_up {base h h' : Heap} (k : ∀ b o, h.get? b = some o → (∀ vs, o.data ≠ .fields vs) → ∃ o', h'.get? b = some o' ∧ ∀ vs, o'.data ≠ .fields vs) : ∀ {l : List Env}, h.FunFrames base l → h'.FunFrames base l
  | [], _ => trivial
  | _ :: _, ⟨h1, ⟨L, o, h2, h3, h4, h5⟩, h6⟩ => ⟨h1, let ⟨o', a, b⟩ := k L o h4 h5; ⟨L, o', h2, h3, a, b⟩, funFrames_up k h6⟩
theorem funFrames_off {base h : Heap} {l : List Env} (x : h.FunFrames base l) (f : Env) (hf : f ∈ l) (b : Addr) (o : Obj) (e : base.get? b = some o) : f.frame ≠ some b := fun q => by
  have := (x.mem (b := b) (List.mem_filterMap.mpr ⟨f, hf, q⟩)).1
  rw [this] at e; cases e
theorem At.step {c : Cx} {s s' : Shared} {lm cm : PySem.Str → Option Value} {H H' : AH} {α δ α' δ' : Nat → Addr} (a : At c s lm cm H α δ) (x : Step c.bad H.n H'.n α δ α' δ' s s') (ah : AtH c.bad c.w c.base s'.heap H' α' δ') : At c s' lm cm H' α' δ' := by
  have offb : ∀ b o, c.base.get? b = some o → ∀ i, i < H.n → δ i ≠ b := fun b o e i hi q => by have := a.db i hi; rw [q, e] at this; cases this
  refine ⟨ah, ?_, fun b o e => x.kp b o (a.bs b o e) (offb b o e), a.bl, fun y ad e => ⟨?_, (a.cl y ad e).2⟩, ?_, fun i hi => ?_, fun i hi f hf => ?_, fun p hp => let ⟨o, e⟩ := a.bb p hp; x.pr p o e⟩
  · obtain ⟨o, es, ep, ho, r⟩ := a.ns
    exact ⟨o, es, ep, x.kp _ o ho (fun i hi => a.dl i hi), r⟩
  · obtain ⟨o, ho, hd⟩ := (a.cl y ad e).1
    have off : ∀ i, i < H.n → δ i ≠ ad := fun i hi q => by
      obtain ⟨ob, h1, st⟩ := (a.ob i hi).stor
      exact st.cell h1 (a.cl y ad e).1 q.symm
    exact ⟨o, x.kp _ o ho off, hd⟩
  · refine funFrames_up (fun b o h f => ?_) a.fr
    by_cases q : ∀ i, i < H.n → δ i ≠ b
    · exact ⟨_, x.kp b o h q, f⟩
    · obtain ⟨i, q⟩ := Classical.not_forall.mp q
      obtain ⟨hi, q⟩ := Classical.not_imp.mp q
      have q := Classical.not_not.mp q
      obtain ⟨ob, h1, st⟩ := (ah.ob i (Nat.lt_of_lt_of_le hi x.gr.le)).stor
      rw [x.gr.d i hi, q] at h1
      exact ⟨ob, h1, st.fields⟩
  · by_cases h : i < H.n
    · rw [x.gr.d i h]; exact a.dl i h
    · have := x.nw i hi (Nat.le_of_not_lt h)
      intro q; rw [q] at this; obtain ⟨o, _, _, e, _⟩ := a.ns; rw [this] at e; cases e
  · by_cases h : i < H.n
    · rw [x.gr.d i h]; exact a.df i h f hf
    · have := x.nw i hi (Nat.le_of_not_lt h)
      intro q
      obtain ⟨_, o, ho, _⟩ := a.fr.mem (b := δ' i) (List.mem_filterMap.mpr ⟨f, hf, q⟩)
      rw [this] at ho; cases ho
/-- the abstract heap stands where all but records and slots stands, and its cells stand wholly -/
theorem AtH.slots {B : List Addr} {w : World} {base h h' : Heap} {H : AH} {α δ : Nat → Addr} (x : AtH B w base h H α δ) (k : h.UpToSlots h') (d : ∀ i, i < H.n → ∀ o, h.get? (δ i) = some o → h'.get? (δ i) = some o) : AtH B w base h' H α δ :=
  ⟨fun i hi => (x.ob i hi).mono hi (fun p vs _ t => by
      obtain ⟨o, ho, hc, n, hd⟩ := t
      obtain ⟨sl, q⟩ := k p o ho (by intro vs e; rw [hd] at e; cases e)
      exact ⟨_, q, hc, n, hd⟩) (Nat.le_refl _) (fun _ _ => rfl) rfl (fun ob e hp => k _ ob e (by intro vs e; rw [hp] at e; cases e)) (fun ob e => d i hi ob e), x.inj, x.db⟩
theorem Exc.pr {c : Cx} {s s' : Shared} {lm cm : PySem.Str → Option Value} {H H' : AH} {α δ α' δ' : Nat → Addr} {e : Addr} (a : At c s lm cm H α δ) (x : Exc c s H.n α δ e s' H' α' δ') : ∀ b o, s.heap.get? b = some o → ∃ o', s'.heap.get? b = some o' := fun b o h => by
  by_cases q : ∀ i, i < H.n → δ i ≠ b
  · by_cases f : ∀ g ∈ c.fs, g.frame ≠ some b
    · exact ⟨o, x.k2 b o h q f⟩
    · obtain ⟨g, f⟩ := Classical.not_forall.mp f
      obtain ⟨hg, f⟩ := Classical.not_imp.mp f
      have f := Classical.not_not.mp f
      obtain ⟨_, o', h', nf⟩ := a.fr.mem (b := b) (List.mem_filterMap.mpr ⟨g, hg, f⟩)
      rw [h] at h'; cases h'
      obtain ⟨sl, z⟩ := x.k1 b o h q nf
      exact ⟨_, z⟩
  · obtain ⟨i, q⟩ := Classical.not_forall.mp q
    obtain ⟨hi, q⟩ := Classical.not_imp.mp q
    have q := Classical.not_not.mp q
    obtain ⟨ob, h1, _⟩ := (x.ah.ob i (Nat.lt_of_lt_of_le hi x.gr.le)).stor
    rw [x.gr.d i hi, q] at h1
    exact ⟨ob, h1⟩
theorem Exc.at {c : Cx} {s s' : Shared} {lm cm : PySem.Str → Option Value} {H H' : AH} {α δ α' δ' : Nat → Addr} {e : Addr} (a : At c s lm cm H α δ) (x : Exc c s H.n α δ e s' H' α' δ') : At c s' lm cm H' α' δ' := by
  have offb : ∀ b o, c.base.get? b = some o → ∀ i, i < H.n → δ i ≠ b := fun b o e i hi q => by have := a.db i hi; rw [q, e] at this; cases this
  refine ⟨x.ah, ?_, fun b o e => x.k2 b o (a.bs b o e) (offb b o e) fun f hf => funFrames_off a.fr f hf b o e, a.bl, fun y ad e => ⟨?_, (a.cl y ad e).2⟩, ?_, fun i hi => ?_, fun i hi f hf => ?_, fun p hp => let ⟨o, e⟩ := a.bb p hp; x.pr a p o e⟩
  · obtain ⟨o, es, ep, ho, hd, r⟩ := a.ns
    obtain ⟨sl, q⟩ := x.k1 _ o ho (fun i hi => a.dl i hi) (by intro vs e; rw [hd] at e; cases e)
    exact ⟨_, es, ep, q, hd, r⟩
  · obtain ⟨o, ho, hd⟩ := (a.cl y ad e).1
    have off : ∀ i, i < H.n → δ i ≠ ad := fun i hi q => by
      obtain ⟨ob, h1, st⟩ := (a.ob i hi).stor
      exact st.cell h1 (a.cl y ad e).1 q.symm
    obtain ⟨sl, q⟩ := x.k1 _ o ho off (by intro vs e; rw [hd] at e; cases e)
    exact ⟨_, q, hd⟩
  · refine funFrames_up (fun b o h f => ?_) a.fr
    by_cases q : ∀ i, i < H.n → δ i ≠ b
    · obtain ⟨sl, z⟩ := x.k1 b o h q f
      exact ⟨_, z, f⟩
    · obtain ⟨i, q⟩ := Classical.not_forall.mp q
      obtain ⟨hi, q⟩ := Classical.not_imp.mp q
      have q := Classical.not_not.mp q
      obtain ⟨ob, h1, st⟩ := (x.ah.ob i (Nat.lt_of_lt_of_le hi x.gr.le)).stor
      rw [x.gr.d i hi, q] at h1
      exact ⟨ob, h1, st.fields⟩
  · by_cases h : i < H.n
    · rw [x.gr.d i h]; exact a.dl i h
    · have := x.nw i hi (Nat.le_of_not_lt h)
      intro q; rw [q] at this; obtain ⟨o, _, _, e, _⟩ := a.ns; rw [this] at e; cases e
  · by_cases h : i < H.n
    · rw [x.gr.d i h]; exact a.df i h f hf
    · have := x.nw i hi (Nat.le_of_not_lt h)
      intro q
      obtain ⟨_, o, ho, _⟩ := a.fr.mem (b := δ' i) (List.mem_filterMap.mpr ⟨f, hf, q⟩)
      rw [this] at ho; cases ho
theorem Exc.vr {c : Cx} {s s' : Shared} {lm cm : PySem.Str → Option Value} {H H' : AH} {α δ α' δ' : Nat → Addr} {e : Addr} (a : At c s lm cm H α δ) (x : Exc c s H.n α δ e s' H' α' δ') {v : Value} {u : AV} (r : VR c.bad s.heap H.n α v u) : VR c.bad s'.heap H'.n α' v u := by
  refine r.mono (fun p vs _ t => ?_) x.gr.le x.gr.a
  have off : ∀ i, i < H.n → δ i ≠ p := fun i hi q => by
    obtain ⟨ob, h1, st⟩ := (a.ob i hi).stor
    exact st.tup h1 t q.symm
  obtain ⟨o, ho, hc, k, hd⟩ := t
  obtain ⟨sl, q⟩ := x.k1 _ o ho off (by intro vs e; rw [hd] at e; cases e)
  exact ⟨_, q, hc, k, hd⟩

/-- a tree that may also store the frame's names -/
noncomputable def TX (b : Bd) (sc : Scope) (t : Env → Sem Flow) (m : Vars) (H : AH) (Q : Fl → Vars → AH → Prop) (X : Vars → AH → Prop) : Prop :=
  ∀ (c : Cx) (s : Shared) (lm cm : PySem.Str → Option Value) (α δ : Nat → Addr) (Qr : Flow → Shared → Prop) (Er : Value → Shared → Prop),
    c.Ok b → c.env.scope = sc → (∃ os, c.fs = c.env :: os) → c.env.frame = some c.L → At c s lm cm H α δ → NmR c s.heap lm cm H.n α m →
    (∀ f fl s' lm' cm' m' H' α' δ', StepX c H.n H'.n α δ α' δ' s s' → At c s' lm' cm' H' α' δ' → NmR c s'.heap lm' cm' H'.n α' m' → FR c.bad s'.heap H'.n α' f fl → Q fl m' H' → Qr f s') →
    (∀ e s' lm' cm' m' H' α' δ', ExcX c s H.n α δ e s' H' α' δ' → At c s' lm' cm' H' α' δ' → NmR c s'.heap lm' cm' H'.n α' m' → X m' H' → Er (.ref e) s') →
    wpAny (model pg c.w) c.A (t c.env) Qr Er s

noncomputable abbrev EX (b : Bd) (sc : Scope) (ss : List Stmt) (m : Vars) (H : AH) (Q : Fl → Vars → AH → Prop) (X : Vars → AH → Prop) : Prop := TX b sc (execs ss) m H Q X
noncomputable abbrev ES (b : Bd) (sc : Scope) (st : Stmt) (m : Vars) (H : AH) (Q : Fl → Vars → AH → Prop) (X : Vars → AH → Prop) : Prop := TX b sc (exec st) m H Q X

section
variable {b b' : Bd} {sc : Scope} {m : Vars} {H : AH} {X : AH → Prop}
noncomputable def Bd.le (b b' : Bd) : Prop := b.n ≤ b'.n ∧ (∀ h, b'.P h → b.P h) ∧ ∀ l, b'.F l → b.F l
theorem Cx.Ok.le {c : Cx} (x : c.Ok b') (h : b.le b') : c.Ok b := ⟨h.2.1 _ x.pb, h.2.2 _ x.fb, x.hh, x.hf, by have := x.dp; have := h.1; omega, by have := x.un; have := h.1; omega, x.kind, x.glob, x.bi, x.K, x.T, x.lk, x.cd⟩
theorem TR.le {t : Env → Sem β} {R : List Addr → Heap → Nat → (Nat → Addr) → β → γ → Prop} {Q : γ → AH → Prop} (x : TR b sc t R m H Q X) (h : b.le b') : TR b' sc t R m H Q X :=
  fun c s lm cm α δ Qr Er ok e a nm q xx => x c s lm cm α δ Qr Er (ok.le h) e a nm q xx
theorem OP.le {t : List Value → Sem β} {R : List Addr → Heap → Nat → (Nat → Addr) → β → γ → Prop} {args : List AV} {Q : γ → AH → Prop} (x : OP b t R args H Q X) (h : b.le b') : OP b' t R args H Q X :=
  fun c s lm cm α δ vs Qr Er ok a v q xx => x c s lm cm α δ vs Qr Er (ok.le h) a v q xx
theorem TR.mono {t : Env → Sem β} {R : List Addr → Heap → Nat → (Nat → Addr) → β → γ → Prop} {Q Q' : γ → AH → Prop} {X' : AH → Prop} (x : TR b sc t R m H Q X) (hq : ∀ a H, Q a H → Q' a H) (hx : ∀ H, X H → X' H) : TR b sc t R m H Q' X' :=
  fun c s lm cm α δ Qr Er ok e a nm q xx => x c s lm cm α δ Qr Er ok e a nm (fun v a s' H' α' δ' st at' r qq => q v a s' H' α' δ' st at' r (hq _ _ qq)) fun e s' H' α' δ' ex x' => xx e s' H' α' δ' ex (hx _ x')
theorem TX.le {t : Env → Sem Flow} {Q : Fl → Vars → AH → Prop} {X : Vars → AH → Prop} (x : TX b sc t m H Q X) (h : b.le b') : TX b' sc t m H Q X :=
  fun c s lm cm α δ Qr Er ok e hf hl a nm q xx => x c s lm cm α δ Qr Er (ok.le h) e hf hl a nm q xx
theorem TX.mono {t : Env → Sem Flow} {Q Q' : Fl → Vars → AH → Prop} {X X' : Vars → AH → Prop} (x : TX b sc t m H Q X) (hq : ∀ f m H, Q f m H → Q' f m H) (hx : ∀ m H, X m H → X' m H) : TX b sc t m H Q' X' :=
  fun c s lm cm α δ Qr Er ok e hf hl a nm q xx => x c s lm cm α δ Qr Er ok e hf hl a nm (fun f fl s' lm' cm' m' H' α' δ' st at' nm' fr qq => q f fl s' lm' cm' m' H' α' δ' st at' nm' fr (hq _ _ _ qq)) fun e s' lm' cm' m' H' α' δ' ex at' nm' x' => xx e s' lm' cm' m' H' α' δ' ex at' nm' (hx _ _ x')

end
end
-- B3
section
section
variable {b : Bd} {sc : Scope} {m : Vars} {H : AH} {X : AH → Prop} {Q : AV → AH → Prop}

theorem At.tk {c : Cx} {s : Shared} {lm cm : PySem.Str → Option Value} {α δ : Nat → Addr} {t : Nat} (x : At c s lm cm H α δ) : At c { s with toks := t } lm cm H α δ := x.more fun _ _ e => e
theorem Step.tk {B : List Addr} {n : Nat} {α δ : Nat → Addr} {s : Shared} {t : Nat} : Step B n n α δ α δ s { s with toks := t } := Step.more ⟨_, _, rfl⟩ fun _ _ e => e

theorem EV_int {i : Int} {k : Nat} {pos : Pos} (h : Q (.int i) H) : EV b sc (.Constant (.int i) k pos) m H Q X :=
  fun _ _ _ _ _ _ _ _ _ _ a _ q _ => wpAny_Constant_int (q _ _ _ _ _ _ Step.tk a.tk (.int _ _) h)
theorem EV_none {k : Nat} {pos : Pos} (h : Q .none H) : EV b sc (.Constant .none k pos) m H Q X :=
  fun _ s _ _ _ _ _ _ _ _ a _ q _ => wpAny_Constant_none (q _ _ _ _ _ _ (Step.refl s) a .none h)
theorem EV_bool {u : Bool} {k : Nat} {pos : Pos} (h : Q (.bool u) H) : EV b sc (.Constant (.bool u) k pos) m H Q X :=
  fun _ s _ _ _ _ _ _ _ _ a _ q _ => wpAny_Constant_bool (q _ _ _ _ _ _ (Step.refl s) a (.bool _) h)
theorem EV_str {x : PySem.Str} {k : Nat} {pos : Pos} (h : Q (.str x) H) : EV b sc (.Constant (.str x) k pos) m H Q X :=
  fun _ _ _ _ _ _ _ _ _ _ a _ q _ => wpAny_Constant_str (q _ _ _ _ _ _ Step.tk a.tk (.str _ _) h)

theorem EV_name {x : PySem.Str} {pos : Pos} {a : AV} (e : m x = some a) (h : Q a H) (hd : (x == ("__debug__" : PySem.Str)) = false := by decide) (hn : (x == ("__classdict__" : PySem.Str)) = false := by decide) : EV b sc (.Name x pos) m H Q X := by
  intro c s lm cm α δ Qr Er ok hs at' nm q xx
  rcases nm x a e with ⟨hk, v, hv, r⟩ | ⟨hk | hk, ad, v, ha, hv, r⟩
  · exact wpAny_Name (wpAny_loadName_local ok.kind hk at'.ns hv (q _ _ _ _ _ _ (Step.refl s) at' r h)) hd
  · exact wpAny_Name (wpAny_loadName_cell ok.kind hk ha (hv ▸ (at'.cl x ad ha).1) (q _ _ _ _ _ _ (Step.refl s) at' r h)) hd
  · exact wpAny_Name (wpAny_loadName_free ok.kind hk ha (hv ▸ (at'.cl x ad ha).1) (q _ _ _ _ _ _ (Step.refl s) at' r h) hn) hd

theorem kindOf_sc {c : Cx} (hs : c.env.scope = sc) (x : PySem.Str) : c.env.kindOf x = sc.names.lookup x := by unfold Env.kindOf; rw [hs]

theorem EV_glob {x : PySem.Str} {pos : Pos} {v : Value} {a : AV} (hx : sc.names.lookup x = some .globalImplicit) (e : ∀ P, nsIn (hd.heap_1 P) mainGlobals x = some (some v)) (r : ∀ B h n α, VR B h n α v a) (h : Q a H)
    (hd : (x == ("__debug__" : PySem.Str)) = false := by decide) : EV b sc (.Name x pos) m H Q X := by
  intro c s lm cm α δ Qr Er ok hs at' nm q xx
  refine Name_function_global ok.kind ((kindOf_sc hs x).trans hx) ?_ hd
  refine loadGlobal_global (by rw [ok.glob]; exact ok.T.g.keeps at'.bs) (mg_of ok.K ok.T.g (e _)) ?_
  exact q _ _ _ _ _ _ (Step.refl s) at' (r _ _ _ _) h
theorem EV_bi {x : PySem.Str} {pos : Pos} {v : Value} (hx : sc.names.lookup x = some .globalImplicit) (e : ∀ P, nsIn (hd.heap_1 P) mainGlobals x = some none) (hv : bootBuiltins x = some v) (hn : x ≠ "__name__") (h : Q (.gl v) H)
    (hd : (x == ("__debug__" : PySem.Str)) = false := by decide) : EV b sc (.Name x pos) m H Q X := by
  intro c s lm cm α δ Qr Er ok hs at' nm q xx
  refine Name_function_global ok.kind ((kindOf_sc hs x).trans hx) ?_ hd
  refine loadGlobal_builtin (by rw [ok.glob]; exact ok.T.g.keeps at'.bs) (mg_none_of ok.K ok.T.g (e _)) (by rw [ok.bi]; exact ok.T.b.keeps at'.bs) ((ok.T.builtins x hn).trans hv) ?_
  exact q _ _ _ _ _ _ (Step.refl s) at' (.gl _) h

/-- trees over one, two, three values -/
noncomputable def a1 {β : Type} (f : Value → Sem β) : List Value → Sem β
  | [v] => f v
  | _ => unsupported "no"
noncomputable def a2 {β : Type} (f : Value → Value → Sem β) : List Value → Sem β
  | [v, u] => f v u
  | _ => unsupported "no"
noncomputable def a3 {β : Type} (f : Value → Value → Value → Sem β) : List Value → Sem β
  | [v, u, w] => f v u w
  | _ => unsupported "no"

/-- evaluate one, go on by its value -/
theorem TR_one {β γ : Type} {e : Expr} {k : Value → Sem β} {R : List Addr → Heap → Nat → (Nat → Addr) → β → γ → Prop} {Q : γ → AH → Prop} {t : Env → Sem β}
    (h : EV b sc e m H (fun a H' => OP b (a1 k) R [a] H' Q X) X)
    (ht : ∀ (M : Model) (A : Around) (env : Env) (s : Shared) (Qr : β → Shared → Prop) (Er : Value → Shared → Prop), wpAny M A (eval e env) (fun v s' => wpAny M A (k v) Qr Er s') Er s → wpAny M A (t env) Qr Er s) : TR b sc t R m H Q X := by
  intro c s lm cm α δ Qr Er ok hs at' nm q xx
  refine ht _ _ _ _ _ _ (h c s lm cm α δ _ Er ok hs at' nm (fun v a s' H' α' δ' st at1 r z => ?_) xx)
  exact z c s' lm cm α' δ' [v] Qr Er ok at1 (.cons r .nil) (fun v a s'' H'' α'' δ'' st' at2 r' qq => q v a s'' H'' α'' δ'' (st.trans st') at2 r' qq) fun e s'' H'' α'' δ'' ex x' => xx e s'' H'' α'' δ'' (ex.after st) x'
/-- evaluate two, go on by their values -/
theorem TR_two {β γ : Type} {e e' : Expr} {k : Value → Value → Sem β} {R : List Addr → Heap → Nat → (Nat → Addr) → β → γ → Prop} {Q : γ → AH → Prop} {t : Env → Sem β}
    (h : EV b sc e m H (fun a H' => EV b sc e' m H' (fun a' H'' => OP b (a2 k) R [a, a'] H'' Q X) X) X)
    (ht : ∀ (M : Model) (A : Around) (env : Env) (s : Shared) (Qr : β → Shared → Prop) (Er : Value → Shared → Prop), wpAny M A (eval e env) (fun v s' => wpAny M A (eval e' env) (fun v' s'' => wpAny M A (k v v') Qr Er s'') Er s') Er s → wpAny M A (t env) Qr Er s) : TR b sc t R m H Q X := by
  intro c s lm cm α δ Qr Er ok hs at' nm q xx
  refine ht _ _ _ _ _ _ (h c s lm cm α δ _ Er ok hs at' nm (fun v a s' H' α' δ' st at1 r z => ?_) xx)
  refine z c s' lm cm α' δ' _ Er ok hs at1 (nm.mono fun _ _ => st.vr) (fun v' a' s2 H2 α2 δ2 st2 at2 r2 z2 => ?_) fun e s'' H'' α'' δ'' ex x' => xx e s'' H'' α'' δ'' (ex.after st) x'
  exact z2 c s2 lm cm α2 δ2 [v, v'] Qr Er ok at2 (.cons (st2.vr r) (.cons r2 .nil)) (fun v a s'' H'' α'' δ'' st' at2 r' qq => q v a s'' H'' α'' δ'' ((st.trans st2).trans st') at2 r' qq) fun e s'' H'' α'' δ'' ex x' => xx e s'' H'' α'' δ'' (ex.after (st.trans st2)) x'

theorem EV_bin {l r : Expr} {op : Operator} {pos : Pos} (h : EV b sc l m H (fun a H' => EV b sc r m H' (fun a' H'' => OP b (a2 (binaryOp op)) VR [a, a'] H'' Q X) X) X) : EV b sc (.BinOp l op r pos) m H Q X :=
  TR_two h fun _ _ _ _ _ _ z => wpAny_BinOp z
theorem EV_cmp {l r : Expr} {op : CmpOp} {pos : Pos} (h : EV b sc l m H (fun a H' => EV b sc r m H' (fun a' H'' => OP b (a2 (compareOp op)) VR [a, a'] H'' Q X) X) X) (hm : behindInMarks op r = false := by rfl) : EV b sc (.Compare l [op] [r] pos) m H Q X :=
  TR_two h fun _ _ _ _ _ _ z => wpAny_Compare1 z hm
end

noncomputable def bindV : List PySem.Str → List AV → Vars → Vars
  | n :: ns, a :: as, m => bindV ns as (up m n a)
  | _, _, m => m
noncomputable abbrev v0 : Vars := fun _ => none
noncomputable abbrev CL (b : Bd) (f : Value) (args : List AV) (H : AH) (Q : AV → AH → Prop) (X : AH → Prop) : Prop := OP b (fun vs => call f vs) VR args H Q X

theorem bindV_nm {B : List Addr} {h : Heap} {n : Nat} {α : Nat → Addr} {kind : PySem.Str → Option NameKind} :
    ∀ {names : List PySem.Str} {vs : List Value} {args : List AV} {m : Vars} {lm cm : PySem.Str → Option Value}, VRs B h n α vs args → (∀ x ∈ names, kind x = some .local ∨ kind x = some .cell) →
      (∀ x a, m x = some a → (kind x = some .local ∧ ∃ v, lm x = some v ∧ VR B h n α v a) ∨ (kind x = some .cell ∧ ∃ v, cm x = some v ∧ VR B h n α v a)) →
      ∀ x a, bindV names args m x = some a → (kind x = some .local ∧ ∃ v, bindL kind (names.zip vs) lm x = some v ∧ VR B h n α v a) ∨ (kind x = some .cell ∧ ∃ v, bindC kind (names.zip vs) cm x = some v ∧ VR B h n α v a)
  | [], _, _, m, lm, cm, _, _, hm, x, a, e => by
    have e : m x = some a := by cases ‹List AV› <;> exact e
    simpa [bindL, bindC] using hm x a e
  | y :: ns, _, _, m, lm, cm, .nil, hk, hm, x, a, e => by simpa [bindL, bindC, bindV] using hm x a e
  | y :: ns, _, _, m, lm, cm, .cons (v := v) (a := u) r rs, hk, hm, x, a, e => by
    rw [List.zip_cons_cons]
    unfold bindL bindC
    refine bindV_nm rs (fun z hz => hk z (.tail _ hz)) (fun z b hb => ?_) x a e
    unfold up at hb
    rcases hk y (.head _) with ky | ky
    · rw [if_pos ky, if_pos ky]
      by_cases h : z = y
      · subst h
        rw [if_pos rfl] at hb; cases hb
        exact .inl ⟨ky, v, if_pos rfl, r⟩
      · rw [if_neg h] at hb
        rcases hm z b hb with ⟨a1, w, a2, a3⟩ | q
        · exact .inl ⟨a1, w, by rw [if_neg h]; exact a2, a3⟩
        · exact .inr q
    · have ky' : ¬ kind y = some .local := by rw [ky]; decide
      rw [if_neg ky', if_neg ky']
      by_cases h : z = y
      · subst h
        rw [if_pos rfl] at hb; cases hb
        exact .inr ⟨ky, v, if_pos rfl, r⟩
      · rw [if_neg h] at hb
        rcases hm z b hb with q | ⟨a1, w, a2, a3⟩
        · exact .inl q
        · exact .inr ⟨a1, w, by rw [if_neg h]; exact a2, a3⟩

noncomputable def retOf : Fl → AV
  | .next => .none
  | .ret a => a

/-- the same as code -/
noncomputable def CA (b : Bd) (f : Value) (args : List AV) (H : AH) (Q : AV → AH → Prop) (X : AH → Prop) : Prop :=
  ∀ (c : Cx) (s : Shared) (lm cm : PySem.Str → Option Value) (α δ : Nat → Addr) (vs : List Value) (R : Result → Shared → Prop),
    c.Ok b → At c s lm cm H α δ → VRs c.bad s.heap H.n α vs args →
    (∀ v a s' H' α' δ', Step c.bad H.n H'.n α δ α' δ' s s' → At c s' lm cm H' α' δ' → VR c.bad s'.heap H'.n α' v a → Q a H' → R (.ok (.ret v)) s') →
    (∀ e s' H' α' δ', Exc c s H.n α δ e s' H' α' δ' → X H' → R (.error (.ref e)) s') →
    codeAny (model pg c.w) c.A (.call f ⟨vs, []⟩) R s
theorem CA.cl {b : Bd} {f : Value} {args : List AV} {H : AH} {Q : AV → AH → Prop} {X : AH → Prop} (x : CA b f args H Q X) : CL b f args H Q X :=
  fun c s lm cm α δ vs Qr Er ok at' r q xx => wpAny_call (x c s lm cm α δ vs _ ok at' r (fun v a s' H' α' δ' st at2 r2 qq => q v a s' H' α' δ' st at2 r2 qq) fun e s' H' α' δ' ex x' => xx e s' H' α' δ' ex x')

theorem CA_def {b : Bd} {H : AH} {X : AH → Prop} {Q : AV → AH → Prop} {f : Addr} {fd : FuncData} {oc : Value} {od : Option Addr} {osl : Array (Option Value)} {body : List Stmt} {names : List PySem.Str} {args : List AV}
    (hK : ∀ P, (hd.heap_1 P).lookup f = some ⟨oc, od, .func fd, osl⟩) (hcd : ∀ P, codeIn (hd.heap_1 P) fd.code fd.qualname = true)
    (hb : fd.body = .stmts body) (hg : fd.globals = mainGlobals) (hbi : fd.builtins = builtinsNs) (hclo : fd.closure = [])
    (hbind : ∀ vs : List Value, vs.length = args.length → bindArgs fd ⟨vs, []⟩ = pure (names.zip vs))
    (hkind : ∀ x ∈ names, fd.scope.names.lookup x = some .local ∨ fd.scope.names.lookup x = some .cell)
    (hb1 : 1 ≤ b.n) (h : EX b.dn fd.scope body (bindV names args v0) H (fun fl _ H' => Q (retOf fl) H') (fun _ H' => X H'))
    (hco : fd.scope.isCoroutine = false := by rfl) (hgen : fd.scope.isGenerator = false := by rfl) (hk : fd.scope.kind = .function := by rfl) : CA b (.ref f) args H Q X := by
  intro c s lm cm α δ vs R ok at' r q xx
  have KI : c.K.In s.heap := ok.K.keeps at'.bs
  have hsz : ∀ a o, s.heap.get? a = some o → a < s.heap.objs.size := fun a o e => Heap.lt_size e
  refine (codeAny_call_cells (fd := fd) (vals := vs) (binds := names.zip vs) (by have := ok.dp; show _ < 1000; omega) (KI _ _ (hK _)) rfl (ok.T.nolimit.keeps at'.bs) (codeRec_of KI (hcd _)) hb (hbind vs r.length) hclo ?_ (fun s₁ I => ?_) hco hgen hk)
  · intro x hx
    have hx' : x.1 ∈ names := (List.of_mem_zip (a := x.1) (b := x.2) hx).1
    rcases hkind _ hx' with k | k
    · exact .inl k
    · exact .inr ⟨k, cellsFrom_some _ _ _ (.inl k)⟩
  · obtain ⟨h₁, tk, rfl, hkeep⟩ := I.done
    have ns₁ := I.toInCall.ns
    generalize henv : callEnvC fd s.heap.objs.size f = env at *
    have eL : env.locals = s.heap.objs.size := by rw [← henv]; rfl
    have eF : env.frame = some s.heap.objs.size := by rw [← henv]; rfl
    have eS : env.scope = fd.scope := by rw [← henv]; rfl
    have sz₁ : s.heap.objs.size < h₁.objs.size := eL ▸ ns₁.lt
    have cab : ∀ x a, env.cells.lookup x = some a → s.heap.objs.size < a := fun x a e => eL ▸ I.above x a (mem_of_lookup e)
    have none_ge : ∀ a, s.heap.objs.size ≤ a → c.base.get? a = none := fun a ha => by
      cases e : c.base.get? a with
      | none => rfl
      | some o => exact absurd (Heap.lt_size (at'.bs _ _ e)) (Nat.not_lt.mpr ha)
    have dlt : ∀ i, i < H.n → δ i < s.heap.objs.size := fun i hi => by obtain ⟨ob, e, _⟩ := (at'.ob i hi).stor; exact Heap.lt_size e
    let c' : Cx := { c with A := c.A.deeper env, env := env, fs := env :: c.fs }
    have ok' : c'.Ok b.dn := by
      refine ⟨ok.pb, trivial, ok.hh, ?_, ?_, ?_, by rw [eS]; exact hk, by show env.globals = _; rw [← henv]; exact hg, by show env.builtins = _; rw [← henv]; exact hbi, ok.K, ok.T, fun x hx => ?_, fun x y a e1 e2 => ?_⟩
      · show c.A.frames.map (env :: ·) = _; rw [ok.hf]; rfl
      · show c.A.depth + 1 + (b.n - 1) ≤ 900; have := ok.dp; omega
      · show c.A.units + 3 + 8 * (b.n - 1) ≤ 9000; have := ok.un; omega
      · have : fd.scope.names.lookup x = some .cell := by rw [← eS]; exact hx
        have := cellsFrom_some fd.scope.names (s.heap.objs.size + 1) [] (.inl this)
        obtain ⟨a, ha⟩ := Option.isSome_iff_exists.mp this
        exact ⟨a, by show env.cells.lookup x = _; rw [← henv]; exact ha⟩
      · exact name_of_addr I.apart (mem_of_lookup e1) (mem_of_lookup e2)
    have atc : At c' { s with heap := h₁, toks := tk } (bindL env.kindOf (names.zip vs) fun _ => none) (bindC env.kindOf (names.zip vs) fun _ => none) H α δ := by
      refine ⟨at'.toAtH.more hkeep, ns₁, fun a o e => hkeep a o (at'.bs a o e), none_ge _ (by show _ ≤ env.locals; rw [eL]; exact Nat.le_refl _), fun x a e => ⟨I.cell x a e, none_ge a (Nat.le_of_lt (cab x a e))⟩,
        Heap.FunFrames.cons (by rw [eS, hk]; decide) eF (eL ▸ ns₁) (none_ge _ (Nat.le_refl _)) (at'.fr.of_keeps fun b o e _ => ⟨o, hkeep b o e, rfl⟩),
        fun i hi => ?_, fun i hi e he => ?_, fun p hp => let ⟨o, e⟩ := at'.bb p hp; ⟨o, hkeep _ _ e⟩⟩
      · show δ i ≠ env.locals; rw [eL]; exact Nat.ne_of_lt (dlt i hi)
      · rcases List.mem_cons.mp he with rfl | he
        · rw [eF]; intro z; exact Nat.lt_irrefl _ ((Option.some.inj z).symm ▸ dlt i hi)
        · exact at'.df i hi e he
    have st₀ : Step c.bad H.n H.n α δ α δ s { s with heap := h₁, toks := tk } := Step.more ⟨_, _, rfl⟩ hkeep
    have nm' : NmR c' h₁ (bindL env.kindOf (names.zip vs) fun _ => none) (bindC env.kindOf (names.zip vs) fun _ => none) H.n α (bindV names args v0) := by
      intro x a e
      rcases bindV_nm (kind := env.kindOf) (st₀.vrs r) (fun x hx => by unfold Env.kindOf; rw [eS]; exact hkind x hx) (fun x a e => (by cases e)) x a e with z | ⟨k, v, e1, e2⟩
      · exact .inl z
      · obtain ⟨ad, had⟩ := ok'.lk x k
        exact .inr ⟨.inl k, ad, v, had, e1, e2⟩
    have gone : ∀ (s' : Shared) (H' : AH) (α' δ' : Nat → Addr), StepX c' H.n H'.n α δ α' δ' { s with heap := h₁, toks := tk } s' → Step c.bad H.n H'.n α δ α' δ' s s' := fun s' H' α' δ' st =>
      ⟨st₀.sh.trans st.sh, st.gr, fun a o e => st.pr a o (hkeep a o e), fun a o e z => st.kp a o (hkeep a o e) z (by show a ≠ env.locals; rw [eL]; exact Nat.ne_of_lt (Heap.lt_size e)) (fun x y => absurd (Heap.lt_size e) (Nat.not_lt.mpr (Nat.le_of_lt (cab x a y)))),
        fun i hi hn => none_back st₀.pr (st.nw i hi hn), fun p us z t => st.tu p us z (t.keeps hkeep)⟩
    refine h c' _ _ _ α δ _ _ ok' eS ⟨c.fs, rfl⟩ (by show env.frame = some env.locals; rw [eF, eL]) atc nm' (fun fl w s' lm' cm' m' H' α' δ' st at2 nm2 fr qq => ?_) (fun e s' lm' cm' m' H' α' δ' ex at2 nm2 x' => ?_)
    · have stp := gone s' H' α' δ' st
      have atf := at'.step stp at2.toAtH
      cases fr with
      | next => exact q _ _ _ _ _ _ stp atf .none qq
      | ret r => exact q _ _ _ _ _ _ stp atf r qq
    · have oldL : ∀ a o, s.heap.get? a = some o → a ≠ env.locals := fun a o e => by rw [eL]; exact Nat.ne_of_lt (Heap.lt_size e)
      have oldC : ∀ a o, s.heap.get? a = some o → ∀ x, env.cells.lookup x ≠ some a := fun a o e x y => absurd (Heap.lt_size e) (Nat.not_lt.mpr (Nat.le_of_lt (cab x a y)))
      have k1' : ∀ (h' : Heap), s'.heap.UpToSlots h' → ∀ a o, s.heap.get? a = some o → (∀ i, i < H.n → δ i ≠ a) → (∀ vs, o.data ≠ .fields vs) → ∃ sl, h'.get? a = some ⟨o.cls, o.dict, o.data, sl⟩ := fun h' us a o e z f => by
        obtain ⟨sl, z⟩ := ex.k1 a o (hkeep a o e) z (oldL a o e) (oldC a o e) f
        obtain ⟨sl', z'⟩ := us a _ z f
        exact ⟨sl', z'⟩
      rcases ex.fl with ⟨xb, a0, fl, k, d⟩ | ⟨⟨oe, ws, a0, he, hcls, hdat, h0, h1⟩, nn, kk⟩
      · refine wpAny_leaves_onW (outer := c.fs) ok'.hf eF fl fun h' fl' us => xx e _ H' α' δ' ⟨st₀.sh.trans (ex.sh.trans ⟨_, _, rfl⟩), ex.gr, at2.toAtH.slots us fun i hi o e => fl'.1 _ _ (d i hi o e), fun i hi hn => none_back st₀.pr (ex.nw i hi hn), k1' h' us, xb, a0, fl', fun a o e z f => ?_, fun i hi o e => ?_⟩ x'
        · refine k a o (hkeep a o e) z (oldL a o e) (oldC a o e) fun g hg => ?_
          rcases List.mem_cons.mp hg with rfl | hg
          · rw [eF]; intro z; exact Nat.lt_irrefl _ ((Option.some.inj z).symm ▸ Heap.lt_size e)
          · exact f g hg
        · obtain ⟨ob, e', _⟩ := (at2.ob i hi).stor
          have := fl'.1 _ _ (d i hi _ e')
          rw [this] at e; cases e
          exact d i hi _ e'
      · have hin : ∀ f ∈ (env :: c.fs), ∀ a, f.frame = some a → a ∈ e :: (env :: c.fs).filterMap (·.frame) := fun f hf a ha => .tail _ (List.mem_filterMap.mpr ⟨f, hf, ha⟩)
        have dn : ∀ i, i < H'.n → δ' i ∉ e :: (env :: c.fs).filterMap (·.frame) := fun i hi hm => by
          rcases List.mem_cons.mp hm with q | hm
          · obtain ⟨ob, e', stt⟩ := (at2.ob i hi).stor
            rw [q, he] at e'; cases e'; exact stt.fields _ hdat
          · obtain ⟨f, hf, hfr⟩ := List.mem_filterMap.mp hm
            exact at2.df i hi f hf hfr
        refine wpAny_leaving_firstW (base := hideAll s'.heap (e :: (env :: c.fs).filterMap (·.frame))) ok'.hf (funFrames_hide at2.fr hin) eF he (fun _ _ q => of_hideAll _ q) (hideAll_none _ (.head _)) hdat h1 h0 fun h' hL => ?_
        obtain ⟨l1, ⟨_, _, l2⟩, l3, l4⟩ := hL
        rw [hcls] at l3
        have us : s'.heap.UpToSlots h' := fun b o q f => l4 b o q f
        refine xx e _ H' α' δ' ⟨st₀.sh.trans (ex.sh.trans ⟨_, _, rfl⟩), ex.gr, at2.toAtH.slots us fun i hi o e => l1 _ _ (hideAll_get _ e (dn i hi)), fun i hi hn => none_back st₀.pr (ex.nw i hi hn), k1' h' us, _, a0, ⟨l1, hideAll_none _ (.head _), l2, l3⟩, fun a o e' z f => ?_, fun i hi o e' => ?_⟩ x'
        · refine hideAll_get _ (kk a o (hkeep a o e') z (oldL a o e') (oldC a o e')) fun hm => ?_
          rcases List.mem_cons.mp hm with q | hm
          · have := none_back st₀.pr nn; rw [← q, e'] at this; cases this
          · obtain ⟨g, hg, hgf⟩ := List.mem_filterMap.mp hm
            rcases List.mem_cons.mp hg with rfl | hg
            · have hgf : g.frame = some a := hgf
              rw [eF] at hgf; exact Nat.lt_irrefl _ ((Option.some.inj hgf).symm ▸ Heap.lt_size e')
            · exact f g hg hgf
        · obtain ⟨ob, e2, _⟩ := (at2.ob i hi).stor
          have e3 := hideAll_get (e :: (env :: c.fs).filterMap (·.frame)) e2 (dn i hi)
          have := l1 _ _ e3
          rw [this] at e'; cases e'
          exact e3
end
-- B4
section
theorem AtH.but {B : List Addr} {w : World} {base h h' : Heap} {H : AH} {α δ : Nat → Addr} {a : Addr} {o : Obj} (x : AtH B w base h H α δ) (k : Heap.SameBut a h h') (hd : ∀ i, i < H.n → δ i ≠ a) (ho : h.get? a = some o)
    (hp : o.data ≠ .plain) (ht : ∀ xs k, o.data ≠ .seq xs k) : AtH B w base h' H α δ :=
  ⟨fun i hi => (x.ob i hi).mono hi (fun p vs _ t => by
      obtain ⟨o', e, hc, n, d⟩ := t
      have : p ≠ a := by rintro rfl; rw [ho] at e; cases e; exact ht _ _ d
      exact ⟨o', (k.2 _ this).trans e, hc, n, d⟩) (Nat.le_refl _) (fun _ _ => rfl) rfl
      (fun ob e d => ⟨ob.slots, (k.2 _ (by intro q; rw [q, ho] at e; cases e; exact hp d)).trans e⟩) (fun ob e => (k.2 _ (hd i hi)).trans e), x.inj, x.db⟩

section
variable {c : Cx} {s : Shared} {lm cm : PySem.Str → Option Value} {H : AH} {α δ : Nat → Addr} {m : Vars} {x : PySem.Str} {v : Value} {a : AV}
theorem store_nm {b : Bd} {Q : Unit → Shared → Prop} {E : Value → Shared → Prop} (ok : c.Ok b) (hk : c.env.kindOf x = some .local ∨ c.env.kindOf x = some .cell) (at' : At c s lm cm H α δ) (nm : NmR c s.heap lm cm H.n α m) (r : VR c.bad s.heap H.n α v a)
    (h : ∀ s' lm' cm', StepX c H.n H.n α δ α δ s s' → At c s' lm' cm' H α δ → NmR c s'.heap lm' cm' H.n α (up m x a) → Q () s') : wpAny (model pg c.w) c.A (storeName c.env x v) Q E s := by
  have hpp : (c.env.scope.kind == .class || (c.env.scope.kind == .module && c.env.locals != c.env.globals)) = false := by rw [ok.kind]; rfl
  rcases hk with hk | hk
  · refine wpAny_storeName_local hk at'.ns (fun h' hn hs => ?_) hpp
    obtain ⟨o, es, ep, ho, hdt, _⟩ := at'.ns
    obtain ⟨o', es', ep', ho', hdt', _⟩ := id hn
    have pr : ∀ b, (∃ o, s.heap.get? b = some o) → ∃ o, h'.get? b = some o := fun b ⟨o, e⟩ => by
      by_cases q : b = c.env.locals
      · exact ⟨o', q ▸ ho'⟩
      · exact ⟨o, (hs.2 b q).trans e⟩
    have tu : ∀ p vs, IsTup s.heap p vs → IsTup h' p vs := fun p vs t => by
      obtain ⟨ot, e, hc, n, d⟩ := t
      have : p ≠ c.env.locals := by rintro rfl; rw [ho] at e; cases e; rw [hdt] at d; cases d
      exact ⟨ot, (hs.2 _ this).trans e, hc, n, d⟩
    have vr : ∀ v a, VR c.bad s.heap H.n α v a → VR c.bad h' H.n α v a := fun v a r => r.mono (fun p vs _ t => tu p vs t) (Nat.le_refl _) fun _ _ => rfl
    refine h _ _ cm ⟨⟨_, _, rfl⟩, Gr.refl, fun b o e => pr b ⟨o, e⟩, fun b o e _ l _ => (hs.2 b l).trans e, fun _ a b => absurd a (Nat.not_lt.mpr b), fun p vs _ t => tu p vs t⟩
      ⟨at'.toAtH.but hs at'.dl ho (by rw [hdt]; intro z; cases z) (by intro xs k z; rw [hdt] at z; cases z), hn, fun b o e => (hs.2 b (by rintro rfl; rw [at'.bl] at e; cases e)).trans (at'.bs b o e), at'.bl,
        fun y ad e => ⟨(at'.cl y ad e).1.sameBut hs (by rintro rfl; obtain ⟨oc, q, d⟩ := (at'.cl y _ e).1; rw [ho] at q; cases q; rw [hdt] at d; cases d), (at'.cl y ad e).2⟩,
        funFrames_up (fun b o e f => ?_) at'.fr, at'.dl, at'.df, fun p hp => pr p (at'.bb p hp)⟩ fun y u e => ?_
    · by_cases q : b = c.env.locals
      · exact ⟨o', q ▸ ho', by intro vs z; rw [hdt'] at z; cases z⟩
      · exact ⟨o, (hs.2 b q).trans e, f⟩
    · unfold up at e
      by_cases q : y = x
      · subst q
        rw [if_pos rfl] at e; cases e
        exact .inl ⟨hk, v, if_pos rfl, vr _ _ r⟩
      · rw [if_neg q] at e
        rcases nm y u e with ⟨k1, w, k2, k3⟩ | ⟨k1, ad, w, k2, k3, k4⟩
        · exact .inl ⟨k1, w, by rw [if_neg q]; exact k2, vr _ _ k3⟩
        · exact .inr ⟨k1, ad, w, k2, k3, vr _ _ k4⟩
  · obtain ⟨ad, had⟩ := ok.lk x hk
    refine wpAny_storeName_cell ok.kind hk had (at'.cl x ad had).1 fun h' hn hs => ?_
    obtain ⟨o, ho, hdt⟩ := (at'.cl x ad had).1
    obtain ⟨o', ho', hdt'⟩ := id hn
    have hdl : ∀ i, i < H.n → δ i ≠ ad := fun i hi q => by
      obtain ⟨ob, h1, st⟩ := (at'.ob i hi).stor
      exact st.cell h1 (at'.cl x ad had).1 q.symm
    have pr : ∀ b, (∃ o, s.heap.get? b = some o) → ∃ o, h'.get? b = some o := fun b ⟨o, e⟩ => by
      by_cases q : b = ad
      · exact ⟨o', q ▸ ho'⟩
      · exact ⟨o, (hs.2 b q).trans e⟩
    have tu : ∀ p vs, IsTup s.heap p vs → IsTup h' p vs := fun p vs t => by
      obtain ⟨ot, e, hc, n, d⟩ := t
      have : p ≠ ad := by rintro rfl; rw [ho] at e; cases e; rw [hdt] at d; cases d
      exact ⟨ot, (hs.2 _ this).trans e, hc, n, d⟩
    have vr : ∀ v a, VR c.bad s.heap H.n α v a → VR c.bad h' H.n α v a := fun v a r => r.mono (fun p vs _ t => tu p vs t) (Nat.le_refl _) fun _ _ => rfl
    refine h _ lm (fun y => if y = x then some v else cm y) ⟨⟨_, _, rfl⟩, Gr.refl, fun b o e => pr b ⟨o, e⟩, fun b o e _ _ l => (hs.2 b (by rintro rfl; exact l x had)).trans e, fun _ a b => absurd a (Nat.not_lt.mpr b), fun p vs _ t => tu p vs t⟩
      ⟨at'.toAtH.but hs hdl ho (by rw [hdt]; intro z; cases z) (by intro xs k z; rw [hdt] at z; cases z), at'.ns.sameBut hs (by intro q; obtain ⟨on, _, _, e, d, _⟩ := at'.ns; rw [q, ho] at e; cases e; rw [hdt] at d; cases d),
        fun b o e => (hs.2 b (by rintro rfl; rw [(at'.cl x _ had).2] at e; cases e)).trans (at'.bs b o e), at'.bl,
        fun y ad' e => ⟨?_, (at'.cl y ad' e).2⟩,
        funFrames_up (fun b o e f => ?_) at'.fr, at'.dl, at'.df, fun p hp => pr p (at'.bb p hp)⟩ fun y u e => ?_
    · by_cases q : y = x
      · subst q
        rw [had] at e; cases e
        rw [if_pos rfl]; exact hn
      · rw [if_neg q]
        exact (at'.cl y ad' e).1.sameBut hs fun z => q (ok.cd y x ad' e (z ▸ had))
    · by_cases q : b = ad
      · exact ⟨o', q ▸ ho', by intro vs z; rw [hdt'] at z; cases z⟩
      · exact ⟨o, (hs.2 b q).trans e, f⟩
    · unfold up at e
      by_cases q : y = x
      · subst q
        rw [if_pos rfl] at e; cases e
        exact .inr ⟨.inl hk, ad, v, had, if_pos rfl, vr _ _ r⟩
      · rw [if_neg q] at e
        rcases nm y u e with ⟨k1, w, k2, k3⟩ | ⟨k1, ad', w, k2, k3, k4⟩
        · exact .inl ⟨k1, w, k2, vr _ _ k3⟩
        · exact .inr ⟨k1, ad', w, k2, (if_neg q).trans k3, vr _ _ k4⟩
end

/-- a store of a value at a target -/
noncomputable def TA (b : Bd) (sc : Scope) (t : Expr) (a : AV) (m : Vars) (H : AH) (Q : Vars → AH → Prop) (X : Vars → AH → Prop) : Prop :=
  ∀ (c : Cx) (s : Shared) (lm cm : PySem.Str → Option Value) (α δ : Nat → Addr) (v : Value) (Qr : Unit → Shared → Prop) (Er : Value → Shared → Prop),
    c.Ok b → c.env.scope = sc → At c s lm cm H α δ → NmR c s.heap lm cm H.n α m → VR c.bad s.heap H.n α v a →
    (∀ s' lm' cm' m' H' α' δ', StepX c H.n H'.n α δ α' δ' s s' → At c s' lm' cm' H' α' δ' → NmR c s'.heap lm' cm' H'.n α' m' → Q m' H' → Qr () s') →
    (∀ e s' lm' cm' m' H' α' δ', ExcX c s H.n α δ e s' H' α' δ' → At c s' lm' cm' H' α' δ' → NmR c s'.heap lm' cm' H'.n α' m' → X m' H' → Er (.ref e) s') →
    wpAny (model pg c.w) c.A (assign t c.env v) Qr Er s

section
variable {b : Bd} {sc : Scope} {m : Vars} {H : AH}
theorem TA_name {x : PySem.Str} {pos : Pos} {a : AV} {Q : Vars → AH → Prop} {X : Vars → AH → Prop} (hk : sc.names.lookup x = some .local ∨ sc.names.lookup x = some .cell) (h : Q (up m x a) H) : TA b sc (.Name x pos) a m H Q X :=
  fun c _ _ _ _ _ _ _ _ ok hs at' nm r q _ => wpAny_assign_Name (store_nm ok (by rw [kindOf_sc hs]; exact hk) at' nm r fun s' lm' cm' st at2 nm2 => q s' lm' cm' _ _ _ _ st at2 nm2 h)

theorem EX_nil {Q : Fl → Vars → AH → Prop} {X : Vars → AH → Prop} (h : Q .next m H) : EX b sc [] m H Q X :=
  fun _ s _ _ _ _ _ _ _ _ _ _ at' nm q _ => wpAny_execs_nil (q _ _ _ _ _ _ _ _ _ (Step.refl s).x at' nm .next h)
theorem EX_cons {st : Stmt} {rest : List Stmt} {Q : Fl → Vars → AH → Prop} {X : Vars → AH → Prop}
    (h : ES b sc st m H (fun fl m' H' => match fl with | .next => EX b sc rest m' H' Q X | .ret a => Q (.ret a) m' H') X) : EX b sc (st :: rest) m H Q X := by
  intro c s lm cm α δ Qr Er ok hs hf hl at' nm q xx
  refine wpAny_execs_cons (h c s lm cm α δ _ Er ok hs hf hl at' nm (fun f fl s1 lm1 cm1 m1 H1 α1 δ1 st1 at1 nm1 fr z => ?_) xx)
  cases fr with
  | next => exact z c s1 lm1 cm1 α1 δ1 Qr Er ok hs hf hl at1 nm1 (fun f fl s2 lm2 cm2 m2 H2 α2 δ2 st2 at2 nm2 fr2 z2 => q _ _ _ _ _ _ _ _ _ (st1.trans st2) at2 nm2 fr2 z2) fun e s2 lm2 cm2 m2 H2 α2 δ2 ex at2 nm2 x' => xx e s2 lm2 cm2 m2 H2 α2 δ2 (ExcX.after st1 ex) at2 nm2 x'
  | ret r => exact q _ _ _ _ _ _ _ _ _ st1 at1 nm1 (.ret r) z

/-- what an exception out of an expression is to the statement -/
theorem exc_up {c : Cx} {s : Shared} {lm cm : PySem.Str → Option Value} {α δ : Nat → Addr} {X : Vars → AH → Prop} {Er : Value → Shared → Prop} (at' : At c s lm cm H α δ) (nm : NmR c s.heap lm cm H.n α m)
    (xx : ∀ e s' lm' cm' m' H' α' δ', ExcX c s H.n α δ e s' H' α' δ' → At c s' lm' cm' H' α' δ' → NmR c s'.heap lm' cm' H'.n α' m' → X m' H' → Er (.ref e) s') :
    ∀ e s' H' α' δ', Exc c s H.n α δ e s' H' α' δ' → X m H' → Er (.ref e) s' :=
  fun e s' _ α' δ' ex x' => xx e s' lm cm m _ α' δ' ex.x (Exc.at at' ex) (nm.mono fun _ _ r => Exc.vr at' ex r) x'

theorem ES_expr {e : Expr} {pos : Pos} {Q : Fl → Vars → AH → Prop} {X : Vars → AH → Prop} (h : EV b sc e m H (fun _ H' => Q .next m H') (X m))
    (hw : ∀ env, swapsWith e none pos.line env = pure false := by intro _; rfl) : ES b sc (.Expr e pos) m H Q X := by
  intro c s lm cm α δ Qr Er ok hs hf hl at' nm q xx
  refine wpAny_Expr_any (h c s lm cm α δ _ Er ok hs at' nm (fun v a s1 H1 α1 δ1 st1 at1 r z => ?_) (exc_up at' nm xx)) (by unfold interactive; rw [ok.kind]; rfl) (hw _)
  exact q _ _ _ _ _ _ _ _ _ st1.x at1 (nm.mono fun _ _ => st1.vr) .next z
theorem ES_return {e : Expr} {pos : Pos} {Q : Fl → Vars → AH → Prop} {X : Vars → AH → Prop} (h : EV b sc e m H (fun a H' => Q (.ret a) m H') (X m)) : ES b sc (.Return (some e) pos) m H Q X := by
  intro c s lm cm α δ Qr Er ok hs hf hl at' nm q xx
  refine wpAny_Return_some (h c s lm cm α δ _ Er ok hs at' nm (fun v a s1 H1 α1 δ1 st1 at1 r z => ?_) (exc_up at' nm xx))
  exact q _ _ _ _ _ _ _ _ _ st1.x at1 (nm.mono fun _ _ => st1.vr) (.ret r) z
theorem ES_pass {pos : Pos} {Q : Fl → Vars → AH → Prop} {X : Vars → AH → Prop} (h : Q .next m H) : ES b sc (.Pass pos) m H Q X :=
  fun _ s _ _ _ _ _ _ _ _ _ _ at' nm q _ => wpAny_Pass (q _ _ _ _ _ _ _ _ _ (Step.refl s).x at' nm .next h)
theorem ES_if {test : Expr} {body orelse : List Stmt} {pos : Pos} {Q : Fl → Vars → AH → Prop} {X : Vars → AH → Prop}
    (h : ET b sc test m H (fun bb H' => if bb then EX b sc body m H' Q X else EX b sc orelse m H' Q X) (X m)) : ES b sc (.If test body orelse pos) m H Q X := by
  intro c s lm cm α δ Qr Er ok hs hf hl at' nm q xx
  refine wpAny_If (h c s lm cm α δ _ Er ok hs at' nm (fun v a s1 H1 α1 δ1 st1 at1 r z => ?_) (exc_up at' nm xx))
  subst r
  have go : ∀ {ss : List Stmt}, EX b sc ss m H1 Q X → wpAny (model pg c.w) c.A (execs ss c.env) Qr Er s1 := fun z =>
    z c s1 lm cm α1 δ1 Qr Er ok hs hf hl at1 (nm.mono fun _ _ => st1.vr) (fun f fl s2 lm2 cm2 m2 H2 α2 δ2 st2 at2 nm2 fr2 z2 => q _ _ _ _ _ _ _ _ _ (st1.x.trans st2) at2 nm2 fr2 z2) fun e s2 lm2 cm2 m2 H2 α2 δ2 ex at2 nm2 x' => xx e s2 lm2 cm2 m2 H2 α2 δ2 (ExcX.after st1.x ex) at2 nm2 x'
  cases v with
  | true => exact go z
  | false => exact go z

/-- one target -/
theorem ES_assign {t value : Expr} {pos : Pos} {Q : Fl → Vars → AH → Prop} {X : Vars → AH → Prop}
    (h : EV b sc value m H (fun a H' => TA b sc t a m H' (Q .next) X) (X m))
    (hst : ∀ env, (assignEach [t] env).map (·.2) = [assign t env] := by intro _; rfl)
    (hw : ∀ env, env.scope = sc → swapsWithSole [t] value pos.line env = pure false := by intro _ _; rfl) (hsw : ∀ env, env.scope = sc → swappedStores [t] value env = pure none := by intro _ _; rfl) : ES b sc (.Assign [t] value pos) m H Q X := by
  intro c s lm cm α δ Qr Er ok hs hf hl at' nm q xx
  refine wpAny_Assign_stores (h c s lm cm α δ _ Er ok hs at' nm (fun v a s1 H1 α1 δ1 st1 at1 r z => ?_) (exc_up at' nm xx)) (hw _ hs) (hsw _ hs)
  rw [hst]
  exact z c s1 lm cm α1 δ1 v _ Er ok hs at1 (nm.mono fun _ _ => st1.vr) r (fun s2 lm2 cm2 m2 H2 α2 δ2 st2 at2 nm2 z2 => q _ _ _ _ _ _ _ _ _ (st1.x.trans st2) at2 nm2 .next z2) fun e s2 lm2 cm2 m2 H2 α2 δ2 ex at2 nm2 x' => xx e s2 lm2 cm2 m2 H2 α2 δ2 (ExcX.after st1.x ex) at2 nm2 x'

noncomputable abbrev NoX : AH → Prop := fun _ => False
noncomputable abbrev NoXV : Vars → AH → Prop := fun _ _ => False
/-- what a turn of a loop leaves -/
noncomputable def LX (J : Vars → AH → Prop) (Q : Fl → Vars → AH → Prop) : Fl → Vars → AH → Prop := fun fl m H => match fl with | .next => J m H | .ret r => Q (.ret r) m H
inductive WhileP (I : Nat → Vars → AH → Prop) (k : Nat) (m : Vars) (H : AH) : Prop
  | mk (k' : Nat) : k' < k → I k' m H → WhileP I k m H
inductive WS (c : Cx) (s : Shared) (H : AH) (α δ : Nat → Addr) (I : Nat → Vars → AH → Prop) (k : Nat) (s1 : Shared) : Prop
  | mk (lm1 cm1 : PySem.Str → Option Value) (m1 : Vars) (H1 : AH) (α1 δ1 : Nat → Addr) : StepX c H.n H1.n α δ α1 δ1 s s1 → At c s1 lm1 cm1 H1 α1 δ1 → NmR c s1.heap lm1 cm1 H1.n α1 m1 → I k m1 H1 → WS c s H α δ I k s1
theorem ES_while {test : Expr} {body : List Stmt} {pos : Pos} {Q : Fl → Vars → AH → Prop} {X : Vars → AH → Prop} (I : Nat → Vars → AH → Prop) {n : Nat} (h0 : I n m H)
    (turn : ∀ k m H, I k m H → ET b sc test m H (fun bb H' => if bb then EX b sc body m H' (LX (WhileP I k) Q) NoXV else Q .next m H') NoX) :
    ES b sc (.While test body [] pos) m H Q X := by
  intro c s lm cm α δ Qr Er ok hs hf hl at' nm q xx
  refine wpAny_While (codeAny_whileLoop (WS c s H α δ I) ?_ n ⟨lm, cm, m, H, α, δ, (Step.refl s).x, at', nm, h0⟩)
  rintro k s1 ⟨lm1, cm1, m1, H1, α1, δ1, st1, at1, nm1, hI⟩
  refine turn k m1 H1 hI c s1 lm1 cm1 α1 δ1 _ _ ok hs at1 nm1 (fun v a s2 H2 α2 δ2 st2 at2 r z => ?_) fun _ _ _ _ _ _ x' => x'.elim
  subst r
  have nm2 := nm1.mono fun _ _ => st2.vr
  cases v with
  | true =>
    refine z c s2 lm1 cm1 α2 δ2 _ _ ok hs hf hl at2 nm2 (fun f fl s3 lm3 cm3 m3 H3 α3 δ3 st3 at3 nm3 fr z3 => ?_) fun _ _ _ _ _ _ _ _ _ _ _ x' => x'.elim
    have st := (st1.trans st2.x).trans st3
    cases fr with
    | next => obtain ⟨k', hk, hI'⟩ := z3; exact ⟨k', hk, lm3, cm3, m3, H3, α3, δ3, st, at3, nm3, hI'⟩
    | ret r => exact q _ _ _ _ _ _ _ _ _ st at3 nm3 (.ret r) z3
  | false => exact wpAny_execs_nil (q _ _ _ _ _ _ _ _ _ (st1.trans st2.x) at2 nm2 .next z)
end
end
-- B5
section
section
variable {b : Bd} {sc : Scope} {m : Vars} {H : AH} {X : AH → Prop} {Q : AV → AH → Prop}

noncomputable abbrev EVs (b : Bd) (sc : Scope) (pos : Pos) (es : List Expr) (m : Vars) (H : AH) (Q : List AV → AH → Prop) (X : AH → Prop) : Prop := TR b sc (fun env => spliced (backTo pos (starEach es env))) VRs m H Q X
theorem EVs_nil {pos : Pos} {Q : List AV → AH → Prop} (h : Q [] H) : EVs b sc pos [] m H Q X :=
  fun _ s _ _ _ _ _ _ _ _ at' _ q _ => wpAny_items_nil (q _ _ _ _ _ _ (Step.refl s) at' .nil h)
theorem EVs_cons {pos : Pos} {e : Expr} {rest : List Expr} {Q : List AV → AH → Prop} (h : EV b sc e m H (fun a H' => EVs b sc pos rest m H' (fun l H'' => Q (a :: l) H'') X) X)
    (he : ∀ env, starEach (e :: rest) env = (false, eval e env) :: starEach rest env := by intro _; rfl) : EVs b sc pos (e :: rest) m H Q X := by
  intro c s lm cm α δ Qr Er ok hs at' nm q xx
  refine wpAny_items_cons (h c s lm cm α δ _ Er ok hs at' nm (fun v a s1 H1 α1 δ1 st1 at1 r z => ?_) xx) (he _)
  exact z c s1 lm cm α1 δ1 _ Er ok hs at1 (nm.mono fun _ _ => st1.vr) (fun vs l s2 H2 α2 δ2 st2 at2 r2 z2 => q _ _ _ _ _ _ (st1.trans st2) at2 (.cons (st2.vr r) r2) z2) fun e s2 H2 α2 δ2 ex x' => xx e s2 H2 α2 δ2 (ex.after st1) x'

theorem push_step {B : List Addr} {n : Nat} {α δ : Nat → Addr} {s : Shared} {o : Obj} : Step B n n α δ α δ s { s with heap := s.heap.push o } := Step.more ⟨_, _, rfl⟩ fun _ _ e => Heap.get?_push_of_some _ e
theorem push_at {c : Cx} {s : Shared} {lm cm : PySem.Str → Option Value} {α δ : Nat → Addr} {o : Obj} (x : At c s lm cm H α δ) : At c { s with heap := s.heap.push o } lm cm H α δ := x.more fun _ _ e => Heap.get?_push_of_some _ e
theorem size_none (h : Heap) : h.get? h.objs.size = none := none_of_le (Nat.le_refl _)
theorem not_bad {c : Cx} {s : Shared} {lm cm : PySem.Str → Option Value} {α δ : Nat → Addr} (x : At c s lm cm H α δ) : s.heap.objs.size ∉ c.bad := fun h => by
  obtain ⟨o, e⟩ := x.bb _ h; rw [size_none] at e; cases e

theorem EV_tuple {elts : List Expr} {k : Nat} {pos : Pos} (h : EVs b sc pos elts m H (fun l H' => l.length ≤ 1000 ∧ Q (.tup l) H') X) : EV b sc (.Tuple elts k pos) m H Q X := by
  intro c s lm cm α δ Qr Er ok hs at' nm q xx
  refine wpAny_Tuple (h c s lm cm α δ _ Er ok hs at' nm (fun vs l s1 H1 α1 δ1 st1 at1 r z => ⟨?_, ?_⟩) xx)
  · rw [r.length, sizeLine_eq]; have := z.1; omega
  · have st2 : Step c.bad H1.n H1.n α1 δ1 α1 δ1 s1 { s1 with heap := s1.heap.push { cls := .type "tuple", data := .seq vs.toArray } } := push_step
    exact q _ _ _ _ _ _ (st1.trans st2) (push_at at1) (.tup (not_bad at1) ⟨_, Heap.get?_push_size _ rfl, rfl, _, rfl⟩ (st2.vrs r)) z.2

/-- a new list on the heap -/
theorem list_new {c : Cx} {s : Shared} {lm cm : PySem.Str → Option Value} {α δ : Nat → Addr} {vs : List Value} {l : List AV} {k : Nat} (x : At c s lm cm H α δ) (r : VRs c.bad s.heap H.n α vs l) :
    At c { s with heap := s.heap.push { cls := .type "list", data := .seq vs.toArray k } } lm cm (H.alloc (.list l)) (ups α H.n s.heap.objs.size) (ups δ H.n s.heap.objs.size) ∧
      Step c.bad H.n (H.n + 1) α δ (ups α H.n s.heap.objs.size) (ups δ H.n s.heap.objs.size) s { s with heap := s.heap.push { cls := .type "list", data := .seq vs.toArray k } } := by
  have st : Step c.bad H.n H.n α δ α δ s { s with heap := s.heap.push { cls := .type "list", data := .seq vs.toArray k } } := push_step
  refine x.alloc ⟨_, _, rfl⟩ (fun _ _ e => Heap.get?_push_of_some _ e) (size_none _) ⟨by rw [ups_self, ups_self], vs, k, by rw [ups_self]; exact Heap.get?_push_size _ rfl, ?_⟩
  exact (st.vrs r).mono (fun _ _ _ t => t) (Nat.le_succ _) fun i hi => ups_lt hi
theorem vr_new {B : List Addr} {h : Heap} {n : Nat} {α : Nat → Addr} {a : Addr} : VR B h (n + 1) (ups α n a) (.ref a) (.ref n) := by
  have := VR.ref (B := B) (h := h) (n := n + 1) (α := ups α n a) n (Nat.lt_succ_self n)
  rwa [ups_self] at this
theorem EV_list {elts : List Expr} {pos : Pos} (h : EVs b sc pos elts m H (fun l H' => l.length ≤ 1000 ∧ Q (.ref H'.n) (H'.alloc (.list l))) X) : EV b sc (.List elts pos) m H Q X := by
  intro c s lm cm α δ Qr Er ok hs at' nm q xx
  refine wpAny_List (h c s lm cm α δ _ Er ok hs at' nm (fun vs l s1 H1 α1 δ1 st1 at1 r z => ⟨?_, ?_⟩) xx)
  · rw [r.length, sizeLine_eq]; have := z.1; omega
  · obtain ⟨at2, st2⟩ := list_new (k := 0) at1 r
    exact q _ _ _ _ _ _ (st1.trans st2) at2 vr_new z.2

/- tests -/
theorem ET_not {x : Expr} {pos : Pos} {Q : Bool → AH → Prop} (h : ET b sc x m H (fun t H' => Q (!t) H') X) : ET b sc (.UnaryOp .Not x pos) m H Q X := by
  intro c s lm cm α δ Qr Er ok hs at' nm q xx
  exact wpAny_isTrue_Not (h c s lm cm α δ _ Er ok hs at' nm (fun v a s1 H1 α1 δ1 st1 at1 r z => q _ _ _ _ _ _ st1 at1 (by rw [r]) z) xx)
noncomputable abbrev EA (b : Bd) (sc : Scope) (op : BoolOp) (es : List Expr) (m : Vars) (H : AH) (Q : Bool → AH → Prop) (X : AH → Prop) : Prop := TR b sc (fun env => allTrue op es env) (fun _ _ _ _ x y => x = y) m H Q X
theorem EA_and_nil {Q : Bool → AH → Prop} (h : Q true H) : EA b sc .And [] m H Q X := fun _ s _ _ _ _ _ _ _ _ at' _ q _ => wpAny_allTrue_And_nil (q _ _ _ _ _ _ (Step.refl s) at' rfl h)
theorem EA_or_nil {Q : Bool → AH → Prop} (h : Q false H) : EA b sc .Or [] m H Q X := fun _ s _ _ _ _ _ _ _ _ at' _ q _ => wpAny_allTrue_Or_nil (q _ _ _ _ _ _ (Step.refl s) at' rfl h)
theorem EA_and {e : Expr} {es : List Expr} {Q : Bool → AH → Prop} (h : ET b sc e m H (fun t H' => if t then EA b sc .And es m H' Q X else Q false H') X) : EA b sc .And (e :: es) m H Q X := by
  intro c s lm cm α δ Qr Er ok hs at' nm q xx
  refine wpAny_allTrue_And_cons (h c s lm cm α δ _ Er ok hs at' nm (fun v a s1 H1 α1 δ1 st1 at1 r z => ?_) xx)
  subst r
  cases v with
  | true => exact z c s1 lm cm α1 δ1 _ Er ok hs at1 (nm.mono fun _ _ => st1.vr) (fun vs l s2 H2 α2 δ2 st2 at2 r2 z2 => q _ _ _ _ _ _ (st1.trans st2) at2 r2 z2) fun e s2 H2 α2 δ2 ex x' => xx e s2 H2 α2 δ2 (ex.after st1) x'
  | false => exact q _ _ _ _ _ _ st1 at1 rfl z
theorem EA_or {e : Expr} {es : List Expr} {Q : Bool → AH → Prop} (h : ET b sc e m H (fun t H' => if t then Q true H' else EA b sc .Or es m H' Q X) X) : EA b sc .Or (e :: es) m H Q X := by
  intro c s lm cm α δ Qr Er ok hs at' nm q xx
  refine wpAny_allTrue_Or_cons (h c s lm cm α δ _ Er ok hs at' nm (fun v a s1 H1 α1 δ1 st1 at1 r z => ?_) xx)
  subst r
  cases v with
  | false => exact z c s1 lm cm α1 δ1 _ Er ok hs at1 (nm.mono fun _ _ => st1.vr) (fun vs l s2 H2 α2 δ2 st2 at2 r2 z2 => q _ _ _ _ _ _ (st1.trans st2) at2 r2 z2) fun e s2 H2 α2 δ2 ex x' => xx e s2 H2 α2 δ2 (ex.after st1) x'
  | true => exact q _ _ _ _ _ _ st1 at1 rfl z
theorem ET_bool {op : BoolOp} {es : List Expr} {pos : Pos} {Q : Bool → AH → Prop} (h : EA b sc op es m H Q X) : ET b sc (.BoolOp op es pos) m H Q X :=
  fun c s lm cm α δ _ Er ok hs at' nm q xx => wpAny_isTrue_BoolOp (h c s lm cm α δ _ Er ok hs at' nm q xx)
/-- a value that is a bool -/
inductive BoolP (Q : Bool → AH → Prop) (u : AV) (H : AH) : Prop
  | mk (t : Bool) : u = .bool t → Q t H → BoolP Q u H
theorem ET_cmp {l r : Expr} {op : CmpOp} {pos : Pos} {Q : Bool → AH → Prop} (h : EV b sc l m H (fun a H' => EV b sc r m H' (fun a' H'' => OP b (a2 (compareOp op)) VR [a, a'] H'' (BoolP Q) X) X) X) (hm : behindInMarks op r = false := by rfl) :
    ET b sc (.Compare l [op] [r] pos) m H Q X := by
  intro c s lm cm α δ Qr Er ok hs at' nm q xx
  refine wpAny_isTrue_Compare1 (h c s lm cm α δ _ Er ok hs at' nm (fun v a s1 H1 α1 δ1 st1 at1 r1 z => ?_) xx) hm
  refine z c s1 lm cm α1 δ1 _ Er ok hs at1 (nm.mono fun _ _ => st1.vr) (fun v' a' s2 H2 α2 δ2 st2 at2 r2 z2 => ?_) fun e s2 H2 α2 δ2 ex x' => xx e s2 H2 α2 δ2 (ex.after st1) x'
  refine z2 c s2 lm cm α2 δ2 [v, v'] _ Er ok at2 (.cons (st2.vr r1) (.cons r2 .nil)) (fun v3 a3 s3 H3 α3 δ3 st3 at3 r3 z3 => ?_) fun e s3 H3 α3 δ3 ex x' => xx e s3 H3 α3 δ3 (ex.after (st1.trans st2)) x'
  obtain ⟨t, rfl, z3⟩ := z3
  refine r3.invB ?_
  exact wpAny_truthy_bool (q _ _ _ _ _ _ ((st1.trans st2).trans st3) at3 rfl z3)
theorem ET_val {e : Expr} {Q : Bool → AH → Prop} (h : EV b sc e m H (BoolP Q) X) (he : ∀ env whole, isTrue e env whole = (do let v ← whole; standAt e.pos; holding [v] (truthy v)) := by intro _ _; rfl) : ET b sc e m H Q X := by
  intro c s lm cm α δ Qr Er ok hs at' nm q xx
  refine wpAny_isTrue_value (h c s lm cm α δ _ Er ok hs at' nm (fun v a s1 H1 α1 δ1 st1 at1 r1 z => ?_) xx) (he _ _)
  obtain ⟨t, rfl, z⟩ := z
  refine r1.invB ?_
  exact wpAny_truthy_bool (q _ _ _ _ _ _ st1 at1 rfl z)
theorem EV_ifexp {test body orelse : Expr} {pos : Pos} (h : ET b sc test m H (fun t H' => if t then EV b sc body m H' Q X else EV b sc orelse m H' Q X) X) : EV b sc (.IfExp test body orelse pos) m H Q X := by
  intro c s lm cm α δ Qr Er ok hs at' nm q xx
  refine wpAny_IfExp (h c s lm cm α δ _ Er ok hs at' nm (fun v a s1 H1 α1 δ1 st1 at1 r z => ?_) xx)
  subst r
  have go : ∀ {e : Expr}, EV b sc e m H1 Q X → wpAny (model pg c.w) c.A (eval e c.env) Qr Er s1 := fun z =>
    z c s1 lm cm α1 δ1 _ Er ok hs at1 (nm.mono fun _ _ => st1.vr) (fun vs l s2 H2 α2 δ2 st2 at2 r2 z2 => q _ _ _ _ _ _ (st1.trans st2) at2 r2 z2) fun e s2 H2 α2 δ2 ex x' => xx e s2 H2 α2 δ2 (ex.after st1) x'
  cases v with
  | true => exact go z
  | false => exact go z
theorem EV_and2 {x y : Expr} {pos : Pos} (h : EV b sc x m H (BoolP fun t H' => if t then EV b sc y m H' Q X else Q (.bool false) H') X) : EV b sc (.BoolOp .And [x, y] pos) m H Q X := by
  intro c s lm cm α δ Qr Er ok hs at' nm q xx
  refine wpAny_And2 (h c s lm cm α δ _ Er ok hs at' nm (fun v a s1 H1 α1 δ1 st1 at1 r z => ?_) xx)
  obtain ⟨t, rfl, z⟩ := z
  refine r.invB ?_
  refine wpAny_truthy_bool ?_
  cases t with
  | true => exact z c s1 lm cm α1 δ1 _ Er ok hs at1 (nm.mono fun _ _ => st1.vr) (fun vs l s2 H2 α2 δ2 st2 at2 r2 z2 => q _ _ _ _ _ _ (st1.trans st2) at2 r2 z2) fun e s2 H2 α2 δ2 ex x' => xx e s2 H2 α2 δ2 (ex.after st1) x'
  | false => exact q _ _ _ _ _ _ st1 at1 (.bool _) z
theorem EV_un {x : Expr} {op : UnaryOp} {pos : Pos} (h : EV b sc x m H (fun a H' => OP b (a1 (unaryOp op)) VR [a] H' Q X) X) : EV b sc (.UnaryOp op x pos) m H Q X :=
  TR_one h fun _ _ _ _ _ _ z => wpAny_UnaryOp z

/- operations on ints and bools -/
theorem OP_add {i j : Int} (h : Q (.int (i + j)) H) : OP b (a2 (binaryOp .Add)) VR [.int i, .int j] H Q X := by
  intro c s lm cm α δ vs Qr Er ok at' rr q xx
  refine rr.inv2 fun v1 v2 rr1 rr2 => ?_
  refine rr1.invI fun _ => ?_
  refine rr2.invI fun _ => ?_
  show wpAny _ _ (binaryOp .Add _ _) _ _ _
  with_reducible exact PyProof.Rows.add_int (q _ _ _ _ _ _ Step.tk at'.tk (.int _ _) h)
theorem OP_sub {i j : Int} (h : Q (.int (i - j)) H) : OP b (a2 (binaryOp .Sub)) VR [.int i, .int j] H Q X := by
  intro c s lm cm α δ vs Qr Er ok at' rr q xx
  refine rr.inv2 fun v1 v2 rr1 rr2 => ?_
  refine rr1.invI fun _ => ?_
  refine rr2.invI fun _ => ?_
  show wpAny _ _ (binaryOp .Sub _ _) _ _ _
  with_reducible exact PyProof.Rows.sub_int (q _ _ _ _ _ _ Step.tk at'.tk (.int _ _) h)
theorem OP_mul {i j : Int} (hb : i.natAbs < 2 ^ 63) (h : Q (.int (i * j)) H) : OP b (a2 (binaryOp .Mult)) VR [.int i, .int j] H Q X := by
  intro c s lm cm α δ vs Qr Er ok at' rr q xx
  refine rr.inv2 fun v1 v2 rr1 rr2 => ?_
  refine rr1.invI fun _ => ?_
  refine rr2.invI fun _ => ?_
  show wpAny _ _ (binaryOp .Mult _ _) _ _ _
  with_reducible exact PyProof.Rows.mul_int (q _ _ _ _ _ _ Step.tk at'.tk (.int _ _) h) (IntMulOk.of_left (PySem.intBits_le_64 (by omega) (by omega)))
theorem OP_floordiv {i j : Int} (hj : 0 < j) (hb : j < 1073741824) (h : Q (.int (i / j)) H) : OP b (a2 (binaryOp .FloorDiv)) VR [.int i, .int j] H Q X := by
  intro c s lm cm α δ vs Qr Er ok at' rr q xx
  refine rr.inv2 fun v1 v2 rr1 rr2 => ?_
  refine rr1.invI fun _ => ?_
  refine rr2.invI fun _ => ?_
  show wpAny _ _ (binaryOp .FloorDiv _ _) _ _ _
  with_reducible exact PyProof.Rows.floordiv_int (by omega) (q _ _ _ _ _ _ Step.tk at'.tk (.int _ _) (by rw [Int.fdiv_eq_ediv_of_nonneg _ (Int.le_of_lt hj)]; exact h)) (.inl (PyProof.noPylong_small (by omega)))
theorem OP_mod {i j : Int} (hj : 0 < j) (h : Q (.int (i % j)) H) : OP b (a2 (binaryOp .Mod)) VR [.int i, .int j] H Q X := by
  intro c s lm cm α δ vs Qr Er ok at' rr q xx
  refine rr.inv2 fun v1 v2 rr1 rr2 => ?_
  refine rr1.invI fun _ => ?_
  refine rr2.invI fun _ => ?_
  show wpAny _ _ (binaryOp .Mod _ _) _ _ _
  with_reducible exact PyProof.Rows.mod_int (by omega) (q _ _ _ _ _ _ Step.tk at'.tk (.int _ _) (by rw [Int.fmod_eq_emod_of_nonneg _ (Int.le_of_lt hj)]; exact h))
theorem OP_neg {i : Int} (h : Q (.int (-i)) H) : OP b (a1 (unaryOp .USub)) VR [.int i] H Q X := by
  intro c s lm cm α δ vs Qr Er ok at' rr q xx
  refine rr.inv1 fun v1 rr1 => ?_
  refine rr1.invI fun _ => ?_
  show wpAny _ _ (unaryOp .USub _) _ _ _
  with_reducible exact PyProof.Rows.neg_int (q _ _ _ _ _ _ Step.tk at'.tk (.int _ _) h)
theorem OP_eq {i j : Int} (h : Q (.bool (i == j)) H) : OP b (a2 (compareOp .Eq)) VR [.int i, .int j] H Q X := by
  intro c s lm cm α δ vs Qr Er ok at' rr q xx
  refine rr.inv2 fun v1 v2 rr1 rr2 => ?_
  refine rr1.invI fun _ => ?_
  refine rr2.invI fun _ => ?_
  show wpAny _ _ (compareOp .Eq _ _) _ _ _
  with_reducible exact PyProof.Rows.eq_int (q _ _ _ _ _ _ (Step.refl s) at' (.bool _) h)
theorem OP_ne {i j : Int} (h : Q (.bool (i != j)) H) : OP b (a2 (compareOp .NotEq)) VR [.int i, .int j] H Q X := by
  intro c s lm cm α δ vs Qr Er ok at' rr q xx
  refine rr.inv2 fun v1 v2 rr1 rr2 => ?_
  refine rr1.invI fun _ => ?_
  refine rr2.invI fun _ => ?_
  show wpAny _ _ (compareOp .NotEq _ _) _ _ _
  with_reducible exact PyProof.Rows.ne_int (q _ _ _ _ _ _ (Step.refl s) at' (.bool _) h)
theorem OP_lt {i j : Int} (h : Q (.bool (decide (i < j))) H) : OP b (a2 (compareOp .Lt)) VR [.int i, .int j] H Q X := by
  intro c s lm cm α δ vs Qr Er ok at' rr q xx
  refine rr.inv2 fun v1 v2 rr1 rr2 => ?_
  refine rr1.invI fun _ => ?_
  refine rr2.invI fun _ => ?_
  show wpAny _ _ (compareOp .Lt _ _) _ _ _
  with_reducible exact PyProof.Rows.lt_int (q _ _ _ _ _ _ (Step.refl s) at' (.bool _) h)
theorem OP_gt {i j : Int} (h : Q (.bool (decide (j < i))) H) : OP b (a2 (compareOp .Gt)) VR [.int i, .int j] H Q X := by
  intro c s lm cm α δ vs Qr Er ok at' rr q xx
  refine rr.inv2 fun v1 v2 rr1 rr2 => ?_
  refine rr1.invI fun _ => ?_
  refine rr2.invI fun _ => ?_
  show wpAny _ _ (compareOp .Gt _ _) _ _ _
  with_reducible exact PyProof.Rows.gt_int (q _ _ _ _ _ _ (Step.refl s) at' (.bool _) h)
theorem OP_le {i j : Int} (h : Q (.bool (decide (i ≤ j))) H) : OP b (a2 (compareOp .LtE)) VR [.int i, .int j] H Q X := by
  intro c s lm cm α δ vs Qr Er ok at' rr q xx
  refine rr.inv2 fun v1 v2 rr1 rr2 => ?_
  refine rr1.invI fun _ => ?_
  refine rr2.invI fun _ => ?_
  show wpAny _ _ (compareOp .LtE _ _) _ _ _
  with_reducible exact PyProof.Rows.le_int (q _ _ _ _ _ _ (Step.refl s) at' (.bool _) h)
theorem OP_eqb {i j : Bool} (h : Q (.bool (i == j)) H) : OP b (a2 (compareOp .Eq)) VR [.bool i, .bool j] H Q X := by
  intro c s lm cm α δ vs Qr Er ok at' rr q xx
  refine rr.inv2 fun v1 v2 rr1 rr2 => ?_
  refine rr1.invB ?_
  refine rr2.invB ?_
  show wpAny _ _ (compareOp .Eq _ _) _ _ _
  with_reducible exact PyProof.Rows.eq_bool (q _ _ _ _ _ _ (Step.refl s) at' (.bool _) h)
/-- is None -/
noncomputable def AV.isNone : AV → Option Bool
  | .none => some true
  | .gl _ => Option.none
  | _ => some false
theorem isNone_vr {B : List Addr} {h : Heap} {n : Nat} {α : Nat → Addr} {v : Value} {a : AV} {t : Bool} (r : VR B h n α v a) (e : a.isNone = some t) : (v == .none) = t := by
  cases r <;> first | (cases e; rfl) | (cases e; simp) | cases e
theorem OP_is {a : AV} {t : Bool} (e : a.isNone = some t) (h : Q (.bool t) H) : OP b (a2 (compareOp .Is)) VR [a, .none] H Q X := by
  intro c s lm cm α δ vs Qr Er ok at' rr q xx
  refine rr.inv2 fun v1 v2 r rr2 => ?_
  refine rr2.invN ?_
  show wpAny _ _ (compareOp .Is _ _) _ _ _
  with_reducible exact is_none (q _ _ _ _ _ _ (Step.refl s) at' (by rw [isNone_vr r e]; exact .bool _) h)
theorem OP_isnot {a : AV} {t : Bool} (e : a.isNone = some t) (h : Q (.bool (!t)) H) : OP b (a2 (compareOp .IsNot)) VR [a, .none] H Q X := by
  intro c s lm cm α δ vs Qr Er ok at' rr q xx
  refine rr.inv2 fun v1 v2 r rr2 => ?_
  refine rr2.invN ?_
  show wpAny _ _ (compareOp .IsNot _ _) _ _ _
  with_reducible exact isNot_none (q _ _ _ _ _ _ (Step.refl s) at' (by rw [isNone_vr r e]; exact .bool _) h)
end
end
-- B6
section
/-- what is asked of a class whose instances are read and written -/
structure ClsOk (C : Addr) : Prop where
  hdi : ∀ P, hasDictIn (hd.heap_1 P) C = true
  pg : ∀ P, plainGet (hd.heap_1 P) C "" = true
  st : ∀ P, findIn (hd.heap_1 P) (.ref C) "__setattr__" = some (some (.builtin "object.__setattr__"))
  po : ∀ P, plainOver (hd.heap_1 P) C = true
  at_ : ∀ P, (attrs.all fun x => findIn (hd.heap_1 P) (.ref C) x == some none && takerIn (hd.heap_1 P) C x == some none) = true
theorem ClsOk.find {C : Addr} (k : ClsOk C) {x : PySem.Str} (hx : x ∈ attrs) (P) : findIn (hd.heap_1 P) (.ref C) x = some none ∧ takerIn (hd.heap_1 P) C x = some none := by
  obtain ⟨a, b⟩ := Bool.and_eq_true_iff.mp (List.all_eq_true.mp (k.at_ P) x hx)
  exact ⟨beq_iff_eq.mp a, beq_iff_eq.mp b⟩
theorem ok_window : ClsOk 93 := ⟨fun _ => by kernel_rfl, fun _ => by kernel_rfl, fun _ => by kernel_rfl, fun _ => by kernel_rfl, fun _ => by kernel_rfl⟩
theorem ok_tree : ClsOk 164 := ⟨fun _ => by kernel_rfl, fun _ => by kernel_rfl, fun _ => by kernel_rfl, fun _ => by kernel_rfl, fun _ => by kernel_rfl⟩

noncomputable def AV.ng : AV → Bool
  | .gl _ => false
  | _ => true
theorem handed_vr {B : List Addr} {h : Heap} {n : Nat} {α : Nat → Addr} {v : Value} {a : AV} (r : VR B h n α v a) (e : a.ng = true) : handedIn v = true := by
  cases r <;> first | rfl | cases e
theorem lookIn_ns {h : Heap} {d : Addr} {mA : PySem.Str → Option Value} {o : Obj} (x : h.Ns1 d mA) (e : h.get? d = some o) (name : PySem.Str) : lookIn name o = some (mA name) := by
  obtain ⟨o', es, ep, ho, hd, hk, _, hf⟩ := x
  rw [e] at ho; cases ho
  rw [← hf]
  unfold lookIn nsFind findBy
  rw [hd]
  dsimp only
  rw [← Array.find?_toList]
  cases q : es.toList.find? (fun e => e.key.isStr name) with
  | some en => rfl
  | none =>
    dsimp only
    rw [if_neg]
    · rfl
    · rw [Bool.not_eq_true, List.any_eq_false]
      intro e he
      obtain ⟨n, t, z⟩ := hk e (Array.mem_toList_iff.mp he)
      simp [DictEntry.refKey, z]
theorem instAt {c : Cx} {s : Shared} {n : Nat} {α δ : Nat → Addr} {i : Nat} {C : Addr} {d : PySem.Str → Option AV} (x : OR c.bad c.w s.heap n α δ i (.inst C d)) :
    ∃ ox od mA, InstAt s.heap (α i) ox C (some od) ∧ s.heap.get? (δ i) = some od ∧ ox.dict = some (δ i) ∧ s.heap.Ns1 (δ i) mA ∧ Within mA attrs ∧ ox.data = .plain ∧ ∀ x, AR c.bad s.heap n α (mA x) (d x) := by
  obtain ⟨ox, mA, h1, h2, h3, h4, h5, h6, h7⟩ := x
  obtain ⟨od, hod⟩ : ∃ od, s.heap.get? (δ i) = some od := by obtain ⟨o, _, _, e, _⟩ := h5; exact ⟨o, e⟩
  refine ⟨ox, od, mA, ⟨h1, h2, by unfold notCls; rw [h3], ?_⟩, hod, h4, h5, h6, h3, h7⟩
  rw [h4]; exact hod

section
variable {b : Bd} {sc : Scope} {m : Vars} {H : AH} {X : AH → Prop} {Q : AV → AH → Prop}

/-- reading an attribute of an object -/
inductive AttrP (x : PySem.Str) (Q : AV → AH → Prop) (u : AV) (H' : AH) : Prop
  | mk (i : Nat) (C : Addr) (d : PySem.Str → Option AV) (a : AV) : u = .ref i → H'.f i = .inst C d → d x = some a → a.ng = true → ClsOk C → Q a H' → AttrP x Q u H'
theorem EV_attr {e : Expr} {x : PySem.Str} {pos : Pos} (h : EV b sc e m H (AttrP x Q) X) (hx : x ∈ attrs)
    (he : ∀ env, eval (.Attribute e x pos) env = (do
      let o ← eval e env
      standAt pos.atName
      let r ← holding [o] (getAttr o x true)
      letTemporaryGo e o r
      pure r)) : EV b sc (.Attribute e x pos) m H Q X := by
  intro c s lm cm α δ Qr Er ok hs at' nm q xx
  refine Attribute_any_ (h c s lm cm α δ _ Er ok hs at' nm (fun v a s1 H1 α1 δ1 st1 at1 r z => ?_) xx) (he _)
  obtain ⟨i, C, d, a, rfl, hi, hd, hng, k, z⟩ := z
  refine r.invR fun hin => ?_
  have OB := at1.ob i hin
  rw [hi] at OB
  obtain ⟨ox, od, mA, I, hod, _, hns, _, _, hr⟩ := instAt OB
  have hrx := hr x
  rw [hd] at hrx
  generalize hmx : mA x = mx at hrx
  cases hrx with | some hrv =>
  have KI : c.K.In s1.heap := ok.K.keeps at1.bs
  refine get_value KI I (plainGet_of (k.pg _)).1 (findObj_own (k.hdi _) (k.find hx _).1 rfl ((lookIn_ns hns hod x).trans (by rw [hmx]))) (handed_vr hrv hng) ?_
  exact q _ _ _ _ _ _ (st1.trans Step.tk) at1.tk hrv z

theorem EV_attr_name {n : PySem.Str} {np : Pos} {x : PySem.Str} {pos : Pos} (h : EV b sc (.Name n np) m H (AttrP x Q) X) (hx : x ∈ attrs) :
    EV b sc (.Attribute (.Name n np) x pos) m H Q X := EV_attr h hx fun _ => by with_unfolding_all rfl
theorem EV_attr_sub {v sl : Expr} {np : Pos} {x : PySem.Str} {pos : Pos} (h : EV b sc (.Subscript v sl np) m H (AttrP x Q) X) (hx : x ∈ attrs) :
    EV b sc (.Attribute (.Subscript v sl np) x pos) m H Q X := EV_attr h hx fun _ => by with_unfolding_all rfl

/-- storing an attribute of an object -/
noncomputable def upd (d : PySem.Str → Option AV) (x : PySem.Str) (a : AV) : PySem.Str → Option AV := fun y => if y = x then some a else d y
theorem set_inst {c : Cx} {s : Shared} {lm cm : PySem.Str → Option Value} {α δ : Nat → Addr} {i : Nat} {C : Addr} {d : PySem.Str → Option AV} {x : PySem.Str} {v : Value} {a : AV} {Qr : Unit → Shared → Prop} {Er : Value → Shared → Prop} {bb : Bd}
    (ok : c.Ok bb) (at' : At c s lm cm H α δ) (hi : i < H.n) (hf : H.f i = .inst C d) (k : ClsOk C) (hx : x ∈ attrs) (r : VR c.bad s.heap H.n α v a)
    (q : ∀ s', At c s' lm cm (H.set i (.inst C (upd d x a))) α δ → Step c.bad H.n H.n α δ α δ s s' → Qr () s') : wpAny (model pg c.w) c.A (setAttr (.ref (α i)) x v) Qr Er s := by
  have OB := at'.ob i hi
  rw [hf] at OB
  obtain ⟨ox, od, mA, I, hod, hdx, hns, hw, hpl, hr⟩ := instAt OB
  have KI : c.K.In s.heap := ok.K.keeps at'.bs
  refine set_plain KI I (k.st _) (osa_open (s := { s with toks := s.toks + 1 }) KI I (k.po _) (k.find hx _).2 fun bx => ?_)
  obtain ⟨cd, hc, hd'⟩ := PySem.W.any_some (k.hdi c.w.params)
  obtain ⟨hxx, hcl, hnc, hdd⟩ := I
  obtain ⟨oc, odi, oda, osl⟩ := ox
  dsimp only at hcl hdx hpl hdd
  subst hcl hdx hpl
  refine wpAny_bind (wpAny_pure (wpAny_bind (wpAny_bind (wpAny_loadPart hxx (wpAny_bind ((looks_clsIn KI hc) _ _ _ _ (fun _ _ e => e) ?_))))))
  rw [hd']
  refine wpAny_pure (a := some (δ i)) (wpAny_bind (wpAny_pure (wpAny_bind (wpAny_nsSet1 hns fun h' hn' hs => ?_))))
  have hw' : Within (fun y => if y = x then some v else mA y) attrs := fun y hy => by
    by_cases e : y = x
    · exact e ▸ hx
    · exact hw y (by have hy : (if y = x then some v else mA y) ≠ none := hy; rw [if_neg e] at hy; exact hy)
  obtain ⟨oD, esD, epD, hoD, hdD, hcD⟩ := hn'.count hw'
  refine wpAny_bind (wpAny_lookBehind hoD (by rw [hdD]; exact pastItsLine_dict (Nat.le_trans hcD (by rw [sizeLine_eq]; decide))) ?_)
  have tu : ∀ p vs, IsTup s.heap p vs → IsTup h' p vs := fun p vs t => by
    have hp := (OB.stor.choose_spec.2).tup (OB.stor.choose_spec.1) t
    obtain ⟨o, ho, rr⟩ := t
    exact ⟨o, (hs.2 _ hp).trans ho, rr⟩
  have hαδ : α i ≠ δ i := by
    obtain ⟨o, es, ep, e, dd, _⟩ := hns
    intro z; rw [← z, hxx] at e; cases e; cases dd
  obtain ⟨at2, st2⟩ := at'.upd (s' := { s with heap := h', toks := s.toks + 1 + 1 }) (o := .inst C (upd d x a)) hi ⟨_, _, rfl⟩ hs ⟨_, _, (hs.2 _ hαδ).trans hxx, rfl, rfl, rfl, hn', hw', fun y => by
    unfold upd
    by_cases e : y = x
    · rw [if_pos e, if_pos e]; exact .some (r.mono (fun p vs _ => tu p vs) (Nat.le_refl _) fun _ _ => rfl)
    · rw [if_neg e, if_neg e]; exact (hr y).mono (fun p vs _ => tu p vs) (Nat.le_refl _) fun _ _ => rfl⟩
  exact wpAny_pure (q _ at2 st2)

/-- storing one -/
inductive SetP (x : PySem.Str) (a : AV) (Q : AH → Prop) (u : AV) (H' : AH) : Prop
  | mk (i : Nat) (C : Addr) (d : PySem.Str → Option AV) : u = .ref i → H'.f i = .inst C d → ClsOk C → Q (H'.set i (.inst C (upd d x a))) → SetP x a Q u H'
theorem TA_attr {e : Expr} {x : PySem.Str} {pos : Pos} {a : AV} {Q : Vars → AH → Prop} {X : Vars → AH → Prop} (hx : x ∈ attrs)
    (h : EV b sc e m H (SetP x a (Q m)) NoX) : TA b sc (.Attribute e x pos) a m H Q X := by
  intro c s lm cm α δ v Qr Er ok hs at' nm r q xx
  refine kas_attr (h c s lm cm α δ _ Er ok hs at' nm (fun v a s1 H1 α1 δ1 st1 at1 r1 z => ?_) fun _ _ _ _ _ _ x' => x'.elim)
  obtain ⟨i, C, d, rfl, hi, k, z⟩ := z
  refine r1.invR fun hin => ?_
  refine set_inst ok at1 hin hi k hx (st1.vr r) fun s2 at2 st2 => ?_
  have st := st1.trans st2
  exact q s2 lm cm m (H1.set i (.inst C (upd d x a))) α1 δ1 st.x at2 (nm.mono fun _ _ => st.vr) z
end
end
-- B7
section
/-- what a hidden object is: an iterator's record, or a tuple that is turned in place -/
noncomputable def HK (B : List Addr) (b : Addr) (o : Obj) : Prop := (∃ vs, o.data = .fields vs) ∨ (b ∈ B ∧ o.cls = .type "tuple" ∧ ∃ xs k, o.data = .seq xs k)
theorem HK.stor {B : List Addr} {b : Addr} {o : Obj} (x : HK B b o) (y : Stor o) : False := by
  rcases x with ⟨vs, d⟩ | ⟨_, c, xs, k, d⟩
  · exact y.fields vs d
  · rcases y with ⟨c', _⟩ | ⟨es, k', d'⟩
    · rw [c] at c'; simp at c'
    · rw [d] at d'; cases d'
theorem HK.plain {B : List Addr} {b : Addr} {o : Obj} (x : HK B b o) : o.data ≠ .plain := by
  rcases x with ⟨vs, d⟩ | ⟨_, c, xs, k, d⟩ <;> (rw [d]; intro e; cases e)
theorem HK.dict {B : List Addr} {b : Addr} {o : Obj} (x : HK B b o) {es : Array DictEntry} {k : Nat} : o.data ≠ .dict es k := by
  rcases x with ⟨vs, d⟩ | ⟨_, c, xs, k, d⟩ <;> (rw [d]; intro e; cases e)

structure Hid (B wr : List Addr) (h h' : Heap) : Prop where
  kd : ∀ b ∈ wr, ∃ o o', h.get? b = some o ∧ h'.get? b = some o' ∧ HK B b o ∧ ((∀ vs, o.data ≠ .fields vs) → ∀ vs, o'.data ≠ .fields vs)
  kp : ∀ b o, b ∉ wr → h.get? b = some o → h'.get? b = some o
/-- all stands but the hidden ones -/
structure Off (B wr : List Addr) (h h' : Heap) : Prop where
  kd : ∀ b ∈ wr, ∃ o, h.get? b = some o ∧ HK B b o
  kp : ∀ b o, b ∉ wr → h.get? b = some o → h'.get? b = some o
section
variable {B wr : List Addr} {w : World} {h h' base : Heap} {n : Nat} {α δ : Nat → Addr} {H : AH}
theorem Hid.off (x : Hid B wr h h') : Off B wr h h' := ⟨fun b hb => let ⟨o, _, e, _, k, _⟩ := x.kd b hb; ⟨o, e, k⟩, x.kp⟩
theorem Off.tu (x : Off B wr h h') : ∀ p vs, p ∉ B → IsTup h p vs → IsTup h' p vs := fun p vs hp t => by
  obtain ⟨o, e, hc, k, d⟩ := t
  refine ⟨o, x.kp p o (fun q => ?_) e, hc, k, d⟩
  obtain ⟨o1, e1, hk⟩ := x.kd p q
  rw [e] at e1; cases e1
  rcases hk with ⟨vs, d'⟩ | ⟨hb, _⟩
  · rw [d] at d'; cases d'
  · exact hp hb
theorem Off.vr (x : Off B wr h h') {v : Value} {a : AV} (r : VR B h n α v a) : VR B h' n α v a := r.mono x.tu (Nat.le_refl _) fun _ _ => rfl
theorem Off.vrs (x : Off B wr h h') {v : List Value} {a : List AV} (r : VRs B h n α v a) : VRs B h' n α v a := r.mono x.tu (Nat.le_refl _) fun _ _ => rfl
theorem AtH.off (x : AtH B w base h H α δ) (y : Off B wr h h') : AtH B w base h' H α δ :=
  ⟨fun i hi => (x.ob i hi).mono hi y.tu (Nat.le_refl _) (fun _ _ => rfl) rfl
    (fun ob e d => ⟨ob.slots, y.kp _ _ (fun q => by obtain ⟨o1, e1, hk⟩ := y.kd _ q; rw [e] at e1; cases e1; exact hk.plain d) e⟩)
    (fun ob e => y.kp _ _ (fun q => by obtain ⟨o1, e1, hk⟩ := y.kd _ q; obtain ⟨o2, e2, st⟩ := (x.ob i hi).stor; rw [e1] at e2; cases e2; exact hk.stor st) e), x.inj, x.db⟩
theorem Hid.pr (x : Hid B wr h h') : ∀ a o, h.get? a = some o → ∃ o', h'.get? a = some o' := fun a o e => by
  by_cases q : a ∈ wr
  · obtain ⟨_, o', _, e', _⟩ := x.kd a q; exact ⟨o', e'⟩
  · exact ⟨o, x.kp a o q e⟩
theorem Hid.tu (x : Hid B wr h h') : ∀ p vs, p ∉ B → IsTup h p vs → IsTup h' p vs := x.off.tu
theorem Hid.vr (x : Hid B wr h h') {v : Value} {a : AV} (r : VR B h n α v a) : VR B h' n α v a := r.mono x.tu (Nat.le_refl _) fun _ _ => rfl
theorem Hid.vrs (x : Hid B wr h h') {v : List Value} {a : List AV} (r : VRs B h n α v a) : VRs B h' n α v a := r.mono x.tu (Nat.le_refl _) fun _ _ => rfl
theorem AtH.hid (x : AtH B w base h H α δ) (y : Hid B wr h h') : AtH B w base h' H α δ := x.off y.off
theorem At.hid {c : Cx} {s s' : Shared} {lm cm : PySem.Str → Option Value} (x : At c s lm cm H α δ) (y : Hid c.bad wr s.heap s'.heap) (hb : ∀ b ∈ wr, c.base.get? b = none) : At c s' lm cm H α δ := by
  refine ⟨x.toAtH.hid y, ?_, fun b o e => y.kp b o (fun q => by rw [hb b q] at e; cases e) (x.bs b o e), x.bl, fun z a e => ⟨?_, (x.cl z a e).2⟩, funFrames_up (fun b o e f => ?_) x.fr, x.dl, x.df, fun p hp => let ⟨o, e⟩ := x.bb p hp; y.pr p o e⟩
  · obtain ⟨o, es, ep, e, d, r⟩ := x.ns
    exact ⟨o, es, ep, y.kp _ o (fun q => by obtain ⟨o1, _, e1, _, hk, _⟩ := y.kd _ q; rw [e] at e1; cases e1; exact hk.dict d) e, d, r⟩
  · obtain ⟨o, e, d⟩ := (x.cl z a e).1
    exact ⟨o, y.kp _ o (fun q => by
      obtain ⟨o1, _, e1, _, hk, _⟩ := y.kd _ q
      rw [e] at e1; cases e1
      rcases hk with ⟨vs, d'⟩ | ⟨_, c, xs, k, d'⟩ <;> (rw [d] at d'; cases d')) e, d⟩
  · by_cases q : b ∈ wr
    · obtain ⟨o1, o', e1, e', hk, g⟩ := y.kd b q
      rw [e] at e1; cases e1
      exact ⟨o', e', g f⟩
    · exact ⟨o, y.kp b o q e, f⟩
theorem Hid.refl (hk : ∀ b ∈ wr, ∃ o, h.get? b = some o ∧ HK B b o) : Hid B wr h h := ⟨fun b hb => let ⟨o, e, k⟩ := hk b hb; ⟨o, o, e, e, k, fun f => f⟩, fun _ _ _ e => e⟩
theorem Hid.trans {h'' : Heap} (x : Hid B wr h h') (y : Hid B wr h' h'') : Hid B wr h h'' :=
  ⟨fun b hb => let ⟨o, o', e, e', k, g⟩ := x.kd b hb; let ⟨o1, o2, e1, e2, _, g2⟩ := y.kd b hb; ⟨o, o2, e, e2, k, fun f => by rw [e'] at e1; cases e1; exact g2 (g f)⟩,
    fun b o q e => y.kp b o q (x.kp b o q e)⟩
/-- off the hidden ones: an abstract object's cell is none of them -/
theorem hid_off (x : AtH B w base h H α δ) {b : Addr} {o : Obj} (e : h.get? b = some o) (k : HK B b o) : ∀ i, i < H.n → δ i ≠ b := fun i hi q => by
  obtain ⟨ob, e', st⟩ := (x.ob i hi).stor
  rw [q, e] at e'; cases e'; exact k.stor st
end

/-- what an iterator does: its hidden objects, its state at turn i, the items -/
structure Itr (w : World) (A : Around) (base : Heap) (B : List Addr) (tgt : Expr) (I : Addr) (hid wr : List Addr) (St : Nat → Heap → Prop) (k : AH → (Nat → Addr) → List AV → Prop) : Prop where
  sub : ∀ b ∈ wr, b ∈ hid
  bs : ∀ b ∈ hid, base.get? b = none
  frame : ∀ i h h', St i h → (∀ b ∈ hid, ∀ o, h.get? b = some o → h'.get? b = some o) → St i h'
  kind : ∀ i h, St i h → ∀ b ∈ hid, ∃ o, h.get? b = some o ∧ HK B b o
  item : ∀ (H : AH) (α δ : Nat → Addr) (i : Nat) (s : Shared) (l : List AV) (a : AV), AtH B w base s.heap H α δ → (∀ p ∈ B, ∃ o, s.heap.get? p = some o) → k H α l → St i s.heap → l[i]? = some a → ∀ (Q : Option Value → Shared → Prop) (E : Value → Shared → Prop),
    (∀ v s1, Sh s s1 → Hid B wr s.heap s1.heap → (∀ (Q2 : Unit → Shared → Prop) (E2 : Value → Shared → Prop), (∀ s2, Sh s1 s2 → Hid B wr s1.heap s2.heap → St (i + 1) s2.heap → VR B s2.heap H.n α v a → Q2 () s2) →
      wpAny (model pg w) A (letOwnedTupleGo tgt (.ref I) v) Q2 E2 s1) → Q (some v) s1) → wpAny (model pg w) A (pyNext (.ref I)) Q E s
  done : ∀ (H : AH) (α δ : Nat → Addr) (i : Nat) (s : Shared) (l : List AV), AtH B w base s.heap H α δ → k H α l → St i s.heap → l[i]? = none → ∀ (Q : Option Value → Shared → Prop) (E : Value → Shared → Prop),
    (∀ s1, Sh s s1 → Off B wr s.heap s1.heap → Q none s1) → wpAny (model pg w) A (pyNext (.ref I)) Q E s
  self : ∀ (i : Nat) (s : Shared) (Q : Value → Shared → Prop) (E : Value → Shared → Prop), St i s.heap → Q (.ref I) s → wpAny (model pg w) A (pyIter (.ref I)) Q E s

noncomputable abbrev srcList (ax : Addr) (H : AH) (α : Nat → Addr) (l : List AV) : Prop := ∃ j, j < H.n ∧ α j = ax ∧ H.f j = .list l
section
variable {w : World} {A : Around} {base : Heap} {B : List Addr}
theorem src_at {h : Heap} {H : AH} {α δ : Nat → Addr} {ax : Addr} {l : List AV} (x : AtH B w base h H α δ) (y : srcList ax H α l) : ∃ (vs : List Value) (k : Nat), h.get? ax = some { cls := .type "list", data := .seq vs.toArray k } ∧ VRs B h H.n α vs l := by
  obtain ⟨j, hj, e, f⟩ := y
  have := x.ob j hj
  rw [f] at this
  obtain ⟨_, vs, k, e', r⟩ := this
  exact ⟨vs, k, e ▸ e', r⟩
theorem VRs.none {h : Heap} {n : Nat} {α : Nat → Addr} {vs : List Value} {l : List AV} (x : VRs B h n α vs l) {i : Nat} (e : l[i]? = Option.none) : vs[i]? = Option.none := by
  have := x.length
  rw [List.getElem?_eq_none_iff] at e ⊢
  omega
theorem iter_hk {h : Heap} {I ax : Addr} {i : Nat} (x : h.IsListIter I ax i) : ∃ o, h.get? I = some o ∧ HK B I o := let ⟨o, e, _, d⟩ := x; ⟨o, e, .inl ⟨_, d⟩⟩
theorem Itr.list (hh : A.handled = none) {I ax : Addr} (hb : base.get? I = none) {x : PySem.Str} {px : Pos} :
    Itr w A base B (.Name x px) I [I] [I] (fun i h => h.IsListIter I ax i) (srcList ax) where
  sub := fun _ h => h
  bs := fun b h => by rw [List.mem_singleton.mp h]; exact hb
  frame := fun i h h' st k => st.at fun o e => k I (.head _) o e
  kind := fun i h st b hb => by rw [List.mem_singleton.mp hb]; exact iter_hk st
  item := fun H α δ i s l a x _ y st e Q E q => by
    obtain ⟨vs, k, e', r⟩ := src_at x y
    obtain ⟨v, hv, hr⟩ := r.get e
    refine wpAny_pyNext_list_item st ⟨_, e', rfl, k, rfl⟩ (x := v) (by simpa using hv) fun h' hit hs => ?_
    have hid : Hid B [I] s.heap h' := ⟨fun b hb => by
      rw [List.mem_singleton.mp hb]
      obtain ⟨o, e1, k1⟩ := iter_hk (B := B) st
      obtain ⟨o', e2, _, d2⟩ := hit
      refine ⟨o, o', e1, e2, k1, fun f => ?_⟩
      obtain ⟨o3, e3, _, d3⟩ := st
      rw [e1] at e3; cases e3; exact absurd d3 (f _), fun b o hb e => hs.extBut b o (fun q => hb (by simp [q])) e⟩
    refine q v _ ⟨_, _, rfl⟩ hid fun Q2 E2 q2 => ?_
    exact wpAny_pure (q2 _ (Sh.refl _) (Hid.refl fun b hb => by rw [List.mem_singleton.mp hb]; exact iter_hk hit) hit (hid.vr hr))
  done := fun H α δ i s l x y st e Q E q => by
    obtain ⟨vs, k, e', r⟩ := src_at x y
    refine wpAny_pyNext_list_end hh st ⟨_, e', rfl, k, rfl⟩ (by simpa using r.none e) fun h' hs => ?_
    exact q _ ⟨_, _, rfl⟩ ⟨fun b hb => by rw [List.mem_singleton.mp hb]; exact iter_hk st, fun b o hb e => hs b o (fun q => hb (by simp [q])) e⟩
  self := fun _ _ _ _ st hQ => wpAny_pyIter_listiter st hQ

/-- two lists zipped -/
noncomputable def zipA : List AV → List AV → List AV := List.zipWith fun a b => .tup [a, b]
theorem zipA_get {l1 l2 : List AV} {i : Nat} {a : AV} (e : (zipA l1 l2)[i]? = some a) : ∃ u v, l1[i]? = some u ∧ l2[i]? = some v ∧ a = .tup [u, v] := by
  unfold zipA at e
  rw [List.getElem?_zipWith] at e
  cases h1 : l1[i]? <;> cases h2 : l2[i]? <;> rw [h1, h2] at e <;> cases e
  exact ⟨_, _, rfl, rfl, rfl⟩
theorem zipA_none {l1 l2 : List AV} {i : Nat} (e : (zipA l1 l2)[i]? = none) : l1[i]? = none ∨ l2[i]? = none := by
  unfold zipA at e
  rw [List.getElem?_zipWith] at e
  cases h1 : l1[i]? <;> cases h2 : l2[i]? <;> rw [h1, h2] at e <;> first | exact .inl rfl | exact .inr rfl | cases e
structure ZSt (B : List Addr) (z TI TO i1 i2 a1 a2 : Addr) (i : Nat) (h : Heap) : Prop where
  z : IsZip h z TI TO .none
  ti : IsPair h TI (.ref i1) (.ref i2)
  to : ∃ a b, IsPair h TO a b
  i1 : h.IsListIter i1 a1 i
  i2 : h.IsListIter i2 a2 i
theorem hk_ne {B : List Addr} {h : Heap} {a b : Addr} {vs : List Value} {k : Nat} {o : Obj} (e : h.get? a = some { cls := .type "list", data := .seq vs.toArray k }) (e' : h.get? b = some o) (hk : HK B b o) : a ≠ b := by
  rintro rfl
  rw [e] at e'; cases e'
  exact hk.stor (.inl ⟨rfl, _, _, rfl⟩)
theorem Itr.zip (hh : A.handled = none) {z TI TO i1 i2 a1 a2 : Addr} (hne : [z, TI, TO, i1, i2].Nodup) (hB : TO ∈ B) (hB' : TI ∈ B) (hb : ∀ b ∈ [z, TI, TO, i1, i2], base.get? b = none) {x y : PySem.Str} {px py tp : Pos} {k : Nat} :
    Itr w A base B (.Tuple [.Name x px, .Name y py] k tp) z [z, TI, TO, i1, i2] [z, TO, i1, i2] (ZSt B z TI TO i1 i2 a1 a2)
      (fun H α l => ∃ l1 l2, srcList a1 H α l1 ∧ srcList a2 H α l2 ∧ l = zipA l1 l2) := by
  have kinds : ∀ i h, ZSt B z TI TO i1 i2 a1 a2 i h → ∀ b ∈ [z, TI, TO, i1, i2], ∃ o, h.get? b = some o ∧ HK B b o := fun i h st b hb => by
    obtain ⟨a, b', to⟩ := st.to
    simp only [List.mem_cons, List.not_mem_nil, or_false] at hb
    rcases hb with rfl | rfl | rfl | rfl | rfl
    · exact ⟨_, st.z, .inl ⟨_, rfl⟩⟩
    · exact ⟨_, st.ti, .inr ⟨hB', rfl, _, _, rfl⟩⟩
    · exact ⟨_, to, .inr ⟨hB, rfl, _, _, rfl⟩⟩
    · exact iter_hk st.i1
    · exact iter_hk st.i2
  have apart : ∀ {h : Heap} {i : Nat}, ZSt B z TI TO i1 i2 a1 a2 i h → (∃ (vs : List Value) (k : Nat), h.get? a1 = some { cls := .type "list", data := .seq vs.toArray k }) → (∃ (vs : List Value) (k : Nat), h.get? a2 = some { cls := .type "list", data := .seq vs.toArray k }) →
      ZipApart z TI TO i1 i2 a1 a2 := fun st ⟨v1, k1, e1⟩ ⟨v2, k2, e2⟩ => by
    have n1 : ∀ b ∈ [z, TI, TO, i1, i2], a1 ≠ b := fun b hb => let ⟨o, e, k⟩ := kinds _ _ st b hb; hk_ne e1 e k
    have n2 : ∀ b ∈ [z, TI, TO, i1, i2], a2 ≠ b := fun b hb => let ⟨o, e, k⟩ := kinds _ _ st b hb; hk_ne e2 e k
    simp only [List.nodup_cons, List.mem_cons, List.not_mem_nil, or_false, not_or, List.nodup_nil, and_true, not_false_eq_true] at hne
    obtain ⟨⟨h1, h2, h3, h4⟩, ⟨h5, h6, h7⟩, ⟨h8, h9⟩, h10⟩ := hne
    exact ⟨Ne.symm h1, Ne.symm h2, Ne.symm h3, Ne.symm h4, h5, h6, h7, h8, h9, h10, n1 _ (by simp), n1 _ (by simp), n1 _ (by simp), n1 _ (by simp), n2 _ (by simp), n2 _ (by simp), n2 _ (by simp), n2 _ (by simp)⟩
  have wsub : ∀ b ∈ [z, TO, i1, i2], b ∈ [z, TI, TO, i1, i2] := fun b hb => by
    simp only [List.mem_cons, List.not_mem_nil, or_false] at hb ⊢
    rcases hb with h | h | h | h <;> simp [h]
  exact {
    sub := wsub
    bs := hb
    frame := fun i h h' st k => ⟨k _ (by simp) _ st.z, k _ (by simp) _ st.ti, let ⟨a, b, e⟩ := st.to; ⟨a, b, k _ (by simp) _ e⟩, st.i1.at fun o e => k _ (by simp) o e, st.i2.at fun o e => k _ (by simp) o e⟩
    kind := kinds
    item := fun H α δ i s l a x hbb y st e Q E q => by
      obtain ⟨l1, l2, y1, y2, rfl⟩ := y
      obtain ⟨u, v, g1, g2, rfl⟩ := zipA_get e
      obtain ⟨vs1, k1, e1, r1⟩ := src_at x y1
      obtain ⟨vs2, k2, e2, r2⟩ := src_at x y2
      obtain ⟨v1, hv1, hr1⟩ := r1.get g1
      obtain ⟨v2, hv2, hr2⟩ := r2.get g2
      obtain ⟨ta, tb, to⟩ := st.to
      have D := apart st ⟨_, _, e1⟩ ⟨_, _, e2⟩
      refine wpAny_pyNext_zip_item D st.z st.ti to st.i1 st.i2 ⟨_, e1, rfl, _, rfl⟩ ⟨_, e2, rfl, _, rfl⟩ (x := v1) (y := v2) (by simpa using hv1) (by simpa using hv2) fun h' b1 b2 b3 b4 b5 b6 hk => ?_
      have kp : ∀ b o, b ∉ [z, TO, i1, i2] → s.heap.get? b = some o → h'.get? b = some o := fun b o hb e => hk b o (fun q => hb (by simp [q])) (fun q => hb (by simp [q])) (fun q => hb (by simp [q])) (fun q => hb (by simp [q])) e
      have hid : Hid B [z, TO, i1, i2] s.heap h' := ⟨fun b hb => by
        obtain ⟨o, e, k⟩ := kinds _ _ st b (wsub b hb)
        simp only [List.mem_cons, List.not_mem_nil, or_false] at hb
        rcases hb with rfl | rfl | rfl | rfl
        · exact ⟨o, _, e, b1, k, fun f => absurd (by rw [st.z] at e; cases e; rfl) (f _)⟩
        · exact ⟨o, _, e, b2, k, fun f vs d => by cases d⟩
        · obtain ⟨o', e', _, d'⟩ := b3
          obtain ⟨o3, e3, _, d3⟩ := st.i1
          rw [e] at e3; cases e3
          exact ⟨o, o', e, e', k, fun f => absurd d3 (f _)⟩
        · obtain ⟨o', e', _, d'⟩ := b4
          obtain ⟨o3, e3, _, d3⟩ := st.i2
          rw [e] at e3; cases e3
          exact ⟨o, o', e, e', k, fun f => absurd d3 (f _)⟩, kp⟩
      refine q _ _ ⟨_, _, rfl⟩ hid fun Q2 E2 q2 => ?_
      refine wpAny_letOwnedTupleGo_zip b1 fun h2 z2 hs2 => ?_
      have hid2 : Hid B [z, TO, i1, i2] h' h2 := ⟨fun b hb => by
        by_cases qz : b = z
        · subst qz; exact ⟨_, _, b1, z2, .inl ⟨_, rfl⟩, fun f => absurd rfl (f _)⟩
        · obtain ⟨o, o', e, e', k, g⟩ := hid.kd b hb
          simp only [List.mem_cons, List.not_mem_nil, or_false] at hb
          have : HK B b o' := by
            rcases hb with rfl | rfl | rfl | rfl
            · exact absurd rfl qz
            · rw [b2] at e'; cases e'; exact .inr ⟨hB, rfl, _, _, rfl⟩
            · obtain ⟨o3, e3, _, d3⟩ := b3; rw [e'] at e3; cases e3; exact .inl ⟨_, d3⟩
            · obtain ⟨o3, e3, _, d3⟩ := b4; rw [e'] at e3; cases e3; exact .inl ⟨_, d3⟩
          exact ⟨o', o', e', (hs2.2 b qz).trans e', this, fun f => f⟩, fun b o hb e => (hs2.2 b fun q => hb (by simp [q])).trans e⟩
      have Tz : s.heap.objs.size ≠ z := Nat.ne_of_gt (Heap.lt_size st.z)
      refine q2 _ ⟨_, _, rfl⟩ hid2 ⟨z2, (hs2.2 _ D.TIz).trans (kp _ _ ?_ st.ti), ⟨_, _, (hs2.2 _ D.TOz).trans b2⟩, b3.at fun o e => (hs2.2 _ D.i1z).trans e, b4.at fun o e => (hs2.2 _ D.i2z).trans e⟩
        (.tup (fun q => by obtain ⟨o, e⟩ := hbb _ q; exact Nat.lt_irrefl _ (Heap.lt_size e)) ⟨_, (hs2.2 _ Tz).trans b5, rfl, _, rfl⟩ (.cons (hid2.vr (hid.vr hr1)) (.cons (hid2.vr (hid.vr hr2)) .nil)))
      simp only [List.mem_cons, List.not_mem_nil, or_false, not_or]
      exact ⟨D.TIz, D.TITO, D.TIi1, D.TIi2⟩
    done := fun H α δ i s l x y st e Q E q => by
      obtain ⟨l1, l2, y1, y2, rfl⟩ := y
      obtain ⟨vs1, k1, e1, r1⟩ := src_at x y1
      obtain ⟨vs2, k2, e2, r2⟩ := src_at x y2
      obtain ⟨ta, tb, to⟩ := st.to
      have D := apart st ⟨_, _, e1⟩ ⟨_, _, e2⟩
      refine wpAny_pyNext_zip_end hh D st.z st.ti to st.i1 st.i2 ⟨_, e1, rfl, _, rfl⟩ ⟨_, e2, rfl, _, rfl⟩ ((zipA_none e).imp (fun g => by simpa using r1.none g) fun g => by simpa using r2.none g) fun h' hk => ?_
      exact q _ ⟨_, _, rfl⟩ ⟨fun b hb => kinds _ _ st b (wsub b hb), fun b o hb e => hk b o (fun q => hb (by simp [q])) (fun q => hb (by simp [q])) (fun q => hb (by simp [q])) (fun q => hb (by simp [q])) e⟩
    self := fun _ _ _ _ st hQ => wpAny_pyIter_zip st.z hQ }
end
end
-- B8
section
section
variable {w : World} {A : Around} {base : Heap} {B : List Addr}

noncomputable def enumA (l : List AV) : List AV := zipA ((List.range l.length).map fun i => .int (i : Nat)) l
theorem enumA_get {l : List AV} {i : Nat} {a : AV} (e : (enumA l)[i]? = some a) : ∃ v, l[i]? = some v ∧ a = .tup [.int (i : Nat), v] := by
  obtain ⟨u, v, h1, h2, rfl⟩ := zipA_get e
  rw [List.getElem?_map] at h1
  have hi : i < l.length := (List.getElem?_eq_some_iff.mp h2).1
  rw [List.getElem?_range hi] at h1
  cases h1
  exact ⟨v, h2, rfl⟩
theorem enumA_none {l : List AV} {i : Nat} (e : (enumA l)[i]? = none) : l[i]? = none := by
  rcases zipA_none e with h | h
  · rw [List.getElem?_eq_none_iff] at h ⊢; simpa using h
  · exact h

structure ESt (e it ax : Addr) (i : Nat) (h : Heap) : Prop where
  e : ∃ old, IsEnum h e it (i : Int) old
  i : h.IsListIter it ax i
theorem Itr.enum (hh : A.handled = none) {e it ax : Addr} (hne : e ≠ it) (hb : ∀ b ∈ [e, it], base.get? b = none) {x y : PySem.Str} {px py tp : Pos} {k : Nat} :
    Itr w A base B (.Tuple [.Name x px, .Name y py] k tp) e [e, it] [e, it] (ESt e it ax) (fun H α l => ∃ l1, srcList ax H α l1 ∧ l = enumA l1) := by
  have kinds : ∀ i h, ESt e it ax i h → ∀ b ∈ [e, it], ∃ o, h.get? b = some o ∧ HK B b o := fun i h st b hb => by
    obtain ⟨old, he⟩ := st.e
    simp only [List.mem_cons, List.not_mem_nil, or_false] at hb
    rcases hb with rfl | rfl
    · exact ⟨_, he, .inl ⟨_, rfl⟩⟩
    · exact iter_hk st.i
  have fields : ∀ i h, ESt e it ax i h → ∀ b ∈ [e, it], ∃ o vs, h.get? b = some o ∧ o.data = .fields vs := fun i h st b hb => by
    obtain ⟨old, he⟩ := st.e
    simp only [List.mem_cons, List.not_mem_nil, or_false] at hb
    rcases hb with rfl | rfl
    · exact ⟨_, _, he, rfl⟩
    · obtain ⟨o, e, _, d⟩ := st.i; exact ⟨o, _, e, d⟩
  exact {
    sub := fun _ h => h
    bs := hb
    frame := fun i h h' st k => ⟨let ⟨old, he⟩ := st.e; ⟨old, k _ (by simp) _ he⟩, st.i.at fun o e => k _ (by simp) o e⟩
    kind := kinds
    item := fun H α δ i s l a x hbb y st g Q E q => by
      obtain ⟨l1, y1, rfl⟩ := y
      obtain ⟨v, g1, rfl⟩ := enumA_get g
      obtain ⟨vs1, k1, e1, r1⟩ := src_at x y1
      obtain ⟨v1, hv1, hr1⟩ := r1.get g1
      obtain ⟨old, he⟩ := st.e
      refine wpAny_pyNext_enum_item he st.i ⟨_, e1, rfl, _, rfl⟩ (x := v1) (by simpa using hv1) hne fun h' b1 b2 b3 b4 hk => ?_
      have kp : ∀ b o, b ∉ [e, it] → s.heap.get? b = some o → h'.get? b = some o := fun b o hb e => hk b o (fun q => hb (by simp [q])) (fun q => hb (by simp [q])) e
      have hid : Hid B [e, it] s.heap h' := ⟨fun b hb => by
        obtain ⟨o, e, k⟩ := kinds _ _ st b hb
        obtain ⟨o2, vs2, e2, d2⟩ := fields _ _ st b hb
        rw [e] at e2; cases e2
        simp only [List.mem_cons, List.not_mem_nil, or_false] at hb
        rcases hb with rfl | rfl
        · exact ⟨o, _, e, b1, k, fun f => absurd d2 (f _)⟩
        · obtain ⟨o', e', _, d'⟩ := b2
          exact ⟨o, o', e, e', k, fun f => absurd d2 (f _)⟩, kp⟩
      refine q _ _ ⟨_, _, rfl⟩ hid fun Q2 E2 q2 => ?_
      refine wpAny_letOwnedTupleGo_enum b1 fun h2 z2 hs2 => ?_
      have hid2 : Hid B [e, it] h' h2 := ⟨fun b hb => by
        by_cases qz : b = e
        · subst qz; exact ⟨_, _, b1, z2, .inl ⟨_, rfl⟩, fun f => absurd rfl (f _)⟩
        · have : b = it := by simpa [qz] using hb
          subst this
          obtain ⟨o3, e3, _, d3⟩ := b2
          exact ⟨o3, o3, e3, (hs2.2 b qz).trans e3, .inl ⟨_, d3⟩, fun f => f⟩, fun b o hb e => (hs2.2 b fun q => hb (by simp [q])).trans e⟩
      have Tz : s.heap.objs.size ≠ e := Nat.ne_of_gt (Heap.lt_size he)
      refine q2 _ ⟨_, _, rfl⟩ hid2 ⟨⟨_, by rw [show ((i + 1 : Nat) : Int) = (i : Int) + 1 by omega]; exact z2⟩, b2.at fun o e => (hs2.2 _ (Ne.symm hne)).trans e⟩
        (.tup (fun q => by obtain ⟨o, e⟩ := hbb _ q; exact Nat.lt_irrefl _ (Heap.lt_size e)) ⟨_, (hs2.2 _ Tz).trans b3, rfl, _, rfl⟩ (.cons (.int _ _) (.cons (hid2.vr (hid.vr hr1)) .nil)))
    done := fun H α δ i s l x y st g Q E q => by
      obtain ⟨l1, y1, rfl⟩ := y
      obtain ⟨vs1, k1, e1, r1⟩ := src_at x y1
      obtain ⟨old, he⟩ := st.e
      refine wpAny_pyNext_enum_end hh he st.i ⟨_, e1, rfl, _, rfl⟩ (by simpa using r1.none (enumA_none g)) fun h' hk => ?_
      exact q _ ⟨_, _, rfl⟩ ⟨fun b hb => kinds _ _ st b hb, fun b o hb e => hk b o (fun q => hb (by simp [q])) e⟩
    self := fun _ _ _ _ st hQ => let ⟨_, he⟩ := st.e; wpAny_pyIter_enum he hQ }

noncomputable def rangeA (a : Int) (n : Nat) : List AV := (List.range n).map fun i => .int (a + (i : Nat))
theorem rangeA_get {a : Int} {n i : Nat} {v : AV} (e : (rangeA a n)[i]? = some v) : i < n ∧ v = .int (a + (i : Nat)) := by
  unfold rangeA at e
  rw [List.getElem?_map] at e
  by_cases h : i < n
  · rw [List.getElem?_range h] at e; cases e; exact ⟨h, rfl⟩
  · rw [List.getElem?_eq_none (by simpa using h)] at e; cases e
theorem Itr.range (hh : A.handled = none) {I : Addr} (hb : base.get? I = none) {x : PySem.Str} {px : Pos} (a : Int) (n : Nat) :
    Itr w A base B (.Name x px) I [I] [I] (fun i h => i ≤ n ∧ IsRangeIter h I (a + (i : Nat)) ((n : Int) - (i : Nat)) 1) (fun _ _ l => l = rangeA a n) where
  sub := fun _ h => h
  bs := fun b h => by rw [List.mem_singleton.mp h]; exact hb
  frame := fun i h h' st k => ⟨st.1, k I (.head _) _ st.2⟩
  kind := fun i h st b hb => by rw [List.mem_singleton.mp hb]; exact ⟨_, st.2, .inl ⟨_, rfl⟩⟩
  item := fun H α δ i s l v x _ y st e Q E q => by
    subst y
    obtain ⟨hi, rfl⟩ := rangeA_get e
    refine wpAny_pyNext_range_item st.2 (by omega) fun h' hit hs => ?_
    have hid : Hid B [I] s.heap h' := ⟨fun b hb => by
      rw [List.mem_singleton.mp hb]
      exact ⟨_, _, st.2, hit, .inl ⟨_, rfl⟩, fun f => absurd rfl (f _)⟩, fun b o hb e => hs.extBut b o (fun q => hb (by simp [q])) e⟩
    refine q _ _ ⟨_, _, rfl⟩ hid fun Q2 E2 q2 => ?_
    have hit' : IsRangeIter h' I (a + ((i + 1 : Nat) : Int)) ((n : Int) - ((i + 1 : Nat) : Int)) 1 := by
      rw [show a + ((i + 1 : Nat) : Int) = a + (i : Nat) + 1 by omega, show (n : Int) - ((i + 1 : Nat) : Int) = (n : Int) - (i : Nat) - 1 by omega]; exact hit
    exact wpAny_pure (q2 _ (Sh.refl _) (Hid.refl fun b hb => by rw [List.mem_singleton.mp hb]; exact ⟨_, hit', .inl ⟨_, rfl⟩⟩) ⟨hi, hit'⟩ (.int _ _))
  done := fun H α δ i s l x y st e Q E q => by
    subst y
    have : n ≤ i := by
      unfold rangeA at e
      rw [List.getElem?_eq_none_iff] at e; simpa using e
    refine wpAny_pyNext_range_end hh st.2 (by omega) fun h' hs => ?_
    exact q _ ⟨_, _, rfl⟩ ⟨fun b hb => by rw [List.mem_singleton.mp hb]; exact ⟨_, st.2, .inl ⟨_, rfl⟩⟩, fun b o hb e => hs b o (fun q => hb (by simp [q])) e⟩
  self := fun _ _ _ _ st hQ => wpAny_pyIter_rangeiter st.2 hQ
end
end
-- B9
section
section
variable {c : Cx} {s : Shared} {lm cm : PySem.Str → Option Value} {H : AH} {α δ : Nat → Addr} {m : Vars} {x : PySem.Str} {v : Value} {a : AV}
/-- a store of a local name turns the frame's own cell alone -/
theorem store_loc {b : Bd} {Q : Unit → Shared → Prop} {E : Value → Shared → Prop} (ok : c.Ok b) (hk : c.env.kindOf x = some .local) (at' : At c s lm cm H α δ) (nm : NmR c s.heap lm cm H.n α m) (r : VR c.bad s.heap H.n α v a)
    (h : ∀ s' lm', Sh s s' → (∀ b o, b ≠ c.L → s.heap.get? b = some o → s'.heap.get? b = some o) → At c s' lm' cm H α δ → NmR c s'.heap lm' cm H.n α (up m x a) → Q () s') : wpAny (model pg c.w) c.A (storeName c.env x v) Q E s := by
  have hpp : (c.env.scope.kind == .class || (c.env.scope.kind == .module && c.env.locals != c.env.globals)) = false := by rw [ok.kind]; rfl
  refine wpAny_storeName_local hk at'.ns (fun h' hn hs => ?_) hpp
  obtain ⟨o, es, ep, ho, hdt, _⟩ := at'.ns
  obtain ⟨o', es', ep', ho', hdt', _⟩ := id hn
  have pr : ∀ b, (∃ o, s.heap.get? b = some o) → ∃ o, h'.get? b = some o := fun b ⟨o, e⟩ => by
    by_cases q : b = c.env.locals
    · exact ⟨o', q ▸ ho'⟩
    · exact ⟨o, (hs.2 b q).trans e⟩
  have tu : ∀ p vs, IsTup s.heap p vs → IsTup h' p vs := fun p vs t => by
    obtain ⟨ot, e, hc, n, d⟩ := t
    have : p ≠ c.env.locals := by rintro rfl; rw [ho] at e; cases e; rw [hdt] at d; cases d
    exact ⟨ot, (hs.2 _ this).trans e, hc, n, d⟩
  have vr : ∀ v a, VR c.bad s.heap H.n α v a → VR c.bad h' H.n α v a := fun v a r => r.mono (fun p vs _ t => tu p vs t) (Nat.le_refl _) fun _ _ => rfl
  refine h _ _ ⟨_, _, rfl⟩ (fun b o l e => (hs.2 b l).trans e)
    ⟨at'.toAtH.but hs at'.dl ho (by rw [hdt]; intro z; cases z) (by intro xs k z; rw [hdt] at z; cases z), hn, fun b o e => (hs.2 b (by rintro rfl; rw [at'.bl] at e; cases e)).trans (at'.bs b o e), at'.bl,
      fun y ad e => ⟨(at'.cl y ad e).1.sameBut hs (by rintro rfl; obtain ⟨oc, q, d⟩ := (at'.cl y _ e).1; rw [ho] at q; cases q; rw [hdt] at d; cases d), (at'.cl y ad e).2⟩,
      funFrames_up (fun b o e f => ?_) at'.fr, at'.dl, at'.df, fun p hp => pr p (at'.bb p hp)⟩ fun y u e => ?_
  · by_cases q : b = c.env.locals
    · exact ⟨o', q ▸ ho', by intro vs z; rw [hdt'] at z; cases z⟩
    · exact ⟨o, (hs.2 b q).trans e, f⟩
  · unfold up at e
    by_cases q : y = x
    · subst q
      rw [if_pos rfl] at e; cases e
      exact .inl ⟨hk, v, if_pos rfl, vr _ _ r⟩
    · rw [if_neg q] at e
      rcases nm y u e with ⟨k1, w, k2, k3⟩ | ⟨k1, ad, w, k2, k3, k4⟩
      · exact .inl ⟨k1, w, by rw [if_neg q]; exact k2, vr _ _ k3⟩
      · exact .inr ⟨k1, ad, w, k2, k3, vr _ _ k4⟩
end

/-- targets one after another -/
noncomputable def TAs (b : Bd) (sc : Scope) (ts : List Expr) (as : List AV) (m : Vars) (H : AH) (Q : Vars → AH → Prop) (X : Vars → AH → Prop) : Prop :=
  ∀ (c : Cx) (s : Shared) (lm cm : PySem.Str → Option Value) (α δ : Nat → Addr) (vs : List Value) (Qr : Unit → Shared → Prop) (Er : Value → Shared → Prop),
    c.Ok b → c.env.scope = sc → At c s lm cm H α δ → NmR c s.heap lm cm H.n α m → VRs c.bad s.heap H.n α vs as →
    (∀ s' lm' cm' m' H' α' δ', StepX c H.n H'.n α δ α' δ' s s' → At c s' lm' cm' H' α' δ' → NmR c s'.heap lm' cm' H'.n α' m' → Q m' H' → Qr () s') →
    (∀ e s' lm' cm' m' H' α' δ', ExcX c s H.n α δ e s' H' α' δ' → At c s' lm' cm' H' α' δ' → NmR c s'.heap lm' cm' H'.n α' m' → X m' H' → Er (.ref e) s') →
    wpAny (model pg c.w) c.A (assignInOrder ((assignEach ts c.env).map (·.2)) vs) Qr Er s
theorem StepX.vrs {c : Cx} {n n' : Nat} {α δ α' δ' : Nat → Addr} {s s' : Shared} (x : StepX c n n' α δ α' δ' s s') {v : List Value} {a : List AV} (r : VRs c.bad s.heap n α v a) : VRs c.bad s'.heap n' α' v a := r.mono x.tu x.gr.le x.gr.a
section
variable {b : Bd} {sc : Scope} {m : Vars} {H : AH} {Q : Vars → AH → Prop} {X : Vars → AH → Prop}
theorem TAs_nil (h : Q m H) : TAs b sc [] [] m H Q X :=
  fun _ s _ _ _ _ _ _ _ _ _ at' nm _ q _ => assignInOrder_nil (q _ _ _ _ _ _ _ (Step.refl s).x at' nm h)
theorem TAs_cons {t : Expr} {ts : List Expr} {a : AV} {as : List AV} (h : TA b sc t a m H (fun m' H' => TAs b sc ts as m' H' Q X) X)
    (he : ∀ env, assignEach (t :: ts) env = (false, assign t env) :: assignEach ts env := by intro _; rfl) : TAs b sc (t :: ts) (a :: as) m H Q X := by
  rintro c s lm cm α δ vs Qr Er ok hs at' nm (_ | ⟨r, rs⟩) q xx
  rw [he]
  refine assignInOrder_cons (h c s lm cm α δ _ _ Er ok hs at' nm r (fun s1 lm1 cm1 m1 H1 α1 δ1 st1 at1 nm1 z => ?_) xx)
  exact z c s1 lm1 cm1 α1 δ1 _ Qr Er ok hs at1 nm1 (st1.vrs rs) (fun s2 lm2 cm2 m2 H2 α2 δ2 st2 at2 nm2 z2 => q _ _ _ _ _ _ _ (st1.trans st2) at2 nm2 z2) fun e s2 lm2 cm2 m2 H2 α2 δ2 ex at2 nm2 x' => xx e s2 lm2 cm2 m2 H2 α2 δ2 (ExcX.after st1 ex) at2 nm2 x'
theorem vrs_toList {B : List Addr} {h : Heap} {n : Nat} {α : Nat → Addr} {vs : List Value} {l : List AV} (x : VRs B h n α vs l) : VRs B h n α vs.toArray.toList l := by simpa using x
theorem TA_tuple {ts : List Expr} {k : Nat} {pos : Pos} {as : List AV} (h : TAs b sc ts as m H Q X) (hn : as.length = ts.length)
    (hl : ∀ env, (assignEach ts env).length = ts.length := by intro _; rfl) (hst : ∀ env, (assignEach ts env).findIdx? (·.1) = none := by intro _; rfl) : TA b sc (.Tuple ts k pos) (.tup as) m H Q X := by
  intro c s lm cm α δ v Qr Er ok hs at' nm r q xx
  refine r.invT fun _ _ hp t rs => ?_
  refine assign_Tuple_tuple ok.hh t (by rw [hl, List.size_toArray, rs.length, hn]) (hst _) fun h1 he => ?_
  have hk : ∀ b o, s.heap.get? b = some o → h1.get? b = some o := fun b o x => he b o (Nat.ne_of_lt (Heap.lt_size x)) x
  have st : Step c.bad H.n H.n α δ α δ s { s with heap := h1 } := Step.more ⟨_, _, rfl⟩ hk
  have at1 : At c { s with heap := h1 } lm cm H α δ := at'.more hk
  exact h c { s with heap := h1 } lm cm α δ _ Qr Er ok hs at1 (nm.mono fun _ _ => st.vr) (vrs_toList (st.vrs rs)) (fun s2 lm2 cm2 m2 H2 α2 δ2 st2 at2 nm2 z2 => q _ _ _ _ _ _ _ (st.x.trans st2) at2 nm2 z2)
    fun e s2 lm2 cm2 m2 H2 α2 δ2 ex at2 nm2 x' => xx e s2 lm2 cm2 m2 H2 α2 δ2 (ExcX.after st.x ex) at2 nm2 x'
end
noncomputable def bind2 (x y : PySem.Str) (a : AV) (m : Vars) : Vars := match a with
  | .tup [u, w] => up (up m x u) y w
  | _ => m
/-- the same, the item being a pair -/
noncomputable def TBp (sc : Scope) (P : AV → Prop) (tgt : Expr) (f : AV → Vars → Vars) : Prop :=
  ∀ (b : Bd) (c : Cx) (s : Shared) (lm cm : PySem.Str → Option Value) (m : Vars) (H : AH) (α δ : Nat → Addr) (v : Value) (a : AV) (Qr : Unit → Shared → Prop) (Er : Value → Shared → Prop),
    c.Ok b → c.env.scope = sc → At c s lm cm H α δ → NmR c s.heap lm cm H.n α m → VR c.bad s.heap H.n α v a → P a →
    (∀ s' lm', Sh s s' → (∀ b o, b ≠ c.L → s.heap.get? b = some o → s'.heap.get? b = some o) → At c s' lm' cm H α δ → NmR c s'.heap lm' cm H.n α (f a m) → Qr () s') → wpAny (model pg c.w) c.A (assign tgt c.env v) Qr Er s
theorem TBp_name {sc : Scope} {P : AV → Prop} {x : PySem.Str} {px : Pos} (hk : sc.names.lookup x = some .local) : TBp sc P (.Name x px) (fun a m => up m x a) :=
  fun _ _ _ _ _ _ _ _ _ _ _ _ _ ok hs at' nm r _ q => wpAny_assign_Name (store_loc ok (by rw [kindOf_sc hs]; exact hk) at' nm r q)
noncomputable abbrev isPair (a : AV) : Prop := ∃ u w, a = .tup [u, w]
theorem TBp_pair {sc : Scope} {x y : PySem.Str} {px py tp : Pos} {k : Nat} (hx : sc.names.lookup x = some .local) (hy : sc.names.lookup y = some .local) : TBp sc isPair (.Tuple [.Name x px, .Name y py] k tp) (bind2 x y) := by
  rintro b c s lm cm m H α δ v _ Qr Er ok hs at' nm r ⟨u, w, rfl⟩ q
  refine r.invT fun _ _ hp t rs => ?_
  rcases rs with _ | ⟨r1, _ | ⟨r2, ⟨⟩⟩⟩
  refine assign_Tuple_tuple ok.hh t rfl rfl fun h1 he => ?_
  have hk : ∀ b o, s.heap.get? b = some o → h1.get? b = some o := fun b o x => he b o (Nat.ne_of_lt (Heap.lt_size x)) x
  have st : Step c.bad H.n H.n α δ α δ s { s with heap := h1 } := Step.more ⟨_, _, rfl⟩ hk
  have at1 : At c { s with heap := h1 } lm cm H α δ := at'.more hk
  refine assignInOrder_cons (wpAny_assign_Name (store_loc ok (by rw [kindOf_sc hs]; exact hx) at1 (nm.mono fun _ _ => st.vr) (st.vr r1) fun s2 lm2 sh2 kp2 at2 nm2 => ?_))
  have off2 : VR c.bad s2.heap H.n α _ w := (st.vr r2).mono (fun p vs hp t => by
    obtain ⟨o, e, hc, n, d⟩ := t
    refine ⟨o, kp2 p o (fun q => ?_) e, hc, n, d⟩
    obtain ⟨o', _, _, e', d', _⟩ := at1.ns
    rw [← q, e] at e'; cases e'; rw [d] at d'; cases d') (Nat.le_refl _) fun _ _ => rfl
  refine assignInOrder_cons (wpAny_assign_Name (store_loc ok (by rw [kindOf_sc hs]; exact hy) at2 nm2 off2 fun s3 lm3 sh3 kp3 at3 nm3 => ?_))
  exact assignInOrder_nil (q s3 lm3 (st.sh.trans (sh2.trans sh3)) (fun b o l e => kp3 b o l (kp2 b o l (hk b o e))) at3 nm3)

section
variable {b : Bd} {sc : Scope} {m : Vars} {H : AH} {X : AH → Prop} {Q : AV → AH → Prop}
/-- what may be called -/
inductive CW : Value → Prop
  | k {f : Value} (h : ∀ P, keepIn (hd.heap_1 P) f = true) : CW f
  | bi (id : String) : CW (.builtin id)
  | ty (T : String) : CW (.type T)
/-- f(x, ..) -/
theorem EV_call {func e : Expr} {rest : List Expr} {pos : Pos}
    (h : EV b sc func m H (fun f H1 => ∃ fv, f = .gl fv ∧ CW fv ∧ EVs b sc pos (e :: rest) m H1 (fun l H2 => CL b fv l H2 Q X) X) X)
    (he : ∀ env, eval (.Call func (e :: rest) [] pos) env = (do callWith pos (← eval func env) [] (backTo pos (starEach (e :: rest) env)) (backToKw pos (keywordEach [] env))) := by intro _; rfl)
    (hs : ∀ env, starEach (e :: rest) env = (false, eval e env) :: starEach rest env := by intro _; rfl) (hplain : ∀ env, (backTo pos (starEach rest env)).any (·.1) = false := by intro _; rfl) :
    EV b sc (.Call func (e :: rest) [] pos) m H Q X := by
  intro c s lm cm α δ Qr Er ok hsc at' nm q xx
  refine Call_ (h c s lm cm α δ _ Er ok hsc at' nm (fun v a s1 H1 α1 δ1 st1 at1 r z => ?_) xx) (he _)
  obtain ⟨fv, rfl, cw, z⟩ := z
  refine r.invG ?_
  have go : wpAny (model pg c.w) c.A (spliced (backTo pos (starEach (e :: rest) c.env))) (fun vs s2 => c.K.In s2.heap ∧ wpAny (model pg c.w) c.A (call fv vs) Qr Er s2) Er s1 := by
    refine z c s1 lm cm α1 δ1 _ Er ok hsc at1 (nm.mono fun _ _ => st1.vr) (fun vs l s2 H2 α2 δ2 st2 at2 r2 z2 => ⟨ok.K.keeps at2.bs, ?_⟩) fun e s2 H2 α2 δ2 ex x' => xx e s2 H2 α2 δ2 (ex.after st1) x'
    exact z2 c s2 lm cm α2 δ2 vs Qr Er ok at2 r2 (fun v a s3 H3 α3 δ3 st3 at3 r3 z3 => q v a s3 H3 α3 δ3 ((st1.trans st2).trans st3) at3 r3 z3) fun e s3 H3 α3 δ3 ex x' => xx e s3 H3 α3 δ3 (ex.after (st1.trans st2)) x'
  cases cw with
  | k hk => exact callWith_K (first := []) (ok.K.keeps at1.bs) (hk c.w.params) go (hs _) (hplain _)
  | bi id => exact PyProof.Rows.callWith_builtin1 (wpAny_mono go (fun _ _ x => x.2) fun _ _ x => x) (hs _) (hplain _)
  | ty T => exact PyProof.Rows.callWith_type1 (wpAny_mono go (fun _ _ x => x.2) fun _ _ x => x) (hs _) (hplain _)

/-- an iterable and its iterator -/
noncomputable def IT (b : Bd) (sc : Scope) (tgt it : Expr) (m : Vars) (H : AH) (Q : List AV → (AH → Prop) → AH → Prop) (X : AH → Prop) : Prop :=
  ∀ (c : Cx) (s : Shared) (lm cm : PySem.Str → Option Value) (α δ : Nat → Addr) (Qr : Value → Shared → Prop) (Er : Value → Shared → Prop), c.Ok b → c.env.scope = sc → At c s lm cm H α δ → NmR c s.heap lm cm H.n α m →
    (∀ I hid wr St k B' l src s' H' α' δ', Step c.bad H.n H'.n α δ α' δ' s s' → (∀ p ∈ c.bad, p ∈ B') → (∀ p ∈ B', p ∉ c.bad → s.heap.get? p = none) → At { c with bad := B' } s' lm cm H' α' δ' → Itr c.w c.A c.base B' tgt I hid wr St k → St 0 s'.heap →
      (∀ b ∈ hid, s.heap.get? b = none) → (∀ H2 α2, src H2 → H'.n ≤ H2.n → (∀ i, i < H'.n → α2 i = α' i) → k H2 α2 l) → src H' → Q l src H' → Qr (.ref I) s') →
    (∀ e s' H' α' δ', Exc c s H.n α δ e s' H' α' δ' → X H' → Er (.ref e) s') →
    wpAny (model pg c.w) c.A (eval it c.env) (fun x s1 => wpAny (model pg c.w) c.A (pyIter x) Qr Er s1) Er s

theorem base_none {c : Cx} {s : Shared} {lm cm : PySem.Str → Option Value} {H : AH} {α δ : Nat → Addr} (x : At c s lm cm H α δ) {a : Addr} (e : s.heap.get? a = none) : c.base.get? a = none := by
  cases q : c.base.get? a with
  | none => rfl
  | some o => have := x.bs _ _ q; rw [e] at this; cases this
theorem IT_list {x : PySem.Str} {px : Pos} {it : Expr} {Q : List AV → (AH → Prop) → AH → Prop}
    (h : EV b sc it m H (fun a H' => ∃ j l, a = .ref j ∧ H'.f j = .list l ∧ Q l (fun H2 => H2.f j = .list l) H') X) : IT b sc (.Name x px) it m H Q X := by
  intro c s lm cm α δ Qr Er ok hsc at' nm q xx
  refine h c s lm cm α δ _ Er ok hsc at' nm (fun v a s1 H1 α1 δ1 st1 at1 r z => ?_) xx
  obtain ⟨j, l, rfl, hf, z⟩ := z
  refine r.invR fun hj => ?_
  obtain ⟨vs, k, e1, r1⟩ := src_at (ax := α1 j) at1.toAtH ⟨j, hj, rfl, hf⟩
  refine wpAny_pyIter_list ⟨_, e1, rfl, _, rfl⟩ ?_
  have nn : s.heap.get? s1.heap.objs.size = none := none_back st1.pr (size_none _)
  exact q _ _ _ _ _ c.bad l (fun H2 => H2.f j = .list l) _ H1 α1 δ1 (st1.trans push_step) (fun _ h => h) (fun _ a b => absurd a b) (push_at at1)
    (Itr.list ok.hh (base_none at' nn)) ⟨_, Heap.get?_push_size _ rfl, rfl, rfl⟩ (fun b hb => by rw [List.mem_singleton.mp hb]; exact nn)
    (fun H2 α2 e le ea => ⟨j, Nat.lt_of_lt_of_le hj le, ea j hj, e⟩) hf z

theorem IT_ofCall {tgt func e : Expr} {rest : List Expr} {pos : Pos} {fv : Value} {Q : List AV → (AH → Prop) → AH → Prop}
    (h : EV b sc func m H (fun f H1 => f = .gl fv ∧ EVs b sc pos (e :: rest) m H1 (fun l H2 => ∀ (c : Cx) (s : Shared) (lm cm : PySem.Str → Option Value) (α δ : Nat → Addr) (vs : List Value) (Qr : Value → Shared → Prop) (Er : Value → Shared → Prop), c.Ok b → At c s lm cm H2 α δ → VRs c.bad s.heap H2.n α vs l →
      (∀ I hid wr St k B' l src s' H' α' δ', Step c.bad H2.n H'.n α δ α' δ' s s' → (∀ p ∈ c.bad, p ∈ B') → (∀ p ∈ B', p ∉ c.bad → s.heap.get? p = none) → At { c with bad := B' } s' lm cm H' α' δ' → Itr c.w c.A c.base B' tgt I hid wr St k → St 0 s'.heap →
        (∀ b ∈ hid, s.heap.get? b = none) → (∀ H2 α2, src H2 → H'.n ≤ H2.n → (∀ i, i < H'.n → α2 i = α' i) → k H2 α2 l) → src H' → Q l src H' → Qr (.ref I) s') →
      wpAny (model pg c.w) c.A (call fv vs) (fun x s1 => wpAny (model pg c.w) c.A (pyIter x) Qr Er s1) Er s) X) X) (cw : CW fv)
    (he : ∀ env, eval (.Call func (e :: rest) [] pos) env = (do callWith pos (← eval func env) [] (backTo pos (starEach (e :: rest) env)) (backToKw pos (keywordEach [] env))) := by intro _; rfl)
    (hs : ∀ env, starEach (e :: rest) env = (false, eval e env) :: starEach rest env := by intro _; rfl) (hplain : ∀ env, (backTo pos (starEach rest env)).any (·.1) = false := by intro _; rfl) :
    IT b sc tgt (.Call func (e :: rest) [] pos) m H Q X := by
  intro c s lm cm α δ Qr Er ok hsc at' nm q xx
  refine Call_ (h c s lm cm α δ _ Er ok hsc at' nm (fun v a s1 H1 α1 δ1 st1 at1 r z => ?_) xx) (he _)
  obtain ⟨rfl, z⟩ := z
  refine r.invG ?_
  have go : wpAny (model pg c.w) c.A (spliced (backTo pos (starEach (e :: rest) c.env))) (fun vs s2 => c.K.In s2.heap ∧ wpAny (model pg c.w) c.A (call fv vs) (fun x s1 => wpAny (model pg c.w) c.A (pyIter x) Qr Er s1) Er s2) Er s1 := by
    refine z c s1 lm cm α1 δ1 _ Er ok hsc at1 (nm.mono fun _ _ => st1.vr) (fun vs l s2 H2 α2 δ2 st2 at2 r2 z2 => ⟨ok.K.keeps at2.bs, ?_⟩) fun e s2 H2 α2 δ2 ex x' => xx e s2 H2 α2 δ2 (ex.after st1) x'
    have st := st1.trans st2
    exact z2 c s2 lm cm α2 δ2 vs Qr Er ok at2 r2 fun I hid wr St k B' l src s3 H3 α3 δ3 st3 a1 a2 a3 a4 a5 a6 a7 a8 a9 =>
      q I hid wr St k B' l src s3 H3 α3 δ3 (st.trans st3) a1 (fun p h1 h2 => none_back st.pr (a2 p h1 h2)) a3 a4 a5 (fun b hb => none_back st.pr (a6 b hb)) a7 a8 a9
  cases cw with
  | k hk => exact callWith_K (first := []) (ok.K.keeps at1.bs) (hk c.w.params) go (hs _) (hplain _)
  | bi id => exact PyProof.Rows.callWith_builtin1 (wpAny_mono go (fun _ _ x => x.2) fun _ _ x => x) (hs _) (hplain _)
  | ty T => exact PyProof.Rows.callWith_type1 (wpAny_mono go (fun _ _ x => x.2) fun _ _ x => x) (hs _) (hplain _)

theorem zip_bad {c : Cx} {s : Shared} {lm cm : PySem.Str → Option Value} {α δ : Nat → Addr} {h' : Heap} {ns : List Addr} (x : At c s lm cm H α δ) (hk : ∀ b o, s.heap.get? b = some o → h'.get? b = some o) (hn : ∀ p ∈ ns, s.heap.get? p = none) (hn' : ∀ p ∈ ns, ∃ o, h'.get? p = some o) :
    At { c with bad := ns ++ c.bad } { s with heap := h' } lm cm H α δ := by
  have up : ∀ {n : Nat} {v : Value} {a : AV}, VR c.bad s.heap n α v a → VR (ns ++ c.bad) s.heap n α v a := fun {n v a} r => by
    have : ∀ v a, (∀ (_ : VR c.bad s.heap n α v a), VR (ns ++ c.bad) s.heap n α v a) := by
      intro v a r
      refine VR.rec (motive_1 := fun v a _ => VR (ns ++ c.bad) s.heap n α v a) (motive_2 := fun v a _ => VRs (ns ++ c.bad) s.heap n α v a) .none (fun b => .bool b) (fun i t => .int i t) (fun x t => .str x t) (fun i h => .ref i h) ?_ (fun v => .gl v) .nil (fun _ _ a b => .cons a b) r
      intro p vs l hp t _ ih
      refine .tup (fun q => ?_) t ih
      rcases List.mem_append.mp q with q | q
      · obtain ⟨o, e, _⟩ := t; rw [hn p q] at e; cases e
      · exact hp q
    exact this v a r
  have ups : ∀ {n : Nat} {v : List Value} {a : List AV}, VRs c.bad s.heap n α v a → VRs (ns ++ c.bad) s.heap n α v a := fun {n v a} r => by
    induction v generalizing a with
    | nil => cases r; exact .nil
    | cons v vs ih => cases r with | cons x y => exact .cons (up x) (ih y)
  have x1 : At { c with bad := ns ++ c.bad } s lm cm H α δ ∨ True := .inr trivial
  have ah : AtH (ns ++ c.bad) c.w c.base s.heap H α δ := ⟨fun i hi => by
    have := x.ob i hi
    revert this
    cases H.f i with
    | list l => rintro ⟨e, vs, k, e', r⟩; exact ⟨e, vs, k, e', ups r⟩
    | inst C d =>
      rintro ⟨ox, mA, h1, h2, h3, h4, h5, h6, r⟩
      refine ⟨ox, mA, h1, h2, h3, h4, h5, h6, fun x => ?_⟩
      have := r x
      revert this
      generalize mA x = p; generalize d x = q
      rintro (_ | r)
      · exact .none
      · exact .some (up r)
    | dict l =>
      rintro ⟨e, eb, kvs, h1, r⟩
      refine ⟨e, eb, kvs, h1, ?_⟩
      clear h1
      induction r with
      | nil => exact .nil
      | cons r _ ih => exact .cons (up r) ih, x.inj, x.db⟩
  have ah' := ah.more hk
  have y := x.more (s' := { s with heap := h' }) hk
  exact ⟨ah', y.ns, y.bs, y.bl, y.cl, y.fr, y.dl, y.df, fun p hp => by
    rcases List.mem_append.mp hp with q | q
    · exact hn' p q
    · exact y.bb p q⟩
theorem IT_zip {x y : PySem.Str} {px py tp np pos : Pos} {k : Nat} {e1 e2 : Expr} {Q : List AV → (AH → Prop) → AH → Prop}
    (hz : EV b sc (.Name "zip" np) m H (fun f H1 => f = .gl (.type "zip") ∧ EV b sc e1 m H1 (fun a1 H2 => EV b sc e2 m H2 (fun a2 H3 => ∃ j1 j2 l1 l2, a1 = .ref j1 ∧ a2 = .ref j2 ∧ H3.f j1 = .list l1 ∧ H3.f j2 = .list l2 ∧
      Q (zipA l1 l2) (fun H4 => H4.f j1 = .list l1 ∧ H4.f j2 = .list l2) H3) X) X) X)
    (he : ∀ env, eval (.Call (.Name "zip" np) [e1, e2] [] pos) env = (do callWith pos (← eval (.Name "zip" np) env) [] (backTo pos (starEach [e1, e2] env)) (backToKw pos (keywordEach [] env))) := by intro _; rfl)
    (hs : ∀ env, starEach [e1, e2] env = (false, eval e1 env) :: starEach [e2] env := by intro _; rfl) (hs2 : ∀ env, starEach [e2] env = (false, eval e2 env) :: starEach [] env := by intro _; rfl) (hplain : ∀ env, (backTo pos (starEach [e2] env)).any (·.1) = false := by intro _; rfl) :
    IT b sc (.Tuple [.Name x px, .Name y py] k tp) (.Call (.Name "zip" np) [e1, e2] [] pos) m H Q X := by
  refine IT_ofCall (hz.mono (fun f H1 ⟨e, z⟩ => ⟨e, EVs_cons (z.mono (fun a1 H2 z2 => EVs_cons (z2.mono (fun a2 H3 z3 => EVs_nil ?_) fun _ x => x) hs2) fun _ x => x) hs⟩) fun _ x => x) (.ty "zip") he hs hplain
  obtain ⟨j1, j2, l1, l2, rfl, rfl, f1, f2, z⟩ := z3
  intro c s lm cm α δ vs Qr Er ok at' rr q
  refine rr.inv2 fun v1 v2 r1 r2 => ?_
  refine r1.invR fun hj1 => ?_
  refine r2.invR fun hj2 => ?_
  obtain ⟨vs1, k1, g1, q1⟩ := src_at (ax := α j1) at'.toAtH ⟨j1, hj1, rfl, f1⟩
  obtain ⟨vs2, k2, g2, q2⟩ := src_at (ax := α j2) at'.toAtH ⟨j2, hj2, rfl, f2⟩
  refine call_zip_2 ⟨_, g1, rfl, _, rfl⟩ ⟨_, g2, rfl, _, rfl⟩ fun h' a1 a2 a3 a4 a5 a6 a7 => wpAny_pyIter_zip a1 ?_
  have nn : ∀ n, s.heap.get? (s.heap.objs.size + n) = none := fun n => none_of_le (Nat.le_add_right _ _)
  have hid : ∀ b ∈ [s.heap.objs.size + 4, s.heap.objs.size + 2, s.heap.objs.size + 3, s.heap.objs.size, s.heap.objs.size + 1], s.heap.get? b = none := fun b hb => by
    simp only [List.mem_cons, List.not_mem_nil, or_false] at hb
    rcases hb with rfl | rfl | rfl | rfl | rfl <;> first | exact nn _ | exact nn 0
  refine q _ _ _ _ _ ([s.heap.objs.size + 2, s.heap.objs.size + 3] ++ c.bad) (zipA l1 l2) (fun H4 => H4.f j1 = .list l1 ∧ H4.f j2 = .list l2) _ H3 α δ (Step.more ⟨_, _, rfl⟩ a7) (fun p hp => List.mem_append_right _ hp) (fun p hp hn => ?_)
    (zip_bad at' a7 (fun p hp => ?_) fun p hp => ?_) (Itr.zip (k := k) (a1 := α j1) (a2 := α j2) ok.hh ?_ ?_ ?_ fun b hb => base_none at' (hid b hb)) ⟨a1, a2, ⟨_, _, a3⟩, a4, a5⟩ hid (fun H4 α4 e le ea => ⟨l1, l2, ⟨j1, Nat.lt_of_lt_of_le hj1 le, ea _ hj1, e.1⟩, ⟨j2, Nat.lt_of_lt_of_le hj2 le, ea _ hj2, e.2⟩, rfl⟩) ⟨f1, f2⟩ z
  · simp only [List.cons_append, List.nil_append, List.mem_cons] at hp
    rcases hp with rfl | rfl | hp
    · exact nn _
    · exact nn _
    · exact absurd hp hn
  · simp only [List.mem_cons, List.not_mem_nil, or_false] at hp
    rcases hp with rfl | rfl <;> exact nn _
  · simp only [List.mem_cons, List.not_mem_nil, or_false] at hp
    rcases hp with rfl | rfl
    · exact ⟨_, a2⟩
    · exact ⟨_, a3⟩
  · simp only [List.nodup_cons, List.mem_cons, List.not_mem_nil, or_false, not_or, List.nodup_nil, and_true, not_false_eq_true]
    refine ⟨⟨?_, ?_, ?_, ?_⟩, ⟨?_, ?_, ?_⟩, ⟨?_, ?_⟩, ?_⟩ <;> (intro h; have h : (_ : Nat) = _ := h; omega)
  · simp
  · simp
theorem IT_enum {x y : PySem.Str} {px py tp np pos : Pos} {k : Nat} {e1 : Expr} {Q : List AV → (AH → Prop) → AH → Prop}
    (hz : EV b sc (.Name "enumerate" np) m H (fun f H1 => f = .gl (.type "enumerate") ∧ EV b sc e1 m H1 (fun a1 H3 => ∃ j1 l1, a1 = .ref j1 ∧ H3.f j1 = .list l1 ∧
      Q (enumA l1) (fun H4 => H4.f j1 = .list l1) H3) X) X)
    (he : ∀ env, eval (.Call (.Name "enumerate" np) [e1] [] pos) env = (do callWith pos (← eval (.Name "enumerate" np) env) [] (backTo pos (starEach [e1] env)) (backToKw pos (keywordEach [] env))) := by intro _; rfl)
    (hs : ∀ env, starEach [e1] env = (false, eval e1 env) :: starEach [] env := by intro _; rfl) :
    IT b sc (.Tuple [.Name x px, .Name y py] k tp) (.Call (.Name "enumerate" np) [e1] [] pos) m H Q X := by
  refine IT_ofCall (hz.mono (fun f H1 ⟨e, z⟩ => ⟨e, EVs_cons (z.mono (fun a1 H2 z2 => EVs_nil ?_) fun _ x => x) hs⟩) fun _ x => x) (.ty "enumerate") he hs
  obtain ⟨j1, l1, rfl, f1, z⟩ := z2
  intro c s lm cm α δ vs Qr Er ok at' rr q
  refine rr.inv1 fun v1 r1 => ?_
  refine r1.invR fun hj1 => ?_
  obtain ⟨vs1, k1, g1, q1⟩ := src_at (ax := α j1) at'.toAtH ⟨j1, hj1, rfl, f1⟩
  refine call_enumerate_list ⟨_, g1, rfl, _, rfl⟩ fun h' a1 a4 a6 a7 => wpAny_pyIter_enum a1 ?_
  have nn : ∀ n, s.heap.get? (s.heap.objs.size + n) = none := fun n => none_of_le (Nat.le_add_right _ _)
  have hid : ∀ b ∈ [s.heap.objs.size + 1, s.heap.objs.size], s.heap.get? b = none := fun b hb => by
    simp only [List.mem_cons, List.not_mem_nil, or_false] at hb
    rcases hb with rfl | rfl <;> first | exact nn _ | exact nn 0
  have st : Step c.bad H2.n H2.n α δ α δ s { s with heap := h' } := Step.more ⟨_, _, rfl⟩ a7
  refine q _ _ _ _ _ c.bad (enumA l1) (fun H4 => H4.f j1 = .list l1) _ H2 α δ st (fun p hp => hp) (fun p hp hn => absurd hp hn)
    (at'.more a7) (Itr.enum (k := k) (ax := α j1) ok.hh ?_ fun b hb => base_none at' (hid b hb)) ⟨⟨_, a1⟩, a4⟩ hid (fun H4 α4 e le ea => ⟨l1, ⟨j1, Nat.lt_of_lt_of_le hj1 le, ea _ hj1, e⟩, rfl⟩) f1 z
  intro h; have h : (_ : Nat) = _ := h; omega
theorem range_it {tgt : Expr} {x : PySem.Str} {px : Pos} (ht : tgt = .Name x px) {c : Cx} {s : Shared} {lm cm : PySem.Str → Option Value} {α δ : Nat → Addr} {Qr Er : Value → Shared → Prop} {Q : List AV → (AH → Prop) → AH → Prop} {bb : Bd} (ok : c.Ok bb) (at' : At c s lm cm H α δ)
    (a e : Int) (n : Nat) (t u v tk : Tok) (ha : -(2 ^ 62) ≤ a ∧ a < 2 ^ 62) (hb : -(2 ^ 62) ≤ e ∧ e < 2 ^ 62) (hn : (if a < e then e - a else 0) = (n : Int)) (z : Q (rangeA a n) (fun _ => True) H)
    (q : ∀ I hid wr St k B' l src s' H' α' δ', Step c.bad H.n H'.n α δ α' δ' s s' → (∀ p ∈ c.bad, p ∈ B') → (∀ p ∈ B', p ∉ c.bad → s.heap.get? p = none) → At { c with bad := B' } s' lm cm H' α' δ' → Itr c.w c.A c.base B' tgt I hid wr St k → St 0 s'.heap →
        (∀ b ∈ hid, s.heap.get? b = none) → (∀ H2 α2, src H2 → H'.n ≤ H2.n → (∀ i, i < H'.n → α2 i = α' i) → k H2 α2 l) → src H' → Q l src H' → Qr (.ref I) s') :
    wpAny (model pg c.w) c.A (pyIter (.ref s.heap.objs.size)) Qr Er { s with heap := s.heap.push { cls := .type "range", data := .fields #[.int a t, .int e u, .int 1 v] }, toks := tk } := by
  subst ht
  refine wpAny_pyIter_range (IsRange.new _ _ _ _ _ _ _) (small_one ha.1 ha.2 hb.1 hb.2) ?_
  generalize hH : s.heap.push { cls := .type "range", data := .fields #[.int a t, .int e u, .int 1 v] } = H1
  have sz : H1.objs.size = s.heap.objs.size + 1 := by rw [← hH]; exact Heap.size_push ..
  have kp : ∀ b o, s.heap.get? b = some o → (H1.push { cls := .type "range_iterator", data := .fields #[rawInt a, rawInt (Builtin.Range.rangeSize a e 1), rawInt 1] }).get? b = some o := fun b o e => Heap.get?_push_of_some _ (hH ▸ Heap.get?_push_of_some _ e)
  have nn : s.heap.get? H1.objs.size = none := by rw [sz]; exact none_of_le (Nat.le_add_right _ _)
  refine q H1.objs.size _ _ _ _ c.bad (rangeA a n) (fun _ => True) _ H α δ (Step.more ⟨_, _, rfl⟩ kp) (fun p hp => hp) (fun p hp hn => absurd hp hn) (at'.more kp) (Itr.range ok.hh (base_none at' nn) a n) ⟨Nat.zero_le _, ?_⟩ (fun b hb => by rw [List.mem_singleton.mp hb]; exact nn) (fun H4 α4 _ _ _ => rfl) trivial z
  have := Heap.get?_push_size H1 (o := { cls := .type "range_iterator", data := .fields #[rawInt a, rawInt (Builtin.Range.rangeSize a e 1), rawInt 1] }) rfl
  rw [rangeSize_one, hn] at this
  show (H1.push _).get? H1.objs.size = _
  rw [rangeSize_one, hn, this]
  simp
theorem IT_range1 {x : PySem.Str} {px np pos : Pos} {e1 : Expr} {Q : List AV → (AH → Prop) → AH → Prop}
    (hz : EV b sc (.Name "range" np) m H (fun f H1 => f = .gl (.type "range") ∧ EV b sc e1 m H1 (fun a1 H3 => ∃ n : Nat, a1 = .int n ∧ n < 2 ^ 62 ∧ Q (rangeA 0 n) (fun _ => True) H3) X) X)
    (he : ∀ env, eval (.Call (.Name "range" np) [e1] [] pos) env = (do callWith pos (← eval (.Name "range" np) env) [] (backTo pos (starEach [e1] env)) (backToKw pos (keywordEach [] env))) := by intro _; rfl)
    (hs : ∀ env, starEach [e1] env = (false, eval e1 env) :: starEach [] env := by intro _; rfl) :
    IT b sc (.Name x px) (.Call (.Name "range" np) [e1] [] pos) m H Q X := by
  refine IT_ofCall (hz.mono (fun f H1 ⟨e, z⟩ => ⟨e, EVs_cons (z.mono (fun a1 H2 z2 => EVs_nil ?_) fun _ x => x) hs⟩) fun _ x => x) (.ty "range") he hs
  obtain ⟨n, rfl, hn, z⟩ := z2
  intro c s lm cm α δ vs Qr Er ok at' rr q
  refine rr.inv1 fun v1 rr1 => ?_
  refine rr1.invI fun _ => ?_
  exact call_range_1 (range_it rfl ok at' 0 n n _ _ _ _ (by omega) (by omega) (by split <;> omega) z q)
theorem IT_range2 {x : PySem.Str} {px np pos : Pos} {e1 e2 : Expr} {Q : List AV → (AH → Prop) → AH → Prop}
    (hz : EV b sc (.Name "range" np) m H (fun f H1 => f = .gl (.type "range") ∧ EV b sc e1 m H1 (fun a1 H2 => EV b sc e2 m H2 (fun a2 H3 => ∃ (a : Int) (n : Nat), a1 = .int a ∧ a2 = .int (a + n) ∧ (-(2 ^ 61) ≤ a ∧ a < 2 ^ 61) ∧ n < 2 ^ 61 ∧ Q (rangeA a n) (fun _ => True) H3) X) X) X)
    (he : ∀ env, eval (.Call (.Name "range" np) [e1, e2] [] pos) env = (do callWith pos (← eval (.Name "range" np) env) [] (backTo pos (starEach [e1, e2] env)) (backToKw pos (keywordEach [] env))) := by intro _; rfl)
    (hs : ∀ env, starEach [e1, e2] env = (false, eval e1 env) :: starEach [e2] env := by intro _; rfl) (hs2 : ∀ env, starEach [e2] env = (false, eval e2 env) :: starEach [] env := by intro _; rfl) (hplain : ∀ env, (backTo pos (starEach [e2] env)).any (·.1) = false := by intro _; rfl) :
    IT b sc (.Name x px) (.Call (.Name "range" np) [e1, e2] [] pos) m H Q X := by
  refine IT_ofCall (hz.mono (fun f H1 ⟨e, z⟩ => ⟨e, EVs_cons (z.mono (fun a1 H2 z2 => EVs_cons (z2.mono (fun a2 H3 z3 => EVs_nil ?_) fun _ x => x) hs2) fun _ x => x) hs⟩) fun _ x => x) (.ty "range") he hs hplain
  obtain ⟨a, n, rfl, rfl, ha, hn, z⟩ := z3
  intro c s lm cm α δ vs Qr Er ok at' rr q
  refine rr.inv2 fun v1 v2 rr1 rr2 => ?_
  refine rr1.invI fun _ => ?_
  refine rr2.invI fun _ => ?_
  exact call_range_2 (range_it rfl ok at' a _ n _ _ _ _ (by omega) (by omega) (by split <;> omega) z q)
end
end
-- B10
section
section
variable {B B' : List Addr} {w : World} {base h : Heap} {n : Nat} {α δ : Nat → Addr} {H : AH}
theorem VR.re (hp : ∀ p, p ∉ B → (∃ o, h.get? p = some o) → p ∉ B') {v : Value} {a : AV} (r : VR B h n α v a) : VR B' h n α v a :=
  VR.rec (motive_1 := fun v a _ => VR B' h n α v a) (motive_2 := fun vs l _ => VRs B' h n α vs l) .none .bool .int .str .ref (fun q x _ ih => .tup (hp _ q (x.elim fun o e => ⟨o, e.1⟩)) x ih) .gl .nil (fun _ _ ih1 ih2 => .cons ih1 ih2) r
theorem VRs.re (hp : ∀ p, p ∉ B → (∃ o, h.get? p = some o) → p ∉ B') {vs : List Value} {l : List AV} (r : VRs B h n α vs l) : VRs B' h n α vs l :=
  VRs.rec (motive_1 := fun v a _ => VR B' h n α v a) (motive_2 := fun vs l _ => VRs B' h n α vs l) .none .bool .int .str .ref (fun q x _ ih => .tup (hp _ q (x.elim fun o e => ⟨o, e.1⟩)) x ih) .gl .nil (fun _ _ ih1 ih2 => .cons ih1 ih2) r
theorem AR.re (hp : ∀ p, p ∉ B → (∃ o, h.get? p = Option.some o) → p ∉ B') {v : Option Value} {a : Option AV} (x : AR B h n α v a) : AR B' h n α v a := by
  cases x with
  | none => exact .none
  | some x => exact .some (x.re hp)
theorem KR.re (hp : ∀ p, p ∉ B → (∃ o, h.get? p = some o) → p ∉ B') {v : List (Int × Value)} {a : List (Int × AV)} (r : KR B h n α v a) : KR B' h n α v a := by
  induction r with
  | nil => exact .nil
  | cons x _ ih => exact .cons (x.re hp) ih
theorem OR.re (hp : ∀ p, p ∉ B → (∃ o, h.get? p = some o) → p ∉ B') {i : Nat} {o : AO} (x : OR B w h n α δ i o) : OR B' w h n α δ i o := by
  cases o with
  | list l => obtain ⟨e, vs, k, e', r⟩ := x; exact ⟨e, vs, k, e', r.re hp⟩
  | inst C d => obtain ⟨ox, mA, h1, h2, h3, h4, h5, h6, r⟩ := x; exact ⟨ox, mA, h1, h2, h3, h4, h5, h6, fun x => (r x).re hp⟩
  | dict l => obtain ⟨e, eb, kvs, h1, r⟩ := x; exact ⟨e, eb, kvs, h1, r.re hp⟩
theorem AtH.re (hp : ∀ p, p ∉ B → (∃ o, h.get? p = some o) → p ∉ B') (x : AtH B w base h H α δ) : AtH B' w base h H α δ := ⟨fun i hi => (x.ob i hi).re hp, x.inj, x.db⟩
end
theorem At.re {c : Cx} {s : Shared} {lm cm : PySem.Str → Option Value} {H : AH} {α δ : Nat → Addr} {B' : List Addr} (hp : ∀ p, p ∉ c.bad → (∃ o, s.heap.get? p = some o) → p ∉ B') (hb : ∀ p ∈ B', ∃ o, s.heap.get? p = some o) (x : At c s lm cm H α δ) : At { c with bad := B' } s lm cm H α δ :=
  ⟨x.toAtH.re hp, x.ns, x.bs, x.bl, x.cl, x.fr, x.dl, x.df, hb⟩
theorem NmR.re {c : Cx} {h : Heap} {lm cm : PySem.Str → Option Value} {n : Nat} {α : Nat → Addr} {m : Vars} {B' : List Addr} (hp : ∀ p, p ∉ c.bad → (∃ o, h.get? p = some o) → p ∉ B') (x : NmR c h lm cm n α m) : NmR { c with bad := B' } h lm cm n α m :=
  fun y a e => (x y a e).imp (fun ⟨k, v, hv, r⟩ => ⟨k, v, hv, r.re hp⟩) fun ⟨k, ad, v, ha, hv, r⟩ => ⟨k, ad, v, ha, hv, r.re hp⟩
theorem Cx.Ok.re {c : Cx} {b : Bd} {B' : List Addr} (x : c.Ok b) : Cx.Ok { c with bad := B' } b := ⟨x.pb, x.fb, x.hh, x.hf, x.dp, x.un, x.kind, x.glob, x.bi, x.K, x.T, x.lk, x.cd⟩
theorem NmR.at {c : Cx} {h h' : Heap} {lm cm : PySem.Str → Option Value} {n n' : Nat} {α α' : Nat → Addr} {m : Vars} (x : NmR c h lm cm n α m) (t : ∀ v a, VR c.bad h n α v a → VR c.bad h' n' α' v a) : NmR c h' lm cm n' α' m := x.mono t

section
variable {b : Bd} {sc : Scope} {m : Vars} {H : AH}
inductive FS (c : Cx) (B' : List Addr) (s : Shared) (H H1 : AH) (α δ α1 : Nat → Addr) (St : Nat → Heap → Prop) (src : AH → Prop) (J : Nat → Vars → AH → Prop) (len n : Nat) (s' : Shared) : Prop
  | mk (lm2 cm2 : PySem.Str → Option Value) (m2 : Vars) (H2 : AH) (α2 δ2 : Nat → Addr) (i : Nat) : StepX c H.n H2.n α δ α2 δ2 s s' → At { c with bad := B' } s' lm2 cm2 H2 α2 δ2 → NmR { c with bad := B' } s'.heap lm2 cm2 H2.n α2 m2 → St i s'.heap → src H2 →
    (H1.n ≤ H2.n ∧ ∀ i, i < H1.n → α2 i = α1 i) → J i m2 H2 → i ≤ len → n = len - i → FS c B' s H H1 α δ α1 St src J len n s'
theorem ES_for {tgt it : Expr} {body : List Stmt} {pos : Pos} {f : AV → Vars → Vars} {P : AV → Prop} {Q : Fl → Vars → AH → Prop} {X : Vars → AH → Prop} (tb : TBp sc P tgt f)
    (h : IT b sc tgt it m H (fun l src H' => (∀ a ∈ l, P a) ∧ ∃ J : Nat → Vars → AH → Prop, J 0 m H' ∧
      (∀ i a m1 H1, l[i]? = some a → J i m1 H1 → src H1 → EX b sc body (f a m1) H1 (fun fl m2 H2 => match fl with | .next => src H2 ∧ J (i + 1) m2 H2 | .ret r => Q (.ret r) m2 H2) NoXV) ∧
      ∀ m1 H1, J l.length m1 H1 → Q .next m1 H1) NoX)
    (hs : ∀ env x, foldedSetIterable it env x = pure x := by intro _ _; rfl) : ES b sc (.For tgt it body [] pos) m H Q X := by
  intro c s lm cm α δ Qr Er ok hsc hf hl at' nm q xx
  refine wpAny_For (h c s lm cm α δ _ Er ok hsc at' nm (fun I hid wr St k B' l src s1 H1 α1 δ1 st1 hB hB2 at1 itr hst hnew hsrc s0 z => ?_) fun _ _ _ _ _ _ x' => x'.elim) (hs _)
  obtain ⟨hP, J, j0, turn, fin⟩ := z
  have hp : ∀ p, p ∉ c.bad → (∃ o, s.heap.get? p = some o) → p ∉ B' := fun p hn ⟨o, e⟩ hm => by rw [hB2 p hm hn] at e; cases e
  have hpB : ∀ p, p ∉ B' → p ∉ c.bad := fun p hn hm => hn (hB p hm)
  have nm1 : NmR { c with bad := B' } s1.heap lm cm H1.n α1 m := (nm.re hp).mono fun v a r => r.mono (fun p vs hn t => st1.tu p vs (hpB p hn) t) st1.gr.le st1.gr.a
  refine codeAny_forLoop_any (FS c B' s H H1 α δ α1 St src J l.length) ?_ (l.length - 0) ⟨lm, cm, m, H1, α1, δ1, 0, st1.x, at1, nm1, hst, s0, ⟨Nat.le_refl _, fun _ _ => rfl⟩, j0, Nat.zero_le _, rfl⟩
  rintro n s2 ⟨lm2, cm2, m2, H2, α2, δ2, i, st2, at2, nm2, hst2, hs2, hg2, hj, hil, rfl⟩
  have hk := hsrc H2 α2 hs2 hg2.1 hg2.2
  have oldw : ∀ b o, s.heap.get? b = some o → b ∉ hid := fun b o e hm => by rw [hnew b hm] at e; cases e
  have oldB : ∀ p vs, p ∉ c.bad → IsTup s.heap p vs → p ∉ B' := fun p vs hn t => hp p hn (let ⟨o, e, _⟩ := t; ⟨o, e⟩)
  cases ha : l[i]? with
  | none =>
    refine itr.done H2 α2 δ2 i s2 l at2.toAtH hk hst2 ha _ _ fun s3 sh3 off3 => ?_
    have hi : i = l.length := by rw [List.getElem?_eq_none_iff] at ha; omega
    subst hi
    have st3 : StepX c H.n H2.n α δ α2 δ2 s s3 := ⟨st2.sh.trans sh3, st2.gr, fun a o e => by
        obtain ⟨o', e'⟩ := st2.pr a o e
        by_cases qq : a ∈ wr
        · exact absurd (itr.sub a qq) (oldw a o e)
        · exact ⟨o', off3.kp a o' qq e'⟩, fun b o e x1 x2 x3 => off3.kp b o (fun qq => oldw b o e (itr.sub b qq)) (st2.kp b o e x1 x2 x3), st2.nw, fun p vs hn t => off3.tu p vs (oldB p vs hn t) (st2.tu p vs hn t)⟩
    have ah3 : AtH B' c.w c.base s3.heap H2 α2 δ2 := at2.toAtH.off off3
    have kp3 : ∀ b o, (∀ vs, o.data ≠ .fields vs) → (b ∈ B' → ∀ xs k, o.data ≠ .seq xs k) → s2.heap.get? b = some o → s3.heap.get? b = some o := fun b o h1 h2 e => off3.kp b o (fun qq => by
      obtain ⟨o', e', k'⟩ := off3.kd b qq
      rw [e] at e'; cases e'
      rcases k' with ⟨vs, d⟩ | ⟨hb, _, xs, kk, d⟩
      · exact h1 _ d
      · exact h2 hb _ _ d) e
    have at3 : At c s3 lm2 cm2 H2 α2 δ2 := by
      refine ⟨ah3.re fun p hn _ => hpB p hn, ?_, fun b o e => off3.kp b o (fun qq => by have := itr.bs b (itr.sub b qq); rw [e] at this; cases this) (at2.bs b o e), at2.bl, fun y a e => ⟨?_, (at2.cl y a e).2⟩, ?_, at2.dl, at2.df, fun p hm => ?_⟩
      · obtain ⟨o, es, ep, e, d, r⟩ := at2.ns
        exact ⟨o, es, ep, kp3 _ o (by rw [d]; intro _ z; cases z) (by rw [d]; intro _ _ _ z; cases z) e, d, r⟩
      · obtain ⟨o, e, d⟩ := (at2.cl y a e).1
        exact ⟨o, kp3 _ o (by rw [d]; intro _ z; cases z) (by rw [d]; intro _ _ _ z; cases z) e, d⟩
      · refine funFrames_up (fun b o e f => ?_) at'.fr
        obtain ⟨o2, e2⟩ := st3.pr b o e
        refine ⟨o2, e2, ?_⟩
        by_cases q1 : ∀ i, i < H.n → δ i ≠ b
        · by_cases q2 : b = c.L
          · obtain ⟨o4, es, ep, e4, d4, _⟩ := at2.ns
            have e4 : s2.heap.get? b = some o4 := q2 ▸ e4
            have := kp3 b o4 (by rw [d4]; intro _ z; cases z) (by rw [d4]; intro _ _ _ z; cases z) e4
            rw [e2] at this; cases this; rw [d4]; intro _ z; cases z
          · by_cases q3 : ∀ x, c.env.cells.lookup x ≠ some b
            · have := st3.kp b o e q1 q2 q3
              rw [e2] at this; cases this; exact f
            · obtain ⟨x, q3⟩ := Classical.not_forall.mp q3
              have q3 := Classical.not_not.mp q3
              obtain ⟨o4, e4, d4⟩ := (at2.cl x b q3).1
              have := kp3 b o4 (by rw [d4]; intro _ z; cases z) (by rw [d4]; intro _ _ _ z; cases z) e4
              rw [e2] at this; cases this; rw [d4]; intro _ z; cases z
        · obtain ⟨i, q1⟩ := Classical.not_forall.mp q1
          obtain ⟨hi, q1⟩ := Classical.not_imp.mp q1
          have q1 := Classical.not_not.mp q1
          obtain ⟨ob, h1, st⟩ := (ah3.ob i (Nat.lt_of_lt_of_le hi st2.gr.le)).stor
          rw [st2.gr.d i hi, q1, e2] at h1
          cases h1; exact st.fields
      · obtain ⟨o, e⟩ := at'.bb p hm; exact st3.pr p o e
    exact wpAny_execs_nil (q _ _ _ _ _ _ _ _ _ st3 at3 (NmR.re (c := { c with bad := B' }) (B' := c.bad) (fun p hn _ => hpB p hn) (nm2.mono (h' := s3.heap) (n' := H2.n) (α' := α2) fun v a r => off3.vr r)) .next (fin _ _ hj))
  | some a =>
    refine itr.item H2 α2 δ2 i s2 l a at2.toAtH at2.bb hk hst2 ha _ _ fun v s3 sh3 hid3 lot => ?_
    refine lot _ _ fun s4 sh4 hid4 hst4 hv => ?_
    have hid' := hid3.trans hid4
    have at4 : At { c with bad := B' } s4 lm2 cm2 H2 α2 δ2 := at2.hid hid' fun b hb => itr.bs b (itr.sub b hb)
    have nm4 := nm2.mono (h' := s4.heap) (n' := H2.n) (α' := α2) fun v a r => hid'.vr r
    refine tb b { c with bad := B' } s4 lm2 cm2 m2 H2 α2 δ2 v a _ _ ok.re hsc at4 nm4 hv (hP a (List.mem_of_getElem? ha)) fun s5 lm5 sh5 kp5 at5 nm5 => ?_
    have hst5 : St (i + 1) s5.heap := itr.frame _ _ _ hst4 fun b hb o e => kp5 b o (fun qq => by
      obtain ⟨o', e', k'⟩ := itr.kind _ _ hst4 b hb
      obtain ⟨o2, es, ep, e2, d2, _⟩ := at4.ns
      have e2 : s4.heap.get? b = some o2 := qq ▸ e2
      rw [e'] at e2; cases e2; exact k'.dict d2) e
    have st5 : StepX c H.n H2.n α δ α2 δ2 s s5 := ⟨st2.sh.trans (sh3.trans (sh4.trans sh5)), st2.gr, fun a o e => by
        obtain ⟨o', e'⟩ := st2.pr a o e
        have e4 := hid'.kp a o' (fun qq => oldw a o e (itr.sub a qq)) e'
        by_cases qq : a = c.L
        · obtain ⟨o2, _, _, e2, _⟩ := at5.ns; exact ⟨o2, qq ▸ e2⟩
        · exact ⟨o', kp5 a o' qq e4⟩,
      fun b o e x1 x2 x3 => kp5 b o x2 (hid'.kp b o (fun qq => oldw b o e (itr.sub b qq)) (st2.kp b o e x1 x2 x3)), st2.nw, fun p vs hn t => by
        obtain ⟨o, e, hc, n, d⟩ := hid'.tu p vs (oldB p vs hn t) (st2.tu p vs hn t)
        refine ⟨o, kp5 p o (fun qq => ?_) e, hc, n, d⟩
        obtain ⟨o2, es, ep, e2, d2, _⟩ := at4.ns
        have e2 : s4.heap.get? p = some o2 := qq ▸ e2
        rw [e] at e2; cases e2; rw [d] at d2; cases d2⟩
    refine turn i a m2 H2 ha hj hs2 { c with bad := B' } s5 lm5 cm2 α2 δ2 _ _ ok.re hsc hf hl at5 nm5 (fun fl' fl s6 lm6 cm6 m6 H6 α6 δ6 st6 at6 nm6 fr z => ?_) fun _ _ _ _ _ _ _ _ _ _ _ x' => x'.elim
    have st56 : StepX c H.n H6.n α δ α6 δ6 s s6 := ⟨st5.sh.trans st6.sh, st5.gr.trans st6.gr, fun a o e => let ⟨o', e'⟩ := st5.pr a o e; st6.pr a o' e', fun b o e x1 x2 x3 => st6.kp b o (st5.kp b o e x1 x2 x3) (off_new st5.gr st5.nw b o e x1) x2 x3,
      nw_trans st6.gr st5.pr st5.nw st6.nw, fun p vs hn t => st6.tu p vs (oldB p vs hn t) (st5.tu p vs hn t)⟩
    cases fr with
    | next =>
      obtain ⟨zs, zj⟩ := z
      have hlt : i < l.length := (List.getElem?_eq_some_iff.mp ha).1
      refine ⟨l.length - (i + 1), by omega, lm6, cm6, m6, H6, α6, δ6, i + 1, st56, at6, nm6, itr.frame _ _ _ hst5 fun b hb o e => ?_, zs, ⟨Nat.le_trans hg2.1 st6.gr.le, fun j hj => (st6.gr.a j (Nat.lt_of_lt_of_le hj hg2.1)).trans (hg2.2 j hj)⟩, zj, hlt, rfl⟩
      obtain ⟨o', e', k'⟩ := itr.kind _ _ hst5 b hb
      refine st6.kp b o e (hid_off at5.toAtH e' k') (fun qq => ?_) fun x qq => ?_
      · obtain ⟨o2, es, ep, e2, d2, _⟩ := at5.ns
        have e2 : s5.heap.get? b = some o2 := qq ▸ e2
        rw [e'] at e2; cases e2; exact k'.dict d2
      · obtain ⟨o2, e2, d2⟩ := (at5.cl x b qq).1
        rw [e'] at e2; cases e2
        rcases k' with ⟨vs, d⟩ | ⟨_, _, xs, kk, d⟩ <;> (rw [d2] at d; cases d)
    | ret r =>
      refine q _ _ _ _ _ _ _ _ _ st56 ?_ (nm6.re (c := { c with bad := B' }) (B' := c.bad) fun p hn _ => hpB p hn) (.ret (r.re fun p hn _ => hpB p hn)) z
      exact At.re (c := { c with bad := B' }) (B' := c.bad) (fun p hn _ => hpB p hn) (fun p hm => let ⟨o, e⟩ := at'.bb p hm; st56.pr p o e) at6
end
end
-- B11
section
open PyProof.Rows.LCg (lst)
/- the closure of a comprehension -/
noncomputable def closeL (cells : List (PySem.Str × Addr)) : List (PySem.Str × NameKind) → List (PySem.Str × Addr) → List (PySem.Str × Addr)
  | [], cs => cs
  | (n, k) :: r, cs => closeL cells r (if k == .free then (match cells.lookup n with | some a => (n, a) :: cs | none => cs) else cs)
theorem closure_of {scope : Scope} {env : Env} (h : ∀ y ∈ scope.names, y.2 = .free → ∃ a, env.cells.lookup y.1 = some a) : closureFor scope env = pure (closeL env.cells scope.names []) := by
  unfold closureFor
  have : ∀ (l : List (PySem.Str × NameKind)) (cs : List (PySem.Str × Addr)), (∀ y ∈ l, y.2 = .free → ∃ a, env.cells.lookup y.1 = some a) →
      (forIn l cs fun (x : PySem.Str × NameKind) (r : List (PySem.Str × Addr)) => (match x with | (name, kind) => if (kind == NameKind.free) = true then do let a ← cellOf env name; pure (ForInStep.yield ((name, a) :: r)) else pure (ForInStep.yield r) : Sem (ForInStep (List (PySem.Str × Addr))))) = pure (closeL env.cells l cs) := by
    intro l
    induction l with
    | nil => intro cs _; rfl
    | cons y r ih =>
      obtain ⟨n, k⟩ := y
      intro cs hl
      rw [List.forIn_cons]
      unfold closeL
      by_cases hk : k = .free
      · subst hk
        obtain ⟨a, ha⟩ := hl (n, .free) (.head _) rfl
        have ha : env.cells.lookup n = some a := ha
        have e1 : cellOf env n = pure a := by unfold cellOf; rw [ha]
        rw [ha]
        simp only [beq_self_eq_true, if_true, e1, pure_bind]
        exact ih _ fun y hy => hl y (.tail _ hy)
      · have : (k == NameKind.free) = false := by cases k <;> first | rfl | exact absurd rfl hk
        simp only [this, Bool.false_eq_true, if_false, pure_bind]
        exact ih _ fun y hy => hl y (.tail _ hy)
  have t := this scope.names [] h
  exact congrArg (fun z : Sem (List (PySem.Str × Addr)) => z >>= fun s => pure s) t
theorem closeL_mono {cells : List (PySem.Str × Addr)} {x : PySem.Str} : ∀ {l : List (PySem.Str × NameKind)} {cs : List (PySem.Str × Addr)}, (∃ a, cs.lookup x = some a) → ∃ a, (closeL cells l cs).lookup x = some a
  | [], _, h => h
  | (n, k) :: r, cs, h => by
    unfold closeL
    refine closeL_mono ?_
    split
    · cases cells.lookup n with
      | none => exact h
      | some a =>
        dsimp only
        rw [List.lookup_cons]
        split
        · exact ⟨_, rfl⟩
        · exact h
    · exact h
theorem closeL_has {cells : List (PySem.Str × Addr)} {x : PySem.Str} {a : Addr} (ha : cells.lookup x = some a) : ∀ {l : List (PySem.Str × NameKind)} {cs : List (PySem.Str × Addr)}, (x, NameKind.free) ∈ l → ∃ a, (closeL cells l cs).lookup x = some a
  | [], _, h => nomatch h
  | (n, k) :: r, cs, h => by
    unfold closeL
    rcases List.mem_cons.mp h with e | h
    · cases e
      refine closeL_mono ?_
      rw [if_pos (by rfl), ha]
      exact ⟨a, by simp⟩
    · exact closeL_has ha h
theorem closeL_sub {cells : List (PySem.Str × Addr)} {x : PySem.Str} {a : Addr} : ∀ {l : List (PySem.Str × NameKind)} {cs : List (PySem.Str × Addr)}, (closeL cells l cs).lookup x = some a → cs.lookup x = some a ∨ cells.lookup x = some a
  | [], _, h => .inl h
  | (n, k) :: r, cs, h => by
    unfold closeL at h
    rcases closeL_sub h with h | h
    · split at h
      · cases e : cells.lookup n with
        | none => rw [e] at h; exact .inl h
        | some b =>
          rw [e] at h
          dsimp only at h
          rw [List.lookup_cons] at h
          split at h
          · rename_i q
            cases h
            exact .inr (by rw [beq_iff_eq.mp q]; exact e)
          · exact .inl h
      · exact .inl h
    · exact .inr h

/-- the scope of a comprehension in a function's -/
noncomputable def relabelS (scope sc : Scope) : Scope := { scope with names := scope.names.map fun (n, k) => if (k == .free && sc.kind == .function && sc.names.lookup n == some .cell) then (n, .cell) else (n, k) }
theorem relabel_eq {scope sc : Scope} {env : Env} (h : env.scope = sc) : relabel scope env = relabelS scope sc := by subst h; rfl
theorem relabel_cell {sc : Scope} {x : PySem.Str} : ∀ {names : List (PySem.Str × NameKind)}, (names.map fun (n, k) => if (k == NameKind.free && sc.kind == .function && sc.names.lookup n == some .cell) then (n, NameKind.cell) else (n, k)).lookup x = some .cell →
    (∀ y ∈ names, y.2 ≠ .cell) → (x, NameKind.free) ∈ names
  | [], h, _ => by cases h
  | (n, k) :: r, h, hc => by
    rw [List.map_cons, List.lookup_cons] at h
    by_cases hk : (k == NameKind.free && sc.kind == .function && sc.names.lookup n == some .cell) = true
    · simp only [hk, if_true] at h
      cases q : (x == n) with
      | true =>
        have : k = .free := by simp at hk; exact hk.1.1
        rw [this, beq_iff_eq.mp q]; exact .head _
      | false => simp only [q] at h; exact .tail _ (relabel_cell h fun y hy => hc y (.tail _ hy))
    · simp only [Bool.not_eq_true] at hk
      simp only [hk] at h
      cases q : (x == n) with
      | true => simp [q] at h; exact absurd h (hc (n, k) (.head _))
      | false => simp [q] at h; exact .tail _ (relabel_cell (by simpa using h) fun y hy => hc y (.tail _ hy))
theorem relabel_free {sc : Scope} {x : PySem.Str} (hf : sc.kind = .function) (hs : sc.names.lookup x = some .cell) : ∀ {names : List (PySem.Str × NameKind)}, names.lookup x = some .free →
    (names.map fun (n, k) => if (k == NameKind.free && sc.kind == .function && sc.names.lookup n == some .cell) then (n, NameKind.cell) else (n, k)).lookup x = some .cell
  | [], h => by cases h
  | (n, k) :: r, h => by
    rw [List.map_cons, List.lookup_cons]
    rw [List.lookup_cons] at h
    cases q : (x == n) with
    | true =>
      rw [q] at h
      have h : some k = some NameKind.free := h
      cases h
      have : n = x := (beq_iff_eq.mp q).symm
      subst this
      simp [hf, hs]
    | false =>
      simp only [q] at h
      have ih := relabel_free hf hs h
      by_cases hk : (k == NameKind.free && sc.kind == .function && sc.names.lookup n == some .cell) = true
      · simp only [hk, if_true, q]; exact ih
      · simp only [Bool.not_eq_true] at hk
        simp only [hk, Bool.false_eq_true, if_false, q]; exact ih
theorem lookup_mem {x : PySem.Str} {k : NameKind} : ∀ {names : List (PySem.Str × NameKind)}, names.lookup x = some k → (x, k) ∈ names
  | [], h => by cases h
  | (n, k') :: r, h => by
    rw [List.lookup_cons] at h
    cases q : (x == n) with
    | true => rw [q] at h; cases h; rw [beq_iff_eq.mp q]; exact .head _
    | false => simp only [q] at h; exact .tail _ (lookup_mem h)

/-- what a comprehension's scope must be -/
structure CompOk (scope sc : Scope) : Prop where
  cell : ∀ y ∈ scope.names, y.2 ≠ .cell
  kind : scope.kind = .function
  names : ∀ y ∈ scope.names, y.2 = .local → scope.names.lookup y.1 = some .local
  free : ∀ y ∈ scope.names, y.2 = .free → sc.names.lookup y.1 = some .cell
  fn : sc.kind = .function
/-- the names that a comprehension sees -/
noncomputable def compV (scope : Scope) (m : Vars) : Vars := fun x => if scope.names.lookup x = some .free then m x else none

theorem codeAny_compLoop_any {w : World} {A : Around} {elt target iter : Expr} {ifs : List Expr} {scope : Scope} {pos : Pos} {it acc : Value} {env : Env} {R : Result → Shared → Prop} {s : Shared} (I : Nat → Shared → Prop)
    (turn : ∀ n s, I n s → ∀ E, wpAny (model pg w) A (pyNext it) (fun r s₁ => match r with
      | none => R (.ok .next) s₁
      | some v => wpAny (model pg w) A (letOwnedTupleGo target it v) (fun _ s₁' => wpAny (model pg w) A (assign target env v) (fun _ s₂ =>
          wpAny (model pg w) A (forIn ifs true fun c r => if r = true then do let ok ← isTrue c env (eval c env); pure (ForInStep.yield ok) else pure (ForInStep.yield r)) (fun ok s₃ =>
            if ok = true then wpAny (model pg w) A (eval elt env) (fun x s₄ =>
              wpAny (model pg w) A (call (.builtin "list.append") [acc, x]) (fun _ s₅ => ∃ m, m < n ∧ I m s₅) E s₄) E s₃
            else ∃ m, m < n ∧ I m s₃) E s₂) E s₁') E s₁) E s)
    (n : Nat) (h : I n s) : codeAny (model pg w) A (.compLoop (.ListComp elt [⟨target, iter, ifs, 0⟩] scope pos) 0 it acc env) R s := by
  refine codeAny_loop rfl I (fun n s hI => ?_) n h
  show wpAny _ A ((compTurn (.ListComp elt [⟨target, iter, ifs, 0⟩] scope pos) 0 it acc env).onRaise (fun x => do noteFrame x env; theTreesLotGoes x)) _ _ s
  refine wpAny_noted ?_
  rw [compTurn_list]
  refine wpAny_bind (wpAny_standAt (wpAny_bind (wpAny_mono (turn n s hI _) (fun r s₁ h₁ => ?_) fun _ _ h' => h')))
  cases r with
  | none => exact wpAny_pure h₁
  | some v =>
    refine wpAny_bind (wpAny_mono h₁ (fun _ s₁' h₁' => ?_) fun _ _ h' => h')
    refine wpAny_bind (wpAny_mono h₁' (fun _ s₂ h₂ => wpAny_bind (wpAny_mono h₂ (fun ok s₃ h₃ => ?_) fun _ _ h' => h')) fun _ _ h' => h')
    cases ok with
    | false => exact wpAny_pure ⟨rfl, h₃⟩
    | true =>
      exact wpAny_bind (wpAny_bind (wpAny_mono h₃ (fun x s₄ h₄ => wpAny_bind (wpAny_mono h₄ (fun _ s₅ h₅ => wpAny_pure (wpAny_pure ⟨rfl, h₅⟩)) fun _ _ h' => h')) fun _ _ h' => h'))

/-- the tests of a comprehension: none or one -/
noncomputable def Tst (b : Bd) (sc : Scope) (ifs : List Expr) (m : Vars) (H : AH) (k : Bool → AH → Prop) : Prop := match ifs with
  | [] => k true H
  | [t] => ET b sc t m H k NoX
  | _ => False
theorem Tst.any {b : Bd} {sc : Scope} {ifs : List Expr} {m : Vars} {H : AH} {k : Bool → AH → Prop} (x : Tst b sc ifs m H k) :
    TR b sc (fun env => forIn ifs true fun c r => if r = true then do let ok ← isTrue c env (eval c env); pure (ForInStep.yield ok) else pure (ForInStep.yield r)) (fun _ _ _ _ x y => x = y) m H k NoX := by
  match ifs, x with
  | [], x => exact fun c s lm cm α δ Qr Er ok hs at' nm q xx => wpAny_tests_nil (q _ _ _ _ _ _ (Step.refl s) at' rfl x)
  | [t], x => exact fun c s lm cm α δ Qr Er ok hs at' nm q xx => wpAny_tests_one (x c s lm cm α δ _ _ ok hs at' nm q xx)

/-- a list of the machine's own turned -/
theorem AtH.acc {B : List Addr} {w : World} {base h h' : Heap} {H : AH} {α δ : Nat → Addr} {a : Addr} {o : Obj} (x : AtH B w base h H α δ) (k : Heap.SameBut a h h') (hd : ∀ i, i < H.n → δ i ≠ a) (ho : h.get? a = some o)
    (hp : o.data ≠ .plain) (ht : o.cls ≠ .type "tuple") : AtH B w base h' H α δ :=
  ⟨fun i hi => (x.ob i hi).mono hi (fun p vs _ t => by
      obtain ⟨o', e, hc, n, d⟩ := t
      have : p ≠ a := by rintro rfl; rw [ho] at e; cases e; exact ht hc
      exact ⟨o', (k.2 _ this).trans e, hc, n, d⟩) (Nat.le_refl _) (fun _ _ => rfl) rfl
      (fun ob e d => ⟨ob.slots, (k.2 _ (by intro q; rw [q, ho] at e; cases e; exact hp d)).trans e⟩) (fun ob e => (k.2 _ (hd i hi)).trans e), x.inj, x.db⟩
theorem acc_tu {h h' : Heap} {a : Addr} {o : Obj} (k : Heap.SameBut a h h') (ho : h.get? a = some o) (ht : o.cls ≠ .type "tuple") : ∀ p vs, IsTup h p vs → IsTup h' p vs := fun p vs t => by
  obtain ⟨o', e, hc, n, d⟩ := t
  have : p ≠ a := by rintro rfl; rw [ho] at e; cases e; exact ht hc
  exact ⟨o', (k.2 _ this).trans e, hc, n, d⟩
end
-- B12
section
open PyProof.Rows.LCg (lst lst_snoc)
inductive CS (c c2 : Cx) (B' : List Addr) (s : Shared) (cm : PySem.Str → Option Value) (H H1 : AH) (α δ α1 : Nat → Addr) (cells : List (PySem.Str × Addr)) (mv : Vars) (D : Addr) (St : Nat → Heap → Prop) (src : AH → Prop) (J : Nat → List AV → AH → Prop) (len n : Nat) (s' : Shared) : Prop
  | mk (i : Nat) (vs : List Value) (ys : List AV) (lm2 : PySem.Str → Option Value) (H2 : AH) (α2 δ2 : Nat → Addr) : Step c.bad H.n H2.n α δ α2 δ2 s s' → At c2 s' lm2 cm H2 α2 δ2 → (∀ x a, mv x = some a → ∃ ad v, cells.lookup x = some ad ∧ cm x = some v ∧ VR B' s'.heap H2.n α2 v a) → St i s'.heap → src H2 →
      (H1.n ≤ H2.n ∧ ∀ i, i < H1.n → α2 i = α1 i) → s'.heap.get? D = some (lst vs) → VRs B' s'.heap H2.n α2 vs ys → J i ys H2 → (∀ j, j < H2.n → δ2 j ≠ D) → i ≤ len → vs.length ≤ i → n = len - i → CS c c2 B' s cm H H1 α δ α1 cells mv D St src J len n s'
theorem comp_core {b : Bd} {c : Cx} {s s1 : Shared} {lm cm : PySem.Str → Option Value} {m : Vars} {H H1 : AH} {α δ α1 δ1 : Nat → Addr} {scope : Scope} {elt tgt it : Expr} {ifs : List Expr} {pos : Pos} {f : AV → Vars → Vars} {P : AV → Prop}
    {I : Addr} {hid wr B' : List Addr} {St : Nat → Heap → Prop} {k : AH → (Nat → Addr) → List AV → Prop} {src : AH → Prop} {l : List AV} {J : Nat → List AV → AH → Prop} {RR : Value → Addr → Result → Shared → Prop} {E : Value → Shared → Prop} {env : Env} {sc : Scope}
    (henv : env = c.env) (hsc : env.scope = sc) (co : CompOk scope sc) (tb : TBp (relabelS scope sc) P tgt f) (ok : c.Ok b) (at' : At c s lm cm H α δ) (nm : NmR c s.heap lm cm H.n α m)
    (st1 : Step c.bad H.n H1.n α δ α1 δ1 s s1) (hB : ∀ p ∈ c.bad, p ∈ B') (hB2 : ∀ p ∈ B', p ∉ c.bad → s.heap.get? p = none) (at1 : At { c with bad := B' } s1 lm cm H1 α1 δ1) (itr : Itr c.w c.A c.base B' tgt I hid wr St k) (hst : St 0 s1.heap)
    (hnew : ∀ b ∈ hid, s.heap.get? b = none) (hsrc : ∀ H2 α2, src H2 → H1.n ≤ H2.n → (∀ i, i < H1.n → α2 i = α1 i) → k H2 α2 l) (s0 : src H1) (hP : ∀ a ∈ l, P a) (hlen : l.length ≤ 1000) (j0 : J 0 [] H1)
    (turn : ∀ i a ys H2, l[i]? = some a → J i ys H2 → src H2 → Tst b (relabelS scope sc) ifs (f a (compV scope m)) H2 (fun t H3 => if t = true then EV b (relabelS scope sc) elt (f a (compV scope m)) H3 (fun r H4 => src H4 ∧ J (i + 1) (ys ++ [r]) H4) NoX else src H3 ∧ J (i + 1) ys H3))
    (hRR : ∀ D C s' m'' ys H2 α2 δ2, J l.length ys H2 → At c s' lm cm (H2.alloc (.list ys)) (ups α2 H2.n D) (ups δ2 H2.n D) → Step c.bad H.n (H2.n + 1) α δ (ups α2 H2.n D) (ups δ2 H2.n D) s s' → s'.heap.Ns C m'' → s.heap.get? C = none → c.base.get? C = none → (∀ i, i < H2.n + 1 → ups δ2 H2.n D i ≠ C) →
      C ≠ c.L → (∀ x, c.env.cells.lookup x ≠ some C) → RR (.ref D) C (.ok .next) s') :
    wpAny (model pg c.w) c.A (newList []) (fun acc s₃ => wpAny (model pg c.w) c.A (newFunctionEnv scope env.globals (closeL env.cells scope.names []) [] env.qual none .none (some env)) (fun cenv s₄ =>
      codeAny (model pg c.w) c.A (.compStart (.ListComp elt [⟨tgt, it, ifs, 0⟩] scope pos) 0 (.ref I) acc { cenv with scope := relabel scope env }) (RR acc cenv.locals) s₄) E s₃) E s1 := by
  subst henv
  refine wpAny_newObj_type (wpAny_newFunctionEnv co.cell (by intro y hy; simp at hy) (fun h4 hns hsb => ?_) co.kind)
  dsimp only at hns hsb ⊢
  generalize hD : s1.heap.objs.size = D at hns hsb ⊢
  generalize hH2 : s1.heap.push { cls := .type "list", dict := none, data := .seq ([] : List Value).toArray } = G at hns hsb ⊢
  generalize hC : G.objs.size = C at hns hsb ⊢
  have hC' : C = D + 1 := by rw [← hC, ← hH2, Heap.size_push, hD]
  have hDC : D ≠ C := by rw [hC']; exact Nat.ne_of_lt (Nat.lt_succ_self _)
  have hp : ∀ p, p ∉ c.bad → (∃ o, s.heap.get? p = some o) → p ∉ B' := fun p hn ⟨o, e⟩ hm => by rw [hB2 p hm hn] at e; cases e
  have hpB : ∀ p, p ∉ B' → p ∉ c.bad := fun p hn hm => hn (hB p hm)
  have lt1 : ∀ b o, s1.heap.get? b = some o → b < D := fun b o e => hD ▸ Heap.lt_size e
  have up4 : ∀ b o, s1.heap.get? b = some o → h4.get? b = some o := fun b o e => hsb.extBut b o (Nat.ne_of_lt (hC' ▸ Nat.lt_succ_of_lt (lt1 b o e))) (Heap.get?_push_of_some _ (hH2 ▸ Heap.get?_push_of_some _ e))
  have n1D : s1.heap.get? D = none := hD ▸ size_none _
  have n1C : s1.heap.get? C = none := none_of_le (by rw [hC', hD]; exact Nat.le_succ _)
  have nD : s.heap.get? D = none := none_back st1.pr n1D
  have nC : s.heap.get? C = none := none_back st1.pr n1C
  have bD : c.base.get? D = none := base_none at' nD
  have bC : c.base.get? C = none := base_none at' nC
  have hacc : h4.get? D = some (lst []) := hsb.extBut _ _ hDC (Heap.get?_push_of_some _ (hH2 ▸ hD ▸ Heap.get?_push_size _ rfl))
  have CL : C ≠ c.env.locals := fun q => by obtain ⟨o, _, _, e, _⟩ := at'.ns; have e : s.heap.get? c.env.locals = some o := e; rw [← q, nC] at e; cases e
  have DL : D ≠ c.env.locals := fun q => by obtain ⟨o, _, _, e, _⟩ := at'.ns; have e : s.heap.get? c.env.locals = some o := e; rw [← q, nD] at e; cases e
  have Ccell : ∀ x, c.env.cells.lookup x ≠ some C := fun x q => by obtain ⟨o, e, _⟩ := (at'.cl x C q).1; rw [nC] at e; cases e
  have subc : ∀ x a, (closeL c.env.cells scope.names []).lookup x = some a → c.env.cells.lookup x = some a := fun x a e => (closeL_sub e).elim (fun z => by cases z) id
  have hasc : ∀ x, (x, NameKind.free) ∈ scope.names → ∃ a, (closeL c.env.cells scope.names []).lookup x = some a := fun x hx => by
    obtain ⟨a, ha⟩ := ok.lk x (by rw [kindOf_sc hsc]; exact co.free _ hx rfl)
    exact closeL_has ha hx
  let c2 : Cx := { c with bad := B', env := compEnvC scope (closeL c.env.cells scope.names []) C c.env }
  have esc : c2.env.scope = relabelS scope sc := relabel_eq hsc
  have ok2 : c2.Ok b := ⟨ok.pb, ok.fb, ok.hh, ok.hf, ok.dp, ok.un, co.kind, ok.glob, ok.bi, ok.K, ok.T, fun x hx => hasc x (relabel_cell (by rw [kindOf_sc esc] at hx; exact hx) co.cell), fun x y a e1 e2 => ok.cd x y a (subc x a e1) (subc y a e2)⟩
  have st4 : Step c.bad H.n H1.n α δ α1 δ1 s { s1 with heap := h4, toks := s1.toks + ([] : List (PySem.Str × Value)).length } := st1.trans (Step.more ⟨_, _, rfl⟩ up4)
  have at4 : At c2 { s1 with heap := h4, toks := s1.toks + ([] : List (PySem.Str × Value)).length } (fun x => ([] : List (PySem.Str × Value)).reverse.lookup x) cm H1 α1 δ1 :=
    ⟨at1.toAtH.more up4, hns, fun b o e => up4 b o (at1.bs b o e), bC, fun x a e => ⟨(at1.cl x a (subc x a e)).1.keeps up4, (at1.cl x a (subc x a e)).2⟩, at1.fr.of_keeps fun b o e _ => ⟨o, up4 b o e, rfl⟩,
      fun i hi q => (by obtain ⟨o, e, _⟩ := (at1.ob i hi).stor; have q : δ1 i = C := q; rw [q, n1C] at e; cases e), at1.df, fun p hm => let ⟨o, e⟩ := at1.bb p hm; ⟨o, up4 _ _ e⟩⟩
  have cell4 : ∀ x a, compV scope m x = some a → ∃ ad v, (closeL c.env.cells scope.names []).lookup x = some ad ∧ cm x = some v ∧ VR B' h4 H1.n α1 v a := fun x a e => by
    unfold compV at e
    by_cases hf : scope.names.lookup x = some .free
    · rw [if_pos hf] at e
      have hm := lookup_mem hf
      obtain ⟨ad, had⟩ := hasc x hm
      have kx : c.env.kindOf x = some .cell := by rw [kindOf_sc hsc]; exact co.free _ hm rfl
      rcases nm x a e with ⟨k1, _⟩ | ⟨_, ad', v, ha, hv, r⟩
      · rw [kx] at k1; cases k1
      · exact ⟨ad, v, had, hv, (r.re hp).mono (fun p vs hn t => (st1.tu p vs (hpB p hn) t).keeps up4) st1.gr.le st1.gr.a⟩
    · rw [if_neg hf] at e; cases e
  have nmOf : ∀ {h : Heap} {lm2 : PySem.Str → Option Value} {n : Nat} {α2 : Nat → Addr}, (∀ x a, compV scope m x = some a → ∃ ad v, (closeL c.env.cells scope.names []).lookup x = some ad ∧ cm x = some v ∧ VR B' h n α2 v a) → NmR c2 h lm2 cm n α2 (compV scope m) :=
    fun z x a e => by
      obtain ⟨ad, v, h1, h2, h3⟩ := z x a e
      refine .inr ⟨.inl ?_, ad, v, h1, h2, h3⟩
      rw [kindOf_sc esc]
      unfold compV at e
      by_cases hf : scope.names.lookup x = some .free
      · exact relabel_free co.fn (co.free _ (lookup_mem hf) rfl) hf
      · rw [if_neg hf] at e; cases e
  have oldw : ∀ b o, s.heap.get? b = some o → b ∉ hid := fun b o e hm => by rw [hnew b hm] at e; cases e
  have oldB : ∀ p vs, p ∉ c.bad → IsTup s.heap p vs → p ∉ B' := fun p vs hn t => hp p hn (let ⟨o, e, _⟩ := t; ⟨o, e⟩)
  have loop : ∀ s4 : Shared, s4 = { s1 with heap := h4, toks := s1.toks + ([] : List (PySem.Str × Value)).length } →
      codeAny (model pg c.w) c.A (.compLoop (.ListComp elt [⟨tgt, it, ifs, 0⟩] scope pos) 0 (.ref I) (.ref D) (compEnvC scope (closeL c.env.cells scope.names []) C c.env)) (RR (.ref D) C) s4 := by
    rintro s4 rfl
    refine codeAny_compLoop_any (CS c c2 B' s cm H H1 α δ α1 (closeL c.env.cells scope.names []) (compV scope m) D St src J l.length) ?_ (l.length - 0)
      ⟨0, [], [], _, H1, α1, δ1, st4, at4, cell4, itr.frame _ _ _ hst fun b hb o e => up4 b o e, s0, ⟨Nat.le_refl _, fun _ _ => rfl⟩, hacc, .nil, j0, fun j hj q => (by obtain ⟨o, e, _⟩ := (at1.ob j hj).stor; rw [q, n1D] at e; cases e), Nat.zero_le _, Nat.le_refl _, rfl⟩
    rintro n s2 ⟨i, vs, ys, lm2, H2, α2, δ2, st2, at2, cell2, hst2, hs2, hg2, hD2, rv2, hj, off2, hil, hvl, rfl⟩ E'
    have hk := hsrc H2 α2 hs2 hg2.1 hg2.2
    have keepD : ∀ {s' : Shared}, Off B' wr s2.heap s'.heap → s'.heap.get? D = some (lst vs) := fun z => z.kp D _ (fun q => by obtain ⟨o, e, k'⟩ := z.kd D q; rw [hD2] at e; cases e; exact k'.stor (.inl ⟨rfl, _, _, rfl⟩)) hD2
    cases ha : l[i]? with
    | none =>
      refine itr.done H2 α2 δ2 i s2 l at2.toAtH hk hst2 ha _ _ fun s3 sh3 off3 => ?_
      have hi : i = l.length := by rw [List.getElem?_eq_none_iff] at ha; omega
      subst hi
      have st3 : Step c.bad H.n H2.n α δ α2 δ2 s s3 := ⟨st2.sh.trans sh3, st2.gr, fun a o e => by
          obtain ⟨o', e'⟩ := st2.pr a o e
          exact ⟨o', off3.kp a o' (fun qq => oldw a o e (itr.sub a qq)) e'⟩, fun b o e x1 => off3.kp b o (fun qq => oldw b o e (itr.sub b qq)) (st2.kp b o e x1), st2.nw, fun p vs hn t => off3.tu p vs (oldB p vs hn t) (st2.tu p vs hn t)⟩
      have ah3 : AtH B' c.w c.base s3.heap H2 α2 δ2 := at2.toAtH.off off3
      have at3 : At c s3 lm cm H2 α2 δ2 := at'.step st3 (ah3.re fun p hn _ => hpB p hn)
      have hns3 : s3.heap.Ns C lm2 := by
        obtain ⟨o, es, ep, e, d, r⟩ := at2.ns
        have e : s2.heap.get? C = some o := e
        exact ⟨o, es, ep, off3.kp _ o (fun q => by obtain ⟨o1, e1, hk⟩ := off3.kd _ q; rw [e] at e1; cases e1; exact hk.dict d) e, d, r⟩
      have hD3 := keepD off3
      have adopt : OR c.bad c.w s3.heap (H2.n + 1) (ups α2 H2.n D) (ups δ2 H2.n D) H2.n (.list ys) :=
        ⟨by rw [ups_self, ups_self], vs, vs.length, by rw [ups_self]; exact hD3, ((off3.vrs rv2).re fun p hn _ => hpB p hn).mono (fun _ _ _ t => t) (Nat.le_succ _) fun i hi => ups_lt hi⟩
      have gr' : Gr H.n (H2.n + 1) α δ (ups α2 H2.n D) (ups δ2 H2.n D) := st3.gr.trans Gr.ups
      have ndlt : ∀ i, i < H2.n + 1 → i ≠ H2.n → i < H2.n := fun i h1 h2 => by omega
      have ahA : AtH c.bad c.w c.base s3.heap (H2.alloc (.list ys)) (ups α2 H2.n D) (ups δ2 H2.n D) := by
        refine ⟨fun i hi => ?_, fun i j hi hj e => ?_, fun i hi => ?_⟩
        · show OR c.bad c.w s3.heap (H2.n + 1) _ _ i (if i = H2.n then .list ys else H2.f i)
          by_cases h : i = H2.n
          · subst h; rw [if_pos rfl]; exact adopt
          · have hi' := ndlt i hi h
            rw [if_neg h]
            exact (at3.ob i hi').mono hi' (fun _ _ _ t => t) (Nat.le_succ _) (fun _ q => ups_lt q) (ups_lt hi') (fun ob e _ => ⟨ob.slots, e⟩) (fun ob e => e)
        · by_cases h : i = H2.n
          · by_cases h' : j = H2.n
            · rw [h, h']
            · rw [h, ups_self, ups_lt (ndlt j hj h')] at e
              exact absurd e.symm (off2 j (ndlt j hj h'))
          · by_cases h' : j = H2.n
            · rw [h', ups_self, ups_lt (ndlt i hi h)] at e
              exact absurd e (off2 i (ndlt i hi h))
            · rw [ups_lt (ndlt i hi h), ups_lt (ndlt j hj h')] at e
              exact at3.inj i j (ndlt i hi h) (ndlt j hj h') e
        · by_cases h : i = H2.n
          · rw [h, ups_self]; exact bD
          · rw [ups_lt (ndlt i hi h)]; exact at3.db i (ndlt i hi h)
      have stA : Step c.bad H.n (H2.n + 1) α δ (ups α2 H2.n D) (ups δ2 H2.n D) s s3 := ⟨st3.sh, gr', st3.pr, st3.kp, fun i hi hn => by
        by_cases h : i = H2.n
        · rw [h, ups_self]; exact nD
        · rw [ups_lt (ndlt i hi h)]; exact st3.nw i (ndlt i hi h) hn, st3.tu⟩
      exact hRR D C s3 lm2 ys H2 α2 δ2 hj (at'.step stA ahA) stA hns3 nC bC (fun i hi => by
        by_cases h : i = H2.n
        · rw [h, ups_self]; exact hDC
        · rw [ups_lt (ndlt i hi h)]; exact at2.dl i (ndlt i hi h)) CL Ccell
    | some a => 
      refine itr.item H2 α2 δ2 i s2 l a at2.toAtH at2.bb hk hst2 ha _ _ fun v s3 sh3 hid3 lot => ?_
      refine lot _ _ fun s4 sh4 hid4 hst4 hv => ?_
      have hid' := hid3.trans hid4
      have at4 : At c2 s4 lm2 cm H2 α2 δ2 := at2.hid hid' fun b hb => itr.bs b (itr.sub b hb)
      have nm4 : NmR c2 s4.heap lm2 cm H2.n α2 (compV scope m) := nmOf fun x a e => let ⟨ad, v, h1, h2, h3⟩ := cell2 x a e; ⟨ad, v, h1, h2, hid'.vr h3⟩
      refine tb b c2 s4 lm2 cm (compV scope m) H2 α2 δ2 v a _ _ ok2 esc at4 nm4 hv (hP a (List.mem_of_getElem? ha)) fun s5 lm5 sh5 kp5 at5 nm5 => ?_
      have hst5 : St (i + 1) s5.heap := itr.frame _ _ _ hst4 fun b hb o e => kp5 b o (fun qq => by
        obtain ⟨o', e', k'⟩ := itr.kind _ _ hst4 b hb
        obtain ⟨o2, es, ep, e2, d2, _⟩ := at4.ns
        have e2 : s4.heap.get? b = some o2 := qq ▸ e2
        rw [e'] at e2; cases e2; exact k'.dict d2) e
      have tu5 : ∀ p vs, IsTup s4.heap p vs → IsTup s5.heap p vs := fun p vs t => by
        obtain ⟨o, e, hc, n, d⟩ := t
        refine ⟨o, kp5 p o (fun qq => ?_) e, hc, n, d⟩
        obtain ⟨o2, es, ep, e2, d2, _⟩ := at4.ns
        have e2 : s4.heap.get? p = some o2 := qq ▸ e2
        rw [e] at e2; cases e2; rw [d] at d2; cases d2
      have vr5 : ∀ {v : Value} {a : AV}, VR B' s2.heap H2.n α2 v a → VR B' s5.heap H2.n α2 v a := fun r => (hid'.vr r).mono (fun p vs _ t => tu5 p vs t) (Nat.le_refl _) fun _ _ => rfl
      have vrs5 : ∀ {v : List Value} {a : List AV}, VRs B' s2.heap H2.n α2 v a → VRs B' s5.heap H2.n α2 v a := fun r => (hid'.vrs r).mono (fun p vs _ t => tu5 p vs t) (Nat.le_refl _) fun _ _ => rfl
      have hD5 : s5.heap.get? D = some (lst vs) := kp5 D _ hDC (keepD hid'.off)
      have st5 : Step c.bad H.n H2.n α δ α2 δ2 s s5 := ⟨st2.sh.trans (sh3.trans (sh4.trans sh5)), st2.gr, fun a o e => by
          obtain ⟨o', e'⟩ := st2.pr a o e
          have e4 := hid'.kp a o' (fun qq => oldw a o e (itr.sub a qq)) e'
          exact ⟨o', kp5 a o' (fun qq => by have qq : a = C := qq; rw [qq, nC] at e; cases e) e4⟩,
        fun b o e x1 => kp5 b o (fun qq => by have qq : b = C := qq; rw [qq, nC] at e; cases e) (hid'.kp b o (fun qq => oldw b o e (itr.sub b qq)) (st2.kp b o e x1)), st2.nw, fun p vs hn t => tu5 p vs (hid'.tu p vs (oldB p vs hn t) (st2.tu p vs hn t))⟩
      have hlt : i < l.length := (List.getElem?_eq_some_iff.mp ha).1
      have mid : ∀ {s6 : Shared} {H6 : AH} {α6 δ6 : Nat → Addr}, Step B' H2.n H6.n α2 δ2 α6 δ6 s5 s6 → At c2 s6 lm5 cm H6 α6 δ6 → Step c.bad H.n H6.n α δ α6 δ6 s s6 ∧ (∀ x a, compV scope m x = some a → ∃ ad v, (closeL c.env.cells scope.names []).lookup x = some ad ∧ cm x = some v ∧ VR B' s6.heap H6.n α6 v a) ∧
          St (i + 1) s6.heap ∧ (H1.n ≤ H6.n ∧ ∀ i, i < H1.n → α6 i = α1 i) ∧ s6.heap.get? D = some (lst vs) ∧ VRs B' s6.heap H6.n α6 vs ys ∧ (∀ j, j < H6.n → δ6 j ≠ D) := fun {s6 H6 α6 δ6} st6 at6 =>
        ⟨⟨st5.sh.trans st6.sh, st5.gr.trans st6.gr, fun a o e => let ⟨o', e'⟩ := st5.pr a o e; st6.pr a o' e', fun b o e x1 => st6.kp b o (st5.kp b o e x1) (off_new st5.gr st5.nw b o e x1),
            nw_trans st6.gr st5.pr st5.nw st6.nw, fun p vs hn t => st6.tu p vs (oldB p vs hn t) (st5.tu p vs hn t)⟩,
          fun x a e => let ⟨ad, v, h1, h2, h3⟩ := cell2 x a e; ⟨ad, v, h1, h2, st6.vr (vr5 h3)⟩,
          itr.frame _ _ _ hst5 fun b hb o e => (by obtain ⟨o', e', k'⟩ := itr.kind _ _ hst5 b hb; exact st6.kp b o e (hid_off at5.toAtH e' k')),
          ⟨Nat.le_trans hg2.1 st6.gr.le, fun j hj => (st6.gr.a j (Nat.lt_of_lt_of_le hj hg2.1)).trans (hg2.2 j hj)⟩, st6.kp D _ hD5 off2, st6.vrs (vrs5 rv2), off_new st6.gr st6.nw D _ hD5 off2⟩
      refine (turn i a ys H2 ha hj hs2).any c2 s5 lm5 cm α2 δ2 _ _ ok2 esc at5 nm5 (fun t t' s6 H6 α6 δ6 st6 at6 tt z => ?_) fun _ _ _ _ _ _ x' => x'.elim
      subst tt
      obtain ⟨b1, b2, b3, b4, b5, b6, b7⟩ := mid st6 at6
      cases t with
      | false =>
        simp only [Bool.false_eq_true, if_false] at z ⊢
        exact ⟨l.length - (i + 1), by omega, i + 1, vs, ys, lm5, H6, α6, δ6, b1, at6, b2, b3, z.1, b4, b5, b6, z.2, b7, hlt, Nat.le_succ_of_le hvl, rfl⟩
      | true =>
        simp only [if_true] at z ⊢
        refine z c2 s6 lm5 cm α6 δ6 _ _ ok2 esc at6 (nm5.mono fun _ _ => st6.vr) (fun u r s7 H7 α7 δ7 st7 at7 hr z7 => ?_) fun _ _ _ _ _ _ x' => x'.elim
        obtain ⟨d1, d2, d3, d4, d5, d6, d7⟩ := mid (st6.trans st7) at7
        refine append_at (hsz := by rw [List.size_toArray, sizeLine_eq]; omega) d5 fun h8 hs8 hD8 => ?_
        have hc8 : (lst vs).cls ≠ .type "tuple" := by simp
        have tu8 := acc_tu hs8 d5 hc8
        have vr8 : ∀ {v : Value} {a : AV}, VR B' s7.heap H7.n α7 v a → VR B' h8 H7.n α7 v a := fun r => r.mono (fun p vs _ t => tu8 p vs t) (Nat.le_refl _) fun _ _ => rfl
        have at8 : At c2 { s7 with heap := h8 } lm5 cm H7 α7 δ7 := by
          refine ⟨at7.toAtH.acc hs8 d7 d5 (by intro e; cases e) hc8, ?_, fun b o e => (hs8.2 b fun q => by rw [q] at e; have e : c.base.get? D = some o := e; rw [bD] at e; cases e).trans (at7.bs b o e), bC, fun x a e => ⟨?_, (at7.cl x a e).2⟩, funFrames_up (fun b o e f => ?_) at7.fr, at7.dl, at7.df, fun p hm => ?_⟩
          · obtain ⟨o, es, ep, e, d, r⟩ := at7.ns
            exact ⟨o, es, ep, (hs8.2 _ (Ne.symm hDC)).trans e, d, r⟩
          · obtain ⟨o, e, d⟩ := (at7.cl x a e).1
            exact ⟨o, (hs8.2 _ fun q => by rw [q, d5] at e; cases e; cases d).trans e, d⟩
          · by_cases q : b = D
            · exact ⟨_, q ▸ hD8, by intro vs z; cases z⟩
            · exact ⟨o, (hs8.2 b q).trans e, f⟩
          · obtain ⟨o, e⟩ := at7.bb p hm
            by_cases q : p = D
            · exact ⟨_, q ▸ hD8⟩
            · exact ⟨o, (hs8.2 p q).trans e⟩
        refine ⟨l.length - (i + 1), by omega, i + 1, vs ++ [u], ys ++ [r], lm5, H7, α7, δ7, ⟨d1.sh.trans ⟨_, _, rfl⟩, d1.gr, fun a o e => ?_, fun b o e x1 => (hs8.2 b fun q => by rw [q, nD] at e; cases e).trans (d1.kp b o e x1), d1.nw, fun p vs hn t => tu8 p vs (d1.tu p vs hn t)⟩, at8,
          fun x a e => let ⟨ad, v, h1, h2, h3⟩ := d2 x a e; ⟨ad, v, h1, h2, vr8 h3⟩, itr.frame _ _ _ d3 fun b hb o e => (hs8.2 b fun q => ?_).trans e, z7.1, d4, hD8.trans (congrArg some (lst_snoc vs u)),
          VRs.append (d6.mono (fun p vs _ t => tu8 p vs t) (Nat.le_refl _) fun _ _ => rfl) (.cons (vr8 hr) .nil), z7.2, d7, hlt, by simp; omega, rfl⟩
        · obtain ⟨o', e'⟩ := d1.pr a o e
          exact ⟨o', (hs8.2 a fun q => by rw [q, nD] at e; cases e).trans e'⟩
        · obtain ⟨o', e', k'⟩ := itr.kind _ _ d3 b hb
          rw [q, d5] at e'; cases e'; exact k'.stor (.inl ⟨rfl, _, _, rfl⟩)
  exact codeAny_compStart_list (loop _ rfl) (itr.self 0 _ _ _ (itr.frame _ _ _ hst fun b hb o e => up4 b o e) (loop _ rfl))
end
-- B13
section
theorem comp_end {c : Cx} {s0 s' : Shared} {lm lm0 cm cm0 : PySem.Str → Option Value} {H0 H1 : AH} {α0 δ0 α δ : Nat → Addr} {C : Addr} {m'' : PySem.Str → Option Value} {h' : Heap}
    (at0 : At c s0 lm0 cm0 H0 α0 δ0) (at' : At c s' lm cm H1 α δ) (hns : s'.heap.Ns C m'') (nC : s0.heap.get? C = none) (bC : c.base.get? C = none) (off : ∀ i, i < H1.n → δ i ≠ C) (cL : C ≠ c.L) (cc : ∀ x, c.env.cells.lookup x ≠ some C)
    (hs : Heap.SameBut C s'.heap h') : At c { s' with heap := h' } lm cm H1 α δ := by
  obtain ⟨o, es, ep, e, d, _⟩ := hns
  have fo : ∀ f ∈ c.fs, f.frame ≠ some C := fun f hf q => by
    obtain ⟨_, o, ho, _⟩ := at0.fr.mem (b := C) (List.mem_filterMap.mpr ⟨f, hf, q⟩)
    rw [nC] at ho; cases ho
  refine ⟨at'.toAtH.but hs off e (by rw [d]; intro z; cases z) (by intro xs k; rw [d]; intro z; cases z), ?_, fun b o e => (hs.2 b fun q => by rw [q, bC] at e; cases e).trans (at'.bs b o e), at'.bl, fun x a e => ⟨(at'.cl x a e).1.sameBut hs fun q => cc x (q ▸ e), (at'.cl x a e).2⟩, ?_, at'.dl, at'.df, fun p hm => ?_⟩
  · exact at'.ns.sameBut hs (Ne.symm cL)
  · have : ∀ l : List Env, (∀ f ∈ l, f.frame ≠ some C) → s'.heap.FunFrames c.base l → h'.FunFrames c.base l := by
      intro l
      induction l with
      | nil => intro _ _; trivial
      | cons env l ih =>
        rintro hf ⟨h1, ⟨L, o, h2, h3, h4, h5⟩, h6⟩
        exact ⟨h1, ⟨L, o, h2, h3, (hs.2 _ fun q => hf env (.head _) (q ▸ h2)).trans h4, h5⟩, ih (fun f hm => hf f (.tail _ hm)) h6⟩
    exact this _ fo at'.fr
  · obtain ⟨o', e'⟩ := at'.bb p hm
    obtain ⟨o0, e0⟩ := at0.bb p hm
    exact ⟨o', (hs.2 p fun q => by rw [q, nC] at e0; cases e0).trans e'⟩
theorem end_step {B : List Addr} {n n' : Nat} {α δ α' δ' : Nat → Addr} {s s' : Shared} {C : Addr} {h' : Heap} {m'' : PySem.Str → Option Value} (st : Step B n n' α δ α' δ' s s') (nC : s.heap.get? C = none) (hns : s'.heap.Ns C m'') (hs : Heap.SameBut C s'.heap h') : Step B n n' α δ α' δ' s { s' with heap := h' } :=
  ⟨st.sh.trans ⟨_, _, rfl⟩, st.gr, fun a o e => let ⟨o', e'⟩ := st.pr a o e; ⟨o', (hs.2 a fun q => by rw [q, nC] at e; cases e).trans e'⟩, fun b o e x => (hs.2 b fun q => by rw [q, nC] at e; cases e).trans (st.kp b o e x), st.nw, fun p vs hn t => by
    obtain ⟨o, e, hc, n, d⟩ := st.tu p vs hn t
    refine ⟨o, (hs.2 p fun q => ?_).trans e, hc, n, d⟩
    obtain ⟨o2, es, ep, e2, d2, _⟩ := hns
    rw [q, e2] at e; cases e; rw [d] at d2; cases d2⟩

section
variable {b : Bd} {sc : Scope} {m : Vars} {H : AH} {X : AH → Prop}
noncomputable abbrev CompIt (b : Bd) (sc scope : Scope) (elt tgt it : Expr) (ifs : List Expr) (f : AV → Vars → Vars) (P : AV → Prop) (m : Vars) (H : AH) (Q : List AV → AH → Prop) : Prop :=
  IT b sc tgt it m H (fun l src H1 => (∀ a ∈ l, P a) ∧ l.length ≤ 1000 ∧ ∃ J : Nat → List AV → AH → Prop, J 0 [] H1 ∧
      (∀ i a ys H2, l[i]? = some a → J i ys H2 → src H2 → Tst b (relabelS scope sc) ifs (f a (compV scope m)) H2 (fun t H3 => if t = true then EV b (relabelS scope sc) elt (f a (compV scope m)) H3 (fun r H4 => src H4 ∧ J (i + 1) (ys ++ [r]) H4) NoX else src H3 ∧ J (i + 1) ys H3)) ∧
      ∀ ys H2, J l.length ys H2 → Q ys H2) NoX
theorem EV_comp {scope : Scope} {elt tgt it : Expr} {ifs : List Expr} {pos : Pos} {f : AV → Vars → Vars} {P : AV → Prop} {Q : AV → AH → Prop} (co : CompOk scope sc) (tb : TBp (relabelS scope sc) P tgt f)
    (h : CompIt b sc scope elt tgt it ifs f P m H (fun ys H2 => Q (.ref H2.n) (H2.alloc (.list ys)))) (hs : ∀ env x, foldedSetIterable it env x = pure x := by intro _ _; rfl) :
    EV b sc (.ListComp elt [⟨tgt, it, ifs, 0⟩] scope pos) m H Q X := by
  intro c s lm cm α δ Qr Er ok hsc at' nm q xx
  have hclos : closureFor scope c.env = pure (closeL c.env.cells scope.names []) := closure_of fun y hy hf => ok.lk y.1 (by rw [kindOf_sc hsc]; exact co.free y hy hf)
  rw [eval_ListComp]
  refine wpAny_comprehension_free (use := none) rfl (hs _) hclos co.kind co.names (h c s lm cm α δ _ Er ok hsc at' nm (fun I hid wr St k B' l src s1 H1 α1 δ1 st1 hB hB2 at1 itr hst hnew hsrc s0 z => ?_) fun _ _ _ _ _ _ x' => x'.elim)
  obtain ⟨hP, hlen, J, j0, turn, fin⟩ := z
  refine comp_core rfl hsc co tb ok at' nm st1 hB hB2 at1 itr hst hnew hsrc s0 hP hlen j0 turn (fun D C s' m'' ys H2 α2 δ2 hj at2 st2 hns nC bC off cL cc => ?_)
  refine ⟨m'', hns, fun h' hs' => ?_⟩
  exact q _ _ _ _ _ _ (end_step st2 nC hns hs') (comp_end at' at2 hns nC bC off cL cc hs') vr_new (fin ys H2 hj)

theorem ES_assign_comp {scope : Scope} {elt tgt it : Expr} {ifs : List Expr} {y : PySem.Str} {py pos spos : Pos} {f : AV → Vars → Vars} {P : AV → Prop} {Q : Fl → Vars → AH → Prop} {X : Vars → AH → Prop} (co : CompOk scope sc) (tb : TBp (relabelS scope sc) P tgt f)
    (h : CompIt b sc scope elt tgt it ifs f P m H (fun ys H2 => Q .next (up m y (.ref H2.n)) (H2.alloc (.list ys)))) (hy : sc.names.lookup y = some .local)
    (hyn : (scope.names.any fun (n, k) => n == y && (k == .local || k == .cell)) = false) (hline : (py.line == pos.line) = true := by rfl)
    (hs : ∀ env x, foldedSetIterable it env x = pure x := by intro _ _; rfl) :
    ES b sc (.Assign [.Name y py] (.ListComp elt [⟨tgt, it, ifs, 0⟩] scope pos) spos) m H Q X := by
  intro c s lm cm α δ Qr Er ok hsc hf hl at' nm q xx
  have hclos : closureFor scope c.env = pure (closeL c.env.cells scope.names []) := closure_of fun y hy hf => ok.lk y.1 (by rw [kindOf_sc hsc]; exact co.free y hy hf)
  have ky : c.env.kindOf y = some .local := by rw [kindOf_sc hsc]; exact hy
  have hsw : swapsWith (.ListComp elt [⟨tgt, it, ifs, 0⟩] scope pos) (some (.Name y py)) spos.line c.env = pure true := by
    show (pure (c.env.blockKind == .function && c.env.kindOf y == some .local && py.line == (Expr.ListComp elt [⟨tgt, it, ifs, 0⟩] scope pos).pos.line
      && !(scope.names.any fun (n, k) => n == y && (k == .local || k == .cell))) : Sem Bool) = _
    rw [hyn, ky]
    show (pure (c.env.blockKind == .function && true && (py.line == pos.line) && !false) : Sem Bool) = _
    rw [hline]
    unfold Env.blockKind
    rw [ok.kind]
    rfl
  rw [exec_Assign_Name_used _ _ _ _ hsw]
  refine wpAny_bind (wpAny_standAt (wpAny_bind ?_))
  show wpAny _ _ (do let _ ← comprehension (.ListComp elt [⟨tgt, it, ifs, 0⟩] scope pos) scope c.env _ (newList []) false (eval it c.env) (some (assign (.Name y py) c.env))) _ _ s
  refine wpAny_bind (wpAny_mono (wpAny_comprehension_free (use := some (assign (.Name y py) c.env)) (Q := fun _ s' => Qr .next s') rfl (hs _) hclos co.kind co.names (h c s lm cm α δ _ Er ok hsc at' nm (fun I hid wr St k B' l src s1 H1 α1 δ1 st1 hB hB2 at1 itr hst hnew hsrc s0 z => ?_) fun _ _ _ _ _ _ x' => x'.elim))
    (fun _ s' hq => wpAny_pure (wpAny_pure hq)) fun _ _ e => e)
  obtain ⟨hP, hlen, J, j0, turn, fin⟩ := z
  refine comp_core rfl hsc co tb ok at' nm st1 hB hB2 at1 itr hst hnew hsrc s0 hP hlen j0 turn (fun D C s' m'' ys H2 α2 δ2 hj at2 st2 hns nC bC off cL cc => ?_)
  show wpAny _ _ (assign (.Name y py) c.env (.ref D)) _ _ _
  refine wpAny_assign_Name (store_loc ok ky at2 (nm.mono fun _ _ r => r.mono st2.tu st2.gr.le st2.gr.a) vr_new fun s3 lm3 sh3 kp3 at3 nm3 => ?_)
  have hns3 : s3.heap.Ns C m'' := let ⟨o, es, ep, e, r⟩ := hns; ⟨o, es, ep, kp3 C o cL e, r⟩
  refine ⟨m'', hns3, fun h' hs' => ?_⟩
  refine q _ _ _ _ _ _ _ _ _ ⟨st2.sh.trans (sh3.trans ⟨_, _, rfl⟩), st2.gr, fun a o e => ?_, fun b o e x1 x2 x3 => (hs'.2 b fun q => by rw [q, nC] at e; cases e).trans (kp3 b o x2 (st2.kp b o e x1)), st2.nw, fun p vs hn t => ?_⟩ (comp_end at' at3 hns3 nC bC off cL cc hs') (nm3.mono fun v a r => r.mono (fun p vs hn t => ?_) (Nat.le_refl _) fun _ _ => rfl) .next (fin ys H2 hj)
  · obtain ⟨o', e'⟩ := st2.pr a o e
    by_cases qq : a = c.L
    · obtain ⟨o2, _, _, e2, _⟩ := at3.ns
      exact ⟨o2, (hs'.2 a fun q => by rw [q, nC] at e; cases e).trans (qq ▸ e2)⟩
    · exact ⟨o', (hs'.2 a fun q => by rw [q, nC] at e; cases e).trans (kp3 a o' qq e')⟩
  · obtain ⟨o, e, hc, n, d⟩ := st2.tu p vs hn t
    refine ⟨o, (hs'.2 p fun q => ?_).trans (kp3 p o (fun q => ?_) e), hc, n, d⟩
    · obtain ⟨o2, es, ep, e2, d2, _⟩ := hns
      rw [q, e2] at e; cases e; rw [d] at d2; cases d2
    · obtain ⟨o2, es, ep, e2, d2, _⟩ := at2.ns
      have e2 : s'.heap.get? p = some o2 := q ▸ e2
      rw [e] at e2; cases e2; rw [d] at d2; cases d2
  · obtain ⟨o, e, hc, n, d⟩ := t
    refine ⟨o, (hs'.2 p fun q => ?_).trans e, hc, n, d⟩
    obtain ⟨o2, es, ep, e2, d2, _⟩ := hns3
    rw [q, e2] at e; cases e; rw [d] at d2; cases d2
end
end
-- B14
section
noncomputable abbrev iL (ns : List Int) : List AV := ns.map .int
theorem intsV {B : List Addr} {h : Heap} {n : Nat} {α : Nat → Addr} : ∀ {vs : List Value} {ns : List Int}, VRs B h n α vs (iL ns) → IntsAre vs ns
  | _, [], r => r.inv0 .nil
  | _, _ :: _, r => by refine r.invC fun v us x r' => ?_; refine x.invI fun t => ?_; exact .cons _ t (intsV r')
theorem intsR {B : List Addr} {h : Heap} {n : Nat} {α : Nat → Addr} {vs : List Value} {ns : List Int} (r : IntsAre vs ns) : VRs B h n α vs (iL ns) := by
  induction r with
  | nil => exact .nil
  | cons i t _ ih => exact .cons (.int i t) ih

section
variable {c : Cx} {s : Shared} {lm cm : PySem.Str → Option Value} {α δ : Nat → Addr} {H : AH}
theorem list_at (at' : At c s lm cm H α δ) {j : Nat} {l : List AV} (hj : j < H.n) (f : H.f j = .list l) : ∃ (vs : List Value) (k : Nat), s.heap.get? (α j) = some { cls := .type "list", data := .seq vs.toArray k } ∧ VRs c.bad s.heap H.n α vs l := src_at (ax := α j) at'.toAtH ⟨j, hj, rfl, f⟩
/-- a list turned -/
theorem list_set (at' : At c s lm cm H α δ) {j : Nat} {l l' : List AV} (hj : j < H.n) (f : H.f j = .list l) {h' : Heap} {vs : List Value} {k : Nat} {tk : Nat} (hs : Heap.SameBut (α j) s.heap h') (ho : h'.get? (α j) = some { cls := .type "list", data := .seq vs.toArray k }) (r : VRs c.bad s.heap H.n α vs l') :
    At c { s with heap := h', toks := tk } lm cm (H.set j (.list l')) α δ ∧ Step c.bad H.n H.n α δ α δ s { s with heap := h', toks := tk } := by
  have OB := at'.ob j hj
  rw [f] at OB
  obtain ⟨e, vs0, k0, e0, r0⟩ := OB
  have hs' : Heap.SameBut (δ j) s.heap h' := e ▸ hs
  refine at'.upd (s' := { s with heap := h', toks := tk }) hj ⟨_, _, rfl⟩ hs' ⟨e, vs, k, ho, r.mono (fun p vs _ t => ?_) (Nat.le_refl _) fun _ _ => rfl⟩
  exact acc_tu hs e0 (by simp) p vs t
end

section
variable {b : Bd} {H : AH} {X : AH → Prop} {Q : AV → AH → Prop}
theorem CL_len {j : Nat} {l : List AV} (f : H.f j = .list l) (hl : l.length ≤ 1000) (h : Q (.int l.length) H) : CL b (.builtin "len") [.ref j] H Q X := by
  intro c s lm cm α δ vs Qr Er ok at' rr q xx
  refine rr.inv1 fun v1 rr1 => ?_
  refine rr1.invR fun _ => ?_
  have hj : j < H.n := by assumption
  obtain ⟨vs, k, e, r⟩ := list_at at' hj f
  refine PyProof.Rows.len_list ⟨_, e, rfl, _, rfl⟩ (by rw [List.size_toArray, r.length]; omega) ?_
  rw [List.size_toArray, r.length]
  exact q _ _ _ _ _ _ Step.tk at'.tk (.int _ _) h
theorem CL_abs {i : Int} (h : Q (.int (i.natAbs : Nat)) H) : CL b (.builtin "abs") [.int i] H Q X := by
  intro c s lm cm α δ vs Qr Er ok at' rr q xx
  refine rr.inv1 fun v1 rr1 => ?_
  refine rr1.invI fun _ => ?_
  refine call_abs_int fun u tk => ?_
  rw [show (if i < 0 then -i else i) = ((i.natAbs : Nat) : Int) by split <;> omega]
  exact q _ _ _ _ _ _ Step.tk at'.tk (.int _ _) h
theorem CL_sum {j : Nat} {ns : List Int} (f : H.f j = .list (iL ns)) (h : Q (.int ns.sum) H) : CL b (.builtin "sum") [.ref j] H Q X := by
  intro c s lm cm α δ vs Qr Er ok at' rr q xx
  refine rr.inv1 fun v1 rr1 => ?_
  refine rr1.invR fun _ => ?_
  have hj : j < H.n := by assumption
  obtain ⟨vs, k, e, r⟩ := list_at at' hj f
  have hi := intsV r
  obtain ⟨xs, ex⟩ := hi.allInts.items
  have hns : ns = xs.toList.map (·.1) := by rw [← hi.numsOf, ← nums_intItems, ← ex]
  refine sum_intListG ok.hh (xs := xs) ⟨_, e, rfl, _, by rw [ex]⟩ fun h' tk t' hk => ?_
  rw [preSum_eq, List.take_of_length_le (by simp), ← hns]
  exact q _ _ _ _ _ _ (Step.more ⟨_, _, rfl⟩ hk) (at'.more hk) (.int _ _) h
theorem CL_max {j : Nat} {ns : List Int} (f : H.f j = .list (iL ns)) (hne : 0 < ns.length) (h : ∀ M, M ∈ ns → (∀ a ∈ ns, a ≤ M) → Q (.int M) H) : CL b (.builtin "max") [.ref j] H Q X := by
  intro c s lm cm α δ vs Qr Er ok at' rr q xx
  refine rr.inv1 fun v1 rr1 => ?_
  refine rr1.invR fun _ => ?_
  have hj : j < H.n := by assumption
  obtain ⟨vs, k, e, r⟩ := list_at at' hj f
  have hi := intsV r
  obtain ⟨xs, ex⟩ := hi.allInts.items
  have hns : ns = xs.toList.map (·.1) := by rw [← hi.numsOf, ← nums_intItems, ← ex]
  have hsz : 0 < xs.size := by rw [hns, List.length_map, Array.length_toList] at hne; exact hne
  refine max_intList ok.hh (xs := xs) ⟨_, e, rfl, _, by rw [ex]⟩ hsz fun v h' tk hv hk => ?_
  obtain ⟨t, rfl⟩ := intItems_at hv
  obtain ⟨h1, h2⟩ := argBest_gt (numAt xs) (xs.size - 1)
  refine q _ _ _ _ _ _ (Step.more ⟨_, _, rfl⟩ hk) (at'.more hk) (.int _ _) (h _ ?_ fun a ha => ?_)
  · rw [hns, numAt_eq]; exact PySem.getD_mem (by rw [List.length_map, Array.length_toList]; omega)
  · rw [hns] at ha
    obtain ⟨j, hj, rfl⟩ := mem_getD ha
    rw [List.length_map, Array.length_toList] at hj
    rw [← numAt_eq]; exact h2 j (by omega)
theorem CL_tuple {j : Nat} {l : List AV} (f : H.f j = .list l) (hl : l.length ≤ 1000) (h : Q (.tup l) H) : CL b (.type "tuple") [.ref j] H Q X := by
  intro c s lm cm α δ vs Qr Er ok at' rr q xx
  refine rr.inv1 fun v1 rr1 => ?_
  refine rr1.invR fun _ => ?_
  have hj : j < H.n := by assumption
  obtain ⟨vs, k, e, r⟩ := list_at at' hj f
  refine call_tuple_list ⟨_, e, rfl, _, rfl⟩ (fun h' hk => ?_) (by rw [List.size_toArray, r.length, sizeLine_eq]; omega)
  have hk' : ∀ b o, s.heap.get? b = some o → (h'.push { cls := .type "tuple", data := .seq vs.toArray }).get? b = some o := fun b o e => Heap.get?_push_of_some _ (hk b o e)
  have st : Step c.bad H.n H.n α δ α δ s { s with heap := h'.push { cls := .type "tuple", data := .seq vs.toArray } } := Step.more ⟨_, _, rfl⟩ hk'
  refine q _ _ _ _ _ _ st (at'.more hk') (.tup (fun hm => ?_) ⟨_, Heap.get?_push_size _ rfl, rfl, _, rfl⟩ (st.vrs r)) h
  obtain ⟨o, eo⟩ := at'.bb _ hm
  exact Nat.lt_irrefl _ (Heap.lt_size (hk _ _ eo))
theorem CL_list {j : Nat} {l : List AV} (f : H.f j = .list l) (hl : l.length ≤ 1000) (h : Q (.ref H.n) (H.alloc (.list l))) : CL b (.type "list") [.ref j] H Q X := by
  intro c s lm cm α δ vs Qr Er ok at' rr q xx
  refine rr.inv1 fun v1 rr1 => ?_
  refine rr1.invR fun _ => ?_
  have hj : j < H.n := by assumption
  obtain ⟨vs, k, e, r⟩ := list_at at' hj f
  refine call_list_seq (α j) (.inl rfl) e rfl rfl (fun h' c' hk hD => ?_) (by rw [List.size_toArray, r.length, sizeLine_eq]; omega)
  have st : Step c.bad H.n H.n α δ α δ s { s with heap := h' } := Step.more ⟨_, _, rfl⟩ hk
  obtain ⟨at2, st2⟩ := at'.alloc (s' := { s with heap := h' }) (a := s.heap.objs.size) (d := s.heap.objs.size) (o := .list l) ⟨_, _, rfl⟩ hk (size_none _) ⟨by rw [ups_self, ups_self], vs, c', by rw [ups_self]; exact hD, (st.vrs r).mono (fun _ _ _ t => t) (Nat.le_succ _) fun i hi => ups_lt hi⟩
  exact q _ _ _ _ _ _ st2 at2 vr_new h
theorem CL_sorted {j : Nat} {ns : List Int} (f : H.f j = .list (iL ns)) (hl : ns.length < 64) (h : ∀ ns', ns'.Perm ns → ns'.Pairwise (· ≤ ·) → Q (.ref H.n) (H.alloc (.list (iL ns')))) : CL b (.builtin "sorted") [.ref j] H Q X := by
  intro c s lm cm α δ vs Qr Er ok at' rr q xx
  refine rr.inv1 fun v1 rr1 => ?_
  refine rr1.invR fun _ => ?_
  have hj : j < H.n := by assumption
  obtain ⟨vs, k, e, r⟩ := list_at at' hj f
  refine sorted_ints ⟨_, e, rfl, _, rfl⟩ (intsV r) (by rw [r.length, List.length_map]; exact hl) fun out ns' a1 a2 a3 => ?_
  obtain ⟨e', he⟩ := sortedAll_at s.heap vs out
  obtain ⟨at2, st2⟩ := at'.alloc (s' := { s with heap := sortedAll s.heap vs out }) (a := s.heap.objs.size + 1) (d := s.heap.objs.size + 1) (o := .list (iL ns')) ⟨_, _, rfl⟩ (fun b o e => sortedAll_old e) (none_of_le (Nat.le_succ _))
    ⟨by rw [ups_self, ups_self], out.toList, e', by rw [ups_self]; exact he, intsR a1⟩
  exact q _ _ _ _ _ _ st2 at2 vr_new (h ns' a2 a3)

/- methods of a list -/
theorem CL_append {j : Nat} {l : List AV} {a : AV} (f : H.f j = .list l) (hl : l.length ≤ 1000) (h : Q .none (H.set j (.list (l ++ [a])))) : CL b (.builtin "list.append") [.ref j, a] H Q X := by
  intro c s lm cm α δ vs Qr Er ok at' rr q xx
  refine rr.inv2 fun v1 v2 rr1 ra => ?_
  refine rr1.invR fun _ => ?_
  have hj : j < H.n := by assumption
  obtain ⟨vs, k, e, r⟩ := list_at at' hj f
  refine append_at e (fun h' hs ho => ?_) (by rw [List.size_toArray, r.length, sizeLine_eq]; omega)
  obtain ⟨at2, st2⟩ := list_set (tk := s.toks) at' hj f hs (vs := vs ++ [_]) (by rw [← List.push_toArray]; exact ho) (VRs.append r (.cons ra .nil))
  exact q _ _ _ (H.set j _) _ _ st2 at2 .none h
theorem CL_pop {j : Nat} {l : List AV} {a : AV} (f : H.f j = .list (l ++ [a])) (hl : l.length ≤ 1000) (h : Q a (H.set j (.list l))) : CL b (.builtin "list.pop") [.ref j] H Q X := by
  intro c s lm cm α δ vs Qr Er ok at' rr q xx
  refine rr.inv1 fun v1 rr1 => ?_
  refine rr1.invR fun _ => ?_
  have hj : j < H.n := by assumption
  obtain ⟨vs, k, e, r⟩ := list_at at' hj f
  have hlen := r.length
  rw [List.length_append, List.length_singleton] at hlen
  obtain ⟨v, hv, ra⟩ := r.get (i := l.length) (a := a) (by simp)
  have rt : VRs c.bad s.heap H.n α (vs.take l.length) l := by have := r.take l.length; rwa [List.take_left'] at this; rfl
  refine call_meets PySem.F.slot_list_pop ⟨_, e, rfl⟩ PySem.F.entry_list_pop (PySem.F.args_list_pop_1 _) (PySem.MeetsSeq.list_pop_last (α j) vs.toArray k v (by rw [List.size_toArray, hlen]; simpa using hv) (by rw [List.size_toArray, hlen, sizeLine_eq]; omega)) ⟨e, ?_⟩
  have ho' : (s.heap.update (α j) (Obj.mapSeq fun xs => xs.eraseIdxIfInBounds (vs.toArray.size - 1))).get? (α j) = some { cls := .type "list", data := .seq (vs.take l.length).toArray (k + 1) } := by
    rw [Heap.get?_update_self _ e rfl]
    have : vs.toArray.eraseIdxIfInBounds (vs.toArray.size - 1) = (vs.take l.length).toArray := by
      rw [List.eraseIdxIfInBounds_toArray, List.size_toArray, hlen, Nat.add_sub_cancel]
      congr 1
      rw [List.eraseIdx_eq_take_drop_succ, List.drop_eq_nil_of_le (by omega), List.append_nil]
    show some ({ cls := .type "list", data := .seq (vs.toArray.eraseIdxIfInBounds (vs.toArray.size - 1)) (if (vs.toArray.eraseIdxIfInBounds (vs.toArray.size - 1)).size == vs.toArray.size then k else k + 1) } : Obj) = _
    simp only [this]
    rw [List.size_toArray, List.size_toArray, List.length_take, hlen]
    simp
  obtain ⟨at2, st2⟩ := list_set (tk := s.toks) at' hj f (Heap.SameBut.update ..) ho' rt
  exact q _ _ _ (H.set j _) _ _ st2 at2 (st2.vr ra) h
theorem CL_extend {j i : Nat} {l l2 : List AV} (f : H.f j = .list l) (g : H.f i = .list l2) (hl : l.length + l2.length ≤ 1000) (h : Q .none (H.set j (.list (l ++ l2)))) : CL b (.builtin "list.extend") [.ref j, .ref i] H Q X := by
  intro c s lm cm α δ vs Qr Er ok at' rr q xx
  refine rr.inv2 fun v1 v2 rr1 rr2 => ?_
  refine rr1.invR fun _ => ?_
  refine rr2.invR fun _ => ?_
  have hj : j < H.n := by assumption
  have hi : i < H.n := by assumption
  obtain ⟨vs, k, e, r⟩ := list_at at' hj f
  obtain ⟨vs2, k2, e2, r2⟩ := list_at at' hi g
  have h1 := r.length
  have h2 := r2.length
  refine call_meets PySem.F.slot_list_extend ⟨_, e, rfl⟩ PySem.F.entry_list_extend (PySem.F.args_list_extend_2 _ _) (PySem.AutoSeq1.list_extend_list_list_0 (α j) vs.toArray k (α i) vs2.toArray k2 (extend_door (by simp only [List.size_toArray]; rw [sizeLine_eq]; omega)) (by simp only [List.size_toArray]; rw [sizeLine_eq]; omega) (by simp only [List.size_toArray]; rw [sizeLine_eq]; omega)) ⟨e, e2, ?_⟩
  have ho' : (s.heap.update (α j) (Obj.mapSeq fun x => x ++ vs2.toArray)).get? (α j) = some { cls := .type "list", data := .seq (vs ++ vs2).toArray (if (vs.toArray ++ vs2.toArray).size == vs.toArray.size then k else k + 1) } := by
    rw [Heap.get?_update_self _ e (by rw [mapSeq_app]; rfl), mapSeq_app, List.append_toArray]
  obtain ⟨at2, st2⟩ := list_set (tk := s.toks) at' hj f (Heap.SameBut.update ..) ho' (VRs.append r r2)
  exact q _ _ _ (H.set j _) _ _ st2 at2 .none h
theorem CL_index {j : Nat} {ns : List Int} {k : Int} (f : H.f j = .list (iL ns)) (hk : k ∈ ns) (hl : ns.length ≤ 1000) (h : Q (.int (ns.idxOf k : Nat)) H) : CL b (.builtin "list.index") [.ref j, .int k] H Q X := by
  intro c s lm cm α δ vs Qr Er ok at' rr q xx
  refine rr.inv2 fun v1 v2 rr1 rr2 => ?_
  refine rr1.invR fun _ => ?_
  refine rr2.invI fun _ => ?_
  have hj : j < H.n := by assumption
  rename_i t
  obtain ⟨vs, n, e, r⟩ := list_at at' hj f
  have hi := intsV r
  have hlen := hi.length
  have hlt : ns.idxOf k < ns.length := List.idxOf_lt_length_iff.mpr hk
  refine call_meets PySem.F.slot_list_index ⟨_, e, rfl⟩ PySem.F.entry_list_index (PySem.F.args_list_index_2 _ _)
    (PySem.SeqAt.list_indexAt (α j) vs.toArray n none #[] (.int k t) (isInt k) (ns.idxOf k) (by simpa [hlen] using hlt) (by omega) ?_ ?_) ⟨e, fun y hy => (eq_isInt k t hi y (by simpa using hy)).at _ _, q _ _ _ _ _ _ Step.tk at'.tk (.int _ _) h⟩
  · show isInt k vs[ns.idxOf k] = true
    rw [isInt_at k hi _ (by omega) hlt]
    simpa using List.getElem_idxOf hlt
  · intro j hjs hlt
    show isInt k vs[j] = false
    rw [isInt_at k hi j (by simpa using hjs) (by omega)]
    exact PyProof.Rows.ne_of_lt_idxOf hlt _
theorem CL_insert {j n : Nat} {i : Int} {l : List AV} {a : AV} (f : H.f j = .list l) (hl : l.length ≤ 1000) (hi : i = (n : Int)) (hn : n ≤ l.length) (h : Q .none (H.set j (.list (l.take n ++ a :: l.drop n)))) : CL b (.builtin "list.insert") [.ref j, .int i, a] H Q X := by
  intro c s lm cm α δ vs Qr Er ok at' rr q xx
  refine rr.inv3 fun v1 v2 v rr1 rr2 ra => ?_
  refine rr1.invR fun _ => ?_
  refine rr2.invI fun _ => ?_
  have hj : j < H.n := by assumption
  obtain ⟨vs, k, e, r⟩ := list_at at' hj f
  have h1 := r.length
  have hfit : ¬ (!Builtin.List.listFitsIndex i) = true := by
    have : Builtin.List.listFitsIndex i = true := by
      unfold Builtin.List.listFitsIndex
      simp only [Bool.and_eq_true, decide_eq_true_eq]
      constructor <;> omega
    rw [this]; decide
  rename_i tk
  have hsz : vs.toArray.size ≤ sizeLine := by simp only [List.size_toArray]; rw [sizeLine_eq]; omega
  have g := PySem.AutoSeq1.list_insert_list_int_val_1 (α j) vs.toArray k i tk v hfit hsz
  refine call_meets PySem.F.slot_list_insert ⟨_, e, rfl⟩ PySem.F.entry_list_insert (PySem.F.args_list_insert_3 _ _ _) g ⟨e, ?_⟩
  have ek : (if i < 0 then (i + (vs.toArray.size : Int)).toNat else min i.toNat vs.toArray.size) = n := by
    rw [if_neg (by omega), List.size_toArray]; omega
  have ea : (vs.toArray.extract 0 n).push v ++ vs.toArray.extract n = (vs.take n ++ v :: vs.drop n).toArray := by
    apply Array.ext'
    simp
    exact List.take_of_length_le (by simp)
  have ho' : ∃ k', (s.heap.update (α j) (Obj.mapSeq fun xs => have k := if i < 0 then (i + (xs.size : Int)).toNat else min i.toNat xs.size; (xs.extract 0 k).push v ++ xs.extract k)).get? (α j) = some { cls := .type "list", data := .seq (vs.take n ++ v :: vs.drop n).toArray k' } := by
    rw [Heap.get?_update_self _ e rfl]
    have key : ∀ y z : Array Value, y = z → some ({ cls := .type "list", data := .seq y (if y.size == vs.toArray.size then k else k + 1) } : Obj) = some { cls := .type "list", data := .seq z (if z.size == vs.toArray.size then k else k + 1) } := by rintro _ _ rfl; rfl
    refine ⟨_, key ((vs.toArray.extract 0 (if i < 0 then (i + (vs.toArray.size : Int)).toNat else min i.toNat vs.toArray.size)).push v ++ vs.toArray.extract (if i < 0 then (i + (vs.toArray.size : Int)).toNat else min i.toNat vs.toArray.size)) _ ?_⟩
    rw [ek, ea]
  obtain ⟨k', ho'⟩ := ho'
  obtain ⟨at2, st2⟩ := list_set (tk := s.toks) at' hj f (Heap.SameBut.update ..) ho' (VRs.append (r.take n) (.cons ra (r.drop n)))
  exact q _ _ _ (H.set j _) _ _ st2 at2 .none h
end
end
-- B15
section
/- dicts of int keys -/
noncomputable def dget (l : List (Int × AV)) (k : Int) : Option AV := (l.find? fun kv => kv.1 = k).map (·.2)
noncomputable def dset (l : List (Int × AV)) (k : Int) (v : AV) : List (Int × AV) := if l.any (fun kv => kv.1 = k) then l.map (fun kv => if kv.1 = k then (kv.1, v) else kv) else l ++ [(k, v)]
section
variable {B : List Addr} {h : Heap} {n : Nat} {α : Nat → Addr}
theorem KR.length {kvs : List (Int × Value)} {l : List (Int × AV)} (r : KR B h n α kvs l) : kvs.length = l.length := by
  induction r with
  | nil => rfl
  | cons _ _ ih => exact congrArg Nat.succ ih
theorem KR.keys {kvs : List (Int × Value)} {l : List (Int × AV)} (r : KR B h n α kvs l) : kvs.map (·.1) = l.map (·.1) := by
  induction r with
  | nil => rfl
  | cons _ _ ih => rw [List.map_cons, List.map_cons, ih]
theorem KR.get {kvs : List (Int × Value)} {l : List (Int × AV)} (r : KR B h n α kvs l) (k : Int) : AR B h n α (valueAt kvs k) (dget l k) := by
  induction r with
  | nil => exact .none
  | @cons k' _ _ _ _ x _ ih =>
    unfold valueAt dget at ih ⊢
    by_cases e : k' = k
    · rw [List.find?_cons_of_pos (by simpa using e), List.find?_cons_of_pos (by simpa using e)]; exact .some x
    · rw [List.find?_cons_of_neg (by simpa using e), List.find?_cons_of_neg (by simpa using e)]; exact ih
theorem KR.append {kvs : List (Int × Value)} {l : List (Int × AV)} (r : KR B h n α kvs l) {us : List (Int × Value)} {m : List (Int × AV)} (y : KR B h n α us m) : KR B h n α (kvs ++ us) (l ++ m) := by
  induction r with
  | nil => exact y
  | cons x _ ih => exact .cons x ih
theorem KR.any (k : Int) {kvs : List (Int × Value)} {l : List (Int × AV)} (r : KR B h n α kvs l) : kvs.any (fun kv => kv.1 = k) = l.any (fun kv => kv.1 = k) := by
  induction r with
  | nil => rfl
  | cons _ _ ih => rw [List.any_cons, List.any_cons, ih]
theorem KR.map (k : Int) {v : Value} {a : AV} (va : VR B h n α v a) : ∀ {kvs : List (Int × Value)} {l : List (Int × AV)}, KR B h n α kvs l → KR B h n α (kvs.map fun kv => if kv.1 = k then (kv.1, v) else kv) (l.map fun kv => if kv.1 = k then (kv.1, a) else kv)
  | _, _, .nil => .nil
  | _, _, .cons (k := k') x r => by
    rw [List.map_cons, List.map_cons]
    by_cases e : k' = k
    · simp only [e, if_true]; exact .cons va (KR.map k va r)
    · simp only [e, if_false]; exact .cons x (KR.map k va r)
theorem KR.stored {kvs : List (Int × Value)} {l : List (Int × AV)} {k : Int} {v : Value} {a : AV} (r : KR B h n α kvs l) (va : VR B h n α v a) : KR B h n α (PySem.stored kvs k v) (dset l k a) := by
  unfold PySem.stored dset
  rw [r.any k]
  split
  · exact r.map k va
  · exact r.append (.cons va .nil)
end
section
variable {c : Cx} {s : Shared} {lm cm : PySem.Str → Option Value} {α δ : Nat → Addr} {H : AH}
theorem dict_at (at' : At c s lm cm H α δ) {j : Nat} {l : List (Int × AV)} (hj : j < H.n) (f : H.f j = .dict l) : ∃ kvs, s.heap.DictOf (intKind pg c.w) (α j) kvs ∧ KR c.bad s.heap H.n α kvs l ∧ (α j == sysModules) = false := by
  have := at'.ob j hj
  rw [f] at this
  obtain ⟨e, eb, kvs, d, r⟩ := this
  refine ⟨kvs, d, r, ?_⟩
  rw [beq_eq_false_iff_ne]
  intro q
  rw [q] at eb
  exact absurd eb (by decide)
theorem dict_set (at' : At c s lm cm H α δ) {j : Nat} {l l' : List (Int × AV)} (hj : j < H.n) (f : H.f j = .dict l) {h' : Heap} {kvs : List (Int × Value)} {tk : Nat} (hs : Heap.SameBut (α j) s.heap h') (ho : h'.DictOf (intKind pg c.w) (α j) kvs) (r : KR c.bad s.heap H.n α kvs l') :
    At c { s with heap := h', toks := tk } lm cm (H.set j (.dict l')) α δ ∧ Step c.bad H.n H.n α δ α δ s { s with heap := h', toks := tk } := by
  have OB := at'.ob j hj
  rw [f] at OB
  obtain ⟨e, eb, kvs0, ⟨o0, es0, ep0, e0, hx, hd, _⟩, r0⟩ := OB
  have hs' : Heap.SameBut (δ j) s.heap h' := e ▸ hs
  refine at'.upd (s' := { s with heap := h', toks := tk }) hj ⟨_, _, rfl⟩ hs' ⟨e, eb, kvs, ho, r.mono (fun p vs _ t => ?_) (Nat.le_refl _) fun _ _ => rfl⟩
  obtain ⟨o', e', hc, n, d⟩ := t
  refine ⟨o', (hs.2 _ fun q => ?_).trans e', hc, n, d⟩
  rw [q, e0] at e'; cases e'; rw [hd] at d; cases d
theorem size_big {b : Bd} (ok : c.Ok b) (at' : At c s lm cm H α δ) : 2 ≤ s.heap.objs.size := by
  have : 3 < s.heap.objs.size := (ok.T.g.keeps at'.bs).lt
  omega
end

section
variable {b : Bd} {sc : Scope} {m : Vars} {H : AH} {X : AH → Prop} {Q : AV → AH → Prop}
theorem EV_dict0 {pos : Pos} (h : Q (.ref H.n) (H.alloc (.dict []))) : EV b sc (.Dict [] [] pos) m H Q X := by
  intro c s lm cm α δ Qr Er ok hs at' nm q xx
  refine wpAny_Dict_empty ?_
  have ho := Heap.DictOf.new (knd := intKind pg c.w) s.heap
  obtain ⟨at2, st2⟩ := at'.alloc (s' := { s with heap := s.heap.push { cls := .type "dict", data := .dict #[] } }) (a := s.heap.objs.size) (d := s.heap.objs.size) (o := .dict []) ⟨_, _, rfl⟩ (fun _ _ e => Heap.get?_push_of_some _ e) (size_none _) ⟨by rw [ups_self, ups_self], by rw [ups_self]; exact size_big ok at', [], by rw [ups_self]; exact ho, .nil⟩
  exact q _ _ _ _ _ _ st2 at2 vr_new h
theorem CL_get {j : Nat} {l : List (Int × AV)} {k : Int} (f : H.f j = .dict l) (h : Q ((dget l k).getD .none) H) : CL b (.builtin "dict.get") [.ref j, .int k, .none] H Q X := by
  intro c s lm cm α δ vs Qr Er ok at' rr q xx
  refine rr.inv3 fun v1 v2 v3 rr1 rr2 rr3 => ?_
  refine rr1.invR fun _ => ?_
  refine rr2.invI fun _ => ?_
  refine rr3.invN ?_
  have hj : j < H.n := by assumption
  obtain ⟨kvs, d, r, lo⟩ := dict_at at' hj f
  rename_i t
  refine call_meetsIn PySem.F.slot_dict_get d.typeIs PySem.F.entry_dict_get (PySem.F.args_dict_get_3 _ _ _) (meets_dict_get_default (intKind pg c.w) (α j) (intKind_is pg c.w k t) lo .none) ⟨_, d.mapOf, ?_⟩
  refine q _ _ _ _ _ _ Step.tk at'.tk ?_ h
  have := r.get k
  generalize valueAt kvs k = x at this
  generalize dget l k = y at this
  cases this with
  | none => exact .none
  | some z => exact z.mono (fun _ _ _ t => t) (Nat.le_refl _) fun _ _ => rfl

/- items -/
theorem EV_sub {value slice : Expr} {pos : Pos} (h : EV b sc value m H (fun o H1 => EV b sc slice m H1 (fun i H2 => OP b (a2 (subscriptTail value slice)) VR [o, i] H2 Q X) X) X) : EV b sc (.Subscript value slice pos) m H Q X :=
  TR_two h fun _ _ _ _ _ _ z => Subscript_ z
noncomputable abbrev subOk (slice : Expr) : Prop := ∀ o i, subscripted slice false o i = operate [o, i] (getItem o i)
theorem SB_list {value slice : Expr} {j : Nat} {l : List AV} {k : Int} {a : AV} (f : H.f j = .list l) (hk : 0 ≤ k) (hk2 : k < 2 ^ 63) (e : l[k.toNat]? = some a) (h : Q a H) (hs : subOk slice := by intro _ _; rfl) : OP b (a2 (subscriptTail value slice)) VR [.ref j, .int k] H Q X := by
  intro c s lm cm α δ vs Qr Er ok at' rr q xx
  refine rr.inv2 fun v1 v2 rr1 rr2 => ?_
  refine rr1.invR fun _ => ?_
  refine rr2.invI fun _ => ?_
  have hj : j < H.n := by assumption
  obtain ⟨vs, n, e1, r⟩ := list_at at' hj f
  obtain ⟨v, hv, ra⟩ := r.get e
  have hl : s.heap.IsList (α j) vs.toArray := ⟨_, e1, rfl, _, rfl⟩
  exact PyProof.Rows.tail_any hl.typeIs slot_list_getitem.lookup (wpAny_getItem_list hl hk hk2 (x := v) (by simpa using hv) (q _ _ _ _ _ _ (Step.refl s) at' ra h)) (hs _ _)
theorem SB_tup {value slice : Expr} {l : List AV} {k : Int} {a : AV} (hk : 0 ≤ k) (hk2 : k < 2 ^ 63) (e : l[k.toNat]? = some a) (h : Q a H) (hs : subOk slice := by intro _ _; rfl) : OP b (a2 (subscriptTail value slice)) VR [.tup l, .int k] H Q X := by
  intro c s lm cm α δ vs Qr Er ok at' rr q xx
  refine rr.inv2 fun v1 v2 r0 rr2 => ?_
  refine rr2.invI fun _ => ?_
  refine r0.invT fun _ _ hp t r => ?_
  obtain ⟨v, hv, ra⟩ := r.get e
  refine item_tupleT t (by omega) hk2 (j := k.toNat) ?_ hv (q _ _ _ _ _ _ (Step.refl s) at' ra h) (hs _ _)
  rename_i vs0
  have : k.toNat < vs0.length := (List.getElem?_eq_some_iff.mp hv).1
  unfold seqIndex?
  have h0 : ¬ k < 0 := by omega
  have h1 : (k : Int) < (vs0.length : Int) := by omega
  simp [h0]
  omega
theorem SB_dict {value slice : Expr} {j : Nat} {l : List (Int × AV)} {k : Int} {a : AV} (f : H.f j = .dict l) (e : dget l k = some a) (h : Q a H) (hs : subOk slice := by intro _ _; rfl) : OP b (a2 (subscriptTail value slice)) VR [.ref j, .int k] H Q X := by
  intro c s lm cm α δ vs Qr Er ok at' rr q xx
  refine rr.inv2 fun v1 v2 rr1 rr2 => ?_
  refine rr1.invR fun _ => ?_
  refine rr2.invI fun _ => ?_
  have hj : j < H.n := by assumption
  obtain ⟨kvs, d, r, lo⟩ := dict_at at' hj f
  have hr := r.get k
  rw [e] at hr
  generalize hx : valueAt kvs k = x at hr
  cases hr with | some hr =>
  rename_i t v
  exact PyProof.Rows.tail_any d.typeIs slot_dict_getitem.lookup (wpAny_getItem_of (intKind_is pg c.w k t) d.mapOf hx (q _ _ _ _ _ _ Step.tk at'.tk hr h)) (hs _ _)

/-- x[::-1] -/
theorem slice_new {c : Cx} {s : Shared} {lm cm : PySem.Str → Option Value} {α δ : Nat → Addr} {o : Obj} {vs : List Value} {l : List AV} {k : Nat} (at' : At c s lm cm H α δ) (r : VRs c.bad s.heap H.n α vs l) :
    At c { s with heap := (s.heap.push o).push { cls := .type "list", data := .seq vs.toArray k } } lm cm (H.alloc (.list l)) (ups α H.n (s.heap.push o).objs.size) (ups δ H.n (s.heap.push o).objs.size) ∧
      Step c.bad H.n (H.n + 1) α δ (ups α H.n (s.heap.push o).objs.size) (ups δ H.n (s.heap.push o).objs.size) s { s with heap := (s.heap.push o).push { cls := .type "list", data := .seq vs.toArray k } } := by
  have at1 : At c { s with heap := s.heap.push o } lm cm H α δ := push_at at'
  have st1 : Step c.bad H.n H.n α δ α δ s { s with heap := s.heap.push o } := push_step
  obtain ⟨at2, st2⟩ := list_new (k := k) at1 (st1.vrs r)
  exact ⟨at2, st1.trans st2⟩
theorem EV_rev {value e : Expr} {p pos : Pos} (h : EV b sc value m H (fun a H1 => EV b sc e m H1 (fun i H2 => i = .int (-1) ∧ ∃ j l, a = .ref j ∧ H2.f j = .list l ∧ l.length ≤ 1000 ∧ Q (.ref H2.n) (H2.alloc (.list l.reverse))) X) X)
    (hs : ∀ o i, subscripted (.Slice none none (some e) p) false o i = operate [o, i] (getItem o i) := by intro _ _; rfl) : EV b sc (.Subscript value (.Slice none none (some e) p) pos) m H Q X := by
  intro c s lm cm α δ Qr Er ok hsc at' nm q xx
  refine Subscript_ (h c s lm cm α δ _ Er ok hsc at' nm (fun v a s1 H1 α1 δ1 st1 at1 r1 z => ?_) xx)
  refine wpAny_Slice ?_
  rw [evalPart_none, evalPart_some]
  refine wpAny_pure (wpAny_pure (z c s1 lm cm α1 δ1 _ Er ok hsc at1 (nm.mono fun _ _ => st1.vr) (fun v' i s2 H2 α2 δ2 st2 at2 r2 z2 => ?_) fun e s2 H2 α2 δ2 ex x' => xx e s2 H2 α2 δ2 (ex.after st1) x'))
  obtain ⟨rfl, j, l, rfl, f, hl, z3⟩ := z2
  have r1' := st2.vr r1
  refine r2.invI fun _ => ?_
  refine r1'.invR fun hj => ?_
  obtain ⟨vs, k, e1, r⟩ := list_at at2 hj f
  have hlen := r.length
  rename_i t
  have e1' : (s2.heap.push { cls := .type "slice", data := .fields #[.none, .none, .int (-1) t] }).get? (α2 j) = some { cls := .type "list", data := .seq vs.toArray k } := Heap.get?_push_of_some _ e1
  have hl' : Heap.IsList (s2.heap.push { cls := .type "slice", data := .fields #[.none, .none, .int (-1) t] }) (α2 j) vs.toArray := ⟨_, e1', rfl, _, rfl⟩
  refine PyProof.Rows.tail_any (s := { s2 with heap := s2.heap.push { cls := .type "slice", data := .fields #[.none, .none, .int (-1) t] } }) hl'.typeIs slot_list_getitem.lookup (wpAny_getItem_list_slice hl' (Heap.IsSliceOf.new _ _ _ _) .none .none (.int (-1) t) (by decide) ?_ (by rw [List.size_toArray, hlen, sizeLine_eq]; omega)) (hs _ _)
  rw [krv_pick]
  obtain ⟨at3, st3⟩ := slice_new (o := { cls := .type "slice", data := .fields #[.none, .none, .int (-1) t] }) (k := 0) at2 r.reverse
  exact q _ _ _ (H2.alloc (.list l.reverse)) _ _ ((st1.trans st2).trans st3) at3 vr_new z3
/-- x[:n] of a list of ints of the heap below -/
theorem EV_upto {value e : Expr} {p pos : Pos} {n : Nat} {ns : List Int} {a0 : Addr} (h : EV b sc value m H (fun a H1 => a = .gl (.ref a0) ∧ EV b sc e m H1 (fun i H2 => i = .int n ∧ n ≤ 1000 ∧ Q (.ref H2.n) (H2.alloc (.list (iL (ns.take n))))) X) X)
    (hP : ∀ h, b.P h → ∃ vs : List Value, h.IsList a0 vs.toArray ∧ IntsAre vs ns) (hlen : ns.length ≤ 1000)
    (hs : ∀ o i, subscripted (.Slice none (some e) none p) false o i = operate [i, o] (getItem o i) := by intro _ _; rfl) : EV b sc (.Subscript value (.Slice none (some e) none p) pos) m H Q X := by
  intro c s lm cm α δ Qr Er ok hsc at' nm q xx
  refine Subscript_ (h c s lm cm α δ _ Er ok hsc at' nm (fun v a s1 H1 α1 δ1 st1 at1 r1 z => ?_) xx)
  obtain ⟨rfl, z⟩ := z
  refine wpAny_Slice ?_
  rw [evalPart_none, evalPart_some]
  refine wpAny_pure (z c s1 lm cm α1 δ1 _ Er ok hsc at1 (nm.mono fun _ _ => st1.vr) (fun v' i s2 H2 α2 δ2 st2 at2 r2 z2 => wpAny_pure ?_) fun e s2 H2 α2 δ2 ex x' => xx e s2 H2 α2 δ2 (ex.after st1) x')
  obtain ⟨rfl, hn, z3⟩ := z2
  refine r2.invI fun _ => ?_
  refine r1.invG ?_
  rename_i t
  obtain ⟨vs, hb, hi⟩ := hP _ ok.pb
  have hl2 : s2.heap.IsList a0 vs.toArray := by obtain ⟨o, e, r⟩ := hb; exact ⟨o, at2.bs _ _ e, r⟩
  have hl' : Heap.IsList (s2.heap.push { cls := .type "slice", data := .fields #[.none, .int n t, .none] }) a0 vs.toArray := hl2.push _
  have hlen' := hi.length
  refine PyProof.Rows.tail_any (s := { s2 with heap := s2.heap.push { cls := .type "slice", data := .fields #[.none, .int n t, .none] } }) hl'.typeIs slot_list_getitem.lookup (wpAny_getItem_list_slice hl' (Heap.IsSliceOf.new _ _ _ _) .none (.int n t) .none (by decide) ?_ (by rw [List.size_toArray, hlen', sizeLine_eq]; omega)) (hs _ _)
  have ep : slicePick vs.toArray none (some (n : Int)) none = (vs.take n).toArray := by
    by_cases hc : n ≤ vs.toArray.size
    · rw [slicePick_upto _ _ hc]
    · rw [kms_pick_eq]
      rw [List.size_toArray] at hc
      have e1 : kms_lo none vs.length = 0 := by simp [kms_lo]
      have e2 : kms_hi (some (n : Int)) vs.length = vs.length := by simp [kms_hi]; omega
      unfold kms_pick
      rw [show vs.toArray.toList = vs from rfl, e1, e2, List.take_of_length_le (by simp), List.take_of_length_le (by omega)]
      rfl
  rw [ep]
  obtain ⟨at3, st3⟩ := slice_new (o := { cls := .type "slice", data := .fields #[.none, .int n t, .none] }) (k := 0) at2 (l := iL (ns.take n)) (vs := vs.take n) (by rw [show iL (ns.take n) = (iL ns).take n from List.map_take ..]; exact (intsR hi).take n)
  exact q _ _ _ (H2.alloc (.list (iL (ns.take n)))) _ _ ((st1.trans st2).trans st3) at3 vr_new z3
end
end
-- B16
section
/- stores -/
section
variable {b : Bd} {sc : Scope} {m : Vars} {H : AH}
noncomputable def SetIt (o i a : AV) (H : AH) (Q : AH → Prop) : Prop :=
  (∃ j l n, o = .ref j ∧ i = .int ((n : Nat) : Int) ∧ H.f j = .list l ∧ n < l.length ∧ l.length ≤ 1000 ∧ Q (H.set j (.list (l.set n a)))) ∨
  (∃ j l k, o = .ref j ∧ i = .int k ∧ H.f j = .dict l ∧ l.length ≤ 1000 ∧ Q (H.set j (.dict (dset l k a))))
theorem VRs.set {B : List Addr} {h : Heap} {n : Nat} {α : Nat → Addr} {v : Value} {a : AV} (r : VR B h n α v a) {vs : List Value} {l : List AV} (y : VRs B h n α vs l) (k : Nat) : VRs B h n α (vs.set k v) (l.set k a) := by
  induction l generalizing vs k with
  | nil => exact y.inv0 .nil
  | cons b l ih =>
    cases k with
    | zero => exact y.invC fun _ _ _ y => .cons r y
    | succ k => exact y.invC fun _ _ x y => .cons x (ih y k)
theorem TA_sub {o i : Expr} {pos : Pos} {a : AV} {Q : Vars → AH → Prop} {X : Vars → AH → Prop} (h : EV b sc o m H (fun ov H1 => EV b sc i m H1 (fun iv H2 => SetIt ov iv a H2 (fun H3 => Q m H3)) NoX) NoX) : TA b sc (.Subscript o i pos) a m H Q X := by
  intro c s lm cm α δ v Qr Er ok hs at' nm r q xx
  refine kas_sub (h c s lm cm α δ _ Er ok hs at' nm (fun ov u s1 H1 α1 δ1 st1 at1 r1 z => ?_) fun _ _ _ _ _ _ x' => x'.elim)
  refine z c s1 lm cm α1 δ1 _ Er ok hs at1 (nm.mono fun _ _ => st1.vr) (fun iv w s2 H2 α2 δ2 st2 at2 r2 z2 => ?_) fun _ _ _ _ _ _ x' => x'.elim
  have st := st1.trans st2
  have r1' := st2.vr r1
  have ra := st.vr r
  rcases z2 with ⟨j, l, n, rfl, rfl, f, hn, hl, z3⟩ | ⟨j, l, k, rfl, rfl, f, hl, z3⟩
  · refine r1'.invR fun hj => ?_
    refine r2.invI fun _ => ?_
    obtain ⟨vs, k, e1, r⟩ := list_at at2 hj f
    have hlen := r.length
    refine ki_setAt (items := vs.toArray) (n := k) e1 (by omega) (by omega) (by rw [List.size_toArray]; omega) ?_
    have ho : ∃ k', (s2.heap.update (α2 j) (Obj.mapSeq (·.setIfInBounds (n : Int).toNat v))).get? (α2 j) = some { cls := .type "list", data := .seq (vs.set n v).toArray k' } := by
      rw [Heap.get?_update_self _ e1 rfl]
      have key : ∀ y z : Array Value, y = z → some ({ cls := .type "list", data := .seq y (if y.size == vs.toArray.size then k else k + 1) } : Obj) = some { cls := .type "list", data := .seq z (if z.size == vs.toArray.size then k else k + 1) } := by rintro _ _ rfl; rfl
      refine ⟨_, key (vs.toArray.setIfInBounds (n : Int).toNat v) _ ?_⟩
      rw [show (n : Int).toNat = n by omega, List.setIfInBounds_toArray]
    obtain ⟨k', ho⟩ := ho
    obtain ⟨at3, st3⟩ := list_set (tk := s2.toks) at2 hj f (Heap.SameBut.update ..) ho (VRs.set ra r n)
    exact q _ lm cm m (H2.set j _) _ _ (st.trans st3).x at3 (nm.mono fun _ _ => (st.trans st3).vr) z3
  · refine r1'.invR fun hj => ?_
    refine r2.invI fun _ => ?_
    rename_i t
    obtain ⟨kvs, d, r, lo⟩ := dict_at at2 hj f
    refine wpAny_setItem_pairs (intKind_is pg c.w k t) d (fun h' d' hs' => ?_) (by rw [r.length, sizeLine_eq]; omega)
    obtain ⟨at3, st3⟩ := dict_set (tk := s2.toks + 1) at2 hj f hs' d' (r.stored ra)
    exact q _ lm cm m (H2.set j _) _ _ (st.trans st3).x at3 (nm.mono fun _ _ => (st.trans st3).vr) z3
end

/- methods -/
section
variable {b : Bd} {sc : Scope} {m : Vars} {H : AH} {X : AH → Prop} {Q : AV → AH → Prop}
inductive LM : PySem.Str → String → Prop
  | append : LM "append" "list.append"
  | pop : LM "pop" "list.pop"
  | extend : LM "extend" "list.extend"
  | index : LM "index" "list.index"
  | insert : LM "insert" "list.insert"
/-- what o.name gives where it is called -/
inductive GM (H : AH) : AV → PySem.Str → Value → Prop
  | list {j : Nat} {l : List AV} {name : PySem.Str} {id : String} (f : H.f j = .list l) (lm : LM name id) : GM H (.ref j) name (.builtin id)
  | dict {j : Nat} {l : List (Int × AV)} (f : H.f j = .dict l) : GM H (.ref j) "get" (.builtin "dict.get")
  | inst {j : Nat} {C : Addr} {d : PySem.Str → Option AV} {name : PySem.Str} {fn : Addr} (f : H.f j = .inst C d) (hC : ClsOk C) (hn : d name = none)
      (hf : ∀ P, findIn (hd.heap_1 P) (.ref C) name = some (some (.ref fn))) (ht : ∀ P, isFn (hd.heap_1 P) (.ref fn) = true) (hk : ∀ P, keepIn (hd.heap_1 P) (.ref fn) = true) : GM H (.ref j) name (.ref fn)
theorem LM.ty {name : PySem.Str} {id : String} : LM name id → typeOf (.builtin id) = pure (.type "method_descriptor")
  | .append => PySem.F.type_list_append
  | .pop => PySem.F.type_list_pop
  | .extend => PySem.F.type_list_extend
  | .index => PySem.F.type_list_index
  | .insert => PySem.F.type_list_insert
theorem LM.slot {name : PySem.Str} {id : String} : LM name id → Slot "list" name id
  | .append => PySem.F.slot_list_append
  | .pop => PySem.F.slot_list_pop
  | .extend => PySem.F.slot_list_extend
  | .index => PySem.F.slot_list_index
  | .insert => PySem.F.slot_list_insert
theorem GM.cw {o : AV} {name : PySem.Str} {fv : Value} (g : GM H o name fv) : CW fv := by
  cases g with
  | list f lm => exact .bi _
  | dict f => exact .bi _
  | inst f hC hn hf ht hk => exact .k hk
theorem GM.get {c : Cx} {s : Shared} {lm cm : PySem.Str → Option Value} {α δ : Nat → Addr} {o : AV} {v fv : Value} {name : PySem.Str} {pl : Sem Bool} {Qr : Value × List Value → Shared → Prop} {Er : Value → Shared → Prop} (ok : c.Ok b) (at' : At c s lm cm H α δ)
    (r : VR c.bad s.heap H.n α v o) (g : GM H o name fv) (h : Qr (fv, [v]) s) : wpAny (model pg c.w) c.A (getMethod v name pl) Qr Er s := by
  cases g with
  | list f lm =>
    revert h; refine r.invR fun hj h => ?_
    obtain ⟨vs, k, e1, r⟩ := list_at at' hj f
    exact getMethod_list_of lm.slot lm.ty ⟨_, e1, rfl, _, rfl⟩ ⟨_, e1, rfl⟩ h
  | dict f =>
    revert h; refine r.invR fun hj h => ?_
    obtain ⟨kvs, d, r, lo⟩ := dict_at at' hj f
    exact getMethod_builtin d.typeIs PySem.F.plainAttrs_dict PySem.F.slot_dict_get PySem.F.type_dict_get d.mapOf.noDict h
  | @inst j C d name fn f hC hn hf ht hk =>
    revert h; refine r.invR fun hj h => ?_
    have OB := at'.ob j hj
    rw [f] at OB
    obtain ⟨ox, od, mA, I, hod, hdx, hns, hw, hpl, hr⟩ := instAt OB
    have KI : c.K.In s.heap := ok.K.keeps at'.bs
    have hx := hr name
    rw [hn] at hx
    refine method_fn KI I (plainGet_of (hC.pg _)).1 (plainGet_of (hC.pg _)).2 (hf _) (beq_iff_eq.mp (ht _)) ?_ h
    show (lookIn name od).map _ = _
    rw [lookIn_ns hns hod name]
    cases e : mA name with
    | none => rfl
    | some z => rw [e] at hx; cases hx
inductive MethP (name : PySem.Str) (K : Value → AV → AH → Prop) (ov : AV) (H : AH) : Prop
  | mk (fv : Value) : GM H ov name fv → K fv ov H → MethP name K ov H
theorem EV_method0 {o : Expr} {name : PySem.Str} {apos pos : Pos} (h : EV b sc o m H (MethP name fun fv ov H1 => CL b fv [ov] H1 Q X) X)
    (he : ∀ env, ∃ pl, eval (.Call (.Attribute o name apos) [] [] pos) env = (do
      let ov ← eval o env
      standAt apos.atName
      let (f, first) ← holding [ov] (getMethod ov name pl)
      callWith pos f first (backTo pos (starEach [] env)) []) := by intro _; exact ⟨_, rfl⟩) : EV b sc (.Call (.Attribute o name apos) [] [] pos) m H Q X := by
  intro c s lm cm α δ Qr Er ok hsc at' nm q xx
  obtain ⟨pl, he⟩ := he c.env
  refine MethodCall_ (h c s lm cm α δ _ Er ok hsc at' nm (fun v a s1 H1 α1 δ1 st1 at1 r z => ?_) xx) he
  obtain ⟨fv, g, z⟩ := z
  refine g.get ok at1 r ?_
  have go : wpAny (model pg c.w) c.A (call fv [v]) Qr Er s1 := z c s1 lm cm α1 δ1 _ Qr Er ok at1 (.cons r .nil) (fun v a s3 H3 α3 δ3 st3 at3 r3 z3 => q v a s3 H3 α3 δ3 (st1.trans st3) at3 r3 z3) fun e s3 H3 α3 δ3 ex x' => xx e s3 H3 α3 δ3 (ex.after st1) x'
  have cw := g.cw
  clear g z
  cases cw with
  | k hk => exact callWith_K0 (first := [v]) (ok.K.keeps at1.bs) (hk c.w.params) go
  | bi id => exact callWith_method0 (first := [v]) go
  | ty T => exact PyProof.Rows.callWith_type (first := [v]) rfl (evalArgs_nil3 go)
theorem EV_method {o e : Expr} {rest : List Expr} {name : PySem.Str} {apos pos : Pos} (h : EV b sc o m H (MethP name fun fv ov H1 => EVs b sc pos (e :: rest) m H1 (fun l H2 => CL b fv (ov :: l) H2 Q X) X) X)
    (he : ∀ env, ∃ pl, eval (.Call (.Attribute o name apos) (e :: rest) [] pos) env = (do
      let ov ← eval o env
      standAt apos.atName
      let (f, first) ← holding [ov] (getMethod ov name pl)
      callWith pos f first (backTo pos (starEach (e :: rest) env)) []) := by intro _; exact ⟨_, rfl⟩)
    (hs : ∀ env, starEach (e :: rest) env = (false, eval e env) :: starEach rest env := by intro _; rfl) (hplain : ∀ env, (backTo pos (starEach rest env)).any (·.1) = false := by intro _; rfl) : EV b sc (.Call (.Attribute o name apos) (e :: rest) [] pos) m H Q X := by
  intro c s lm cm α δ Qr Er ok hsc at' nm q xx
  obtain ⟨pl, he⟩ := he c.env
  refine MethodCall_ (h c s lm cm α δ _ Er ok hsc at' nm (fun v a s1 H1 α1 δ1 st1 at1 r z => ?_) xx) he
  obtain ⟨fv, g, z⟩ := z
  refine g.get ok at1 r ?_
  have go : wpAny (model pg c.w) c.A (spliced (backTo pos (starEach (e :: rest) c.env))) (fun vs s2 => c.K.In s2.heap ∧ wpAny (model pg c.w) c.A (call fv ([v] ++ vs)) Qr Er s2) Er s1 := by
    refine z c s1 lm cm α1 δ1 _ Er ok hsc at1 (nm.mono fun _ _ => st1.vr) (fun vs l s2 H2 α2 δ2 st2 at2 r2 z2 => ⟨ok.K.keeps at2.bs, ?_⟩) fun e s2 H2 α2 δ2 ex x' => xx e s2 H2 α2 δ2 (ex.after st1) x'
    exact z2 c s2 lm cm α2 δ2 _ Qr Er ok at2 (.cons (st2.vr r) r2) (fun v a s3 H3 α3 δ3 st3 at3 r3 z3 => q v a s3 H3 α3 δ3 ((st1.trans st2).trans st3) at3 r3 z3) fun e s3 H3 α3 δ3 ex x' => xx e s3 H3 α3 δ3 (ex.after (st1.trans st2)) x'
  have cw := g.cw
  clear g z
  cases cw with
  | k hk => exact callWith_K (first := [v]) (ok.K.keeps at1.bs) (hk c.w.params) go (hs _) (hplain _)
  | bi id => exact callWith_method1 (first := [v]) (wpAny_mono go (fun _ _ x => x.2) fun _ _ x => x) (hs _) (hplain _)
  | ty T =>
    rw [hs] at go ⊢
    exact PyProof.Rows.callWith_type (first := [v]) (by show (false || (backTo pos (starEach rest c.env)).any (·.1)) = false; rw [hplain]; rfl) (evalArgs_plain (wpAny_mono go (fun _ _ x => x.2) fun _ _ x => x))
end

/- comparisons of data -/
mutual
noncomputable def AV.py : AV → PyData
  | .none => .none
  | .bool b => .bool b
  | .int i => .int i
  | .str x => .str x
  | .tup l => .tuple (AV.pys l)
  | .ref _ => .none
  | .gl _ => .none
noncomputable def AV.pys : List AV → List PyData
  | [] => []
  | a :: r => AV.py a :: AV.pys r
end
mutual
/-- plain data no deeper than n -/
noncomputable def AV.okd : Nat → AV → Bool
  | _, .none => true
  | _, .bool _ => true
  | _, .int _ => true
  | n + 1, .tup l => AV.okds n l
  | _, _ => false
noncomputable def AV.okds : Nat → List AV → Bool
  | _, [] => true
  | n, a :: r => AV.okd n a && AV.okds n r
end
theorem okd_s {k : Nat} {x : PySem.Str} : AV.okd k (.str x) = false := by cases k <;> rfl
theorem okd_r {k i : Nat} : AV.okd k (.ref i) = false := by cases k <;> rfl
theorem okd_g {k : Nat} {v : Value} : AV.okd k (.gl v) = false := by cases k <;> rfl
theorem okd_tup {h : Heap} {k : Nat} {p : Addr} {us : List Value} {l : List AV} (t : IsTup h p us.toArray) (ih : ∀ k, AV.okds k l = true → ∃ as, ReadsAll h us (AV.pys l) as) (e : AV.okd k (.tup l) = true) : ∃ as, Reads h (.ref p) (AV.tup l).py as := by
  cases k with
  | zero => cases e
  | succ k =>
    obtain ⟨o, ho, hc, n, hd⟩ := t
    obtain ⟨as, ra⟩ := ih k (by simpa [AV.okd] using e)
    exact ⟨_, .tuple ho hc hd (by simpa using ra)⟩
theorem okd_cons {h : Heap} {k : Nat} {v : Value} {a : AV} {vs : List Value} {l : List AV} (i1 : ∀ k, AV.okd k a = true → ∃ as, Reads h v a.py as) (i2 : ∀ k, AV.okds k l = true → ∃ as, ReadsAll h vs (AV.pys l) as) (e : AV.okds k (a :: l) = true) : ∃ as, ReadsAll h (v :: vs) (AV.pys (a :: l)) as := by
  rw [AV.okds, Bool.and_eq_true] at e
  obtain ⟨a1, r1⟩ := i1 k e.1
  obtain ⟨a2, r2⟩ := i2 k e.2
  exact ⟨_, .cons r1 r2⟩
theorem okd_reads {B : List Addr} {h : Heap} {n : Nat} {α : Nat → Addr} {k : Nat} {v : Value} {a : AV} (r : VR B h n α v a) (e : AV.okd k a = true) : ∃ as, Reads h v a.py as :=
  VR.rec (motive_1 := fun v a _ => ∀ k, AV.okd k a = true → ∃ as, Reads h v a.py as) (motive_2 := fun vs l _ => ∀ k, AV.okds k l = true → ∃ as, ReadsAll h vs (AV.pys l) as)
    (fun _ _ => ⟨_, .none⟩) (fun b _ _ => ⟨_, .bool b⟩) (fun i t _ _ => ⟨_, .int i t⟩) (fun _ _ _ e => by rw [okd_s] at e; cases e) (fun _ _ _ e => by rw [okd_r] at e; cases e)
    (fun _ t _ ih _ e => okd_tup t ih e) (fun _ _ e => by rw [okd_g] at e; cases e) (fun _ _ => ⟨_, .nil⟩) (fun _ _ i1 i2 _ e => okd_cons i1 i2 e) r k e
theorem okds_reads {B : List Addr} {h : Heap} {n : Nat} {α : Nat → Addr} {k : Nat} {vs : List Value} {l : List AV} (r : VRs B h n α vs l) (e : AV.okds k l = true) : ∃ as, ReadsAll h vs (AV.pys l) as :=
  VRs.rec (motive_1 := fun v a _ => ∀ k, AV.okd k a = true → ∃ as, Reads h v a.py as) (motive_2 := fun vs l _ => ∀ k, AV.okds k l = true → ∃ as, ReadsAll h vs (AV.pys l) as)
    (fun _ _ => ⟨_, .none⟩) (fun b _ _ => ⟨_, .bool b⟩) (fun i t _ _ => ⟨_, .int i t⟩) (fun _ _ _ e => by rw [okd_s] at e; cases e) (fun _ _ _ e => by rw [okd_r] at e; cases e)
    (fun _ t _ ih _ e => okd_tup t ih e) (fun _ _ e => by rw [okd_g] at e; cases e) (fun _ _ => ⟨_, .nil⟩) (fun _ _ i1 i2 _ e => okd_cons i1 i2 e) r k e
mutual
theorem okd_lay : ∀ {k : Nat} {a : AV}, AV.okd k a = true → a.py.canLay0 = true ∧ a.py.depth ≤ k
  | _, .none, _ => ⟨rfl, by simp [AV.py, PyData.depth]⟩
  | _, .bool b, _ => ⟨rfl, by simp [AV.py, PyData.depth]⟩
  | _, .int i, _ => ⟨rfl, by simp [AV.py, PyData.depth]⟩
  | _, .str _, e => by rw [okd_s] at e; cases e
  | _, .ref _, e => by rw [okd_r] at e; cases e
  | _, .gl _, e => by rw [okd_g] at e; cases e
  | 0, .tup _, e => by cases e
  | k + 1, .tup l, e => by
    obtain ⟨h1, h2⟩ := okds_lay (k := k) (l := l) (by simpa [AV.okd] using e)
    refine ⟨by simpa [AV.py, PyData.canLay0] using h1, ?_⟩
    simp only [AV.py, PyData.depth]; omega
theorem okds_lay : ∀ {k : Nat} {l : List AV}, AV.okds k l = true → PyData.canLayAll0 (AV.pys l) = true ∧ PyData.depthAll (AV.pys l) ≤ k
  | _, [], _ => ⟨rfl, by simp [AV.pys, PyData.depthAll]⟩
  | _, a :: r, e => by
    rw [AV.okds, Bool.and_eq_true] at e
    obtain ⟨h1, h2⟩ := okd_lay e.1
    obtain ⟨h3, h4⟩ := okds_lay e.2
    refine ⟨by simp [AV.pys, PyData.canLayAll0, h1, h3], ?_⟩
    simp only [AV.pys, PyData.depthAll]; omega
end
/-- what is compared -/
inductive RD (H : AH) : AV → PyData → Prop
  | val {a : AV} (h : AV.okd 60 a = true) : RD H a a.py
  | list {j : Nat} {l : List AV} (f : H.f j = .list l) (h : AV.okds 60 l = true) : RD H (.ref j) (.list (AV.pys l))
section
variable {b : Bd} {H : AH} {X : AH → Prop} {Q : AV → AH → Prop}
theorem RD.reads {c : Cx} {s : Shared} {lm cm : PySem.Str → Option Value} {α δ : Nat → Addr} {a : AV} {d : PyData} {v : Value} (at' : At c s lm cm H α δ) (r : VR c.bad s.heap H.n α v a) (x : RD H a d) : (∃ as, Reads s.heap v d as) ∧ SeqAt.shaped d = true := by
  cases x with
  | val h =>
    obtain ⟨h1, h2⟩ := okd_lay h
    exact ⟨okd_reads r h, by unfold SeqAt.shaped; rw [h1]; simp; omega⟩
  | list f h =>
    refine r.invR fun hj => ?_
    obtain ⟨vs, k, e1, r⟩ := list_at at' hj f
    obtain ⟨as, ra⟩ := okds_reads r h
    obtain ⟨h1, h2⟩ := okds_lay h
    refine ⟨⟨_, .list e1 rfl rfl (by simpa using ra)⟩, ?_⟩
    unfold SeqAt.shaped
    rw [PyData.canLay0, h1, Bool.true_and]
    exact decide_eq_true (by rw [PyData.depth]; omega)
theorem OP_eqd {a a' : AV} {d d' : PyData} (x : RD H a d) (y : RD H a' d') (h : Q (.bool (PyData.eqv d d')) H) : OP b (a2 (compareOp .Eq)) VR [a, a'] H Q X := by
  intro c s lm cm α δ vs Qr Er ok at' rr q xx
  refine rr.inv2 fun v1 v2 r1 r2 => ?_
  obtain ⟨⟨as, ra⟩, sa⟩ := x.reads at' r1
  obtain ⟨⟨bs, rb⟩, sb⟩ := y.reads at' r2
  exact eq_dataH ra rb sa sb (by have := ok.un; show _ < 9900; omega) (q _ _ _ _ _ _ (Step.refl s) at' (.bool _) h)
theorem OP_ned {a a' : AV} {d d' : PyData} (x : RD H a d) (y : RD H a' d') (h : Q (.bool (!PyData.eqv d d')) H) : OP b (a2 (compareOp .NotEq)) VR [a, a'] H Q X := by
  intro c s lm cm α δ vs Qr Er ok at' rr q xx
  refine rr.inv2 fun v1 v2 r1 r2 => ?_
  obtain ⟨⟨as, ra⟩, sa⟩ := x.reads at' r1
  obtain ⟨⟨bs, rb⟩, sb⟩ := y.reads at' r2
  exact ne_dataH ra rb sa sb (by have := ok.un; show _ < 9900; omega) (q _ _ _ _ _ _ (Step.refl s) at' (.bool _) h)
theorem OP_in {k : Int} {j : Nat} {ns : List Int} (f : H.f j = .list (iL ns)) (h : Q (.bool (ns.any (· == k))) H) : OP b (a2 (compareOp .In)) VR [.int k, .ref j] H Q X := by
  intro c s lm cm α δ vs Qr Er ok at' rr q xx
  refine rr.inv2 fun v1 v2 rr1 rr2 => ?_
  refine rr1.invI fun _ => ?_
  refine rr2.invR fun _ => ?_
  have hj : j < H.n := by assumption
  obtain ⟨vs, n, e1, r⟩ := list_at at' hj f
  exact in_list_ints ⟨_, e1, rfl, _, rfl⟩ (intsV r) (q _ _ _ _ _ _ (Step.refl s) at' (.bool _) h)
theorem OP_notin {k : Int} {j : Nat} {ns : List Int} (f : H.f j = .list (iL ns)) (h : Q (.bool (!ns.any (· == k))) H) : OP b (a2 (compareOp .NotIn)) VR [.int k, .ref j] H Q X := by
  intro c s lm cm α δ vs Qr Er ok at' rr q xx
  refine rr.inv2 fun v1 v2 rr1 rr2 => ?_
  refine rr1.invI fun _ => ?_
  refine rr2.invR fun _ => ?_
  have hj : j < H.n := by assumption
  obtain ⟨vs, n, e1, r⟩ := list_at at' hj f
  exact notin_list_ints ⟨_, e1, rfl, _, rfl⟩ (intsV r) (q _ _ _ _ _ _ (Step.refl s) at' (.bool _) h)
theorem VRs.rep {B : List Addr} {h : Heap} {n : Nat} {α : Nat → Addr} {v : Value} {a : AV} (r : VR B h n α v a) : ∀ k, VRs B h n α (List.replicate k v) (List.replicate k a)
  | 0 => .nil
  | k + 1 => .cons r (VRs.rep r k)
theorem fold_rep (v : Value) : ∀ (n : Nat) (acc : Array Value), List.foldl (fun x1 x2 => x1 ++ x2) acc (List.replicate n #[v]) = acc ++ (List.replicate n v).toArray
  | 0, acc => by simp
  | n + 1, acc => by rw [List.replicate_succ, List.foldl_cons, fold_rep v n, List.replicate_succ]; apply Array.ext'; simp
/-- [x] * n -/
theorem OP_rep {j n : Nat} {i : Int} {a : AV} (f : H.f j = .list [a]) (hi : i = (n : Nat)) (hn : n ≤ 1000) (h : Q (.ref H.n) (H.alloc (.list (List.replicate n a)))) : OP b (a2 (binaryOp .Mult)) VR [.ref j, .int i] H Q X := by
  intro c s lm cm α δ vs Qr Er ok at' rr q xx
  refine rr.inv2 fun v1 v2 rr1 rr2 => ?_
  refine rr1.invR fun _ => ?_
  refine rr2.invI fun _ => ?_
  have hj : j < H.n := by assumption
  obtain ⟨vs, k, e1, r⟩ := list_at at' hj f
  rcases r with _ | ⟨ra, ⟨⟩⟩
  rename_i t v
  obtain ⟨at2, st2⟩ := list_new (k := 0) (vs := List.replicate n v) (l := List.replicate n a) at' (VRs.rep ra n)
  have e0 : List.foldl (fun x1 x2 => x1 ++ x2) #[] (List.replicate (if ([v].toArray).isEmpty = true then 0 else i.toNat) [v].toArray) = (List.replicate n v).toArray := by
    have : i.toNat = n := by omega
    rw [if_neg (by simp), this, fold_rep]
    simp
  refine wpAny_binaryOp_repeat_ref (T := "list") (U := "int") (by decide) ⟨_, e1, rfl⟩ (fun s' => typeIs_int s' i t) noFill_list_mul PySem.F.fills_int_mul PySem.F.slot_int_rmul repeat_list PySem.F.slot_int_index.lookup
    (call_meets PySem.F.slot_int_rmul (typeIs_int s i t) PySem.F.entry_int_rmul (PySem.F.args_int_rmul_2 _ _) (int___rmul___int_list i t (α j) [v].toArray k)
      ⟨e1, rfl, ⟨_, e1, rfl⟩, call_meets PySem.F.slot_list_mul ⟨_, e1, rfl⟩ PySem.F.entry_list_mul (PySem.F.args_list_mul_2 _ _)
        (AutoListH.list___mul___list_int_3 (α j) [v].toArray k i t ?_ ?_ ?_) ⟨e1, ?_⟩⟩)
  · simp [Builtin.List.listFitsIndex]; omega
  · simp; omega
  · simp [Builtin.List.listTooLong, sizeLine]; omega
  · simp only [e0]
    exact q _ _ _ (H.alloc (.list (List.replicate n a))) _ _ st2 at2 vr_new h
end
end
-- B17
section
theorem At.around {c : Cx} {s : Shared} {lm cm : PySem.Str → Option Value} {H : AH} {α δ : Nat → Addr} {A : Around} (x : At c s lm cm H α δ) : At { c with A := A } s lm cm H α δ := ⟨x.toAtH, x.ns, x.bs, x.bl, x.cl, x.fr, x.dl, x.df, x.bb⟩
theorem At.around' {c : Cx} {s : Shared} {lm cm : PySem.Str → Option Value} {H : AH} {α δ : Nat → Addr} {A : Around} (x : At { c with A := A } s lm cm H α δ) : At c s lm cm H α δ := ⟨x.toAtH, x.ns, x.bs, x.bl, x.cl, x.fr, x.dl, x.df, x.bb⟩
theorem Ok.make {c : Cx} {b : Bd} {C : Addr} {vs : List Value} (x : c.Ok b) (h : 1 ≤ b.n) : Cx.Ok { c with A := c.A.under (.builtin "type.__call__" ⟨.ref C :: vs, []⟩) } b.dn :=
  ⟨x.pb, trivial, x.hh, x.hf, by have := x.dp; show c.A.depth + 1 + (b.n - 1) ≤ 900; omega, by
    have := x.un
    have e : (Code.builtin "type.__call__" ⟨.ref C :: vs, []⟩).cUnits ≤ 3 := Nat.le_of_ble_eq_true (by kernel_rfl)
    show c.A.units + (Code.builtin "type.__call__" ⟨.ref C :: vs, []⟩).cUnits + 8 * (b.n - 1) ≤ 9000; omega, x.kind, x.glob, x.bi, x.K, x.T, x.lk, x.cd⟩

section
variable {b : Bd} {H : AH} {X : AH → Prop} {Q : AV → AH → Prop}
/-- C(..) of a plain class -/
theorem CL_make {C fI : Addr} {args : List AV} (hm : ∀ P, makesIn (hd.heap_1 P) C = true) (hi : ∀ P, findIn (hd.heap_1 P) (.ref C) "__init__" = some (some (.ref fI))) (hf : ∀ P, typeIn (hd.heap_1 P) (.ref fI) = some (.type "function")) (hb : 1 ≤ b.n)
    (h : CA b.dn (.ref fI) (.ref H.n :: args) (H.alloc (.inst C fun _ => none)) (fun a H' => a = .none ∧ Q (.ref H.n) H') NoX) : CL b (.ref C) args H Q X := by
  rintro c ⟨hh, g, d, t, os⟩ lm cm α δ vs Qr Er ok at' r q xx
  have KI : c.K.In hh := ok.K.keeps at'.bs
  refine wpAny_call (make_core (makes_of KI (hm _)) (looks_findIn KI (hi _)) (fun self => bind_fn KI self (hf _)) (.inl rfl) ?_)
  have kp : ∀ b o, hh.get? b = some o → ((hh.push emptyDict).push (instObj C hh.objs.size)).get? b = some o := fun b o e => Heap.get?_push_of_some _ (Heap.get?_push_of_some _ e)
  have hx : ((hh.push emptyDict).push (instObj C hh.objs.size)).get? (hh.objs.size + 1) = some (instObj C hh.objs.size) := by heap_get
  have hdx : ((hh.push emptyDict).push (instObj C hh.objs.size)).get? hh.objs.size = some emptyDict := by heap_get
  obtain ⟨at2, st2⟩ := at'.alloc (s' := ⟨(hh.push emptyDict).push (instObj C hh.objs.size), g, d, t, os⟩) (a := hh.objs.size + 1) (d := hh.objs.size) (o := .inst C fun _ => none) ⟨_, _, rfl⟩ kp (size_none _)
    ⟨_, fun _ => none, by rw [ups_self]; exact hx, rfl, rfl, by rw [ups_self], by rw [ups_self]; exact ⟨_, _, _, hdx, rfl, by intro e he; simp at he, by first | exact trivial | (intro i j; simp) | simp [UniqKeys], fun _ => rfl⟩, fun x hx => absurd rfl hx, fun _ => .none⟩
  refine h { c with A := _ } _ lm cm _ _ (.ref (hh.objs.size + 1) :: vs) _ (Ok.make ok hb) at2.around (.cons vr_new (st2.vrs r)) (fun v a s3 H3 α3 δ3 st3 at3 r3 z => ?_) fun _ _ _ _ _ _ x' => x'.elim
  obtain ⟨rfl, z⟩ := z
  cases r3
  refine ⟨rfl, ?_⟩
  have := st3.vr (vr_new (B := c.bad) (h := (hh.push emptyDict).push (instObj C hh.objs.size)) (n := H.n) (α := α) (a := hh.objs.size + 1))
  exact q _ _ s3 H3 α3 δ3 (st2.trans st3) at3.around' this z
end
end
-- B18
section
/-- a namespace of the written part -/
noncomputable def strNs (K : Frag) (N : Addr) : Bool := match K.lookup N with
  | some ⟨_, _, .dict es _, _⟩ => es.toList.all fun e => match e.key with | .str _ _ => true | _ => false
  | _ => false
theorem ns_of {K : Frag} {h : Heap} {N : Addr} (X : K.In h) (e : strNs K N = true) : ∃ mN, h.Ns N mN ∧ ∀ x r, nsIn K N x = some r → mN x = r := by
  unfold strNs at e
  split at e
  · rename_i c d es ep sl q
    refine ⟨fun x => nsFind es x, ⟨_, es, ep, X _ _ q, rfl, fun en he => ?_, fun _ => rfl⟩, fun x r hr => ?_⟩
    · have := List.all_eq_true.mp e en (Array.mem_toList_iff.mpr he)
      split at this
      · rename_i n t hk; exact ⟨n, t, hk⟩
      · cases this
    · unfold nsIn at hr
      rw [q] at hr
      dsimp only at hr
      show nsFind es x = r
      unfold nsFind findBy
      rw [← Array.find?_toList]
      split at hr
      · rename_i en he; cases hr; rw [he]; rfl
      · rename_i he
        split at hr
        · cases hr
        · cases hr; rw [he]; rfl
  · cases e

/-- LispSignal, as it stands -/
theorem sig_cls (P : Params) : ∃ nm q N bs sn sub ab col dd k0 k1 k2 k3 k5, (hd.heap_1 P).lookup 38 = some (excClassObj nm q 38 N bs [.type "Exception", .type "BaseException", .type "object"] true sn sub ab col dd k0 k1 k2 k3 k5 "Exception.__new__") ∧
    nsIn (hd.heap_1 P) N "__init__" = some (some (.ref 35)) ∧ nsIn (hd.heap_1 P) N "__setattr__" = some none ∧ nsIn (hd.heap_1 P) N "symbol" = some none ∧ nsIn (hd.heap_1 P) N "data" = some none ∧ strNs (hd.heap_1 P) N = true :=
  ⟨_, _, _, _, _, _, _, _, _, _, _, _, _, _, by with_unfolding_all rfl, by kernel_rfl, by kernel_rfl, by kernel_rfl, by kernel_rfl, by kernel_rfl⟩

theorem sig_sa (P : Params) : findIn (hd.heap_1 P) (.ref 38) "__setattr__" = some (some (.builtin "object.__setattr__")) := by kernel_rfl
theorem sig_check {M : Model} {A : Around} {E : Value → Shared → Prop} {hh : Heap} {g : Array GenState} {d : Drawn} {t : Nat} {os : OsState} {nm qn : PySem.Str} {N e : Addr} {bs : List Value} {sn : List PySem.Str} {sub : List Value} {ab : Bool} {col : Option Bool} {dd : Option Addr} {k0 k1 k2 k3 k5 : Option Value} {o : Obj} {nameV v : Value} {Q : Unit → Shared → Prop}
    (hC2 : hh.get? 38 = some (excClassObj nm qn 38 N bs [.type "Exception", .type "BaseException", .type "object"] true sn sub ab col dd k0 k1 k2 k3 k5 "Exception.__new__")) (he2 : hh.get? e = some o) (hc : o.cls = .ref 38)
    (hq : Q () ⟨hh, g, d, t, os⟩) : wpAny M A (checkBuiltinCall "object.__setattr__" ⟨[.ref e, nameV, v], []⟩) Q E ⟨hh, g, d, t, os⟩ := by
  have z := @wpAny_check_sa A E hh g d t os nm qn 38 N e bs [.type "Exception", .type "BaseException", .type "object"] sn sub ab col dd k0 k1 k2 k3 k5 "Exception" "Exception.__new__" "object.__setattr__" "object" v M o nameV Q
  have z1 := z PySem.F.store_Exception
  have z2 := z1 hC2
  exact z2 he2 hc hq
theorem sig_sym (P : Params) : findIn (hd.heap_1 P) (.ref 38) "symbol" = some none := by kernel_rfl
theorem sig_dat (P : Params) : findIn (hd.heap_1 P) (.ref 38) "data" = some none := by kernel_rfl
/-- the first store into an exception of one's own: its dict is made -/
theorem exc_set0 {c : Cx} {s : Shared} {e : Addr} {d0 : Data} {sl : Array (Option Value)} {name : PySem.Str} {v : Value} {Q : Unit → Shared → Prop} {E : Value → Shared → Prop} {A : Around} (X : c.K.In s.heap) (he : s.heap.get? e = some { cls := .ref 38, dict := none, data := d0, slots := sl }) (hd : ∃ vs, d0 = .fields vs)
    (ha : findIn c.K (.ref 38) name = some none)
    (q : ∀ h' tk, h'.Ns1 s.heap.objs.size (fun y => if y = name then some v else none) → h'.get? e = some { cls := .ref 38, dict := some s.heap.objs.size, data := d0, slots := sl } → (∀ b o, b ≠ e → s.heap.get? b = some o → h'.get? b = some o) → Q () { s with heap := h', toks := tk }) :
    wpAny (model pg c.w) A (setAttr (.ref e) name v) Q E s := by
  obtain ⟨vs, rfl⟩ := hd
  have I : InstAt s.heap e { cls := .ref 38, dict := none, data := .fields vs, slots := sl } 38 none := ⟨he, rfl, rfl, trivial⟩
  obtain ⟨nm, qn, N, bs, sn, sub, ab, col, dd, k0, k1, k2, k3, k5, hC, i1, i2, i3, i4, i5⟩ := sig_cls c.w.params
  have SF := PySem.F.store_Exception
  have hC' := X _ _ hC
  refine set_plain X I (sig_sa _) ?_
  have I' : InstAt (Shared.heap { s with toks := s.toks + 1 }) e { cls := .ref 38, dict := none, data := .fields vs, slots := sl } 38 none := I
  obtain ⟨hh, g, d, t, os⟩ := s
  have hC2 : hh.get? 38 = some (excClassObj nm qn 38 N bs [.type "Exception", .type "BaseException", .type "object"] true sn sub ab col dd k0 k1 k2 k3 k5 "Exception.__new__") := hC'
  have he2 : hh.get? e = some { cls := .ref 38, dict := none, data := .fields vs, slots := sl } := he
  clear hC'
  refine codeAny_call_builtin SF.slot.plain SF.entry (sig_check hC2 he2 rfl ?_)
  have hcl : clsIn c.K 38 = some { name := nm, bases := bs, mro := [.ref 38, .type "Exception", .type "BaseException", .type "object"], ns := N, qualname := qn, hasDict := true, slotNames := sn, subclasses := sub, abstract := ab, collection := col, hasDel := false } := by unfold clsIn; rw [hC]
  have hm : Looks (model pg c.w) hh (mroOf (.ref 38)) [.ref 38, .type "Exception", .type "BaseException", .type "object"] := (looks_clsIn X hcl).andThen .now
  have Lh : Looks (model pg c.w) hh (typeLookup (.ref 38) name) none := looks_findIn X ha
  have Lc : Looks (model pg c.w) hh (classData 38) _ := looks_clsIn X hcl
  rw [osa_eq, refuse_eq]
  have LT : Looks (model pg c.w) hh (typeOf (.ref e)) (.ref 38) := I.type
  refine wpAny_bind (wpAny_bind (LT.here (wpAny_bind (hm.here ?_))))
  rw [refuseLoop_ref, SF.passes]
  refine wpAny_pure (wpAny_bind (LT.here (wpAny_bind (Lh.here (wpAny_bind (wpAny_pure ?_))))))
  show wpAny _ _ (Builtin.ObjectAttr.storeInOwnDict (.ref e) (.ref 38) (.str name t) name v false) _ _ _
  refine wpAny_bind (wpAny_pure (wpAny_bind (wpAny_bind (wpAny_loadPart he2 (wpAny_bind (Lc.here ?_))))))
  have he1 : (hh.push { cls := .type "dict", data := .dict #[] }).get? e = some { cls := .ref 38, dict := none, data := .fields vs, slots := sl } := Heap.get?_push_of_some _ he2
  have hes : e ≠ hh.objs.size := Nat.ne_of_lt (Heap.lt_size he2)
  refine wpAny_bind (wpAny_alloc' (wpAny_bind (wpAny_update' he1 (wpAny_pure ?_))))
  have hgd : ((hh.push { cls := .type "dict", data := .dict #[] }).update e fun o => { cls := o.cls, dict := some hh.objs.size, data := o.data, slots := o.slots }).get? hh.objs.size = some { cls := .type "dict", data := .dict #[] } :=
    (Heap.get?_update_ne _ _ _ _ hes.symm).trans (Heap.get?_push_at rfl rfl)
  have hn1 : Heap.Ns1 ((hh.push { cls := .type "dict", data := .dict #[] }).update e fun o => { cls := o.cls, dict := some hh.objs.size, data := o.data, slots := o.slots }) hh.objs.size (fun _ => none) :=
    ⟨_, #[], _, hgd, rfl, fun e he => absurd he (by simp), by simp [UniqKeys], fun _ => rfl⟩
  show wpAny _ _ (Builtin.ObjectAttr.storeInDict hh.objs.size (.str name t) name v) _ _ _
  unfold Builtin.ObjectAttr.storeInDict Builtin.ObjectAttr.newKeyGuard
  refine wpAny_bind (wpAny_pure (wpAny_bind (wpAny_nsSet1 hn1 fun h' hn' hs => ?_)))
  obtain ⟨oD, esD, epD, hoD, hdD, hcD⟩ := hn'.count (Within.cons name v Within.nil)
  refine wpAny_bind (wpAny_lookBehind hoD (by rw [hdD]; exact pastItsLine_dict (Nat.le_trans hcD (by rw [List.length_cons, List.length_nil, sizeLine_eq]; omega))) ?_)
  refine wpAny_pure (q h' _ hn' ?_ fun b o hb e1 => ?_)
  · refine (hs.2 e hes).trans (Heap.get?_update_self _ he1 rfl)
  · exact (hs.2 b (Nat.ne_of_lt (Heap.lt_size e1))).trans ((Heap.get?_update_ne _ _ _ _ hb).trans (Heap.get?_push_of_some _ e1))

/-- a later store -/
theorem exc_set1 {c : Cx} {s : Shared} {e : Addr} {d0 : Data} {sl : Array (Option Value)} {name : PySem.Str} {v : Value} {Q : Unit → Shared → Prop} {E : Value → Shared → Prop} {A : Around} (X : c.K.In s.heap) {dx : Addr} {mA : PySem.Str → Option Value} {nl : List PySem.Str} (he : s.heap.get? e = some { cls := .ref 38, dict := some dx, data := d0, slots := sl }) (hd : ∃ vs, d0 = .fields vs) (hns : s.heap.Ns1 dx mA) (hw : Within mA nl) (hnl : nl.length ≤ 10)
    (ha : findIn c.K (.ref 38) name = some none)
    (q : ∀ h' tk, Heap.SameBut dx s.heap h' → Q () { s with heap := h', toks := tk }) :
    wpAny (model pg c.w) A (setAttr (.ref e) name v) Q E s := by
  obtain ⟨vs, rfl⟩ := hd
  obtain ⟨odx, hodx⟩ : ∃ o, s.heap.get? dx = some o := by obtain ⟨o, _, _, e1, _⟩ := hns; exact ⟨o, e1⟩
  have I : InstAt s.heap e { cls := .ref 38, dict := some dx, data := .fields vs, slots := sl } 38 (some odx) := ⟨he, rfl, rfl, hodx⟩
  obtain ⟨nm, qn, N, bs, sn, sub, ab, col, dd, k0, k1, k2, k3, k5, hC, i1, i2, i3, i4, i5⟩ := sig_cls c.w.params
  have SF := PySem.F.store_Exception
  have hC' := X _ _ hC
  refine set_plain X I (sig_sa _) ?_
  obtain ⟨hh, g, d, t, os⟩ := s
  have hC2 : hh.get? 38 = some (excClassObj nm qn 38 N bs [.type "Exception", .type "BaseException", .type "object"] true sn sub ab col dd k0 k1 k2 k3 k5 "Exception.__new__") := hC'
  have hns2 : hh.Ns1 dx mA := hns
  have he2 : hh.get? e = some { cls := .ref 38, dict := some dx, data := .fields vs, slots := sl } := he
  clear hC'
  refine codeAny_call_builtin SF.slot.plain SF.entry (sig_check hC2 he2 rfl ?_)
  have hcl : clsIn c.K 38 = some { name := nm, bases := bs, mro := [.ref 38, .type "Exception", .type "BaseException", .type "object"], ns := N, qualname := qn, hasDict := true, slotNames := sn, subclasses := sub, abstract := ab, collection := col, hasDel := false } := by unfold clsIn; rw [hC]
  have hm : Looks (model pg c.w) hh (mroOf (.ref 38)) [.ref 38, .type "Exception", .type "BaseException", .type "object"] := (looks_clsIn X hcl).andThen .now
  have Lh : Looks (model pg c.w) hh (typeLookup (.ref 38) name) none := looks_findIn X ha
  have Lc : Looks (model pg c.w) hh (classData 38) _ := looks_clsIn X hcl
  rw [osa_eq, refuse_eq]
  have LT : Looks (model pg c.w) hh (typeOf (.ref e)) (.ref 38) := I.type
  refine wpAny_bind (wpAny_bind (LT.here (wpAny_bind (hm.here ?_))))
  rw [refuseLoop_ref, SF.passes]
  refine wpAny_pure (wpAny_bind (LT.here (wpAny_bind (Lh.here (wpAny_bind (wpAny_pure ?_))))))
  show wpAny _ _ (Builtin.ObjectAttr.storeInOwnDict (.ref e) (.ref 38) (.str name t) name v false) _ _ _
  refine wpAny_bind (wpAny_pure (wpAny_bind (wpAny_bind (wpAny_loadPart he2 (wpAny_bind (Lc.here ?_))))))
  refine wpAny_pure (a := some dx) ?_
  show wpAny _ _ (Builtin.ObjectAttr.storeInDict dx (.str name t) name v) _ _ _
  unfold Builtin.ObjectAttr.storeInDict Builtin.ObjectAttr.newKeyGuard
  refine wpAny_bind (wpAny_pure (wpAny_bind (wpAny_nsSet1 hns2 fun h' hn' hs => ?_)))
  obtain ⟨oD, esD, epD, hoD, hdD, hcD⟩ := hn'.count (Within.cons name v hw)
  refine wpAny_bind (wpAny_lookBehind hoD (by rw [hdD]; exact pastItsLine_dict (Nat.le_trans hcD (by rw [List.length_cons, sizeLine_eq]; omega))) ?_)
  exact wpAny_pure (q h' _ hs)
theorem make_sig {b : Bd} {c : Cx} {s : Shared} {lm cm : PySem.Str → Option Value} {H : AH} {α δ : Nat → Addr} {v1 v2 : Value} {Qr Er : Value → Shared → Prop} (ok : c.Ok b) (hb : 2 ≤ b.n) (at' : At c s lm cm H α δ)
    (q : ∀ s' e, Sh s s' → (∀ b o, s.heap.get? b = some o → s'.heap.get? b = some o) → s.heap.get? e = none → (∃ dd t sl, s'.heap.get? e = some { cls := .ref 38, dict := dd, data := .fields #[.ref t, .none, .none, .none, .bool false, .none], slots := sl }) → Qr (.ref e) s') :
    wpAny (model pg c.w) c.A (call (.ref 38) [v1, v2]) Qr Er s := by
  obtain ⟨hh, g, d, t, os⟩ := s
  have KI : c.K.In hh := ok.K.keeps at'.bs
  obtain ⟨nm, qn, N, bs, sn, sub, ab, col, dd, k0, k1, k2, k3, k5, hC, i1, i2, i3, i4, i5⟩ := sig_cls c.w.params
  obtain ⟨mN, hN, hm⟩ := ns_of KI i5
  refine wpAny_call_exc_init PySem.F.excBase_Exception (KI _ _ hC) hN (hm _ _ i1) (KI 35 _ (by with_unfolding_all rfl)) rfl (fun h' e hmade => ?_) (by simp only [List.length_cons, List.length_nil]; rw [sizeLine_eq]; omega)
  have KI' : c.K.In h' := KI.keeps hmade.keeps
  obtain ⟨t0, he, _, _⟩ := hmade.there
  refine wpAny_call (codeAny_call_cells (s := ⟨h', g, d, t, os⟩) (binds := [("self", .ref e), ("symbol", v1), ("data", v2)]) (by have := ok.dp; show c.A.depth + 1 < 1000; omega) (KI' 35 _ (by with_unfolding_all rfl)) rfl ((ok.T.nolimit.keeps at'.bs).keeps hmade.keeps) (codeRec_of KI' (by kernel_rfl)) rfl (by with_unfolding_all rfl) rfl ?_ (fun s₁ I => ?_) rfl rfl rfl)
  · intro x hx
    refine .inl ?_
    simp only [List.mem_cons, List.not_mem_nil, or_false] at hx
    rcases hx with rfl | rfl | rfl <;> rfl
  · obtain ⟨h₁, tk, rfl, hkeep⟩ := I.done
    have ns₁ := I.toInCall.ns
    generalize henv : callEnvC _ (Shared.heap ⟨h', g, d, t, os⟩).objs.size 35 = env at *
    have eL : env.locals = h'.objs.size := by rw [← henv]; rfl
    have eK : env.scope.kind = .function := by rw [← henv]; rfl
    have k1 : env.kindOf "self" = some .local := by rw [← henv]; rfl
    have k2 : env.kindOf "symbol" = some .local := by rw [← henv]; rfl
    have k3 : env.kindOf "data" = some .local := by rw [← henv]; rfl
    clear henv
    have n1 : PySem.Str.ofString "self" ≠ PySem.Str.ofString "data" := by decide
    have n2 : PySem.Str.ofString "self" ≠ PySem.Str.ofString "symbol" := by decide
    have n3 : PySem.Str.ofString "symbol" ≠ PySem.Str.ofString "data" := by decide
    have b1 : bindL env.kindOf [("self", .ref e), ("symbol", v1), ("data", v2)] (fun _ => none) "self" = some (.ref e) := by simp [bindL, k1, k2, k3, n1, n2, n3]
    have b2 : bindL env.kindOf [("self", .ref e), ("symbol", v1), ("data", v2)] (fun _ => none) "symbol" = some v1 := by simp [bindL, k1, k2, k3, n1, n2, n3]
    have b3 : bindL env.kindOf [("self", .ref e), ("symbol", v1), ("data", v2)] (fun _ => none) "data" = some v2 := by simp [bindL, k1, k2, k3]
    generalize bindL env.kindOf [("self", .ref e), ("symbol", v1), ("data", v2)] (fun _ => none) = ml at ns₁ b1 b2 b3
    have he₁ := hkeep _ _ he
    have KI₁ : c.K.In h₁ := KI'.keeps hkeep
    have eL' : e ≠ env.locals := by
      obtain ⟨o, es, ep, e1, d1, _⟩ := ns₁
      intro z
      have e1 : h₁.get? env.locals = some o := e1
      rw [← z, he₁] at e1; cases e1; cases d1
    have e38 : e ≠ 38 := fun z => by have := hmade.new; rw [z, KI _ _ hC] at this; cases this
    have hL : ∀ b o, h₁.get? b = some o → b ≠ h₁.objs.size := fun b o e1 => Nat.ne_of_lt (Heap.lt_size e1)
    refine wpAny_execs_cons (wpAny_Assign_stores (wpAny_Name (wpAny_loadName_local eK k2 ns₁ b2 ?_) (by decide)) (by rfl) (by rfl))
    show wpAny _ _ (assign _ env v1) _ _ _
    refine kas_attr (wpAny_Name (wpAny_loadName_local eK k1 ns₁ b1 ?_) (by decide))
    refine exc_set0 (s := { heap := h₁, gens := g, drawn := d, toks := tk, os := os }) KI₁ he₁ ⟨_, rfl⟩ (sig_sym _) fun h₂ tk₂ hns₂ he₂ hk₂ => ?_
    have ns₂ : h₂.Ns env.locals ml := let ⟨o, es, ep, e1, r⟩ := ns₁; ⟨o, es, ep, hk₂ _ _ (Ne.symm eL') e1, r⟩
    have KI₂ : c.K.In h₂ := fun a o e1 => hk₂ a o (fun z => by have := KI _ _ e1; rw [z] at this; have := hmade.new; simp_all) (KI₁ a o e1)
    refine wpAny_execs_cons (wpAny_Assign_stores (wpAny_Name (wpAny_loadName_local eK k3 ns₂ b3 ?_) (by decide)) (by rfl) (by rfl))
    show wpAny _ _ (assign _ env v2) _ _ _
    refine kas_attr (wpAny_Name (wpAny_loadName_local eK k1 ns₂ b1 ?_) (by decide))
    refine exc_set1 (s := { heap := h₂, gens := g, drawn := d, toks := tk₂, os := os }) (nl := ["symbol"]) KI₂ he₂ ⟨_, rfl⟩ hns₂ (fun x hx => ?_) (by simp) (sig_dat _) fun h₃ tk₃ hs₃ => ?_
    · by_cases z : x = "symbol"
      · rw [z]; simp
      · simp [z] at hx
    · refine wpAny_execs_nil ⟨rfl, q _ e ⟨_, _, rfl⟩ (fun b o e1 => ?_) hmade.new ⟨_, t0, _, (hs₃.2 _ (hL _ _ he₁)).trans he₂⟩⟩
      have z := hkeep _ _ (hmade.keeps _ _ e1)
      exact (hs₃.2 _ (hL _ _ z)).trans (hk₂ b o (fun q => by have e1 : hh.get? b = some o := e1; rw [q] at e1; have := hmade.new; rw [e1] at this; cases this) z)
end
-- B19
section
theorem raise_tail {M : Model} {A : Around} {E : Value → Shared → Prop} {s : Shared} {env : Env} {x : Sem Value} {Q : Flow → Shared → Prop} {P : Params} {c : Cx} (hh : A.handled = none)
    (h : wpAny M A x (fun v s₁ => ∃ e dd t sl, v = .ref e ∧ (hd.heap_1 P).In s₁.heap ∧ s₁.heap.get? e = some { cls := .ref 38, dict := dd, data := .fields #[.ref t, .none, .none, .none, .bool false, .none], slots := sl } ∧ E (.ref e) s₁) E s) :
    wpAny M A (raiseStmt env (some x) none) Q E s := by
  unfold raiseStmt
  refine wpAny_bind (wpAny_mono h (fun v s₁ h₁ => ?_) fun _ _ x => x)
  obtain ⟨e, dd, t, sl, rfl, X, he, hE⟩ := h₁
  obtain ⟨hp, g, d, tk, os⟩ := s₁
  obtain ⟨nm, qn, N, bs, sn, sub, ab, col, dd', k0, k1, k2, k3, k5, hC', _⟩ := sig_cls P
  have hC := X _ _ hC'
  have hcB : (Value.ref 38 :: [.type "Exception", .type "BaseException", .type "object"]).contains (.type "BaseException") = true := by decide +kernel
  repeat (first | with_reducible refine wpAny_loadPart_at he ?_ | with_reducible refine wpAny_loadPart_at hC ?_ | (with_reducible refine wpAny_isSubtype_exc hC ?_; rw [hcB]) | wp_step)
  exact wpAny_raiseNew_none hh hE

section
variable {b : Bd} {sc : Scope} {m : Vars} {H : AH} {Q : Fl → Vars → AH → Prop} {X : Vars → AH → Prop}
theorem sig_keep (P : Params) : keepIn (hd.heap_1 P) (.ref 38) = true := by kernel_rfl
theorem ES_raise {np cpos pos : Pos} {e1 e2 : Expr} (hb : 2 ≤ b.n)
    (h : EV b sc (.Name "LispSignal" np) m H (fun f H1 => f = .gl (.ref 38) ∧ EVs b sc cpos [e1, e2] m H1 (fun l H2 => l.length = 2 ∧ X m H2) NoX) NoX)
    (he : ∀ env, eval (.Call (.Name "LispSignal" np) [e1, e2] [] cpos) env = (do callWith cpos (← eval (.Name "LispSignal" np) env) [] (backTo cpos (starEach [e1, e2] env)) (backToKw cpos (keywordEach [] env))) := by intro _; rfl)
    (hs : ∀ env, starEach [e1, e2] env = (false, eval e1 env) :: starEach [e2] env := by intro _; rfl) (hplain : ∀ env, (backTo cpos (starEach [e2] env)).any (·.1) = false := by intro _; rfl) :
    ES b sc (.Raise (some (.Call (.Name "LispSignal" np) [e1, e2] [] cpos)) none pos) m H Q X := by
  intro c s lm cm α δ Qr Er ok hsc hf hl at' nm q xx
  rw [arm_exec_Raise]
  refine wpAny_bind (wpAny_standAt (raise_tail (P := c.w.params) (c := c) ok.hh (wpAny_bind ?_)))
  refine Call_ (h c s lm cm α δ _ Er ok hsc at' nm (fun v a s1 H1 α1 δ1 st1 at1 r z => ?_) fun _ _ _ _ _ _ x' => x'.elim) (he _)
  obtain ⟨rfl, z⟩ := z
  refine r.invG ?_
  refine callWith_K (first := []) (ok.K.keeps at1.bs) (sig_keep c.w.params) ?_ (hs _) (hplain _)
  refine z c s1 lm cm α1 δ1 _ Er ok hsc at1 (nm.mono fun _ _ => st1.vr) (fun vs l s2 H2 α2 δ2 st2 at2 r2 z2 => ⟨ok.K.keeps at2.bs, ?_⟩) fun _ _ _ _ _ _ x' => x'.elim
  have hlen := r2.length
  rw [z2.1] at hlen
  obtain ⟨v1, v2, rfl⟩ : ∃ v1 v2, vs = [v1, v2] := len2 (P := fun vs => ∃ v1 v2, vs = [v1, v2]) (fun a b => ⟨a, b, rfl⟩) vs hlen
  have st := st1.trans st2
  refine make_sig ok hb at2 fun s3 e sh3 kp3 en hex => ?_
  obtain ⟨dd, t, sl, hex⟩ := hex
  have at3 : At c s3 lm cm H2 α2 δ2 := at2.more kp3
  have st3 : Step c.bad H.n H2.n α δ α2 δ2 s s3 := st.trans (Step.more sh3 kp3)
  refine wpAny_bind (wpAny_standAt (wpAny_pure ⟨e, dd, t, sl, rfl, ok.K.keeps at3.bs, hex, ?_⟩))
  refine xx e s3 lm cm m H2 α2 δ2 ⟨st3.sh, st3.gr, st3.nw, fun b o e1 q _ _ _ => ⟨o.slots, st3.kp b o e1 q⟩, .inr ⟨⟨_, _, _, hex, rfl, rfl, rfl, rfl⟩, none_back st.pr en, fun b o e1 q _ _ => st3.kp b o e1 q⟩⟩ at3 (nm.mono fun _ _ => st3.vr) z2.2
end
end
-- B20
section
theorem sig_name (P : Params) : nsIn (hd.heap_1 P) mainGlobals "LispSignal" = some (some (.ref 38)) := by kernel_rfl

/-- the exception's own notes have turned once more -/
theorem Exc.slots {c : Cx} {s s' : Shared} {n : Nat} {α δ : Nat → Addr} {e : Addr} {H' : AH} {α' δ' : Nat → Addr} {h' : Heap} {xb : Heap} {a0 : Value} (x : Exc c s n α δ e s' H' α' δ') (k : s'.heap.UpToSlots h')
    (fl : Heap.FlyingW xb c.fs e (.ref 38) a0 h')
    (k1 : ∀ b o, s.heap.get? b = some o → (∀ i, i < n → δ i ≠ b) → (∀ f ∈ c.fs, f.frame ≠ some b) → xb.get? b = some o)
    (k2 : ∀ i, i < H'.n → ∀ o, s'.heap.get? (δ' i) = some o → xb.get? (δ' i) = some o) : Exc c s n α δ e { s' with heap := h' } H' α' δ' := by
  refine ⟨x.sh.trans ⟨_, _, rfl⟩, x.gr, x.ah.slots k fun i hi o ho => fl.1 _ _ (k2 i hi o ho), x.nw, fun b o hb q nf => ?_, xb, a0, fl, k1, fun i hi o ho => ?_⟩
  · obtain ⟨sl, z⟩ := x.k1 b o hb q nf
    obtain ⟨sl', z'⟩ := k b _ z nf
    exact ⟨sl', z'⟩
  · obtain ⟨ob, h1, _⟩ := (x.ah.ob i hi).stor
    have z := k2 i hi ob h1
    have z' := fl.1 _ _ z
    have ho' : h'.get? (δ' i) = some o := ho
    rw [z'] at ho'; cases ho'; exact z

section
variable {b : Bd} {sc : Scope} {m : Vars} {H : AH} {Q : Fl → Vars → AH → Prop} {X : Vars → AH → Prop}
theorem ES_try {e : Expr} {ep pos hp np pp : Pos} (hF : ∀ l, b.F l → ∃ e, l = [e]) (hx : sc.names.lookup ("LispSignal" : PySem.Str) = some .globalImplicit)
    (h : EV b sc e m H (fun _ H' => Q .next m H') (fun H' => Q .next m H'))
    (hw : ∀ env, swapsWith e none ep.line env = pure false := by intro _; rfl) :
    ES b sc (.Try [.Expr e ep] [.ExceptHandler (some (.Name "LispSignal" np)) none [.Pass pp] hp] [] [] pos) m H Q X := by
  intro c s lm cm α δ Qr Er ok hs hf hl at' nm q xx
  refine wpAny_Try_except (wpAny_execs_cons (wpAny_Expr_any (h c s lm cm α δ _ _ ok hs at' nm (fun v a s1 H1 α1 δ1 st1 at1 r z => ?_) (fun x s1 H1 α1 δ1 ex z => ?_)) (by unfold interactive; rw [ok.kind]; rfl) (hw _)))
  · exact wpAny_execs_nil (wpAny_execs_nil (q _ _ _ _ _ _ _ _ _ st1.x at1 (nm.mono fun _ _ => st1.vr) .next z))
  · obtain ⟨xb, a0, fl, k1, k2⟩ := id ex.fl
    have hfs : c.fs = [c.env] := by
      obtain ⟨os, ho⟩ := hf
      obtain ⟨y, hy⟩ := hF _ ok.fb
      rw [ho] at hy; cases hy; exact ho
    rw [hfs] at fl
    refine wpAny_looks_onW (by rw [ok.hf, hfs]) hl fl fun h4 held4 sm4 => ?_
    refine wpAny_landsW held4 fun h5 held5 sm5 => ?_
    have ex5 : Exc c s H.n α δ x { s1 with heap := h5 } H1 α1 δ1 := ex.slots (h' := h5) (xb := xb) (a0 := a0) (sm4.trans sm5) (by rw [hfs]; exact held5) k1 k2
    have at5 := Exc.at at' ex5
    obtain ⟨ob, hob, hobc⟩ := held5.there
    obtain ⟨nm', q', N, bs, sn, sub, ab, col, dd, k0', k1', k2', k3', k5', hC, _⟩ := sig_cls c.w.params
    have hC' := ok.K.keeps at5.bs _ _ hC
    refine wpAny_handleBy_cons (codeAny_handlers_test ?_) (by intro q; cases q)
    refine Name_function_global ok.kind ((kindOf_sc hs _).trans hx) ?_ (by decide)
    refine loadGlobal_global (by rw [ok.glob]; exact ok.T.g.keeps at5.bs) (mg_of ok.K ok.T.g (sig_name _)) ?_
    refine wpAny_excMatches_sub_self hC' hob hobc (by decide +kernel) (codeAny_handlers_suite ?_)
    refine lands_againW held5 fun h6 held6 sm6 => ?_
    have ex6 : Exc c s H.n α δ x { s1 with heap := h6 } H1 α1 δ1 := ex.slots (h' := h6) (xb := xb) (a0 := a0) ((sm4.trans sm5).trans sm6) (by rw [hfs]; exact held6) k1 k2
    have at6 := Exc.at at' ex6
    refine wpAny_execs_cons (wpAny_Pass (wpAny_execs_nil ?_))
    refine q _ .next { s1 with heap := h6 } lm cm m H1 α1 δ1 ⟨ex6.sh, ex6.gr, fun a o e => ex6.pr at' a o e, fun b o e q1 l _ => ex6.k2 b o e q1 fun f hf' => ?_, ex6.nw, fun p vs hp t => ?_⟩ at6 (nm.mono fun _ _ r => Exc.vr at' ex6 r) .next z
    · rw [hfs] at hf'
      have : f = c.env := by simpa using hf'
      subst this
      rw [hl]; intro z; cases z; exact l rfl
    · have off : ∀ i, i < H.n → δ i ≠ p := fun i hi q => by
        obtain ⟨ob, h1, st⟩ := (at'.ob i hi).stor
        exact st.tup h1 t q.symm
      obtain ⟨o, ho, hc, k, hd⟩ := t
      obtain ⟨sl, q⟩ := ex6.k1 _ o ho off (by intro vs e; rw [hd] at e; cases e)
      exact ⟨_, q, hc, k, hd⟩
end
end
-- B21
section
section
variable {b : Bd} {sc : Scope} {m : Vars} {H : AH} {X : AH → Prop}

/-- a test of two links -/
theorem ET_chain {e1 e2 e3 : Expr} {o1 o2 : CmpOp} {pos : Pos} {Q : Bool → AH → Prop}
    (h : EV b sc e1 m H (fun a1 H1 => EV b sc e2 m H1 (fun a2' H2 => OP b (a2 (compareOp o1)) VR [a1, a2'] H2 (BoolP fun t H3 => if t then EV b sc e3 m H3 (fun a3 H4 => OP b (a2 (compareOp o2)) VR [a2', a3] H4 (BoolP Q) X) X else Q false H3) X) X) X)
    (hm : lastMarks [o1, o2] [e2, e3] = false := by with_unfolding_all rfl) (he : ∀ env, evalEach [] env = [] := by intro _; rfl) :
    ET b sc (.Compare e1 [o1, o2] [e2, e3] pos) m H Q X := by
  intro c s lm cm α δ Qr Er ok hs at' nm q xx
  refine isTrue_chain (h c s lm cm α δ _ Er ok hs at' nm (fun v a s1 H1 α1 δ1 st1 at1 r1 z => ?_) xx) hm
  refine test_link (z c s1 lm cm α1 δ1 _ Er ok hs at1 (nm.mono fun _ _ => st1.vr) (fun v' a' s2 H2 α2 δ2 st2 at2 r2 z2 => ?_) fun e s2 H2 α2 δ2 ex x' => xx e s2 H2 α2 δ2 (ex.after st1) x')
  have st12 := st1.trans st2
  refine z2 c s2 lm cm α2 δ2 [v, v'] _ Er ok at2 (.cons (st2.vr r1) (.cons r2 .nil)) (fun v3 a3 s3 H3 α3 δ3 st3 at3 r3 z3 => ?_) fun e s3 H3 α3 δ3 ex x' => xx e s3 H3 α3 δ3 (ex.after st12) x'
  have st13 := st12.trans st3
  obtain ⟨t, rfl, z3⟩ := z3
  refine r3.invB ?_
  refine wpAny_truthy_bool ?_
  cases t with
  | false => exact q _ _ _ _ _ _ st13 at3 rfl z3
  | true =>
    rw [he]
    refine test_last (z3 c s3 lm cm α3 δ3 _ Er ok hs at3 (nm.mono fun _ _ => st13.vr) (fun v4 a4 s4 H4 α4 δ4 st4 at4 r4 z4 => ?_) fun e s2 H2 α2 δ2 ex x' => xx e s2 H2 α2 δ2 (ex.after st13) x')
    have st14 := st13.trans st4
    refine z4 c s4 lm cm α4 δ4 [v', v4] _ Er ok at4 (.cons (st4.vr (st3.vr r2)) (.cons r4 .nil)) (fun v5 a5 s5 H5 α5 δ5 st5 at5 r5 z5 => ?_) fun e s3 H3 α3 δ3 ex x' => xx e s3 H3 α3 δ3 (ex.after st14) x'
    obtain ⟨t', rfl, z5⟩ := z5
    refine r5.invB ?_
    exact wpAny_truthy_bool (q _ _ _ _ _ _ (st14.trans st5) at5 rfl z5)

/-- two names stored at once, the last first -/
inductive SwapP (K : AV → AV → AH → Prop) (a : AV) (H : AH) : Prop
  | mk (u w : AV) : a = .tup [u, w] → K u w H → SwapP K a H
theorem ES_swap {x y : PySem.Str} {px py tp pos : Pos} {k : Nat} {value : Expr} {Q : Fl → Vars → AH → Prop} {X : Vars → AH → Prop} (hx : sc.names.lookup x = some .local) (hy : sc.names.lookup y = some .local)
    (h : EV b sc value m H (SwapP fun u w H' => Q .next (up (up m y w) x u) H') (X m))
    (hw : ∀ env, env.scope = sc → swapsWithSole [.Tuple [.Name x px, .Name y py] k tp] value pos.line env = pure false := by intro _ _; rfl)
    (hsw : ∀ env, env.scope = sc → swappedStores [.Tuple [.Name x px, .Name y py] k tp] value env = pure (some [x, y]) := by intro _ e; unfold swappedStores; simp only [e]; rfl) : ES b sc (.Assign [.Tuple [.Name x px, .Name y py] k tp] value pos) m H Q X := by
  intro c s lm cm α δ Qr Er ok hs hf hl at' nm q xx
  refine Assign_Tuple_swapped (h c s lm cm α δ _ Er ok hs at' nm (fun v a s1 H1 α1 δ1 st1 at1 r z => ?_) (exc_up at' nm xx)) (hw _ hs) (hsw _ hs)
  obtain ⟨u, w, rfl, z⟩ := z
  refine r.invT fun _ _ hp t rs => ?_
  cases rs with | cons ru rs =>
  cases rs with | cons rw rs =>
  cases rs
  rename_i u' w'
  refine unpackItems_tuple (items := #[u', w']) (t := _) ok.hh t fun h2 he => ?_
  have hk : ∀ b o, s1.heap.get? b = some o → h2.get? b = some o := fun b o x => he b o (Nat.ne_of_lt (Heap.lt_size x)) x
  have st2 : Step c.bad H1.n H1.n α1 δ1 α1 δ1 s1 { s1 with heap := h2 } := Step.more ⟨_, _, rfl⟩ hk
  have at2 : At c { s1 with heap := h2 } lm cm H1 α1 δ1 := at1.more hk
  have nm2 := nm.mono fun _ _ => (st1.trans st2).vr
  refine assignInOrder_cons (bindName_ (store_nm ok (.inl ((kindOf_sc hs _).trans hy)) at2 nm2 (st2.vr rw) fun s3 lm3 cm3 st3 at3 nm3 => ?_))
  refine assignInOrder_cons (bindName_ (store_nm ok (.inl ((kindOf_sc hs _).trans hx)) at3 nm3 (st3.vr (st2.vr ru)) fun s4 lm4 cm4 st4 at4 nm4 => ?_))
  exact assignInOrder_nil (q _ .next s4 lm4 cm4 _ _ _ _ (((st1.trans st2).x.trans st3).trans st4) at4 nm4 .next z)

/-- sorted of a dict: its keys -/
theorem KR.dkeys {B : List Addr} {h : Heap} {n : Nat} {α : Nat → Addr} {kvs : List (Int × Value)} {l : List (Int × AV)} (r : KR B h n α kvs l) : kvs.map (·.1) = l.map (·.1) := r.keys
theorem ints_of {P : Nat → Value → Prop} : ∀ {vs : List Value} {ns : List Int}, vs.length = ns.length → (∀ (j : Nat) (v : Value), vs[j]? = some v → ∃ t : Tok, v = .int (ns.getD j 0) t) → IntsAre vs ns
  | [], [], _, _ => .nil
  | v :: vs, n :: ns, e, h => by
    obtain ⟨t, rfl⟩ := h 0 v rfl
    exact .cons _ t (ints_of (P := P) (Nat.succ.inj e) fun j v q => by have := h (j + 1) v (by simpa using q); simpa using this)
theorem CL_sortedD {Q : AV → AH → Prop} {j : Nat} {l : List (Int × AV)} (f : H.f j = .dict l) (hl : l.length < 64) (h : ∀ ns', ns'.Perm (l.map (·.1)) → ns'.Pairwise (· ≤ ·) → Q (.ref H.n) (H.alloc (.list (iL ns')))) : CL b (.builtin "sorted") [.ref j] H Q X := by
  intro c s lm cm α δ vs Qr Er ok at' rr q xx
  refine rr.inv1 fun v1 rr1 => ?_
  refine rr1.invR fun _ => ?_
  have hj : j < H.n := by assumption
  obtain ⟨kvs, hd, kr, lo⟩ := dict_at at' hj f
  obtain ⟨ep, hat⟩ := hd.dictAt
  refine Calls.call_function_entry kind_sorted plain_sorted entry_sorted (args_sorted1 _) ?_
  unfold Builtin.«sorted»
  refine wpAny_bind (m := checkCount "sorted" 1 1 _) (wpAny_pure ?_)
  refine wpAny_bind (kdu_collect (A := c.A.in1) (kdl_dict (knd := intKind pg c.w) (kvs := kvs) (ep := ep) lo) ok.hh hat (kdl_size (by rw [kr.length]; omega)) fun h' tk acc hk hacc => ?_)
  have hlen : acc.toList.length = kvs.length := by rw [Array.length_toList]; exact hacc.1
  refine wpAny_bind (wpAny_newList ?_ (by rw [hlen, kr.length, sizeLine_eq]; omega))
  have hI : IntsAre acc.toList (l.map (·.1)) := by
    refine ints_of (P := fun _ _ => True) (by rw [hlen, List.length_map, kr.length]) fun i v e => ?_
    obtain ⟨k, x, hx, hki⟩ := hacc.2 i v (by rw [← Array.getElem?_toList]; exact e)
    obtain ⟨t, rfl⟩ := Value.isInt_shape hki
    refine ⟨t, ?_⟩
    rw [← kr.dkeys]
    have : (kvs.map (·.1)).getD i 0 = k := by simp [hx]
    rw [this]
  have hoL : (h'.push (seqObj "list" acc.toList.toArray 0)).get? h'.objs.size = some (seqObj "list" acc.toList.toArray 0) := Heap.get?_push_size _ rfl
  refine wpAny_bind (wpAny_holding (wpAny_call_entry slot_list_sort ⟨_, hoL, rfl⟩ entry_list_sort (list_sort_tree hoL hI (by rw [hlen, kr.length]; exact hl) fun out ns' a1 a2 a3 => ⟨_, rfl, ?_⟩) (args_list_sort _)))
  refine wpAny_pure ⟨_, rfl, ?_⟩
  have hlt : ∀ b o, s.heap.get? b = some o → b < h'.objs.size := fun b o e => Heap.lt_size (hk b o e)
  have hall : ∀ b o, s.heap.get? b = some o → (sortedHeap (h'.push (seqObj "list" acc.toList.toArray 0)) h'.objs.size acc.toList out).get? b = some o := fun b o e => by
    rw [sortedHeap_old (Nat.ne_of_lt (hlt b o e)) (by rw [size_push']; exact Nat.lt_succ_of_lt (hlt b o e)), Heap.get?_push_ne _ _ _ (Nat.ne_of_lt (hlt b o e))]
    exact hk b o e
  obtain ⟨e', he⟩ := sortedHeap_at (h := h'.push (seqObj "list" acc.toList.toArray 0)) (a := h'.objs.size) (vs := acc.toList) (n := 0) (out := out) hoL
  have hfree : s.heap.get? h'.objs.size = none := by
    cases q : s.heap.get? h'.objs.size with
    | none => rfl
    | some o => exact absurd (hlt _ _ q) (Nat.lt_irrefl _)
  obtain ⟨at2, st2⟩ := at'.alloc (s' := { s with heap := sortedHeap (h'.push (seqObj "list" acc.toList.toArray 0)) h'.objs.size acc.toList out, toks := tk }) (a := h'.objs.size) (d := h'.objs.size) (o := .list (iL ns')) ⟨_, _, rfl⟩ hall hfree
    ⟨by rw [ups_self, ups_self], out.toList, e', by rw [ups_self]; exact he, intsR a1⟩
  exact q _ _ _ _ _ _ st2 at2 vr_new (h ns' a2 a3)
end
end
-- C0
section
@[elab_as_elim] theorem by_sc {sc a : Scope} {P : Scope → Prop} (h : sc = a) (x : P a) : P sc := h ▸ x
theorem dle {b : Bd} {k m : Nat} (h : m ≤ b.n) (e : Nat.ble k m = true := by rfl) : k ≤ b.n := Nat.le_trans (Nat.le_of_ble_eq_true e) h
theorem dle1 {b : Bd} {k m : Nat} (h : m ≤ b.n) (e : Nat.ble (k + 1) m = true := by rfl) : k ≤ b.dn.n := Nat.le_sub_of_add_le (Nat.le_trans (Nat.le_of_ble_eq_true e) h)
theorem ex_rfl {t : Bool} {H : AH} {Q : Bool → AH → Prop} (h : Q t H) : BoolP Q (.bool t) H := ⟨t, rfl, h⟩
theorem up_ne {m : Vars} {x y : PySem.Str} {a : AV} (h : y ≠ x) : up m x a y = m y := if_neg h
theorem up_self {m : Vars} {x : PySem.Str} {a : AV} : up m x a x = some a := if_pos rfl
theorem Bd.dn_n {b : Bd} : b.dn.n = b.n - 1 := rfl
theorem compV_free {scope : Scope} {m : Vars} {x : PySem.Str} (h : scope.names.lookup x = some .free) : compV scope m x = m x := if_pos h
section
variable {m : Vars} {H : AH}
theorem LX_next {J : Vars → AH → Prop} {Q : Fl → Vars → AH → Prop} (h : J m H) : LX J Q .next m H := h
theorem LX_ret {J : Vars → AH → Prop} {Q : Fl → Vars → AH → Prop} {r : AV} (h : Q (.ret r) m H) : LX J Q (.ret r) m H := h
end
/-- what follows a statement -/
noncomputable def KX (b : Bd) (sc : Scope) (rest : List Stmt) (Q : Fl → Vars → AH → Prop) (X : Vars → AH → Prop) : Fl → Vars → AH → Prop := fun fl m' H' => match fl with | .next => EX b sc rest m' H' Q X | .ret a => Q (.ret a) m' H'
section
variable {b : Bd} {sc : Scope} {m : Vars} {H : AH} {rest : List Stmt} {Q : Fl → Vars → AH → Prop} {X : Vars → AH → Prop}
theorem KX_next (h : EX b sc rest m H Q X) : KX b sc rest Q X .next m H := h
theorem KX_ret {a : AV} (h : Q (.ret a) m H) : KX b sc rest Q X (.ret a) m H := h
theorem EX_step {st : Stmt} (h : ES b sc st m H (KX b sc rest Q X) X) : EX b sc (st :: rest) m H Q X := EX_cons h
/-- the same, what follows kept out of sight -/
noncomputable def Imp (A B : Fl → Vars → AH → Prop) : Prop := ∀ fl m H, A fl m H → B fl m H
theorem EX_stepK {st : Stmt} (h : ∀ K, Imp (KX b sc rest Q X) K → ES b sc st m H K X) : EX b sc (st :: rest) m H Q X := EX_cons (h _ fun _ _ _ z => z)
theorem Kn {K : Fl → Vars → AH → Prop} (i : Imp (KX b sc rest Q X) K) (h : EX b sc rest m H Q X) : K .next m H := i _ _ _ h
theorem Kr {K : Fl → Vars → AH → Prop} {a : AV} (i : Imp (KX b sc rest Q X) K) (h : Q (.ret a) m H) : K (.ret a) m H := i _ _ _ h
end
section
variable {b : Bd} {sc : Scope} {m : Vars} {H : AH} {X : AH → Prop} {Q : AV → AH → Prop}
theorem EV_var {x : PySem.Str} {pos : Pos} (hd : (x == ("__debug__" : PySem.Str)) = false) (hn : (x == ("__classdict__" : PySem.Str)) = false) (h : ∃ a, m x = some a ∧ Q a H) : EV b sc (.Name x pos) m H Q X :=
  let ⟨_, e, q⟩ := h; EV_name e q hd hn
theorem EV_varq {x : PySem.Str} {pos : Pos} {a : AV} (hd : (x == ("__debug__" : PySem.Str)) = false) (hn : (x == ("__classdict__" : PySem.Str)) = false) (e : m x = some a) (q : Q a H) : EV b sc (.Name x pos) m H Q X := EV_name e q hd hn
theorem g_LEAF {pos : Pos} (hx : sc.names.lookup ("LEAF" : PySem.Str) = some .globalImplicit) (h : Q (.int 0) H) : EV b sc (.Name "LEAF" pos) m H Q X := EV_glob (v := .int 0 229) hx (fun _ => by kernel_rfl) (fun _ _ _ _ => .int _ _) h
theorem g_COLUMN {pos : Pos} (hx : sc.names.lookup ("COLUMN" : PySem.Str) = some .globalImplicit) (h : Q (.int 1) H) : EV b sc (.Name "COLUMN" pos) m H Q X := EV_glob (v := .int 1 231) hx (fun _ => by kernel_rfl) (fun _ _ _ _ => .int _ _) h
theorem g_ROW {pos : Pos} (hx : sc.names.lookup ("ROW" : PySem.Str) = some .globalImplicit) (h : Q (.int 2) H) : EV b sc (.Name "ROW" pos) m H Q X := EV_glob (v := .int 2 233) hx (fun _ => by kernel_rfl) (fun _ _ _ _ => .int _ _) h
theorem g_WIDTH {pos : Pos} (hx : sc.names.lookup ("WIDTH" : PySem.Str) = some .globalImplicit) (h : Q (.int 0) H) : EV b sc (.Name "WIDTH" pos) m H Q X := EV_glob (v := .int 0 235) hx (fun _ => by kernel_rfl) (fun _ _ _ _ => .int _ _) h
theorem g_HEIGHT {pos : Pos} (hx : sc.names.lookup ("HEIGHT" : PySem.Str) = some .globalImplicit) (h : Q (.int 1) H) : EV b sc (.Name "HEIGHT" pos) m H Q X := EV_glob (v := .int 1 237) hx (fun _ => by kernel_rfl) (fun _ _ _ _ => .int _ _) h
theorem cw_Window : CW (.ref 93) := .k fun _ => by kernel_rfl
theorem g_Window {pos : Pos} (hx : sc.names.lookup ("Window" : PySem.Str) = some .globalImplicit) (h : Q (.gl (.ref 93)) H) : EV b sc (.Name "Window" pos) m H Q X := EV_glob hx (fun _ => by kernel_rfl) (fun _ _ _ _ => .gl _) h
theorem cw_WindowTree : CW (.ref 164) := .k fun _ => by kernel_rfl
theorem g_WindowTree {pos : Pos} (hx : sc.names.lookup ("WindowTree" : PySem.Str) = some .globalImplicit) (h : Q (.gl (.ref 164)) H) : EV b sc (.Name "WindowTree" pos) m H Q X := EV_glob hx (fun _ => by kernel_rfl) (fun _ _ _ _ => .gl _) h
theorem cw_along : CW (.ref 175) := .k fun _ => by kernel_rfl
theorem g_along {pos : Pos} (hx : sc.names.lookup ("along" : PySem.Str) = some .globalImplicit) (h : Q (.gl (.ref 175)) H) : EV b sc (.Name "along" pos) m H Q X := EV_glob hx (fun _ => by kernel_rfl) (fun _ _ _ _ => .gl _) h
theorem cw_sort_along : CW (.ref 182) := .k fun _ => by kernel_rfl
theorem g_sort_along {pos : Pos} (hx : sc.names.lookup ("sort_along" : PySem.Str) = some .globalImplicit) (h : Q (.gl (.ref 182)) H) : EV b sc (.Name "sort_along" pos) m H Q X := EV_glob hx (fun _ => by kernel_rfl) (fun _ _ _ _ => .gl _) h
theorem cw_leaves_under : CW (.ref 189) := .k fun _ => by kernel_rfl
theorem g_leaves_under {pos : Pos} (hx : sc.names.lookup ("leaves_under" : PySem.Str) = some .globalImplicit) (h : Q (.gl (.ref 189)) H) : EV b sc (.Name "leaves_under" pos) m H Q X := EV_glob hx (fun _ => by kernel_rfl) (fun _ _ _ _ => .gl _) h
theorem cw_leaves : CW (.ref 196) := .k fun _ => by kernel_rfl
theorem g_leaves {pos : Pos} (hx : sc.names.lookup ("leaves" : PySem.Str) = some .globalImplicit) (h : Q (.gl (.ref 196)) H) : EV b sc (.Name "leaves" pos) m H Q X := EV_glob hx (fun _ => by kernel_rfl) (fun _ _ _ _ => .gl _) h
theorem cw_windows_under : CW (.ref 203) := .k fun _ => by kernel_rfl
theorem g_windows_under {pos : Pos} (hx : sc.names.lookup ("windows_under" : PySem.Str) = some .globalImplicit) (h : Q (.gl (.ref 203)) H) : EV b sc (.Name "windows_under" pos) m H Q X := EV_glob hx (fun _ => by kernel_rfl) (fun _ _ _ _ => .gl _) h
theorem cw_replace_child : CW (.ref 210) := .k fun _ => by kernel_rfl
theorem g_replace_child {pos : Pos} (hx : sc.names.lookup ("replace_child" : PySem.Str) = some .globalImplicit) (h : Q (.gl (.ref 210)) H) : EV b sc (.Name "replace_child" pos) m H Q X := EV_glob hx (fun _ => by kernel_rfl) (fun _ _ _ _ => .gl _) h
theorem cw_least_size : CW (.ref 215) := .k fun _ => by kernel_rfl
theorem g_least_size {pos : Pos} (hx : sc.names.lookup ("least_size" : PySem.Str) = some .globalImplicit) (h : Q (.gl (.ref 215)) H) : EV b sc (.Name "least_size" pos) m H Q X := EV_glob hx (fun _ => by kernel_rfl) (fun _ _ _ _ => .gl _) h
theorem cw_weight_of : CW (.ref 220) := .k fun _ => by kernel_rfl
theorem g_weight_of {pos : Pos} (hx : sc.names.lookup ("weight_of" : PySem.Str) = some .globalImplicit) (h : Q (.gl (.ref 220)) H) : EV b sc (.Name "weight_of" pos) m H Q X := EV_glob hx (fun _ => by kernel_rfl) (fun _ _ _ _ => .gl _) h
theorem cw_shares : CW (.ref 225) := .k fun _ => by kernel_rfl
theorem g_shares {pos : Pos} (hx : sc.names.lookup ("shares" : PySem.Str) = some .globalImplicit) (h : Q (.gl (.ref 225)) H) : EV b sc (.Name "shares" pos) m H Q X := EV_glob hx (fun _ => by kernel_rfl) (fun _ _ _ _ => .gl _) h
theorem cw_level_shares : CW (.ref 230) := .k fun _ => by kernel_rfl
theorem g_level_shares {pos : Pos} (hx : sc.names.lookup ("level_shares" : PySem.Str) = some .globalImplicit) (h : Q (.gl (.ref 230)) H) : EV b sc (.Name "level_shares" pos) m H Q X := EV_glob hx (fun _ => by kernel_rfl) (fun _ _ _ _ => .gl _) h
theorem cw_set_tree_size : CW (.ref 235) := .k fun _ => by kernel_rfl
theorem g_set_tree_size {pos : Pos} (hx : sc.names.lookup ("set_tree_size" : PySem.Str) = some .globalImplicit) (h : Q (.gl (.ref 235)) H) : EV b sc (.Name "set_tree_size" pos) m H Q X := EV_glob hx (fun _ => by kernel_rfl) (fun _ _ _ _ => .gl _) h
theorem cw_set_places : CW (.ref 242) := .k fun _ => by kernel_rfl
theorem g_set_places {pos : Pos} (hx : sc.names.lookup ("set_places" : PySem.Str) = some .globalImplicit) (h : Q (.gl (.ref 242)) H) : EV b sc (.Name "set_places" pos) m H Q X := EV_glob hx (fun _ => by kernel_rfl) (fun _ _ _ _ => .gl _) h
theorem cw_balance : CW (.ref 247) := .k fun _ => by kernel_rfl
theorem g_balance {pos : Pos} (hx : sc.names.lookup ("balance" : PySem.Str) = some .globalImplicit) (h : Q (.gl (.ref 247)) H) : EV b sc (.Name "balance" pos) m H Q X := EV_glob hx (fun _ => by kernel_rfl) (fun _ _ _ _ => .gl _) h
theorem cw_wrong_window : CW (.ref 254) := .k fun _ => by kernel_rfl
theorem g_wrong_window {pos : Pos} (hx : sc.names.lookup ("wrong_window" : PySem.Str) = some .globalImplicit) (h : Q (.gl (.ref 254)) H) : EV b sc (.Name "wrong_window" pos) m H Q X := EV_glob hx (fun _ => by kernel_rfl) (fun _ _ _ _ => .gl _) h
theorem cw_tree_error : CW (.ref 261) := .k fun _ => by kernel_rfl
theorem g_tree_error {pos : Pos} (hx : sc.names.lookup ("tree_error" : PySem.Str) = some .globalImplicit) (h : Q (.gl (.ref 261)) H) : EV b sc (.Name "tree_error" pos) m H Q X := EV_glob hx (fun _ => by kernel_rfl) (fun _ _ _ _ => .gl _) h
theorem cw_node_of : CW (.ref 266) := .k fun _ => by kernel_rfl
theorem g_node_of {pos : Pos} (hx : sc.names.lookup ("node_of" : PySem.Str) = some .globalImplicit) (h : Q (.gl (.ref 266)) H) : EV b sc (.Name "node_of" pos) m H Q X := EV_glob hx (fun _ => by kernel_rfl) (fun _ _ _ _ => .gl _) h
theorem cw_configuration : CW (.ref 273) := .k fun _ => by kernel_rfl
theorem g_configuration {pos : Pos} (hx : sc.names.lookup ("configuration" : PySem.Str) = some .globalImplicit) (h : Q (.gl (.ref 273)) H) : EV b sc (.Name "configuration" pos) m H Q X := EV_glob hx (fun _ => by kernel_rfl) (fun _ _ _ _ => .gl _) h
theorem cw_split_parts : CW (.ref 280) := .k fun _ => by kernel_rfl
theorem g_split_parts {pos : Pos} (hx : sc.names.lookup ("split_parts" : PySem.Str) = some .globalImplicit) (h : Q (.gl (.ref 280)) H) : EV b sc (.Name "split_parts" pos) m H Q X := EV_glob hx (fun _ => by kernel_rfl) (fun _ _ _ _ => .gl _) h
theorem cw_combined : CW (.ref 287) := .k fun _ => by kernel_rfl
theorem g_combined {pos : Pos} (hx : sc.names.lookup ("combined" : PySem.Str) = some .globalImplicit) (h : Q (.gl (.ref 287)) H) : EV b sc (.Name "combined" pos) m H Q X := EV_glob hx (fun _ => by kernel_rfl) (fun _ _ _ _ => .gl _) h
theorem cw_split : CW (.ref 294) := .k fun _ => by kernel_rfl
theorem g_split {pos : Pos} (hx : sc.names.lookup ("split" : PySem.Str) = some .globalImplicit) (h : Q (.gl (.ref 294)) H) : EV b sc (.Name "split" pos) m H Q X := EV_glob hx (fun _ => by kernel_rfl) (fun _ _ _ _ => .gl _) h
theorem cw_joined : CW (.ref 301) := .k fun _ => by kernel_rfl
theorem g_joined {pos : Pos} (hx : sc.names.lookup ("joined" : PySem.Str) = some .globalImplicit) (h : Q (.gl (.ref 301)) H) : EV b sc (.Name "joined" pos) m H Q X := EV_glob hx (fun _ => by kernel_rfl) (fun _ _ _ _ => .gl _) h
theorem cw_law_draw : CW (.ref 308) := .k fun _ => by kernel_rfl
theorem g_law_draw {pos : Pos} (hx : sc.names.lookup ("_law_draw" : PySem.Str) = some .globalImplicit) (h : Q (.gl (.ref 308)) H) : EV b sc (.Name "_law_draw" pos) m H Q X := EV_glob hx (fun _ => by kernel_rfl) (fun _ _ _ _ => .gl _) h
theorem cw_law_long : CW (.ref 313) := .k fun _ => by kernel_rfl
theorem g_law_long {pos : Pos} (hx : sc.names.lookup ("_law_long" : PySem.Str) = some .globalImplicit) (h : Q (.gl (.ref 313)) H) : EV b sc (.Name "_law_long" pos) m H Q X := EV_glob hx (fun _ => by kernel_rfl) (fun _ _ _ _ => .gl _) h
theorem cw_law_is_fair : CW (.ref 318) := .k fun _ => by kernel_rfl
theorem g_law_is_fair {pos : Pos} (hx : sc.names.lookup ("_law_is_fair" : PySem.Str) = some .globalImplicit) (h : Q (.gl (.ref 318)) H) : EV b sc (.Name "_law_is_fair" pos) m H Q X := EV_glob hx (fun _ => by kernel_rfl) (fun _ _ _ _ => .gl _) h
theorem g_sum {pos : Pos} (hx : sc.names.lookup ("sum" : PySem.Str) = some .globalImplicit) (h : Q (.gl (.builtin "sum")) H) : EV b sc (.Name "sum" pos) m H Q X := EV_bi hx (fun _ => by kernel_rfl) (by decide +kernel) (by decide) h
theorem g_abs {pos : Pos} (hx : sc.names.lookup ("abs" : PySem.Str) = some .globalImplicit) (h : Q (.gl (.builtin "abs")) H) : EV b sc (.Name "abs" pos) m H Q X := EV_bi hx (fun _ => by kernel_rfl) (by decide +kernel) (by decide) h
theorem g_len {pos : Pos} (hx : sc.names.lookup ("len" : PySem.Str) = some .globalImplicit) (h : Q (.gl (.builtin "len")) H) : EV b sc (.Name "len" pos) m H Q X := EV_bi hx (fun _ => by kernel_rfl) (by decide +kernel) (by decide) h
theorem g_sorted {pos : Pos} (hx : sc.names.lookup ("sorted" : PySem.Str) = some .globalImplicit) (h : Q (.gl (.builtin "sorted")) H) : EV b sc (.Name "sorted" pos) m H Q X := EV_bi hx (fun _ => by kernel_rfl) (by decide +kernel) (by decide) h
theorem g_max {pos : Pos} (hx : sc.names.lookup ("max" : PySem.Str) = some .globalImplicit) (h : Q (.gl (.builtin "max")) H) : EV b sc (.Name "max" pos) m H Q X := EV_bi hx (fun _ => by kernel_rfl) (by decide +kernel) (by decide) h
theorem g_list {pos : Pos} (hx : sc.names.lookup ("list" : PySem.Str) = some .globalImplicit) (h : Q (.gl (.type "list")) H) : EV b sc (.Name "list" pos) m H Q X := EV_bi hx (fun _ => by kernel_rfl) (by decide +kernel) (by decide) h
theorem g_tuple {pos : Pos} (hx : sc.names.lookup ("tuple" : PySem.Str) = some .globalImplicit) (h : Q (.gl (.type "tuple")) H) : EV b sc (.Name "tuple" pos) m H Q X := EV_bi hx (fun _ => by kernel_rfl) (by decide +kernel) (by decide) h
end
/-- what a call of one of these names calls -/
noncomputable def GF (f : PySem.Str) (fv : Value) : Prop := ∀ (b : Bd) (sc : Scope) (m : Vars) (H : AH) (X : AH → Prop) (Q : AV → AH → Prop) (np : Pos), sc.names.lookup f = some .globalImplicit → Q (.gl fv) H → EV b sc (.Name f np) m H Q X
noncomputable def ktbl : List (PySem.Str × Value) := [(("Window" : PySem.Str), Value.ref 93),
  (("WindowTree" : PySem.Str), Value.ref 164),
  (("along" : PySem.Str), Value.ref 175),
  (("sort_along" : PySem.Str), Value.ref 182),
  (("leaves_under" : PySem.Str), Value.ref 189),
  (("leaves" : PySem.Str), Value.ref 196),
  (("windows_under" : PySem.Str), Value.ref 203),
  (("replace_child" : PySem.Str), Value.ref 210),
  (("least_size" : PySem.Str), Value.ref 215),
  (("weight_of" : PySem.Str), Value.ref 220),
  (("shares" : PySem.Str), Value.ref 225),
  (("level_shares" : PySem.Str), Value.ref 230),
  (("set_tree_size" : PySem.Str), Value.ref 235),
  (("set_places" : PySem.Str), Value.ref 242),
  (("balance" : PySem.Str), Value.ref 247),
  (("wrong_window" : PySem.Str), Value.ref 254),
  (("tree_error" : PySem.Str), Value.ref 261),
  (("node_of" : PySem.Str), Value.ref 266),
  (("configuration" : PySem.Str), Value.ref 273),
  (("split_parts" : PySem.Str), Value.ref 280),
  (("combined" : PySem.Str), Value.ref 287),
  (("split" : PySem.Str), Value.ref 294),
  (("joined" : PySem.Str), Value.ref 301),
  (("_law_draw" : PySem.Str), Value.ref 308),
  (("_law_long" : PySem.Str), Value.ref 313),
  (("_law_is_fair" : PySem.Str), Value.ref 318),
  (("sum" : PySem.Str), Value.builtin "sum"),
  (("abs" : PySem.Str), Value.builtin "abs"),
  (("len" : PySem.Str), Value.builtin "len"),
  (("sorted" : PySem.Str), Value.builtin "sorted"),
  (("max" : PySem.Str), Value.builtin "max"),
  (("list" : PySem.Str), Value.type "list"),
  (("tuple" : PySem.Str), Value.type "tuple")]
theorem ktbl_ok : ∀ p ∈ ktbl, GF p.1 p.2 ∧ CW p.2 := by
  unfold ktbl
  simp only [List.forall_mem_cons]
  exact ⟨⟨fun _ _ _ _ _ _ _ => g_Window, cw_Window⟩,
    ⟨fun _ _ _ _ _ _ _ => g_WindowTree, cw_WindowTree⟩,
    ⟨fun _ _ _ _ _ _ _ => g_along, cw_along⟩,
    ⟨fun _ _ _ _ _ _ _ => g_sort_along, cw_sort_along⟩,
    ⟨fun _ _ _ _ _ _ _ => g_leaves_under, cw_leaves_under⟩,
    ⟨fun _ _ _ _ _ _ _ => g_leaves, cw_leaves⟩,
    ⟨fun _ _ _ _ _ _ _ => g_windows_under, cw_windows_under⟩,
    ⟨fun _ _ _ _ _ _ _ => g_replace_child, cw_replace_child⟩,
    ⟨fun _ _ _ _ _ _ _ => g_least_size, cw_least_size⟩,
    ⟨fun _ _ _ _ _ _ _ => g_weight_of, cw_weight_of⟩,
    ⟨fun _ _ _ _ _ _ _ => g_shares, cw_shares⟩,
    ⟨fun _ _ _ _ _ _ _ => g_level_shares, cw_level_shares⟩,
    ⟨fun _ _ _ _ _ _ _ => g_set_tree_size, cw_set_tree_size⟩,
    ⟨fun _ _ _ _ _ _ _ => g_set_places, cw_set_places⟩,
    ⟨fun _ _ _ _ _ _ _ => g_balance, cw_balance⟩,
    ⟨fun _ _ _ _ _ _ _ => g_wrong_window, cw_wrong_window⟩,
    ⟨fun _ _ _ _ _ _ _ => g_tree_error, cw_tree_error⟩,
    ⟨fun _ _ _ _ _ _ _ => g_node_of, cw_node_of⟩,
    ⟨fun _ _ _ _ _ _ _ => g_configuration, cw_configuration⟩,
    ⟨fun _ _ _ _ _ _ _ => g_split_parts, cw_split_parts⟩,
    ⟨fun _ _ _ _ _ _ _ => g_combined, cw_combined⟩,
    ⟨fun _ _ _ _ _ _ _ => g_split, cw_split⟩,
    ⟨fun _ _ _ _ _ _ _ => g_joined, cw_joined⟩,
    ⟨fun _ _ _ _ _ _ _ => g_law_draw, cw_law_draw⟩,
    ⟨fun _ _ _ _ _ _ _ => g_law_long, cw_law_long⟩,
    ⟨fun _ _ _ _ _ _ _ => g_law_is_fair, cw_law_is_fair⟩,
    ⟨fun _ _ _ _ _ _ _ => g_sum, .bi _⟩,
    ⟨fun _ _ _ _ _ _ _ => g_abs, .bi _⟩,
    ⟨fun _ _ _ _ _ _ _ => g_len, .bi _⟩,
    ⟨fun _ _ _ _ _ _ _ => g_sorted, .bi _⟩,
    ⟨fun _ _ _ _ _ _ _ => g_max, .bi _⟩,
    ⟨fun _ _ _ _ _ _ _ => g_list, .ty _⟩,
    ⟨fun _ _ _ _ _ _ _ => g_tuple, .ty _⟩, fun _ h => nomatch h⟩
theorem k_any {b : Bd} {sc : Scope} {m : Vars} {H : AH} {X : AH → Prop} {Q : AV → AH → Prop} {f : PySem.Str} {fv : Value} {np pos : Pos} {e : Expr} {rest : List Expr} (ht : ktbl.lookup f = some fv) (hx : sc.names.lookup f = some .globalImplicit) (h : EVs b sc pos (e :: rest) m H (fun l H2 => CL b fv l H2 Q X) X)
    (hs : ∀ env, starEach (e :: rest) env = (false, eval e env) :: starEach rest env) (hplain : ∀ env, (backTo pos (starEach rest env)).any (·.1) = false)
    (he : ∀ env, eval (.Call (.Name f np) (e :: rest) [] pos) env = (do callWith pos (← eval (.Name f np) env) [] (backTo pos (starEach (e :: rest) env)) (backToKw pos (keywordEach [] env)))) :
    EV b sc (.Call (.Name f np) (e :: rest) [] pos) m H Q X :=
  have z := ktbl_ok _ (mem_of_lookup ht)
  EV_call (z.1 _ _ _ _ _ _ _ hx ⟨_, rfl, z.2, h⟩) he hs hplain
theorem CA_defs {b : Bd} {H : AH} {X : AH → Prop} {Q : AV → AH → Prop} {f : Addr} {fd : FuncData} {oc : Value} {od : Option Addr} {osl : Array (Option Value)} {body : List Stmt} {names : List PySem.Str} {args : List AV}
    (hK : ∀ P, (hd.heap_1 P).lookup f = some ⟨oc, od, .func fd, osl⟩) (hcd : ∀ P, codeIn (hd.heap_1 P) fd.code fd.qualname = true)
    (hb : fd.body = .stmts body) (hg : fd.globals = mainGlobals) (hbi : fd.builtins = builtinsNs) (hclo : fd.closure = [])
    (hbind : ∀ vs : List Value, vs.length = args.length → bindArgs fd ⟨vs, []⟩ = pure (names.zip vs))
    (hkind : ∀ x ∈ names, fd.scope.names.lookup x = some .local ∨ fd.scope.names.lookup x = some .cell)
    (hb1 : 1 ≤ b.n) (h : ∀ sc, sc = fd.scope → EX b.dn sc body (bindV names args v0) H (fun fl _ H' => Q (retOf fl) H') (fun _ H' => X H'))
    (hco : fd.scope.isCoroutine = false := by rfl) (hgen : fd.scope.isGenerator = false := by rfl) (hk : fd.scope.kind = .function := by rfl) : CA b (.ref f) args H Q X :=
  CA_def hK hcd hb hg hbi hclo hbind hkind hb1 (h _ rfl) hco hgen hk
end
set_option hygiene false in
local macro_rules | `(tactic| walk_at "v") => `(tactic| first | with_reducible rfl | assumption | (refine Eq.trans (up_ne (by decide)) ?_; walk_at "v") | (refine Eq.trans (compV_free (by rfl)) ?_; walk_at "v") | rfl)
set_option hygiene false in
local macro_rules | `(tactic| walk_at "k") => `(tactic| first | rfl | exact by_sc hsc rfl | (have h := ‹@Eq Scope _ _›; exact by_sc h rfl))
set_option hygiene false in
local macro_rules | `(tactic| walk_at "d") => `(tactic| first | exact dle ‹_ ≤ Bd.n _› | exact dle1 ‹_ ≤ Bd.n _› | omega | (simp only [Bd.dn_n] at *; omega))
set_option hygiene false in
local macro_rules | `(tactic| walk_at "b") => `(tactic| first | exact len1 fun _ => rfl | exact len2 fun _ _ => rfl | exact len3 fun _ _ _ => rfl | exact len4 fun _ _ _ _ => rfl | exact len5 fun _ _ _ _ _ => rfl)
set_option hygiene false in
local macro_rules | `(tactic| walk_at "g") => `(tactic| ((with_reducible first | refine g_LEAF ?_ ?_ | refine g_COLUMN ?_ ?_ | refine g_ROW ?_ ?_ | refine g_WIDTH ?_ ?_ | refine g_HEIGHT ?_ ?_); walk_at "k"))
set_option hygiene false in
local macro_rules | `(tactic| walk_at "c") => `(tactic| ((with_reducible refine k_any (fv := ?_) ?_ ?_ ?_ ?_ ?_ ?_); rotate_left 1; rfl; walk_at "k"; rotate_left 1; exact fun e => rfl; exact fun e => rfl; exact fun e => rfl))
set_option hygiene false in
local macro_rules | `(tactic| walk_at "sw") => `(tactic| (refine by_sc hsc ?_; intro env e; unfold swappedStores Env.kindOf Env.blockKind; simp only [e]; rfl))
set_option hygiene false in
local macro_rules | `(tactic| walk_at "w") => `(tactic| first
  | ((with_reducible refine EX_stepK ?_); intro zK zh)
  | (with_reducible first | refine Kn (by assumption) ?_ | refine Kr (by assumption) ?_ | refine LX_next ?_ | refine LX_ret ?_ | refine EX_nil ?_ | refine ES_return ?_ | refine ES_if ?_ | refine ES_pass ?_ | refine EV_int ?_ | refine EV_none ?_ | refine EV_bool ?_ | refine EV_str ?_ | refine EV_ifexp ?_ | refine EV_bin ?_ | refine EV_un ?_ | refine EV_tuple ?_ | refine EV_list ?_ | refine EV_dict0 ?_ | refine EVs_nil ?_ | refine ET_not ?_ | refine ET_bool ?_ | refine EA_and ?_ | refine EA_or ?_ | refine EA_and_nil ?_ | refine EA_or_nil ?_ | refine EV_sub ?_ | refine TA_sub ?_ | refine OP_add ?_ | refine OP_sub ?_ | refine OP_neg ?_)
  | ((with_reducible refine ES_expr ?_ ?_); rotate_left 1; exact fun e => rfl)
  | ((with_reducible refine ES_assign ?_ ?_ ?_ ?_); rotate_left 1; exact fun e => rfl; exact fun e f => rfl; exact fun e f => rfl)
  | ((with_reducible refine ES_assign ?_ ?_ ?_ ?_); rotate_left 1; exact fun e => rfl; exact fun e f => rfl; walk_at "sw")
  | ((with_reducible refine TA_name ?_ ?_); first | exact Or.inl (by walk_at "k") | exact Or.inr (by walk_at "k"))
  | ((with_reducible refine EVs_cons ?_ ?_); rotate_left 1; exact fun e => rfl)
  | ((with_reducible refine ET_cmp ?_ ?_); rotate_left 1; rfl)
  | ((with_reducible refine EV_cmp ?_ ?_); rotate_left 1; rfl)
  | ((with_reducible refine ET_chain ?_ ?_ ?_); rotate_left 1; with_unfolding_all rfl; exact fun e => rfl)
  | ((with_reducible refine EV_varq (a := ?_) ?_ ?_ ?_ ?_); rotate_left 1; decide; decide; walk_at "v")
  | walk_at "g"
  | walk_at "c"
  | ((with_reducible refine EV_attr_name ?_ ?_); rotate_left 1; decide)
  | ((with_reducible refine EV_attr_sub ?_ ?_); rotate_left 1; decide)
  | ((with_reducible refine TA_attr ?_ ?_); decide)
  | ((with_reducible first | refine OP_eq ?_ | refine OP_ne ?_ | refine OP_lt ?_ | refine OP_gt ?_ | refine OP_le ?_); (try with_reducible refine ex_rfl ?_)))
set_option hygiene false in
local macro_rules | `(tactic| walk_at "co") => `(tactic| exact ⟨by decide, rfl, by decide, by_sc hsc (by decide), by_sc hsc rfl⟩)
-- C1
section
theorem if_b {t : Bool} {A B : Prop} (h1 : t = true → A) (h2 : t = false → B) : if t = true then A else B := by cases t <;> simp_all
theorem if_eq {i j : Int} {A B : Prop} (h1 : i = j → A) (h2 : i ≠ j → B) : if (i == j) = true then A else B := by
  by_cases h : i = j
  · rw [if_pos (beq_iff_eq.mpr h)]; exact h1 h
  · rw [if_neg (fun q => h (beq_iff_eq.mp q))]; exact h2 h
theorem if_ne {i j : Int} {A B : Prop} (h1 : i ≠ j → A) (h2 : i = j → B) : if (i != j) = true then A else B := by
  by_cases h : i = j
  · rw [if_neg (by simp [h])]; exact h2 h
  · rw [if_pos (by simp [h])]; exact h1 h
theorem if_d {p : Prop} [Decidable p] {A B : Prop} (h1 : p → A) (h2 : ¬ p → B) : if decide p = true then A else B := by
  by_cases h : p
  · rw [if_pos (by simp [h])]; exact h1 h
  · rw [if_neg (by simp [h])]; exact h2 h
theorem if_n {t : Bool} {A B : Prop} (h1 : t = false → A) (h2 : t = true → B) : if (!t) = true then A else B := by cases t <;> simp_all

/- abstract heaps -/
theorem al_n {H : AH} {o : AO} : (H.alloc o).n = H.n + 1 := rfl
theorem al_self {H : AH} {o : AO} : (H.alloc o).f H.n = o := if_pos rfl
theorem al_ne {H : AH} {o : AO} {i : Nat} (h : i ≠ H.n) : (H.alloc o).f i = H.f i := if_neg h
theorem al_lt {H : AH} {o : AO} {i : Nat} (h : i < H.n) : (H.alloc o).f i = H.f i := if_neg (Nat.ne_of_lt h)
theorem st_n {H : AH} {i : Nat} {o : AO} : (H.set i o).n = H.n := rfl
theorem st_self {H : AH} {i : Nat} {o : AO} : (H.set i o).f i = o := if_pos rfl
theorem st_ne {H : AH} {i j : Nat} {o : AO} (h : j ≠ i) : (H.set i o).f j = H.f j := if_neg h

/-- what stood stands, new objects may lie behind -/
structure Ext (H H' : AH) : Prop where
  le : H.n ≤ H'.n
  f : ∀ i, i < H.n → H'.f i = H.f i
theorem Ext.refl {H : AH} : Ext H H := ⟨Nat.le_refl _, fun _ _ => rfl⟩
theorem Ext.trans {H H' H'' : AH} (x : Ext H H') (y : Ext H' H'') : Ext H H'' := ⟨Nat.le_trans x.le y.le, fun i h => (y.f i (Nat.lt_of_lt_of_le h x.le)).trans (x.f i h)⟩
theorem Ext.alloc {H H' : AH} {o : AO} (x : Ext H H') : Ext H (H'.alloc o) := ⟨Nat.le_succ_of_le x.le, fun i h => (al_lt (Nat.lt_of_lt_of_le h x.le)).trans (x.f i h)⟩
theorem Ext.set {H H' : AH} {i : Nat} {o : AO} (x : Ext H H') (h : H.n ≤ i) : Ext H (H'.set i o) := ⟨x.le, fun j hj => (st_ne (Nat.ne_of_lt (Nat.lt_of_lt_of_le hj h))).trans (x.f j hj)⟩
/-- the same, but instances may have turned -/
structure ExI (H H' : AH) : Prop where
  le : H.n ≤ H'.n
  f : ∀ i, i < H.n → (∀ C d, H.f i ≠ .inst C d) → H'.f i = H.f i
theorem Ext.i {H H' : AH} (x : Ext H H') : ExI H H' := ⟨x.le, fun i h _ => x.f i h⟩
theorem ExI.refl {H : AH} : ExI H H := Ext.refl.i
theorem ExI.trans {H H' H'' : AH} (x : ExI H H') (y : ExI H' H'') : ExI H H'' := ⟨Nat.le_trans x.le y.le, fun i h q => (y.f i (Nat.lt_of_lt_of_le h x.le) (by rw [x.f i h q]; exact q)).trans (x.f i h q)⟩
theorem ExI.set {H H' : AH} {i : Nat} {C : Addr} {d : PySem.Str → Option AV} {o : AO} (x : ExI H H') (h : H'.f i = .inst C d) : ExI H (H'.set i o) :=
  ⟨x.le, fun j hj q => by
    by_cases e : j = i
    · subst e; have := x.f j hj q; rw [h] at this; exact absurd this.symm (q _ _)
    · rw [st_ne e]; exact x.f j hj q⟩
theorem ExI.new {H H' : AH} {i : Nat} {o : AO} (x : ExI H H') (h : H.n ≤ i) : ExI H (H'.set i o) := ⟨x.le, fun j hj q => (st_ne (Nat.ne_of_lt (Nat.lt_of_lt_of_le hj h))).trans (x.f j hj q)⟩
theorem ExI.alloc {H H' : AH} {o : AO} (x : ExI H H') : ExI H (H'.alloc o) := x.trans (Ext.refl.alloc.i)
theorem ExI.list {H H' : AH} (x : ExI H H') {i : Nat} {l : List AV} (h : i < H.n) (e : H.f i = .list l) : H'.f i = .list l := (x.f i h (by rw [e]; intro _ _ q; cases q)).trans e
theorem ExI.dict {H H' : AH} (x : ExI H H') {i : Nat} {l : List (Int × AV)} (h : i < H.n) (e : H.f i = .dict l) : H'.f i = .dict l := (x.f i h (by rw [e]; intro _ _ q; cases q)).trans e

/- attributes as lists -/
noncomputable abbrev Lk := List (PySem.Str × AV)
noncomputable def lk (l : Lk) : PySem.Str → Option AV := fun x => l.lookup x
theorem lkc_eq {l : Lk} {x y : PySem.Str} {a : AV} (h : y = x) : lk ((x, a) :: l) y = some a := by
  subst h; unfold lk; rw [List.lookup_cons, beq_self_eq_true]
theorem lkc_ne {l : Lk} {x y : PySem.Str} {a : AV} (h : y ≠ x) : lk ((x, a) :: l) y = lk l y := by
  unfold lk; rw [List.lookup_cons, beq_eq_false_iff_ne.mpr h]
theorem upd_lk {l : Lk} {x : PySem.Str} {a : AV} : upd (lk l) x a = lk ((x, a) :: l) := by
  funext y
  unfold upd
  by_cases h : y = x
  · rw [if_pos h, lkc_eq h]
  · rw [if_neg h, lkc_ne h]
noncomputable def lkset (x : PySem.Str) (a : AV) : Lk → Lk
  | [] => [(x, a)]
  | (y, c) :: r => if y = x then (x, a) :: r else (y, c) :: lkset x a r
theorem lk_set {x : PySem.Str} {a : AV} : ∀ {l : Lk}, lk ((x, a) :: l) = lk (lkset x a l)
  | [] => rfl
  | (y, c) :: r => by
    unfold lkset
    by_cases h : y = x
    · rw [if_pos h]
      funext z
      by_cases q : z = x
      · rw [lkc_eq q, lkc_eq q]
      · rw [lkc_ne q, lkc_ne q, lkc_ne (h ▸ q)]
    · rw [if_neg h]
      funext z
      by_cases q : z = x
      · rw [lkc_eq q, lkc_ne (by rw [q]; exact fun e => h e.symm), ← lk_set, lkc_eq q]
      · rw [lkc_ne q]
        by_cases q2 : z = y
        · rw [lkc_eq q2, lkc_eq q2]
        · rw [lkc_ne q2, lkc_ne q2, ← lk_set, lkc_ne q]
theorem upd_set {l : Lk} {x : PySem.Str} {a : AV} : upd (lk l) x a = lk (lkset x a l) := upd_lk.trans lk_set

/-- the numbers of a tree of windows -/
structure St where
  N : Nat
  root : Int
  sort : Int → Int
  par : Int → Int
  kids : Int → List Int
  w : Int → Int
  h : Int → Int
  l : Int → Int
  t : Int → Int
  buf : Int → Int
noncomputable abbrev St.Dm (S : St) (k : Int) : Prop := 1 ≤ k ∧ k ≤ S.N
noncomputable def fs (f : Int → Int) (k v : Int) : Int → Int := fun x => if x = k then v else f x
theorem fs_self {f : Int → Int} {k v : Int} : fs f k v k = v := if_pos rfl
theorem fs_ne {f : Int → Int} {k v x : Int} (h : x ≠ k) : fs f k v x = f x := if_neg h
/-- where they lie -/
structure La where
  T : Nat
  W : Nat
  jw : Int → Nat
  jc : Int → Nat
  je : Int → Nat
  jl : Int → Nat
noncomputable def tl (Λ : La) (S : St) : Lk := [("windows", .ref Λ.W), ("last", .int S.N), ("clock", .int 1), ("least_width", .int 3), ("least_height", .int 2), ("root", .int S.root), ("selected", .int 1)]
noncomputable def wat (Λ : La) (S : St) (k : Int) : Lk := [("number", .int k), ("sort", .int (S.sort k)), ("parent", .int (S.par k)), ("children", .ref (Λ.jc k)), ("left", .int (S.l k)), ("top", .int (S.t k)), ("width", .int (S.w k)), ("height", .int (S.h k)),
  ("buffer", .int (S.buf k)), ("start", .int 1), ("point", .int 1), ("hscroll", .int 0), ("is_dedicated", .bool false), ("use_time", .int (if k = 1 then 1 else 0)), ("earlier", .ref (Λ.je k)), ("later", .ref (Λ.jl k))]
noncomputable def wl (Λ : La) (N : Nat) : List (Int × AV) := (List.range N).map fun i => (((i : Nat) : Int) + 1, .ref (Λ.jw (((i : Nat) : Int) + 1)))
theorem find_range {β : Type} (g : Nat → β) (p : Nat → Bool) : ∀ N : Nat, ((List.range N).map fun i => (i, g i)).find? (fun q => p q.1) = ((List.range N).find? p).map fun i => (i, g i) := by
  intro N
  rw [List.find?_map]
  rfl
theorem wl_get {Λ : La} {N : Nat} {k : Int} (h : 1 ≤ k ∧ k ≤ N) : dget (wl Λ N) k = some (.ref (Λ.jw k)) := by
  unfold dget wl
  rw [List.find?_map]
  have e : (List.range N).find? ((fun kv : Int × AV => decide (kv.1 = k)) ∘ fun i => (((i : Nat) : Int) + 1, AV.ref (Λ.jw (((i : Nat) : Int) + 1)))) = some (k - 1).toNat := by
    rw [List.find?_range_eq_some]
    refine ⟨by simp; omega, by simp; omega, fun j hj => by simp; omega⟩
  rw [e]
  have : ((k - 1).toNat : Int) + 1 = k := by omega
  show some (AV.ref (Λ.jw (((k - 1).toNat : Int) + 1))) = _
  rw [this]
theorem wl_keys {Λ : La} {N : Nat} : (wl Λ N).map (·.1) = (List.range N).map fun i => ((i : Nat) : Int) + 1 := by
  unfold wl; rw [List.map_map]; rfl
theorem wl_len {Λ : La} {N : Nat} : (wl Λ N).length = N := by unfold wl; simp
theorem wl_new {Λ : La} {N : Nat} {j : Nat} {jw' : Int → Nat} (h1 : jw' ((N : Int) + 1) = j) (h2 : ∀ k : Int, k ≤ N → jw' k = Λ.jw k) : dset (wl Λ N) ((N : Int) + 1) (.ref j) = wl { Λ with jw := jw' } (N + 1) := by
  unfold dset
  rw [if_neg]
  · unfold wl
    rw [List.range_succ, List.map_append]
    congr 1
    · refine List.map_congr_left fun i hi => ?_
      rw [List.mem_range] at hi
      show _ = (_, AV.ref (jw' _))
      rw [h2 ((i : Int) + 1) (by omega)]
    · show _ = [(_, AV.ref (jw' _))]
      rw [h1]
  · rw [List.any_eq_true]
    rintro ⟨x, hx, e⟩
    have : x.1 ∈ (wl Λ N).map (·.1) := List.mem_map_of_mem hx
    rw [wl_keys, List.mem_map] at this
    obtain ⟨i, hi, e'⟩ := this
    rw [List.mem_range] at hi
    have : x.1 = (N : Int) + 1 := by simpa using e
    omega

structure Rep (Λ : La) (S : St) (H : AH) : Prop where
  bT : Λ.T < H.n
  bW : Λ.W < H.n
  fT : H.f Λ.T = .inst 164 (lk (tl Λ S))
  fW : H.f Λ.W = .dict (wl Λ S.N)
  bw : ∀ k, S.Dm k → Λ.jw k < H.n
  bc : ∀ k, S.Dm k → Λ.jc k < H.n
  be : ∀ k, S.Dm k → Λ.je k < H.n
  bl : ∀ k, S.Dm k → Λ.jl k < H.n
  fw : ∀ k, S.Dm k → H.f (Λ.jw k) = .inst 93 (lk (wat Λ S k))
  fc : ∀ k, S.Dm k → H.f (Λ.jc k) = .list (iL (S.kids k))
  fe : ∀ k, S.Dm k → H.f (Λ.je k) = .list []
  fl : ∀ k, S.Dm k → H.f (Λ.jl k) = .list []
  ij : ∀ k k', S.Dm k → S.Dm k' → Λ.jc k = Λ.jc k' → k = k'
  ce : ∀ k k', S.Dm k → S.Dm k' → Λ.jc k ≠ Λ.je k' ∧ Λ.jc k ≠ Λ.jl k'
theorem Rep.ext {Λ : La} {S : St} {H H' : AH} (x : Rep Λ S H) (e : Ext H H') : Rep Λ S H' :=
  ⟨Nat.lt_of_lt_of_le x.bT e.le, Nat.lt_of_lt_of_le x.bW e.le, (e.f _ x.bT).trans x.fT, (e.f _ x.bW).trans x.fW, fun k h => Nat.lt_of_lt_of_le (x.bw k h) e.le, fun k h => Nat.lt_of_lt_of_le (x.bc k h) e.le, fun k h => Nat.lt_of_lt_of_le (x.be k h) e.le, fun k h => Nat.lt_of_lt_of_le (x.bl k h) e.le,
    fun k h => (e.f _ (x.bw k h)).trans (x.fw k h), fun k h => (e.f _ (x.bc k h)).trans (x.fc k h), fun k h => (e.f _ (x.be k h)).trans (x.fe k h), fun k h => (e.f _ (x.bl k h)).trans (x.fl k h), x.ij, x.ce⟩
theorem lk_inj {Λ Λ' : La} {S S' : St} {k k' : Int} (e : lk (wat Λ S k) = lk (wat Λ' S' k')) : k = k' := by
  have := congrFun e ("number" : PySem.Str)
  have a : lk (wat Λ S k) ("number" : PySem.Str) = some (.int k) := rfl
  have b : lk (wat Λ' S' k') ("number" : PySem.Str) = some (.int k') := rfl
  rw [a, b] at this
  cases this; rfl
theorem Rep.iw {Λ : La} {S : St} {H : AH} (x : Rep Λ S H) {k k' : Int} (h : S.Dm k) (h' : S.Dm k') (e : Λ.jw k = Λ.jw k') : k = k' := by
  have a := x.fw k h
  rw [e, x.fw k' h'] at a
  have := AO.inst.inj a
  exact (lk_inj this.2).symm
/-- one window's numbers turned -/
theorem Rep.upw {Λ : La} {S S' : St} {H : AH} {k : Int} (x : Rep Λ S H) (hk : S.Dm k) (hN : S'.N = S.N) (hr : S'.root = S.root) (hc : ∀ k', S.Dm k' → S'.kids k' = S.kids k') (ho : ∀ k', S.Dm k' → k' ≠ k → wat Λ S' k' = wat Λ S k') :
    Rep Λ S' (H.set (Λ.jw k) (.inst 93 (lk (wat Λ S' k)))) := by
  have D : ∀ k', S'.Dm k' → S.Dm k' := fun k' h => by rw [St.Dm, hN] at h; exact h
  have ne : ∀ {i : Nat} {o : AO}, H.f i = o → (∀ C d, o ≠ .inst C d) → i ≠ Λ.jw k := fun h1 h2 q => by rw [q, x.fw k hk] at h1; exact h2 _ _ h1.symm
  refine ⟨x.bT, x.bW, ?_, ?_, fun k' h => x.bw k' (D k' h), fun k' h => x.bc k' (D k' h), fun k' h => x.be k' (D k' h), fun k' h => x.bl k' (D k' h), fun k' h => ?_, fun k' h => ?_, fun k' h => ?_, fun k' h => ?_, fun a b h1 h2 => x.ij a b (D a h1) (D b h2), fun a b h1 h2 => x.ce a b (D a h1) (D b h2)⟩
  · rw [st_ne, x.fT]
    · unfold tl; rw [hN, hr]
    · intro q
      have a := x.fT
      rw [q, x.fw k hk] at a
      have := (AO.inst.inj a).1
      revert this; decide
  · rw [st_ne (ne x.fW fun _ _ q => by cases q), x.fW, hN]
  · by_cases e : k' = k
    · subst e; rw [st_self]
    · rw [st_ne (fun q => e (x.iw (D k' h) hk q)), x.fw k' (D k' h), ho k' (D k' h) e]
  · rw [st_ne (ne (x.fc k' (D k' h)) fun _ _ q => by cases q), x.fc k' (D k' h), hc k' (D k' h)]
  · rw [st_ne (ne (x.fe k' (D k' h)) fun _ _ q => by cases q), x.fe k' (D k' h)]
  · rw [st_ne (ne (x.fl k' (D k' h)) fun _ _ q => by cases q), x.fl k' (D k' h)]
end
-- C2
section
theorem okds_iL {k : Nat} : ∀ {ns : List Int}, AV.okds k (iL ns) = true
  | [] => by cases k <;> rfl
  | n :: ns => by
    show AV.okds k (.int n :: iL ns) = true
    rw [AV.okds, okds_iL, Bool.and_true]
    cases k <;> rfl
theorem eqv_nil {l : List AV} : PyData.eqv (.list (AV.pys l)) (.list (AV.pys [])) = l.isEmpty := by
  cases l with
  | nil => rfl
  | cons a r => rfl
section
variable {b : Bd} {sc : Scope} {m : Vars} {H : AH} {X : AH → Prop} {Q : AV → AH → Prop}
inductive NilP (Q : Bool → AH → Prop) (a : AV) (H : AH) : Prop
  | mk (j : Nat) (l : List AV) : a = .ref j → H.f j = .list l → j < H.n → AV.okds 60 l = true → Q l.isEmpty (H.alloc (.list [])) → NilP Q a H
theorem ET_ne_nil {e : Expr} {lp cp : Pos} {Q : Bool → AH → Prop} (h : EV b sc e m H (NilP fun t => Q (!t)) X) :
    ET b sc (.Compare e [.NotEq] [.List [] lp] cp) m H Q X := by
  refine ET_cmp (h.mono (fun a H' z => ?_) fun _ x => x)
  obtain ⟨j, l, rfl, hf, hj, ho, z⟩ := z
  refine EV_list (EVs_nil ⟨by decide, ?_⟩)
  refine OP_ned (RD.list ((al_lt hj).trans hf) ho) (RD.list al_self (by rfl)) ⟨_, rfl, ?_⟩
  rw [eqv_nil]; exact z
theorem ET_eq_nil {e : Expr} {lp cp : Pos} {Q : Bool → AH → Prop} (h : EV b sc e m H (NilP Q) X) :
    ET b sc (.Compare e [.Eq] [.List [] lp] cp) m H Q X := by
  refine ET_cmp (h.mono (fun a H' z => ?_) fun _ x => x)
  obtain ⟨j, l, rfl, hf, hj, ho, z⟩ := z
  refine EV_list (EVs_nil ⟨by decide, ?_⟩)
  refine OP_eqd (RD.list ((al_lt hj).trans hf) ho) (RD.list al_self (by rfl)) ⟨_, rfl, ?_⟩
  rw [eqv_nil]; exact z

noncomputable def al (s : Int) : Int := if s = 2 then 0 else 1
theorem c_along {s : Int} (hb : 1 ≤ b.n) (h : Q (.int (al s)) H) : CL b (.ref 175) [.int s] H Q X := by
  refine (CA_defs (names := ["sort"]) (fun _ => by with_unfolding_all rfl) (fun _ => by kernel_rfl) rfl rfl rfl rfl (by walk_at "b") (by decide) hb ?_).cl
  intro sc hsc
  repeat walk_at "w"
  refine if_eq (fun hs => ?_) fun hs => ?_
  · have e : al s = 0 := if_pos hs
    rw [e] at h
    repeat walk_at "w"
    exact h
  · have e : al s = 1 := if_neg hs
    rw [e] at h
    repeat walk_at "w"
    exact h
noncomputable def sal (a : Int) : Int := if a = 0 then 2 else 1
theorem c_sort_along {s : Int} (hb : 1 ≤ b.n) (h : Q (.int (sal s)) H) : CL b (.ref 182) [.int s] H Q X := by
  refine (CA_defs (names := ["axis"]) (fun _ => by with_unfolding_all rfl) (fun _ => by kernel_rfl) rfl rfl rfl rfl (by walk_at "b") (by decide) hb ?_).cl
  intro sc hsc
  repeat walk_at "w"
  refine if_eq (fun hs => ?_) fun hs => ?_
  · have e : sal s = 2 := if_pos hs
    rw [e] at h
    repeat walk_at "w"
    exact h
  · have e : sal s = 1 := if_neg hs
    rw [e] at h
    repeat walk_at "w"
    exact h
noncomputable def sz (S : St) (a k : Int) : Int := if a = 0 then S.w k else S.h k
noncomputable def pl (S : St) (a k : Int) : Int := if a = 0 then S.l k else S.t k
noncomputable def setz (S : St) (a k v : Int) : St := if a = 0 then { S with w := fs S.w k v } else { S with h := fs S.h k v }
theorem c_size {Λ : La} {S : St} {j : Nat} {k a : Int} (hb : 1 ≤ b.n) (hf : H.f j = .inst 93 (lk (wat Λ S k))) (h : Q (.int (sz S a k)) H) : CL b (.ref 62) [.ref j, .int a] H Q X := by
  refine (CA_defs (names := ["self", "axis"]) (fun _ => by with_unfolding_all rfl) (fun _ => by kernel_rfl) rfl rfl rfl rfl (by walk_at "b") (by decide) hb ?_).cl
  intro sc hsc
  repeat walk_at "w"
  refine if_eq (fun hs => ?_) fun hs => ?_
  · have e : sz S a k = S.w k := if_pos hs
    rw [e] at h
    repeat walk_at "w"
    refine ⟨_, _, _, _, rfl, hf, rfl, rfl, ok_window, ?_⟩
    repeat walk_at "w"
    exact h
  · have e : sz S a k = S.h k := if_neg hs
    rw [e] at h
    repeat walk_at "w"
    refine ⟨_, _, _, _, rfl, hf, rfl, rfl, ok_window, ?_⟩
    repeat walk_at "w"
    exact h
theorem c_place {Λ : La} {S : St} {j : Nat} {k a : Int} (hb : 1 ≤ b.n) (hf : H.f j = .inst 93 (lk (wat Λ S k))) (h : Q (.int (pl S a k)) H) : CL b (.ref 76) [.ref j, .int a] H Q X := by
  refine (CA_defs (names := ["self", "axis"]) (fun _ => by with_unfolding_all rfl) (fun _ => by kernel_rfl) rfl rfl rfl rfl (by walk_at "b") (by decide) hb ?_).cl
  intro sc hsc
  repeat walk_at "w"
  refine if_eq (fun hs => ?_) fun hs => ?_
  · have e : pl S a k = S.l k := if_pos hs
    rw [e] at h
    repeat walk_at "w"
    refine ⟨_, _, _, _, rfl, hf, rfl, rfl, ok_window, ?_⟩
    repeat walk_at "w"
    exact h
  · have e : pl S a k = S.t k := if_neg hs
    rw [e] at h
    repeat walk_at "w"
    refine ⟨_, _, _, _, rfl, hf, rfl, rfl, ok_window, ?_⟩
    repeat walk_at "w"
    exact h
theorem c_set_size {L : Lk} {j : Nat} {a v : Int} (hb : 1 ≤ b.n) (hf : H.f j = .inst 93 (lk L)) (h : Q .none (H.set j (.inst 93 (lk (lkset (if a = 0 then "width" else "height") (.int v) L))))) : CL b (.ref 69) [.ref j, .int a, .int v] H Q X := by
  refine (CA_defs (names := ["self", "axis", "size"]) (fun _ => by with_unfolding_all rfl) (fun _ => by kernel_rfl) rfl rfl rfl rfl (by walk_at "b") (by decide) hb ?_).cl
  intro sc hsc
  repeat walk_at "w"
  refine if_eq (fun hs => ?_) fun hs => ?_
  · rw [if_pos hs] at h
    repeat walk_at "w"
    refine ⟨_, _, _, rfl, hf, ok_window, ?_⟩
    rw [upd_set]
    repeat walk_at "w"
    exact h
  · rw [if_neg hs] at h
    repeat walk_at "w"
    refine ⟨_, _, _, rfl, hf, ok_window, ?_⟩
    rw [upd_set]
    repeat walk_at "w"
    exact h
end
end
-- C3
section
/-- the windows below, each ahead of its own -/
noncomputable def preF (kids : Int → List Int) : Nat → Int → List Int
  | 0, n => [n]
  | f + 1, n => n :: (kids n).flatMap (preF kids f)
noncomputable def pre (S : St) (n : Int) : List Int := preF S.kids 40 n
noncomputable def lvs (S : St) (n : Int) : List Int := (pre S n).filter fun k => S.sort k == 0
structure Wf (S : St) (rk : Int → Nat) : Prop where
  N : S.N ≤ 13
  root : S.Dm S.root
  rp : S.par S.root = 0
  so : ∀ n, S.Dm n → (S.sort n = 0 ∧ S.kids n = []) ∨ ((S.sort n = 1 ∨ S.sort n = 2) ∧ S.kids n ≠ [])
  kd : ∀ n, S.Dm n → ∀ c ∈ S.kids n, S.Dm c ∧ S.par c = n ∧ S.sort c ≠ S.sort n ∧ rk c < rk n
  nd : ∀ n, S.Dm n → (S.kids n).Nodup
  up : ∀ n, S.Dm n → n ≠ S.root → S.Dm (S.par n) ∧ n ∈ S.kids (S.par n)
  rb : ∀ n, rk n ≤ 40
  bf : ∀ n, S.Dm n → S.sort n = 0 → S.buf n = 1
section
variable {S : St} {rk : Int → Nat}
theorem preF_stable (wf : Wf S rk) : ∀ (f g : Nat) (n : Int), S.Dm n → rk n ≤ f → rk n ≤ g → preF S.kids f n = preF S.kids g n
  | 0, 0, _, _, _, _ => rfl
  | 0, g + 1, n, hn, hf, _ => by
    have : S.kids n = [] := by
      cases e : S.kids n with
      | nil => rfl
      | cons c r => have := (wf.kd n hn c (by rw [e]; exact .head _)).2.2.2; omega
    simp [preF, this]
  | f + 1, 0, n, hn, _, hg => by
    have : S.kids n = [] := by
      cases e : S.kids n with
      | nil => rfl
      | cons c r => have := (wf.kd n hn c (by rw [e]; exact .head _)).2.2.2; omega
    simp [preF, this]
  | f + 1, g + 1, n, hn, hf, hg => by
    show n :: _ = n :: _
    congr 1
    rw [List.flatMap_def, List.flatMap_def]
    congr 1
    refine List.map_congr_left fun c hc => ?_
    obtain ⟨hc', _, _, hr⟩ := wf.kd n hn c hc
    exact preF_stable wf f g c hc' (by walk_at "d") (by walk_at "d")
theorem pre_eq (wf : Wf S rk) {n : Int} (hn : S.Dm n) : pre S n = n :: (S.kids n).flatMap (pre S) := by
  have e : pre S n = preF S.kids 41 n := preF_stable wf 40 41 n hn (wf.rb n) (Nat.le_succ_of_le (wf.rb n))
  rw [e]; rfl
theorem pre_dm (wf : Wf S rk) : ∀ (k : Nat) (n : Int), rk n ≤ k → S.Dm n → ∀ x ∈ pre S n, S.Dm x ∧ (x = n ∨ (x ≠ n ∧ rk x < rk n ∧ x ≠ S.root ∧ S.par x ∈ pre S n))
  | k, n, hk, hn, x, hx => by
    rw [pre_eq wf hn] at hx
    rcases List.mem_cons.mp hx with rfl | hx
    · exact ⟨hn, .inl rfl⟩
    · obtain ⟨c, hc, hx⟩ := List.mem_flatMap.mp hx
      obtain ⟨hc', hp, _, hr⟩ := wf.kd n hn c hc
      match k with
      | 0 => omega
      | k + 1 =>
        obtain ⟨h1, h2⟩ := pre_dm wf k c (by walk_at "d") hc' x hx
        refine ⟨h1, .inr ?_⟩
        have rr : c ≠ S.root := fun q => by
          have := hp; rw [q, wf.rp] at this; have := hn.1; omega
        rcases h2 with rfl | ⟨h3, h4, h5, h6⟩
        · exact ⟨fun q => by rw [q] at hr; exact Nat.lt_irrefl _ hr, hr, rr, by rw [hp, pre_eq wf hn]; exact .head _⟩
        · refine ⟨fun q => by rw [q] at h4; omega, by omega, h5, ?_⟩
          rw [pre_eq wf hn]
          exact List.mem_cons_of_mem _ (List.mem_flatMap.mpr ⟨c, hc, h6⟩)
theorem pre_apart (wf : Wf S rk) {n c d : Int} (hn : S.Dm n) (hc : c ∈ S.kids n) (hd : d ∈ S.kids n) : ∀ (k : Nat) (x : Int), 40 ≤ k + rk x → x ∈ pre S c → x ∈ pre S d → c = d := by
  obtain ⟨c1, c2, _, c4⟩ := wf.kd n hn c hc
  obtain ⟨d1, d2, _, d4⟩ := wf.kd n hn d hd
  intro k
  induction k with
  | zero =>
    intro x hk hxc hxd
    have := wf.rb n
    rcases (pre_dm wf _ c (Nat.le_refl _) c1 x hxc).2 with rfl | ⟨_, h, _⟩ <;> omega
  | succ k ih =>
    intro x hk hxc hxd
    rcases (pre_dm wf _ c (Nat.le_refl _) c1 x hxc).2 with e | ⟨h1, h2, h3, h4⟩
    · rcases (pre_dm wf _ d (Nat.le_refl _) d1 x hxd).2 with e' | ⟨g1, g2, g3, g4⟩
      · exact e.symm.trans e'
      · rw [e, c2] at g4
        rcases (pre_dm wf _ d (Nat.le_refl _) d1 n g4).2 with q | ⟨_, q, _⟩
        · rw [q] at d4; omega
        · omega
    · rcases (pre_dm wf _ d (Nat.le_refl _) d1 x hxd).2 with e' | ⟨g1, g2, g3, g4⟩
      · rw [e', d2] at h4
        rcases (pre_dm wf _ c (Nat.le_refl _) c1 n h4).2 with q | ⟨_, q, _⟩
        · rw [q] at c4; omega
        · omega
      · have hx := (pre_dm wf _ c (Nat.le_refl _) c1 x hxc).1
        have hu := wf.up x hx h3
        have := (wf.kd _ hu.1 x hu.2).2.2.2
        exact ih (S.par x) (by walk_at "d") h4 g4
theorem nodup_flatMap {f : Int → List Int} : ∀ {l : List Int}, l.Nodup → (∀ a ∈ l, (f a).Nodup) → (∀ a ∈ l, ∀ b ∈ l, ∀ x, x ∈ f a → x ∈ f b → a = b) → (l.flatMap f).Nodup
  | [], _, _, _ => by simp
  | a :: r, hn, h1, h2 => by
    rw [List.flatMap_cons, List.nodup_append]
    rw [List.nodup_cons] at hn
    refine ⟨h1 a (.head _), nodup_flatMap hn.2 (fun b hb => h1 b (.tail _ hb)) (fun b hb c hc => h2 b (.tail _ hb) c (.tail _ hc)), fun x hx y hy e => ?_⟩
    subst e
    obtain ⟨b, hb, hy⟩ := List.mem_flatMap.mp hy
    have := h2 a (.head _) b (.tail _ hb) x hx hy
    exact hn.1 (this ▸ hb)
theorem pre_nodup (wf : Wf S rk) : ∀ (k : Nat) (n : Int), rk n ≤ k → S.Dm n → (pre S n).Nodup
  | k, n, hk, hn => by
    rw [pre_eq wf hn, List.nodup_cons]
    constructor
    · intro hx
      obtain ⟨c, hc, hx⟩ := List.mem_flatMap.mp hx
      obtain ⟨c1, c2, _, c4⟩ := wf.kd n hn c hc
      rcases (pre_dm wf _ c (Nat.le_refl _) c1 n hx).2 with q | ⟨_, q, _⟩
      · rw [q] at c4; omega
      · omega
    · match k with
      | 0 =>
        have : S.kids n = [] := by
          cases e : S.kids n with
          | nil => rfl
          | cons c r => have := (wf.kd n hn c (by rw [e]; exact .head _)).2.2.2; omega
        rw [this]; simp
      | k + 1 =>
        refine nodup_flatMap (wf.nd n hn) (fun c hc => ?_) fun c hc d hd x hxc hxd => pre_apart wf hn hc hd 40 x (by walk_at "d") hxc hxd
        obtain ⟨c1, c2, _, c4⟩ := wf.kd n hn c hc
        exact pre_nodup wf k c (by walk_at "d") c1
theorem len_le : ∀ (N : Nat) (l : List Int), l.Nodup → (∀ x ∈ l, 1 ≤ x ∧ x ≤ (N : Int)) → l.length ≤ N
  | 0, l, _, h => by
    cases l with
    | nil => exact Nat.le_refl _
    | cons a r => have := h a (.head _); omega
  | N + 1, l, hn, h => by
    by_cases q : ((N : Int) + 1) ∈ l
    · have := len_le N (l.erase ((N : Int) + 1)) (hn.erase _) fun x hx => by
        rw [hn.mem_erase_iff] at hx
        have := h x hx.2
        have := hx.1
        omega
      rw [List.length_erase_of_mem q] at this
      omega
    · exact Nat.le_succ_of_le (len_le N l hn fun x hx => by
        have := h x hx
        have : x ≠ (N : Int) + 1 := fun e => q (e ▸ hx)
        omega)
theorem len_dm {l : List Int} (hn : l.Nodup) (hd : ∀ x ∈ l, S.Dm x) : l.length ≤ S.N := len_le _ _ hn hd
theorem pre_len (wf : Wf S rk) {n : Int} (hn : S.Dm n) : (pre S n).length ≤ 13 :=
  Nat.le_trans (len_dm (pre_nodup wf _ n (Nat.le_refl _) hn) fun x hx => (pre_dm wf _ n (Nat.le_refl _) hn x hx).1) wf.N
end
end
-- C4
section
section
variable {b : Bd} {H : AH} {X : AH → Prop} {Q : AV → AH → Prop} {Λ : La} {S : St} {rk : Int → Nat}
theorem iL_app {l : List Int} {x : Int} : iL l ++ [.int x] = iL (l ++ [x]) := by simp [iL]
theorem iL_app2 {l k : List Int} : iL l ++ iL k = iL (l ++ k) := by simp [iL]
theorem iL_rev {l : List Int} : (iL l).reverse = iL l.reverse := by simp [iL]
theorem iL_len {l : List Int} : (iL l).length = l.length := by simp [iL]
theorem st_len (wf : Wf S rk) {st : List Int} (hs : ∀ x ∈ st, S.Dm x) : st.length ≤ (st.flatMap (pre S)).length := by
  induction st with
  | nil => exact Nat.le_refl _
  | cons a r ih =>
    rw [List.flatMap_cons, List.length_append, List.length_cons]
    have := ih fun x hx => hs x (.tail _ hx)
    have : 1 ≤ (pre S a).length := by rw [pre_eq wf (hs a (.head _))]; simp
    omega
inductive JU (S : St) (Λ : La) (H : AH) (n : Int) (k : Nat) (m : Vars) (H3 : AH) : Prop
  | mk (st done : List Int) : Ext H H3 → m "tree" = some (.ref Λ.T) → m "found" = some (.ref H.n) → m "waiting" = some (.ref (H.n + 1)) → H.n + 1 < H3.n → H3.f H.n = .list (iL done) → H3.f (H.n + 1) = .list (iL st.reverse) →
    (∀ x ∈ st, S.Dm x) → done ++ st.flatMap (pre S) = pre S n → k = (st.flatMap (pre S)).length → JU S Λ H n k m H3
theorem c_windows_under (wf : Wf S rk) (rp : Rep Λ S H) {n : Int} (hn : S.Dm n) (hb : 1 ≤ b.n) (h : ∀ H' r, Ext H H' → H.n ≤ r → r < H'.n → H'.f r = .list (iL (pre S n)) → Q (.ref r) H') : CL b (.ref 203) [.ref Λ.T, .int n] H Q X := by
  refine (CA_defs (names := ["tree", "number"]) (fun _ => by with_unfolding_all rfl) (fun _ => by kernel_rfl) rfl rfl rfl rfl (by walk_at "b") (by decide) hb ?_).cl
  intro sc hsc
  repeat walk_at "w"
  refine ⟨by decide, ?_⟩
  repeat walk_at "w"
  refine ⟨by simp, ?_⟩
  repeat walk_at "w"
  refine ES_while (JU S Λ H n) (n := ([n].flatMap (pre S)).length)
    ⟨[n], [], Ext.refl.alloc.alloc, by walk_at "v", by walk_at "v", by walk_at "v", Nat.lt_succ_self _, by rw [al_ne (by simp [al_n])]; exact al_self, al_self, fun x hx => by rw [List.mem_singleton.mp hx]; exact hn, by simp, rfl⟩ ?_
  rintro k m H3 ⟨st, done, ex, m1, m2, m3, hlt, f1, f2, hd, hap, rfl⟩
  have hlen := pre_len wf hn
  rw [← hap, List.length_append] at hlen
  have hsl := st_len wf hd
  refine ET_ne_nil ?_
  walk_at "w"
  refine ⟨_, _, rfl, f2, hlt, okds_iL, ?_⟩
  cases st with
  | nil =>
    rw [if_neg (by simp [iL])]
    walk_at "w"
    repeat walk_at "w"
    rw [List.flatMap_nil, List.append_nil] at hap
    rw [← hap] at h
    exact h _ _ ex.alloc (Nat.le_refl _) (by rw [al_n]; omega) ((al_lt (by walk_at "d")).trans f1)
  | cons x st =>
    have hx := hd x (.head _)
    rw [List.flatMap_cons, pre_eq wf hx, List.length_append, List.length_cons] at hlen
    have hsl := st_len wf fun y hy => hd y (.tail _ hy)
    rw [if_pos (by simp [iL])]
    have r3 := rp.ext (ex.alloc (o := .list []))
    repeat walk_at "w"
    refine ⟨_, _, _, _, rfl, r3.fT, rfl, rfl, ok_tree, ?_⟩
    refine EV_method0 ?_
    walk_at "w"
    have f2' : (H3.alloc (.list [])).f (H.n + 1) = .list (iL st.reverse ++ [.int x]) := by
      rw [al_lt hlt, f2, List.reverse_cons, iL_app]
    refine ⟨_, GM.list f2' .pop, ?_⟩
    refine CL_pop f2' (by simp; omega) ?_
    have e4 : Ext H ((H3.alloc (.list [])).set (H.n + 1) (.list (iL st.reverse))) := ex.alloc.set (by walk_at "d")
    have r4 := rp.ext e4
    refine SB_dict r4.fW (wl_get hx) ?_
    repeat walk_at "w"
    refine EV_method ?_
    walk_at "w"
    have f1' : ((H3.alloc (.list [])).set (H.n + 1) (.list (iL st.reverse))).f H.n = .list (iL done) := by rw [st_ne (by walk_at "d"), al_lt (by walk_at "d"), f1]
    refine ⟨_, GM.list f1' .append, ?_⟩
    repeat walk_at "w"
    refine ⟨_, _, _, _, rfl, r4.fw x hx, rfl, rfl, ok_window, ?_⟩
    repeat walk_at "w"
    refine CL_append f1' (by simp; omega) ?_
    have e5 : Ext H (((H3.alloc (.list [])).set (H.n + 1) (.list (iL st.reverse))).set H.n (.list (iL done ++ [.int x]))) := e4.set (Nat.le_refl _)
    have r5 := rp.ext e5
    have f1'' : (((H3.alloc (.list [])).set (H.n + 1) (.list (iL st.reverse))).set H.n (.list (iL done ++ [.int x]))).f H.n = .list (iL (done ++ [x])) := by rw [st_self, iL_app]
    have f2'' : (((H3.alloc (.list [])).set (H.n + 1) (.list (iL st.reverse))).set H.n (.list (iL done ++ [.int x]))).f (H.n + 1) = .list (iL st.reverse) := by rw [st_ne (by walk_at "d"), st_self]
    have hn5 : (((H3.alloc (.list [])).set (H.n + 1) (.list (iL st.reverse))).set H.n (.list (iL done ++ [.int x]))).n = H3.n + 1 := rfl
    revert e5 r5 f1'' f2'' hn5
    generalize (((H3.alloc (.list [])).set (H.n + 1) (.list (iL st.reverse))).set H.n (.list (iL done ++ [.int x]))) = H5
    intro e5 r5 f1'' f2'' hn5
    repeat walk_at "w"
    refine EV_method ?_
    walk_at "w"
    refine ⟨_, GM.list f2'' .extend, ?_⟩
    walk_at "w"
    refine EV_rev ?_
    repeat walk_at "w"
    refine ⟨_, _, _, _, rfl, r5.fw x hx, rfl, rfl, ok_window, ?_⟩
    repeat walk_at "w"
    have kl : (S.kids x).length ≤ ((S.kids x).flatMap (pre S)).length := st_len wf fun c hc => (wf.kd x hx c hc).1
    refine ⟨rfl, _, _, rfl, r5.fc x hx, by rw [iL_len]; omega, ?_⟩
    repeat walk_at "w"
    refine CL_extend (l := iL st.reverse) (l2 := (iL (S.kids x)).reverse) (by rw [al_lt (by walk_at "d")]; exact f2'') al_self (by simp; omega) ?_
    repeat walk_at "w"
    refine ⟨_, ?_, S.kids x ++ st, done ++ [x], e5.alloc.set (by walk_at "d"), by walk_at "v", by walk_at "v", by walk_at "v", by rw [st_n, al_n]; omega, by rw [st_ne (by walk_at "d"), al_lt (by walk_at "d")]; exact f1'', ?_, ?_, ?_, rfl⟩
    · rw [List.flatMap_append, List.flatMap_cons, pre_eq wf hx]; simp
    · rw [st_self, iL_rev, iL_app2, List.reverse_append]
    · intro y hy
      rcases List.mem_append.mp hy with hy | hy
      · exact (wf.kd x hx y hy).1
      · exact hd y (.tail _ hy)
    · rw [← hap, List.flatMap_append, List.flatMap_cons, pre_eq wf hx]; simp
end
end
-- C5
section
section
variable {b : Bd} {H : AH} {X : AH → Prop} {Q : AV → AH → Prop} {Λ : La} {S : St} {rk : Int → Nat}
theorem lf_iff (wf : Wf S rk) {x : Int} (hx : S.Dm x) : S.sort x = 0 ↔ S.kids x = [] := by
  rcases wf.so x hx with ⟨h1, h2⟩ | ⟨h1, h2⟩
  · simp [h1, h2]
  · constructor
    · intro h; omega
    · intro h; exact absurd h h2
theorem pre_leaf (wf : Wf S rk) {x : Int} (hx : S.Dm x) (h : S.sort x = 0) : pre S x = [x] := by
  rw [pre_eq wf hx, (lf_iff wf hx).mp h]; rfl
inductive JV (S : St) (Λ : La) (H : AH) (n : Int) (k : Nat) (m : Vars) (H3 : AH) : Prop
  | mk (st done : List Int) : Ext H H3 → m "tree" = some (.ref Λ.T) → m "found" = some (.ref H.n) → m "waiting" = some (.ref (H.n + 1)) → H.n + 1 < H3.n → H3.f H.n = .list (iL done) → H3.f (H.n + 1) = .list (iL st.reverse) →
    (∀ x ∈ st, S.Dm x) → done ++ (st.flatMap (pre S)).filter (fun k => S.sort k == 0) = lvs S n → (st.flatMap (pre S)).length ≤ 13 → done.length + (st.flatMap (pre S)).length ≤ 13 → k = (st.flatMap (pre S)).length → JV S Λ H n k m H3
theorem c_leaves_under (wf : Wf S rk) (rp : Rep Λ S H) {n : Int} (hn : S.Dm n) (hb : 1 ≤ b.n) (h : ∀ H' r, Ext H H' → H.n ≤ r → r < H'.n → H'.f r = .list (iL (lvs S n)) → Q (.ref r) H') : CL b (.ref 189) [.ref Λ.T, .int n] H Q X := by
  refine (CA_defs (names := ["tree", "number"]) (fun _ => by with_unfolding_all rfl) (fun _ => by kernel_rfl) rfl rfl rfl rfl (by walk_at "b") (by decide) hb ?_).cl
  intro sc hsc
  repeat walk_at "w"
  refine ⟨by decide, ?_⟩
  repeat walk_at "w"
  refine ⟨by simp, ?_⟩
  repeat walk_at "w"
  refine ES_while (JV S Λ H n) (n := ([n].flatMap (pre S)).length)
    ⟨[n], [], Ext.refl.alloc.alloc, by walk_at "v", by walk_at "v", by walk_at "v", Nat.lt_succ_self _, by rw [al_ne (by simp [al_n])]; exact al_self, al_self, fun x hx => by rw [List.mem_singleton.mp hx]; exact hn, by simp [lvs], by simpa using pre_len wf hn, by simpa using pre_len wf hn, rfl⟩ ?_
  rintro k m H3 ⟨st, done, ex, m1, m2, m3, hlt, f1, f2, hd, hap, hlen, hlen2, rfl⟩
  refine ET_ne_nil ?_
  walk_at "w"
  refine ⟨_, _, rfl, f2, hlt, okds_iL, ?_⟩
  cases st with
  | nil =>
    rw [if_neg (by simp [iL])]
    walk_at "w"
    repeat walk_at "w"
    rw [List.flatMap_nil, List.filter_nil, List.append_nil] at hap
    rw [← hap] at h
    exact h _ _ ex.alloc (Nat.le_refl _) (by rw [al_n]; omega) ((al_lt (by walk_at "d")).trans f1)
  | cons x st =>
    have hx := hd x (.head _)
    have hlen' := hlen
    rw [List.flatMap_cons, pre_eq wf hx, List.length_append, List.length_cons] at hlen'
    have hsl := st_len wf fun y hy => hd y (.tail _ hy)
    rw [if_pos (by simp [iL])]
    have r3 := rp.ext (ex.alloc (o := .list []))
    repeat walk_at "w"
    refine ⟨_, _, _, _, rfl, r3.fT, rfl, rfl, ok_tree, ?_⟩
    refine EV_method0 ?_
    walk_at "w"
    have f2' : (H3.alloc (.list [])).f (H.n + 1) = .list (iL st.reverse ++ [.int x]) := by
      rw [al_lt hlt, f2, List.reverse_cons, iL_app]
    refine ⟨_, GM.list f2' .pop, ?_⟩
    refine CL_pop f2' (by simp; omega) ?_
    have e5 : Ext H ((H3.alloc (.list [])).set (H.n + 1) (.list (iL st.reverse))) := ex.alloc.set (by walk_at "d")
    have r5 := rp.ext e5
    have f1' : ((H3.alloc (.list [])).set (H.n + 1) (.list (iL st.reverse))).f H.n = .list (iL done) := by rw [st_ne (by walk_at "d"), al_lt (by walk_at "d"), f1]
    have f2'' : ((H3.alloc (.list [])).set (H.n + 1) (.list (iL st.reverse))).f (H.n + 1) = .list (iL st.reverse) := st_self
    have hn5 : ((H3.alloc (.list [])).set (H.n + 1) (.list (iL st.reverse))).n = H3.n + 1 := rfl
    revert e5 r5 f1' f2'' hn5
    generalize ((H3.alloc (.list [])).set (H.n + 1) (.list (iL st.reverse))) = H5
    intro e5 r5 f1' f2'' hn5
    refine SB_dict r5.fW (wl_get hx) ?_
    repeat walk_at "w"
    refine ⟨_, _, _, _, rfl, r5.fw x hx, rfl, rfl, ok_window, ?_⟩
    repeat walk_at "w"
    refine if_eq (fun hs => ?_) fun hs => ?_
    · repeat walk_at "w"
      refine EV_method ?_
      walk_at "w"
      refine ⟨_, GM.list f1' .append, ?_⟩
      repeat walk_at "w"
      refine ⟨_, _, _, _, rfl, r5.fw x hx, rfl, rfl, ok_window, ?_⟩
      repeat walk_at "w"
      refine CL_append f1' (by simp; omega) ?_
      repeat walk_at "w"
      refine ⟨_, ?_, st, done ++ [x], e5.set (Nat.le_refl _), by walk_at "v", by walk_at "v", by walk_at "v", by rw [st_n]; omega, ?_, ?_, fun y hy => hd y (.tail _ hy), ?_, ?_, ?_, rfl⟩
      · rw [List.flatMap_cons, pre_leaf wf hx hs]; simp
      · rw [st_self, iL_app]
      · rw [st_ne (by walk_at "d")]; exact f2''
      · rw [← hap, List.flatMap_cons, pre_leaf wf hx hs]; simp [hs]
      · omega
      · rw [List.flatMap_cons, pre_leaf wf hx hs] at hlen2; simp at hlen2 ⊢; omega
    · repeat walk_at "w"
      refine EV_method ?_
      walk_at "w"
      refine ⟨_, GM.list f2'' .extend, ?_⟩
      walk_at "w"
      refine EV_rev ?_
      repeat walk_at "w"
      refine ⟨_, _, _, _, rfl, r5.fw x hx, rfl, rfl, ok_window, ?_⟩
      repeat walk_at "w"
      have kl : (S.kids x).length ≤ ((S.kids x).flatMap (pre S)).length := st_len wf fun c hc => (wf.kd x hx c hc).1
      refine ⟨rfl, _, _, rfl, r5.fc x hx, by rw [iL_len]; omega, ?_⟩
      repeat walk_at "w"
      refine CL_extend (l := iL st.reverse) (l2 := (iL (S.kids x)).reverse) (by rw [al_lt (by walk_at "d")]; exact f2'') al_self (by simp; omega) ?_
      repeat walk_at "w"
      refine ⟨_, ?_, S.kids x ++ st, done, e5.alloc.set (by walk_at "d"), by walk_at "v", by walk_at "v", by walk_at "v", by rw [st_n, al_n]; omega, by rw [st_ne (by walk_at "d"), al_lt (by walk_at "d")]; exact f1', ?_, ?_, ?_, ?_, ?_, rfl⟩
      · rw [List.flatMap_append, List.flatMap_cons, pre_eq wf hx]; simp
      · rw [st_self, iL_rev, iL_app2, List.reverse_append]
      · intro y hy
        rcases List.mem_append.mp hy with hy | hy
        · exact (wf.kd x hx y hy).1
        · exact hd y (.tail _ hy)
      · rw [← hap, List.flatMap_append, List.flatMap_cons, pre_eq wf hx, List.cons_append, List.filter_cons, if_neg (by simpa using hs)]
      · rw [List.flatMap_append, List.length_append]; omega
      · rw [List.flatMap_cons, pre_eq wf hx] at hlen2
        rw [List.flatMap_append]; simp at hlen2 ⊢; omega
theorem c_leaves (wf : Wf S rk) (rp : Rep Λ S H) (hb : 2 ≤ b.n) (h : ∀ H' r, Ext H H' → H.n ≤ r → r < H'.n → H'.f r = .list (iL (lvs S S.root)) → Q (.ref r) H') : CL b (.ref 196) [.ref Λ.T] H Q X := by
  refine (CA_defs (names := ["tree"]) (fun _ => by with_unfolding_all rfl) (fun _ => by kernel_rfl) rfl rfl rfl rfl (by walk_at "b") (by decide) (by walk_at "d") ?_).cl
  intro sc hsc
  repeat walk_at "w"
  refine ⟨_, _, _, _, rfl, rp.fT, rfl, rfl, ok_tree, ?_⟩
  repeat walk_at "w"
  refine c_leaves_under wf rp wf.root (by walk_at "d") fun H' r a1 a2 a3 a4 => ?_
  repeat walk_at "w"
  exact h H' r a1 a2 a3 a4
end
end
-- C6
section
theorem iL_get {ns : List Int} {i : Nat} {a : AV} (h : (iL ns)[i]? = some a) : ∃ c, ns[i]? = some c ∧ a = .int c := by
  unfold iL at h
  rw [List.getElem?_map] at h
  cases e : ns[i]? with
  | none => rw [e] at h; cases h
  | some c => rw [e] at h; cases h; exact ⟨c, rfl, rfl⟩
theorem take_get {β : Type} {l : List β} {i : Nat} {a : β} (h : l[i]? = some a) : l.take (i + 1) = l.take i ++ [a] := by
  rw [List.take_add_one, h]; rfl
section
variable {b : Bd} {sc : Scope} {m : Vars} {H : AH} {X : AH → Prop}
/-- what a comprehension over a list of ints asks -/
inductive CompP (b : Bd) (sc : Scope) (elt : Expr) (x : PySem.Str) (m : Vars) (Q : AV → AH → Prop) (a : AV) (H1 : AH) : Prop
  | mk (j : Nat) (ns : List Int) : a = .ref j → H1.f j = .list (iL ns) → j < H1.n → ns.length ≤ 1000 → (g : Int → AV) →
    (∀ c ∈ ns, ∀ H2, Ext H1 H2 → EV b sc elt (up m x (.int c)) H2 (fun r H3 => r = g c ∧ Ext H2 H3) NoX) →
    (∀ H2, Ext H1 H2 → Q (.ref H2.n) (H2.alloc (.list (ns.map g)))) → CompP b sc elt x m Q a H1
/-- what a loop over a list of ints asks -/
inductive ForIP (b : Bd) (sc : Scope) (body : List Stmt) (x : PySem.Str) (m : Vars) (Q : Fl → Vars → AH → Prop) (a : AV) (H1 : AH) : Prop
  | mk (j : Nat) (ns : List Int) : a = .ref j → H1.f j = .list (iL ns) → (J : Nat → Vars → AH → Prop) → J 0 m H1 →
    (∀ i c m1 H2, ns[i]? = some c → J i m1 H2 → H2.f j = .list (iL ns) → EX b sc body (up m1 x (.int c)) H2 (LX (fun m2 H3 => H3.f j = .list (iL ns) ∧ J (i + 1) m2 H3) Q) NoXV) →
    (∀ m1 H2, J ns.length m1 H2 → Q .next m1 H2) → ForIP b sc body x m Q a H1
theorem comp_map {scope : Scope} {elt it : Expr} {x : PySem.Str} {px : Pos} {Q : AV → AH → Prop}
    (h : EV b sc it m H (CompP b (relabelS scope sc) elt x (compV scope m) Q) NoX) :
    CompIt b sc scope elt (.Name x px) it [] (fun a m => up m x a) (fun _ => True) m H (fun ys H2 => Q (.ref H2.n) (H2.alloc (.list ys))) := by
  refine IT_list (h.mono (fun a H1 z => ?_) fun _ x => x)
  obtain ⟨j, ns, rfl, hf, hj, hl, g, hg, hq⟩ := z
  refine ⟨j, iL ns, rfl, hf, fun _ _ => trivial, by rw [iL_len]; exact hl, fun i ys H2 => Ext H1 H2 ∧ ys = (ns.take i).map g, ⟨Ext.refl, rfl⟩, ?_, ?_⟩
  · rintro i a ys H2 e ⟨ex, rfl⟩ hs
    obtain ⟨c, hc, rfl⟩ := iL_get e
    show EV b (relabelS scope sc) elt _ H2 _ NoX
    refine (hg c (List.mem_of_getElem? hc) H2 ex).mono (fun r H3 z => ?_) fun _ x => x
    obtain ⟨rfl, e3⟩ := z
    exact ⟨(e3.f j (Nat.lt_of_lt_of_le hj ex.le)).trans hs, ex.trans e3, by rw [take_get hc, List.map_append]; rfl⟩
  · rintro ys H2 ⟨ex, rfl⟩
    rw [iL_len, List.take_length]
    exact hq H2 ex
theorem EV_comp_map {scope : Scope} {elt it : Expr} {x : PySem.Str} {px pos : Pos} {Q : AV → AH → Prop} (co : CompOk scope sc) (hx : (relabelS scope sc).names.lookup x = some .local)
    (h : EV b sc it m H (CompP b (relabelS scope sc) elt x (compV scope m) Q) NoX) (hs : ∀ env x, foldedSetIterable it env x = pure x := by intro _ _; rfl) :
    EV b sc (.ListComp elt [⟨.Name x px, it, [], 0⟩] scope pos) m H Q X := EV_comp co (TBp_name hx) (comp_map h) hs
theorem ES_comp_map {scope : Scope} {elt it : Expr} {x y : PySem.Str} {px py pos spos : Pos} {Q : Fl → Vars → AH → Prop} {X : Vars → AH → Prop} (co : CompOk scope sc) (hx : (relabelS scope sc).names.lookup x = some .local)
    (h : EV b sc it m H (CompP b (relabelS scope sc) elt x (compV scope m) fun r H2 => Q .next (up m y r) H2) NoX) (hy : sc.names.lookup y = some .local)
    (hyn : (scope.names.any fun (n, k) => n == y && (k == .local || k == .cell)) = false) (hline : (py.line == pos.line) = true := by rfl) (hs : ∀ env x, foldedSetIterable it env x = pure x := by intro _ _; rfl) :
    ES b sc (.Assign [.Name y py] (.ListComp elt [⟨.Name x px, it, [], 0⟩] scope pos) spos) m H Q X := ES_assign_comp co (TBp_name hx) (comp_map (Q := fun r H2 => Q .next (up m y r) H2) h) hy hyn hline hs
/-- a loop over a list of ints -/
theorem ES_for_ints {x : PySem.Str} {px pos : Pos} {it : Expr} {body : List Stmt} {Q : Fl → Vars → AH → Prop} {X : Vars → AH → Prop} (hx : sc.names.lookup x = some .local)
    (h : EV b sc it m H (ForIP b sc body x m Q) NoX) (hs : ∀ env x, foldedSetIterable it env x = pure x := by intro _ _; rfl) : ES b sc (.For (.Name x px) it body [] pos) m H Q X := by
  refine ES_for (TBp_name (P := fun _ => True) hx) (IT_list (h.mono (fun a H1 z => ?_) fun _ x => x)) hs
  obtain ⟨j, ns, rfl, hf, J, j0, turn, fin⟩ := z
  refine ⟨j, iL ns, rfl, hf, fun _ _ => trivial, J, j0, fun i a m1 H2 e hj hs => ?_, fun m1 H2 hj => fin m1 H2 (by rw [iL_len] at hj; exact hj)⟩
  obtain ⟨c, hc, rfl⟩ := iL_get e
  exact turn i c m1 H2 hc hj hs
end
theorem dget_dset {l : List (Int × AV)} {k y : Int} {v : AV} : dget (dset l k v) y = if y = k then some v else dget l y := by
  have map_ne : ∀ (r : List (Int × AV)), y ≠ k → dget (r.map fun kv => if kv.1 = k then (kv.1, v) else kv) y = dget r y := by
    intro r hy
    unfold dget
    induction r with
    | nil => rfl
    | cons p r ih =>
      rw [List.map_cons, List.find?_cons, List.find?_cons]
      by_cases q : p.1 = k
      · rw [if_pos q]
        have : ¬ p.1 = y := fun e => hy (e ▸ q)
        simp only [this, decide_false]
        exact ih
      · rw [if_neg q]
        by_cases q2 : p.1 = y
        · simp only [q2, decide_true]
        · simp only [q2, decide_false]; exact ih
  have map_eq : ∀ (r : List (Int × AV)), (r.any fun kv => kv.1 = k) = true → dget (r.map fun kv => if kv.1 = k then (kv.1, v) else kv) k = some v := by
    intro r hr
    unfold dget
    induction r with
    | nil => simp at hr
    | cons p r ih =>
      rw [List.map_cons, List.find?_cons]
      by_cases q : p.1 = k
      · rw [if_pos q]; simp [q]
      · rw [if_neg q]
        simp only [q, decide_false]
        rw [List.any_cons] at hr
        simp only [q, decide_false, Bool.false_or] at hr
        exact ih hr
  unfold dset
  split
  · rename_i h
    by_cases e : y = k
    · rw [if_pos e, e]; exact map_eq l h
    · rw [if_neg e]; exact map_ne l e
  · rename_i h
    unfold dget
    rw [List.find?_append]
    by_cases e : y = k
    · subst e
      rw [if_pos rfl]
      have : l.find? (fun kv => kv.1 = y) = none := by
        rw [List.find?_eq_none]
        intro p hp q
        exact h (List.any_eq_true.mpr ⟨p, hp, q⟩)
      rw [this]; simp
    · rw [if_neg e]
      have : List.find? (fun kv : Int × AV => decide (kv.1 = y)) [(k, v)] = none := by
        rw [List.find?_eq_none]; intro p hp; rw [List.mem_singleton.mp hp]; simp; exact fun q => e q.symm
      rw [this]; simp
theorem dset_len {l : List (Int × AV)} {k : Int} {v : AV} : (dset l k v).length ≤ l.length + 1 := by
  unfold dset
  split
  · rw [List.length_map]; omega
  · simp
end
-- C7
section
/-- the least value of a window from those of its own, u at a leaf -/
noncomputable def mx : List Int → Int
  | [] => 0
  | a :: r => if mx r ≤ a then a else mx r
theorem mx_ge : ∀ {l : List Int}, ∀ a ∈ l, a ≤ mx l
  | b :: r, a, h => by
    unfold mx
    rcases List.mem_cons.mp h with rfl | h
    · split <;> omega
    · have := mx_ge (l := r) a h
      split <;> omega
theorem mx_mem : ∀ {l : List Int}, l ≠ [] → (∀ a ∈ l, 0 ≤ a) → mx l ∈ l
  | [a], _, h => by
    have := h a (.head _)
    unfold mx mx; rw [if_pos this]; exact .head _
  | a :: b :: r, _, h => by
    unfold mx
    split
    · exact .head _
    · exact .tail _ (mx_mem (by simp) fun c hc => h c (.tail _ hc))
theorem mx_uniq {l : List Int} {M : Int} (h1 : M ∈ l) (h2 : ∀ a ∈ l, a ≤ M) (h0 : ∀ a ∈ l, 0 ≤ a) : M = mx l :=
  Int.le_antisymm (mx_ge M h1) (h2 _ (mx_mem (List.ne_nil_of_mem h1) h0))
noncomputable def valF (so : Int → Int) (kids : Int → List Int) (u a : Int) : Nat → Int → Int
  | 0, _ => u
  | f + 1, n => if so n = 0 then u else if al (so n) = a then ((kids n).map (valF so kids u a f)).sum else mx ((kids n).map (valF so kids u a f))
noncomputable def val (S : St) (u a n : Int) : Int := valF S.sort S.kids u a 40 n
section
variable {S : St} {rk : Int → Nat}
theorem valF_stable (wf : Wf S rk) {u a : Int} : ∀ (f g : Nat) (n : Int), S.Dm n → rk n ≤ f → rk n ≤ g → valF S.sort S.kids u a f n = valF S.sort S.kids u a g n
  | 0, 0, _, _, _, _ => rfl
  | 0, g + 1, n, hn, hf, _ => by
    have : S.kids n = [] := by
      cases e : S.kids n with
      | nil => rfl
      | cons c r => have := (wf.kd n hn c (by rw [e]; exact .head _)).2.2.2; omega
    have := (lf_iff wf hn).mpr this
    simp [valF, this]
  | f + 1, 0, n, hn, _, hg => by
    have : S.kids n = [] := by
      cases e : S.kids n with
      | nil => rfl
      | cons c r => have := (wf.kd n hn c (by rw [e]; exact .head _)).2.2.2; omega
    have := (lf_iff wf hn).mpr this
    simp [valF, this]
  | f + 1, g + 1, n, hn, hf, hg => by
    have e : (S.kids n).map (valF S.sort S.kids u a f) = (S.kids n).map (valF S.sort S.kids u a g) := by
      refine List.map_congr_left fun c hc => ?_
      obtain ⟨hc', _, _, hr⟩ := wf.kd n hn c hc
      exact valF_stable wf f g c hc' (by walk_at "d") (by walk_at "d")
    unfold valF
    rw [e]
theorem val_eq (wf : Wf S rk) {u a n : Int} (hn : S.Dm n) : val S u a n = if S.sort n = 0 then u else if al (S.sort n) = a then ((S.kids n).map (val S u a)).sum else mx ((S.kids n).map (val S u a)) := by
  have e : val S u a n = valF S.sort S.kids u a 41 n := valF_stable wf 40 41 n hn (wf.rb n) (Nat.le_succ_of_le (wf.rb n))
  rw [e]; rfl
theorem Wf.ind (wf : Wf S rk) {P : Int → Prop} (h : ∀ n, S.Dm n → (∀ c ∈ S.kids n, P c) → P n) : ∀ n, S.Dm n → P n := by
  have : ∀ (k : Nat) (n : Int), rk n < k → S.Dm n → P n := by
    intro k
    induction k with
    | zero => intro n hk; omega
    | succ k ih =>
      intro n hk hn
      refine h n hn fun c hc => ?_
      obtain ⟨c1, _, _, c4⟩ := wf.kd n hn c hc
      exact ih c (by walk_at "d") c1
  exact fun n hn => this _ n (Nat.lt_succ_self _) hn
theorem sum_pos : ∀ {l : List Int}, (∀ a ∈ l, 0 < a) → l ≠ [] → 0 < l.sum
  | [a], h, _ => by have := h a (.head _); simpa using this
  | a :: b :: r, h, _ => by
    have := h a (.head _)
    have := sum_pos (l := b :: r) (fun c hc => h c (.tail _ hc)) (by simp)
    rw [List.sum_cons]; omega
theorem val_pos (wf : Wf S rk) {u a : Int} (hu : 0 < u) : ∀ n, S.Dm n → 0 < val S u a n := by
  refine wf.ind fun n hn ih => ?_
  rw [val_eq wf hn]
  split
  · exact hu
  · rename_i h
    have hne : (S.kids n).map (val S u a) ≠ [] := by
      have := fun q => h ((lf_iff wf hn).mpr q)
      simpa using this
    have hp : ∀ x ∈ (S.kids n).map (val S u a), 0 < x := fun x hx => by
      obtain ⟨c, hc, rfl⟩ := List.mem_map.mp hx; exact ih c hc
    split
    · exact sum_pos hp hne
    · exact hp _ (mx_mem hne fun x hx => Int.le_of_lt (hp x hx))
/-- what lies behind a window in the walk holds its own -/
theorem suf (wf : Wf S rk) {x : Int} {R : List Int} : ∀ (P st : List Int), (∀ y ∈ st, S.Dm y) → st.flatMap (pre S) = P ++ x :: R → S.Dm x ∧ ∃ st', (∀ y ∈ st', S.Dm y) ∧ R = (S.kids x ++ st').flatMap (pre S)
  | P, [], _, e => by simp at e
  | [], y :: st, h, e => by
    rw [List.flatMap_cons, pre_eq wf (h y (.head _)), List.cons_append, List.nil_append] at e
    injection e with e1 e2
    subst e1
    exact ⟨h y (.head _), st, fun z hz => h z (.tail _ hz), by rw [← e2, List.flatMap_append]⟩
  | p :: P, y :: st, h, e => by
    rw [List.flatMap_cons, pre_eq wf (h y (.head _)), List.cons_append, List.cons_append] at e
    injection e with e1 e2
    rw [← List.flatMap_append] at e2
    exact suf wf P (S.kids y ++ st) (fun z hz => (List.mem_append.mp hz).elim (fun q => (wf.kd y (h y (.head _)) z q).1) fun q => h z (.tail _ q)) e2
theorem suf_kids (wf : Wf S rk) {n x : Int} {P R : List Int} (hn : S.Dm n) (e : pre S n = P ++ x :: R) : S.Dm x ∧ ∀ c ∈ S.kids x, c ∈ R := by
  obtain ⟨h1, st', h2, h3⟩ := suf wf P [n] (fun y hy => by rw [List.mem_singleton.mp hy]; exact hn) (by simpa using e)
  refine ⟨h1, fun c hc => ?_⟩
  rw [h3]
  refine List.mem_flatMap.mpr ⟨c, List.mem_append_left _ hc, ?_⟩
  rw [pre_eq wf (wf.kd x h1 c hc).1]; exact .head _
/-- the walk from behind: a window's own lie ahead of it -/
theorem rev_kids (wf : Wf S rk) {n x : Int} {i : Nat} (hn : S.Dm n) (e : (pre S n).reverse[i]? = some x) : S.Dm x ∧ ∀ c ∈ S.kids x, c ∈ (pre S n).reverse.take i := by
  have hi : i < (pre S n).reverse.length := by
    rcases Nat.lt_or_ge i (pre S n).reverse.length with h | h
    · exact h
    · rw [List.getElem?_eq_none h] at e; cases e
  have es : (pre S n).reverse = (pre S n).reverse.take i ++ x :: (pre S n).reverse.drop (i + 1) := by
    conv => lhs; rw [← List.take_append_drop i (pre S n).reverse]
    congr 1
    rw [List.drop_eq_getElem_cons hi]
    congr 1
    rw [List.getElem?_eq_getElem hi] at e
    exact Option.some.inj e
  have e2 : pre S n = ((pre S n).reverse.drop (i + 1)).reverse ++ x :: ((pre S n).reverse.take i).reverse := by
    have := congrArg List.reverse es
    rw [List.reverse_reverse] at this
    conv => lhs; rw [this]
    simp
  obtain ⟨h1, h2⟩ := suf_kids wf hn e2
  exact ⟨h1, fun c hc => List.mem_reverse.mp (h2 c hc)⟩
end
end
-- C8
section
/-- how the tables of least_size and weight_of stand -/
structure JL (Λ : La) (H : AH) (q : Nat) (a n : Int) (g : Int → Int) (L : List Int) (i : Nat) (m : Vars) (H2 : AH) : Prop where
  t : m "tree" = some (.ref Λ.T)
  f : m "found" = some (.ref H.n)
  a : m "axis" = some (.int a)
  n : m "number" = some (.int n)
  e : Ext H H2
  lt : q < H2.n
  d : ∃ d, H2.f H.n = .dict d ∧ d.length ≤ i ∧ ∀ y ∈ L.take i, dget d y = some (.int (g y))
theorem JL.step {Λ : La} {H H2 H3 : AH} {q : Nat} {a n c : Int} {g : Int → Int} {L : List Int} {i : Nat} {m : Vars} {v : AV} {d : List (Int × AV)} (x : JL Λ H q a n g L i m H2) (hq : H.n < q) (hc : L[i]? = some c) (hs : H2.f q = .list (iL L)) (e : Ext H2 H3)
    (fd : H2.f H.n = .dict d) (hdl : d.length ≤ i) (hd : ∀ y ∈ L.take i, dget d y = some (.int (g y))) (hv : v = .int (g c)) {mm : Vars} (h1 : mm "tree" = m "tree") (h2 : mm "found" = m "found") (h3 : mm "axis" = m "axis") (h4 : mm "number" = m "number") :
    (H3.set H.n (.dict (dset d c v))).f q = .list (iL L) ∧ JL Λ H q a n g L (i + 1) mm (H3.set H.n (.dict (dset d c v))) := by
  have := x.lt
  refine ⟨by rw [st_ne (by walk_at "d"), e.f _ this, hs], h1.trans x.t, h2.trans x.f, h3.trans x.a, h4.trans x.n, (x.e.trans e).set (Nat.le_refl _), Nat.lt_of_lt_of_le this e.le, _, st_self, Nat.le_trans dset_len (by walk_at "d"), fun y hy => ?_⟩
  subst hv
  rw [take_get hc] at hy
  rw [dget_dset]
  by_cases q : y = c
  · rw [if_pos q, q]
  · rw [if_neg q]
    rcases List.mem_append.mp hy with hy | hy
    · exact hd y hy
    · exact absurd (List.mem_singleton.mp hy) q
section
variable {b : Bd} {H : AH} {X : AH → Prop} {Q : AV → AH → Prop} {Λ : La} {S : St} {rk : Int → Nat}
theorem gm_least_leaf {j : Nat} (hf : H.f j = .inst 164 (lk (tl Λ S))) : GM H (.ref j) "least_leaf" (.ref 154) :=
  .inst hf ok_tree rfl (fun _ => by kernel_rfl) (fun _ => by kernel_rfl) (fun _ => by kernel_rfl)
noncomputable def leastL (a : Int) : Int := if a = 0 then 3 else 2
theorem c_least_leaf {j : Nat} {a : Int} (hf : H.f j = .inst 164 (lk (tl Λ S))) (hb : 1 ≤ b.n) (h : Q (.int (leastL a)) H) : CL b (.ref 154) [.ref j, .int a] H Q X := by
  refine (CA_defs (names := ["self", "axis"]) (fun _ => by with_unfolding_all rfl) (fun _ => by kernel_rfl) rfl rfl rfl rfl (by walk_at "b") (by decide) hb ?_).cl
  intro sc hsc
  repeat walk_at "w"
  refine if_eq (fun hs => ?_) fun hs => ?_
  · have e : leastL a = 3 := if_pos hs
    rw [e] at h
    repeat walk_at "w"
    refine ⟨_, _, _, _, rfl, hf, rfl, rfl, ok_tree, ?_⟩
    repeat walk_at "w"
    exact h
  · have e : leastL a = 2 := if_neg hs
    rw [e] at h
    repeat walk_at "w"
    refine ⟨_, _, _, _, rfl, hf, rfl, rfl, ok_tree, ?_⟩
    repeat walk_at "w"
    exact h
theorem c_least_size (wf : Wf S rk) (rp : Rep Λ S H) {n a : Int} (hn : S.Dm n) (hb : 2 ≤ b.n) (h : ∀ H', Ext H H' → Q (.int (val S (leastL a) a n)) H') : CL b (.ref 215) [.ref Λ.T, .int n, .int a] H Q X := by
  refine (CA_defs (names := ["tree", "number", "axis"]) (fun _ => by with_unfolding_all rfl) (fun _ => by kernel_rfl) rfl rfl rfl rfl (by walk_at "b") (by decide) (by walk_at "d") ?_).cl
  intro sc hsc
  repeat walk_at "w"
  refine ES_for_ints (by walk_at "k") ?_
  refine EV_rev ?_
  repeat walk_at "w"
  refine c_windows_under wf (rp.ext Ext.refl.alloc) hn (by walk_at "d") fun H1 r e1 b1 b2 f1 => ?_
  repeat walk_at "w"
  have hlen := pre_len wf hn
  refine ⟨rfl, _, _, rfl, f1, by rw [iL_len]; omega, ?_⟩
  rw [iL_rev]
  have e2 : Ext H (H1.alloc (.list (iL (pre S n).reverse))) := (Ext.refl.alloc.trans e1).alloc
  rw [al_n] at b1
  have hlt : H.n < H1.n := by omega
  refine ⟨_, _, rfl, al_self, JL Λ H H1.n a n (val S (leastL a) a) (pre S n).reverse,
    ⟨by walk_at "v", by walk_at "v", by walk_at "v", by walk_at "v", e2, by rw [al_n]; omega, [], ?_, Nat.le_refl _, fun y hy => by simp at hy⟩, ?_, ?_⟩
  · rw [al_lt hlt, e1.f _ (by rw [al_n]; omega), al_self]
  · intro i c m1 H2 hc jj hsrc
    obtain ⟨m1t, m1f, m1a, m1n, e3, hlt2, d, fd, hdl, hd⟩ := id jj
    have hi : i < 13 := by
      rcases Nat.lt_or_ge i (pre S n).reverse.length with q | q
      · rw [List.length_reverse] at q; omega
      · rw [List.getElem?_eq_none q] at hc; cases hc
    obtain ⟨hc1, hck⟩ := rev_kids wf hn hc
    have r3 := rp.ext e3
    have ve := val_eq wf (u := (leastL a)) (a := a) hc1
    have hkl : (S.kids c).length ≤ 1000 := by
      have := st_len wf fun y hy => (wf.kd c hc1 y hy).1
      have h2 := pre_len wf hc1
      rw [pre_eq wf hc1, List.length_cons] at h2
      omega
    have hcomp : ∀ H2', Ext H2 H2' → ∀ y ∈ S.kids c, H2'.f H.n = .dict d ∧ dget d y = some (.int (val S (leastL a) a y)) := fun H2' ex y hy => ⟨(ex.f _ (by walk_at "d")).trans fd, hd y (hck y hy)⟩
    repeat walk_at "w"
    refine ⟨_, _, _, _, rfl, r3.fT, rfl, rfl, ok_tree, ?_⟩
    repeat walk_at "w"
    refine SB_dict r3.fW (wl_get hc1) ?_
    repeat walk_at "w"
    refine ⟨_, _, _, _, rfl, r3.fw c hc1, rfl, rfl, ok_window, ?_⟩
    repeat walk_at "w"
    refine if_eq (fun hs => ?_) fun hs => ?_
    · rw [if_pos hs] at ve
      repeat walk_at "w"
      refine EV_method ?_
      walk_at "w"
      refine ⟨_, gm_least_leaf r3.fT, ?_⟩
      repeat walk_at "w"
      refine c_least_leaf r3.fT (by walk_at "d") ?_
      repeat walk_at "w"
      refine .inr ⟨_, _, _, rfl, rfl, fd, by omega, ?_⟩
      repeat walk_at "w"
      exact jj.step hlt hc hsrc Ext.refl fd hdl hd (by rw [ve]) (by walk_at "v") (by walk_at "v") (by walk_at "v") (by walk_at "v")
    · rw [if_neg hs] at ve
      have hne : S.kids c ≠ [] := fun q => hs ((lf_iff wf hc1).mpr q)
      repeat walk_at "w"
      refine ⟨_, _, _, _, rfl, r3.fw c hc1, rfl, rfl, ok_window, ?_⟩
      repeat walk_at "w"
      refine c_along (by walk_at "d") ?_
      repeat walk_at "w"
      refine if_eq (fun ha => ?_) fun ha => ?_
      · rw [if_pos ha] at ve
        repeat walk_at "w"
        refine EV_comp_map (by walk_at "co") (by walk_at "k") ?_
        repeat walk_at "w"
        refine ⟨_, _, _, _, rfl, r3.fw c hc1, rfl, rfl, ok_window, ?_⟩
        repeat walk_at "w"
        refine ⟨_, _, rfl, r3.fc c hc1, r3.bc c hc1, hkl, fun y => .int (val S (leastL a) a y), fun y hy H4 ex => ?_, fun H4 ex => ?_⟩
        · obtain ⟨z1, z2⟩ := hcomp H4 ex y hy
          repeat walk_at "w"
          exact SB_dict z1 z2 ⟨rfl, Ext.refl⟩
        · repeat walk_at "w"
          refine CL_sum (ns := (S.kids c).map (val S (leastL a) a)) (by rw [al_self, iL, List.map_map]; rfl) ?_
          repeat walk_at "w"
          refine .inr ⟨_, _, _, rfl, rfl, by rw [al_lt (Nat.lt_of_lt_of_le (by walk_at "d") ex.le), ex.f _ (by walk_at "d"), fd], by omega, ?_⟩
          repeat walk_at "w"
          exact jj.step hlt hc hsrc ex.alloc fd hdl hd (by rw [ve]) (by walk_at "v") (by walk_at "v") (by walk_at "v") (by walk_at "v")
      · rw [if_neg ha] at ve
        repeat walk_at "w"
        refine EV_comp_map (by walk_at "co") (by walk_at "k") ?_
        repeat walk_at "w"
        refine ⟨_, _, _, _, rfl, r3.fw c hc1, rfl, rfl, ok_window, ?_⟩
        repeat walk_at "w"
        refine ⟨_, _, rfl, r3.fc c hc1, r3.bc c hc1, hkl, fun y => .int (val S (leastL a) a y), fun y hy H4 ex => ?_, fun H4 ex => ?_⟩
        · obtain ⟨z1, z2⟩ := hcomp H4 ex y hy
          repeat walk_at "w"
          exact SB_dict z1 z2 ⟨rfl, Ext.refl⟩
        · repeat walk_at "w"
          refine CL_max (ns := (S.kids c).map (val S (leastL a) a)) (by rw [al_self, iL, List.map_map]; rfl) (by rw [List.length_map]; exact List.length_pos_iff.mpr hne) fun M h1 h2 => ?_
          have hM : M = val S (leastL a) a c := by
            rw [ve]
            refine mx_uniq h1 h2 fun x hx => ?_
            obtain ⟨y, hy, rfl⟩ := List.mem_map.mp hx
            exact Int.le_of_lt (val_pos wf (by unfold leastL; split <;> decide) y (wf.kd c hc1 y hy).1)
          subst hM
          repeat walk_at "w"
          refine .inr ⟨_, _, _, rfl, rfl, by rw [al_lt (Nat.lt_of_lt_of_le (by walk_at "d") ex.le), ex.f _ (by walk_at "d"), fd], by omega, ?_⟩
          repeat walk_at "w"
          exact jj.step hlt hc hsrc ex.alloc fd hdl hd rfl (by walk_at "v") (by walk_at "v") (by walk_at "v") (by walk_at "v")
  · rintro m1 H2 ⟨m1t, m1f, m1a, m1n, e3, hlt2, d, fd, hdl, hd⟩
    rw [List.take_length] at hd
    repeat walk_at "w"
    refine SB_dict fd (hd n (by rw [List.mem_reverse, pre_eq wf hn]; exact .head _)) ?_
    repeat walk_at "w"
    exact h _ e3
theorem c_weight_of (wf : Wf S rk) (rp : Rep Λ S H) {n a : Int} (hn : S.Dm n) (hb : 2 ≤ b.n) (h : ∀ H', Ext H H' → Q (.int (val S 1 a n)) H') : CL b (.ref 220) [.ref Λ.T, .int n, .int a] H Q X := by
  refine (CA_defs (names := ["tree", "number", "axis"]) (fun _ => by with_unfolding_all rfl) (fun _ => by kernel_rfl) rfl rfl rfl rfl (by walk_at "b") (by decide) (by walk_at "d") ?_).cl
  intro sc hsc
  repeat walk_at "w"
  refine ES_for_ints (by walk_at "k") ?_
  refine EV_rev ?_
  repeat walk_at "w"
  refine c_windows_under wf (rp.ext Ext.refl.alloc) hn (by walk_at "d") fun H1 r e1 b1 b2 f1 => ?_
  repeat walk_at "w"
  have hlen := pre_len wf hn
  refine ⟨rfl, _, _, rfl, f1, by rw [iL_len]; omega, ?_⟩
  rw [iL_rev]
  have e2 : Ext H (H1.alloc (.list (iL (pre S n).reverse))) := (Ext.refl.alloc.trans e1).alloc
  rw [al_n] at b1
  have hlt : H.n < H1.n := by omega
  refine ⟨_, _, rfl, al_self, JL Λ H H1.n a n (val S 1 a) (pre S n).reverse,
    ⟨by walk_at "v", by walk_at "v", by walk_at "v", by walk_at "v", e2, by rw [al_n]; omega, [], ?_, Nat.le_refl _, fun y hy => by simp at hy⟩, ?_, ?_⟩
  · rw [al_lt hlt, e1.f _ (by rw [al_n]; omega), al_self]
  · intro i c m1 H2 hc jj hsrc
    obtain ⟨m1t, m1f, m1a, m1n, e3, hlt2, d, fd, hdl, hd⟩ := id jj
    have hi : i < 13 := by
      rcases Nat.lt_or_ge i (pre S n).reverse.length with q | q
      · rw [List.length_reverse] at q; omega
      · rw [List.getElem?_eq_none q] at hc; cases hc
    obtain ⟨hc1, hck⟩ := rev_kids wf hn hc
    have r3 := rp.ext e3
    have ve := val_eq wf (u := 1) (a := a) hc1
    have hkl : (S.kids c).length ≤ 1000 := by
      have := st_len wf fun y hy => (wf.kd c hc1 y hy).1
      have h2 := pre_len wf hc1
      rw [pre_eq wf hc1, List.length_cons] at h2
      omega
    have hcomp : ∀ H2', Ext H2 H2' → ∀ y ∈ S.kids c, H2'.f H.n = .dict d ∧ dget d y = some (.int (val S 1 a y)) := fun H2' ex y hy => ⟨(ex.f _ (by walk_at "d")).trans fd, hd y (hck y hy)⟩
    repeat walk_at "w"
    refine ⟨_, _, _, _, rfl, r3.fT, rfl, rfl, ok_tree, ?_⟩
    repeat walk_at "w"
    refine SB_dict r3.fW (wl_get hc1) ?_
    repeat walk_at "w"
    refine ⟨_, _, _, _, rfl, r3.fw c hc1, rfl, rfl, ok_window, ?_⟩
    repeat walk_at "w"
    refine if_eq (fun hs => ?_) fun hs => ?_
    · rw [if_pos hs] at ve
      repeat walk_at "w"

      refine .inr ⟨_, _, _, rfl, rfl, fd, by omega, ?_⟩
      repeat walk_at "w"
      exact jj.step hlt hc hsrc Ext.refl fd hdl hd (by rw [ve]) (by walk_at "v") (by walk_at "v") (by walk_at "v") (by walk_at "v")
    · rw [if_neg hs] at ve
      have hne : S.kids c ≠ [] := fun q => hs ((lf_iff wf hc1).mpr q)
      repeat walk_at "w"
      refine ⟨_, _, _, _, rfl, r3.fw c hc1, rfl, rfl, ok_window, ?_⟩
      repeat walk_at "w"
      refine c_along (by walk_at "d") ?_
      repeat walk_at "w"
      refine if_eq (fun ha => ?_) fun ha => ?_
      · rw [if_pos ha] at ve
        repeat walk_at "w"
        refine EV_comp_map (by walk_at "co") (by walk_at "k") ?_
        repeat walk_at "w"
        refine ⟨_, _, _, _, rfl, r3.fw c hc1, rfl, rfl, ok_window, ?_⟩
        repeat walk_at "w"
        refine ⟨_, _, rfl, r3.fc c hc1, r3.bc c hc1, hkl, fun y => .int (val S 1 a y), fun y hy H4 ex => ?_, fun H4 ex => ?_⟩
        · obtain ⟨z1, z2⟩ := hcomp H4 ex y hy
          repeat walk_at "w"
          exact SB_dict z1 z2 ⟨rfl, Ext.refl⟩
        · repeat walk_at "w"
          refine CL_sum (ns := (S.kids c).map (val S 1 a)) (by rw [al_self, iL, List.map_map]; rfl) ?_
          repeat walk_at "w"
          refine .inr ⟨_, _, _, rfl, rfl, by rw [al_lt (Nat.lt_of_lt_of_le (by walk_at "d") ex.le), ex.f _ (by walk_at "d"), fd], by omega, ?_⟩
          repeat walk_at "w"
          exact jj.step hlt hc hsrc ex.alloc fd hdl hd (by rw [ve]) (by walk_at "v") (by walk_at "v") (by walk_at "v") (by walk_at "v")
      · rw [if_neg ha] at ve
        repeat walk_at "w"
        refine EV_comp_map (by walk_at "co") (by walk_at "k") ?_
        repeat walk_at "w"
        refine ⟨_, _, _, _, rfl, r3.fw c hc1, rfl, rfl, ok_window, ?_⟩
        repeat walk_at "w"
        refine ⟨_, _, rfl, r3.fc c hc1, r3.bc c hc1, hkl, fun y => .int (val S 1 a y), fun y hy H4 ex => ?_, fun H4 ex => ?_⟩
        · obtain ⟨z1, z2⟩ := hcomp H4 ex y hy
          repeat walk_at "w"
          exact SB_dict z1 z2 ⟨rfl, Ext.refl⟩
        · repeat walk_at "w"
          refine CL_max (ns := (S.kids c).map (val S 1 a)) (by rw [al_self, iL, List.map_map]; rfl) (by rw [List.length_map]; exact List.length_pos_iff.mpr hne) fun M h1 h2 => ?_
          have hM : M = val S 1 a c := by
            rw [ve]
            refine mx_uniq h1 h2 fun x hx => ?_
            obtain ⟨y, hy, rfl⟩ := List.mem_map.mp hx
            exact Int.le_of_lt (val_pos wf (by decide) y (wf.kd c hc1 y hy).1)
          subst hM
          repeat walk_at "w"
          refine .inr ⟨_, _, _, rfl, rfl, by rw [al_lt (Nat.lt_of_lt_of_le (by walk_at "d") ex.le), ex.f _ (by walk_at "d"), fd], by omega, ?_⟩
          repeat walk_at "w"
          exact jj.step hlt hc hsrc ex.alloc fd hdl hd rfl (by walk_at "v") (by walk_at "v") (by walk_at "v") (by walk_at "v")
  · rintro m1 H2 ⟨m1t, m1f, m1a, m1n, e3, hlt2, d, fd, hdl, hd⟩
    rw [List.take_length] at hd
    repeat walk_at "w"
    refine SB_dict fd (hd n (by rw [List.mem_reverse, pre_eq wf hn]; exact .head _)) ?_
    repeat walk_at "w"
    exact h _ e3
end
end
-- C9
section
section
variable {b : Bd} {sc : Scope} {m : Vars} {H : AH} {X : AH → Prop}
theorem IT.mono {tgt it : Expr} {Q Q' : List AV → (AH → Prop) → AH → Prop} (x : IT b sc tgt it m H Q X) (hq : ∀ l src H, Q l src H → Q' l src H) : IT b sc tgt it m H Q' X :=
  fun c s lm cm α δ Qr Er ok hs at' nm q xx => x c s lm cm α δ Qr Er ok hs at' nm (fun I hid wr St k B' l src s' H' α' δ' st h1 h2 h3 h4 h5 h6 h7 h8 h9 => q I hid wr St k B' l src s' H' α' δ' st h1 h2 h3 h4 h5 h6 h7 h8 (hq _ _ _ h9)) xx
noncomputable def pL (ps : List (Int × Int)) : List AV := ps.map fun p => .tup [.int p.1, .int p.2]
theorem zipA_pL : ∀ {a c : List Int}, zipA (iL a) (iL c) = pL (a.zip c)
  | [], c => by cases c <;> rfl
  | _ :: _, [] => rfl
  | x :: a, y :: c => by
    show AV.tup [.int x, .int y] :: zipA (iL a) (iL c) = AV.tup [.int x, .int y] :: pL (a.zip c)
    rw [zipA_pL]
noncomputable def nums (n : Nat) : List Int := (List.range n).map fun i => ((i : Nat) : Int)
theorem enumA_pL {l : List Int} : enumA (iL l) = pL ((nums l.length).zip l) := by
  unfold enumA
  rw [iL_len, ← zipA_pL]
  unfold nums iL
  rw [List.map_map]; rfl
theorem rangeA_iL {n : Nat} : rangeA 0 n = iL (nums n) := by
  unfold rangeA nums iL
  rw [List.map_map]
  refine List.map_congr_left fun i _ => ?_
  show AV.int _ = AV.int _
  rw [Int.zero_add]
theorem pL_get {ps : List (Int × Int)} {i : Nat} {a : AV} (h : (pL ps)[i]? = some a) : ∃ p, ps[i]? = some p ∧ a = .tup [.int p.1, .int p.2] := by
  unfold pL at h
  rw [List.getElem?_map] at h
  cases e : ps[i]? with
  | none => rw [e] at h; cases h
  | some c => rw [e] at h; cases h; exact ⟨c, rfl, rfl⟩
theorem pL_len {ps : List (Int × Int)} : (pL ps).length = ps.length := by unfold pL; simp
theorem pL_pair {ps : List (Int × Int)} : ∀ a ∈ pL ps, isPair a := fun a h => by
  obtain ⟨p, _, rfl⟩ := List.mem_map.mp h; exact ⟨_, _, rfl⟩
theorem comp_pairs {scope : Scope} {elt it : Expr} {x y : PySem.Str} {px py tp : Pos} {k : Nat} {Q : AV → AH → Prop}
    (h : IT b sc (.Tuple [.Name x px, .Name y py] k tp) it m H (fun l src H3 => ∃ ps : List (Int × Int), l = pL ps ∧ ps.length ≤ 1000 ∧ (∀ H4, Ext H3 H4 → src H4) ∧ ∃ g : Int × Int → AV,
      (∀ p ∈ ps, ∀ H4, Ext H3 H4 → EV b (relabelS scope sc) elt (up (up (compV scope m) x (.int p.1)) y (.int p.2)) H4 (fun r H5 => r = g p ∧ Ext H4 H5) NoX) ∧ ∀ H4, Ext H3 H4 → Q (.ref H4.n) (H4.alloc (.list (ps.map g)))) NoX) :
    CompIt b sc scope elt (.Tuple [.Name x px, .Name y py] k tp) it [] (bind2 x y) isPair m H (fun ys H2 => Q (.ref H2.n) (H2.alloc (.list ys))) := by
  refine h.mono fun l src H3 z => ?_
  obtain ⟨ps, rfl, hl, hs, g, hg, hq⟩ := z
  refine ⟨pL_pair, by rw [pL_len]; exact hl, fun i ys H2 => Ext H3 H2 ∧ ys = (ps.take i).map g, ⟨Ext.refl, rfl⟩, ?_, ?_⟩
  · rintro i a ys H2 e ⟨ex, rfl⟩ _
    obtain ⟨p, hp, rfl⟩ := pL_get e
    show EV b (relabelS scope sc) elt _ H2 _ NoX
    refine (hg p (List.mem_of_getElem? hp) H2 ex).mono (fun r H4 z => ?_) fun _ x => x
    obtain ⟨rfl, e3⟩ := z
    exact ⟨hs _ (ex.trans e3), ex.trans e3, by rw [take_get hp, List.map_append]; rfl⟩
  · rintro ys H2 ⟨ex, rfl⟩
    rw [pL_len, List.take_length]
    exact hq H2 ex
/-- over zip -/
inductive ZipP (K : List (Int × Int) → (AH → Prop) → AH → Prop) (a1 a2 : AV) (H3 : AH) : Prop
  | mk (j1 j2 : Nat) (n1 n2 : List Int) : a1 = .ref j1 → a2 = .ref j2 → H3.f j1 = .list (iL n1) → H3.f j2 = .list (iL n2) → j1 < H3.n → j2 < H3.n → K (n1.zip n2) (fun H4 => H4.f j1 = .list (iL n1) ∧ H4.f j2 = .list (iL n2)) H3 → ZipP K a1 a2 H3
inductive EnumP (K : List (Int × Int) → (AH → Prop) → AH → Prop) (a1 : AV) (H3 : AH) : Prop
  | mk (j1 : Nat) (n1 : List Int) : a1 = .ref j1 → H3.f j1 = .list (iL n1) → j1 < H3.n → K ((nums n1.length).zip n1) (fun H4 => H4.f j1 = .list (iL n1)) H3 → EnumP K a1 H3
inductive PairP (b : Bd) (sc : Scope) (elt : Expr) (x y : PySem.Str) (m : Vars) (Q : AV → AH → Prop) (ps : List (Int × Int)) (H3 : AH) : Prop
  | mk : ps.length ≤ 1000 → (g : Int × Int → AV) → (∀ p ∈ ps, ∀ H4, Ext H3 H4 → EV b sc elt (up (up m x (.int p.1)) y (.int p.2)) H4 (fun r H5 => r = g p ∧ Ext H4 H5) NoX) →
    (∀ H4, Ext H3 H4 → Q (.ref H4.n) (H4.alloc (.list (ps.map g)))) → PairP b sc elt x y m Q ps H3
inductive ForZP (b : Bd) (sc : Scope) (body : List Stmt) (x y : PySem.Str) (m : Vars) (Q : Fl → Vars → AH → Prop) (ps : List (Int × Int)) (src : AH → Prop) (H3 : AH) : Prop
  | mk (J : Nat → Vars → AH → Prop) : J 0 m H3 →
    (∀ i p m1 H4, ps[i]? = some p → J i m1 H4 → src H4 → EX b sc body (up (up m1 x (.int p.1)) y (.int p.2)) H4 (LX (fun m2 H5 => src H5 ∧ J (i + 1) m2 H5) Q) NoXV) →
    (∀ m1 H4, J ps.length m1 H4 → Q .next m1 H4) → ForZP b sc body x y m Q ps src H3
noncomputable abbrev ZipIt (b : Bd) (sc : Scope) (e1 e2 : Expr) (np : Pos) (m : Vars) (H : AH) (K : List (Int × Int) → (AH → Prop) → AH → Prop) : Prop :=
  sc.names.lookup ("zip" : PySem.Str) = some .globalImplicit ∧ EV b sc e1 m H (fun a1 H2 => EV b sc e2 m H2 (ZipP K a1) NoX) NoX
theorem IT_zip_ints {x y : PySem.Str} {px py tp np pos : Pos} {k : Nat} {e1 e2 : Expr} {K : List (Int × Int) → (AH → Prop) → AH → Prop} (h : ZipIt b sc e1 e2 np m H K)
    (he : ∀ env, eval (.Call (.Name "zip" np) [e1, e2] [] pos) env = (do callWith pos (← eval (.Name "zip" np) env) [] (backTo pos (starEach [e1, e2] env)) (backToKw pos (keywordEach [] env))) := by intro _; rfl)
    (hs : ∀ env, starEach [e1, e2] env = (false, eval e1 env) :: starEach [e2] env := by intro _; rfl) (hs2 : ∀ env, starEach [e2] env = (false, eval e2 env) :: starEach [] env := by intro _; rfl) (hplain : ∀ env, (backTo pos (starEach [e2] env)).any (·.1) = false := by intro _; rfl) :
    IT b sc (.Tuple [.Name x px, .Name y py] k tp) (.Call (.Name "zip" np) [e1, e2] [] pos) m H (fun l src H3 => ∃ ps, l = pL ps ∧ (∀ H4, Ext H3 H4 → src H4) ∧ K ps src H3) NoX := by
  refine IT_zip (EV_bi h.1 (fun _ => by kernel_rfl) (by decide +kernel) (by decide) ⟨rfl, h.2.mono (fun a1 H2 z => z.mono (fun a2 H3 z => ?_) fun _ x => x) fun _ x => x⟩) he hs hs2 hplain
  obtain ⟨j1, j2, n1, n2, rfl, rfl, f1, f2, l1, l2, zz⟩ := z
  exact ⟨j1, j2, _, _, rfl, rfl, f1, f2, n1.zip n2, zipA_pL, fun H4 e => ⟨(e.f _ l1).trans f1, (e.f _ l2).trans f2⟩, zz⟩
theorem IT_enum_ints {x y : PySem.Str} {px py tp np pos : Pos} {k : Nat} {e1 : Expr} {K : List (Int × Int) → (AH → Prop) → AH → Prop}
    (h : sc.names.lookup ("enumerate" : PySem.Str) = some .globalImplicit ∧ EV b sc e1 m H (EnumP K) NoX)
    (he : ∀ env, eval (.Call (.Name "enumerate" np) [e1] [] pos) env = (do callWith pos (← eval (.Name "enumerate" np) env) [] (backTo pos (starEach [e1] env)) (backToKw pos (keywordEach [] env))) := by intro _; rfl)
    (hs : ∀ env, starEach [e1] env = (false, eval e1 env) :: starEach [] env := by intro _; rfl) :
    IT b sc (.Tuple [.Name x px, .Name y py] k tp) (.Call (.Name "enumerate" np) [e1] [] pos) m H (fun l src H3 => ∃ ps, l = pL ps ∧ (∀ H4, Ext H3 H4 → src H4) ∧ K ps src H3) NoX := by
  refine IT_enum (EV_bi h.1 (fun _ => by kernel_rfl) (by decide +kernel) (by decide) ⟨rfl, h.2.mono (fun a1 H3 z => ?_) fun _ x => x⟩) he hs
  obtain ⟨j1, n1, rfl, f1, l1, z⟩ := z
  exact ⟨j1, _, rfl, f1, _, enumA_pL, fun H4 e => (e.f _ l1).trans f1, z⟩
noncomputable abbrev PairK (b : Bd) (sc scope : Scope) (elt : Expr) (x y : PySem.Str) (m : Vars) (Q : AV → AH → Prop) : List (Int × Int) → (AH → Prop) → AH → Prop := fun ps _ H3 => PairP b (relabelS scope sc) elt x y (compV scope m) Q ps H3
section
variable {scope : Scope} {elt e1 e2 : Expr} {x y v : PySem.Str} {px py pv tp np zp pos spos : Pos} {k : Nat}
theorem ES_comp_zip {Q : Fl → Vars → AH → Prop} {X : Vars → AH → Prop} (co : CompOk scope sc) (hx : (relabelS scope sc).names.lookup x = some .local) (hy : (relabelS scope sc).names.lookup y = some .local)
    (h : ZipIt b sc e1 e2 np m H (PairK b sc scope elt x y m fun r H2 => Q .next (up m v r) H2))
    (hv : sc.names.lookup v = some .local) (hvn : (scope.names.any fun (n, k) => n == v && (k == .local || k == .cell)) = false) (hline : (pv.line == pos.line) = true := by rfl)
    (he : ∀ env, eval (.Call (.Name "zip" np) [e1, e2] [] zp) env = (do callWith zp (← eval (.Name "zip" np) env) [] (backTo zp (starEach [e1, e2] env)) (backToKw zp (keywordEach [] env))) := by intro _; rfl)
    (hs : ∀ env, starEach [e1, e2] env = (false, eval e1 env) :: starEach [e2] env := by intro _; rfl) (hs2 : ∀ env, starEach [e2] env = (false, eval e2 env) :: starEach [] env := by intro _; rfl) (hplain : ∀ env, (backTo zp (starEach [e2] env)).any (·.1) = false := by intro _; rfl)
    (hf : ∀ env v, foldedSetIterable (.Call (.Name "zip" np) [e1, e2] [] zp) env v = pure v := by intro _ _; rfl) :
    ES b sc (.Assign [.Name v pv] (.ListComp elt [⟨.Tuple [.Name x px, .Name y py] k tp, .Call (.Name "zip" np) [e1, e2] [] zp, [], 0⟩] scope pos) spos) m H Q X :=
  ES_assign_comp co (TBp_pair hx hy) (comp_pairs (Q := fun r H2 => Q .next (up m v r) H2) ((IT_zip_ints h he hs hs2 hplain).mono fun l src H3 ⟨ps, e, s, ⟨l, g, z1, z2⟩⟩ => ⟨ps, e, l, s, g, z1, z2⟩)) hv hvn hline hf
theorem EV_comp_enum {Q : AV → AH → Prop} (co : CompOk scope sc) (hx : (relabelS scope sc).names.lookup x = some .local) (hy : (relabelS scope sc).names.lookup y = some .local)
    (h : sc.names.lookup ("enumerate" : PySem.Str) = some .globalImplicit ∧ EV b sc e1 m H (EnumP (PairK b sc scope elt x y m Q)) NoX)
    (he : ∀ env, eval (.Call (.Name "enumerate" np) [e1] [] zp) env = (do callWith zp (← eval (.Name "enumerate" np) env) [] (backTo zp (starEach [e1] env)) (backToKw zp (keywordEach [] env))) := by intro _; rfl)
    (hs : ∀ env, starEach [e1] env = (false, eval e1 env) :: starEach [] env := by intro _; rfl)
    (hf : ∀ env v, foldedSetIterable (.Call (.Name "enumerate" np) [e1] [] zp) env v = pure v := by intro _ _; rfl) :
    EV b sc (.ListComp elt [⟨.Tuple [.Name x px, .Name y py] k tp, .Call (.Name "enumerate" np) [e1] [] zp, [], 0⟩] scope pos) m H Q X :=
  EV_comp co (TBp_pair hx hy) (comp_pairs ((IT_enum_ints (K := PairK b sc scope elt x y m Q) h he hs).mono fun l src H3 ⟨ps, e, s, ⟨l, g, z1, z2⟩⟩ => ⟨ps, e, l, s, g, z1, z2⟩)) hf
/-- a loop over zip -/
theorem ES_for_zip {body : List Stmt} {Q : Fl → Vars → AH → Prop} {X : Vars → AH → Prop} (hx : sc.names.lookup x = some .local) (hy : sc.names.lookup y = some .local)
    (h : ZipIt b sc e1 e2 np m H (ForZP b sc body x y m Q))
    (he : ∀ env, eval (.Call (.Name "zip" np) [e1, e2] [] zp) env = (do callWith zp (← eval (.Name "zip" np) env) [] (backTo zp (starEach [e1, e2] env)) (backToKw zp (keywordEach [] env))) := by intro _; rfl)
    (hs : ∀ env, starEach [e1, e2] env = (false, eval e1 env) :: starEach [e2] env := by intro _; rfl) (hs2 : ∀ env, starEach [e2] env = (false, eval e2 env) :: starEach [] env := by intro _; rfl) (hplain : ∀ env, (backTo zp (starEach [e2] env)).any (·.1) = false := by intro _; rfl)
    (hf : ∀ env v, foldedSetIterable (.Call (.Name "zip" np) [e1, e2] [] zp) env v = pure v := by intro _ _; rfl) :
    ES b sc (.For (.Tuple [.Name x px, .Name y py] k tp) (.Call (.Name "zip" np) [e1, e2] [] zp) body [] pos) m H Q X := by
  refine ES_for (TBp_pair hx hy) ((IT_zip_ints h he hs hs2 hplain).mono fun l src H3 z => ?_) hf
  obtain ⟨ps, rfl, hsrc, J, j0, turn, fin⟩ := z
  refine ⟨pL_pair, J, j0, fun i a m1 H4 e hj hs => ?_, fun m1 H4 hj => fin m1 H4 (by rw [pL_len] at hj; exact hj)⟩
  obtain ⟨p, hp, rfl⟩ := pL_get e
  exact turn i p m1 H4 hp hj hs
end
end
theorem EX_if_mid {b : Bd} {sc : Scope} {m : Vars} {H : AH} {test : Expr} {body orelse rest : List Stmt} {pos : Pos} {Q : Fl → Vars → AH → Prop} {X : Vars → AH → Prop} (M : Vars → AH → Prop)
    (h : ET b sc test m H (fun bb H' => if bb = true then EX b sc body m H' (LX M Q) X else EX b sc orelse m H' (LX M Q) X) (X m)) (k : ∀ m' H', M m' H' → EX b sc rest m' H' Q X) : EX b sc (.If test body orelse pos :: rest) m H Q X := by
  have conv : ∀ {ss : List Stmt} {H' : AH}, EX b sc ss m H' (LX M Q) X → EX b sc ss m H' (KX b sc rest Q X) X := fun z => z.mono (fun fl m2 H2 y => by
    cases fl with
    | next => exact KX_next (k _ _ y)
    | ret a => exact KX_ret y) fun _ _ x => x
  refine EX_step (ES_if (h.mono (fun bb H' z => ?_) fun _ x => x))
  cases bb with
  | true => exact conv z
  | false => exact conv z
end
-- C10
section
noncomputable def shF (room wh : Int) (ws ls : List Int) : List Int := (ws.zip ls).map fun p => p.2 + room * p.1 / wh
noncomputable def topUp (total : Int) (found : List Int) : List Int := ((nums found.length).zip found).map fun p => p.2 + if p.1 < total - found.sum then 1 else 0
noncomputable def sharesF (total : Int) (ws ls : List Int) : List Int :=
  if ws.sum = 0 then topUp total (shF (total - ls.sum) ls.length (List.replicate ls.length 1) ls) else topUp total (shF (total - ls.sum) ws.sum ws ls)
section
variable {b : Bd} {H : AH} {X : AH → Prop} {Q : AV → AH → Prop}
theorem map_int {ps : List (Int × Int)} {g : Int × Int → Int} : (ps.map fun p => AV.int (g p)) = iL (ps.map g) := by unfold iL; rw [List.map_map]; rfl
theorem c_shares {total : Int} {ws ls : List Int} {j1 j2 : Nat} (f1 : H.f j1 = .list (iL ws)) (f2 : H.f j2 = .list (iL ls)) (l1 : j1 < H.n) (l2 : j2 < H.n) (hl : ls.length ≤ 500) (hne : ls ≠ []) (h0 : 0 ≤ ws.sum) (h3 : ws.sum < 1000000) (hr : (total - ls.sum).natAbs < 2 ^ 63)
    (hb : 1 ≤ b.n) (h : ∀ H' r, Ext H H' → H.n ≤ r → r < H'.n → H'.f r = .list (iL (sharesF total ws ls)) → Q (.ref r) H') : CL b (.ref 225) [.int total, .ref j1, .ref j2] H Q X := by
  refine (CA_defs (names := ["total", "weights", "leasts"]) (fun _ => by with_unfolding_all rfl) (fun _ => by kernel_rfl) rfl rfl rfl rfl (by walk_at "b") (by decide) (by walk_at "d") ?_).cl
  intro sc hsc
  have hlen : 0 < ls.length := List.length_pos_iff.mpr hne
  repeat walk_at "w"
  refine CL_sum f2 ?_
  repeat walk_at "w"
  refine CL_sum f1 ?_
  repeat walk_at "w"
  refine ⟨by simp, ?_⟩
  refine TA_tuple ?_ rfl
  refine TAs_cons ?_
  repeat walk_at "w"
  refine TAs_cons ?_
  repeat walk_at "w"
  refine TAs_nil ?_
  walk_at "w"
  refine EX_if_mid (fun m H2 => ∃ (jw : Nat) (ws' : List Int) (wh : Int), Ext H H2 ∧ m "total" = some (.int total) ∧ m "weights" = some (.ref jw) ∧ m "leasts" = some (.ref j2) ∧ m "room" = some (.int (total - ls.sum)) ∧ m "whole" = some (.int wh) ∧
      H2.f jw = .list (iL ws') ∧ jw < H2.n ∧ 0 < wh ∧ wh < 1073741824 ∧ sharesF total ws ls = topUp total (shF (total - ls.sum) wh ws' ls)) ?_ ?_
  · repeat walk_at "w"
    refine if_eq (fun hz => ?_) fun hz => ?_
    · repeat walk_at "w"
      refine ⟨by simp, ?_⟩
      repeat walk_at "w"
      refine CL_len (l := iL ls) ?_ (by rw [iL_len]; omega) ?_
      · rw [al_lt l2]; exact f2
      rw [iL_len]
      refine OP_rep (n := ls.length) al_self rfl (by walk_at "d") ?_
      repeat walk_at "w"
      refine CL_len (l := iL ls) ?_ (by rw [iL_len]; omega) ?_
      · exact (al_lt (Nat.lt_succ_of_lt l2)).trans ((al_lt l2).trans f2)
      rw [iL_len]
      repeat walk_at "w"
      refine ⟨H.n + 1, List.replicate ls.length 1, ls.length, Ext.refl.alloc.alloc, by walk_at "v", by walk_at "v", by walk_at "v", by walk_at "v", by walk_at "v", ?_, ?_, by omega, by omega, ?_⟩
      · refine al_self.trans ?_
        unfold iL; rw [List.map_replicate]
      · show H.n + 1 < H.n + 1 + 1
        omega
      · unfold sharesF; rw [if_pos hz]
    · repeat walk_at "w"
      refine ⟨j1, ws, ws.sum, Ext.refl, by walk_at "v", by walk_at "v", by walk_at "v", by walk_at "v", by walk_at "v", f1, l1, by omega, by omega, ?_⟩
      · unfold sharesF; rw [if_neg hz]
  rintro m H2 ⟨jw, ws', wh, e1, mt, mw, ml, mr, mh, fw, lw, hw, hw2, hsf⟩
  walk_at "w"
  refine ES_comp_zip (by walk_at "co") (by walk_at "k") (by walk_at "k") ⟨by walk_at "k", ?_⟩ (by walk_at "k") (by walk_at "k")
  repeat walk_at "w"
  refine ⟨_, _, _, _, rfl, rfl, fw, (e1.f _ l2).trans f2, lw, Nat.lt_of_lt_of_le l2 e1.le, ?_, fun p => .int (p.2 + (total - ls.sum) * p.1 / wh), fun p hp H4 ex => ?_, fun H4 ex => ?_⟩
  · rw [List.length_zip]; omega
  · repeat walk_at "w"
    refine OP_mul hr ?_
    repeat walk_at "w"
    refine OP_floordiv hw (by walk_at "d") ?_
    repeat walk_at "w"
    exact ⟨rfl, Ext.refl⟩
  rw [map_int]
  have e2 : Ext H (H4.alloc (.list (iL (shF (total - ls.sum) wh ws' ls)))) := (e1.trans ex).alloc
  have f3 : (H4.alloc (.list (iL (shF (total - ls.sum) wh ws' ls)))).f H4.n = .list (iL (shF (total - ls.sum) wh ws' ls)) := al_self
  refine Kn (by assumption) ?_
  show EX _ _ _ _ (H4.alloc (.list (iL (shF (total - ls.sum) wh ws' ls)))) _ _
  have l3 : H4.n < (H4.alloc (.list (iL (shF (total - ls.sum) wh ws' ls)))).n := Nat.lt_succ_self _
  revert e2 f3 l3
  generalize H4.alloc (.list (iL (shF (total - ls.sum) wh ws' ls))) = H5
  intro e2 f3 l3
  repeat walk_at "w"
  refine CL_sum f3 ?_
  repeat walk_at "w"
  refine EV_comp_enum (by walk_at "co") (by walk_at "k") (by walk_at "k") ⟨by walk_at "k", ?_⟩
  repeat walk_at "w"
  have hfl : (shF (total - ls.sum) wh ws' ls).length ≤ 500 := by unfold shF; rw [List.length_map, List.length_zip]; omega
  refine ⟨_, _, rfl, f3, l3, by rw [List.length_zip]; omega, fun p => .int (p.2 + if p.1 < total - (shF (total - ls.sum) wh ws' ls).sum then 1 else 0), fun p hp H4 ex => ?_, fun H6 ex6 => ?_⟩
  · repeat walk_at "w"
    refine if_d (fun hd => ?_) fun hd => ?_
    · repeat walk_at "w"
      exact ⟨by show AV.int _ = AV.int _; rw [if_pos hd], Ext.refl⟩
    · repeat walk_at "w"
      exact ⟨by show AV.int _ = AV.int _; rw [if_neg hd], Ext.refl⟩
  rw [map_int]
  repeat walk_at "w"
  refine h _ _ (e2.trans ex6).alloc (e2.trans ex6).le (Nat.lt_succ_self _) ?_
  rw [al_self, hsf]; rfl
end
end
-- C11
section
theorem nums_get {n i : Nat} (h : i < n) : (nums n)[i]? = some (i : Int) := by
  unfold nums; rw [List.getElem?_map, List.getElem?_range h]; rfl
theorem nums_len {n : Nat} : (nums n).length = n := by unfold nums; simp
theorem nums_mem {n : Nat} {x : Int} (h : x ∈ nums n) : 0 ≤ x ∧ x < n := by
  unfold nums at h
  obtain ⟨i, hi, rfl⟩ := List.mem_map.mp h
  rw [List.mem_range] at hi
  omega
theorem nums_map {ws : List Int} : (nums ws.length).map (fun at' => ws.getD at'.toNat 0) = ws := by
  apply List.ext_getElem?
  intro i
  unfold nums
  rw [List.map_map, List.getElem?_map]
  rcases Nat.lt_or_ge i ws.length with h | h
  · rw [List.getElem?_range h]
    simp [h]
  · rw [List.getElem?_eq_none (by simpa using h), List.getElem?_eq_none h]; rfl
theorem shF_len {room wh : Int} {ws ls : List Int} (h : ws.length = ls.length) : (shF room wh ws ls).length = ls.length := by unfold shF; rw [List.length_map, List.length_zip, h, Nat.min_self]
theorem topUp_len {t : Int} {f : List Int} : (topUp t f).length = f.length := by unfold topUp; rw [List.length_map, List.length_zip, nums_len, Nat.min_self]
theorem sharesF_len {t : Int} {ws ls : List Int} (h : ws.length = ls.length) : (sharesF t ws ls).length = ls.length := by
  unfold sharesF
  split
  · rw [topUp_len, shF_len (by simp)]
  · rw [topUp_len, shF_len h]
section
variable {b : Bd} {sc : Scope} {m : Vars} {H : AH} {X : AH → Prop}
theorem ET_true {k : Nat} {pos : Pos} {Q : Bool → AH → Prop} (h : Q true H) : ET b sc (.Constant (.bool true) k pos) m H Q X := ET_val (EV_bool ⟨true, rfl, h⟩)
/-- a comprehension over zip of which nothing passes the test -/
theorem ES_comp_zip_none {scope : Scope} {elt t e1 e2 : Expr} {x y v : PySem.Str} {px py pv tp np zp pos spos : Pos} {k : Nat} {Q : Fl → Vars → AH → Prop} {X : Vars → AH → Prop} (co : CompOk scope sc) (hx : (relabelS scope sc).names.lookup x = some .local) (hy : (relabelS scope sc).names.lookup y = some .local)
    (h : ZipIt b sc e1 e2 np m H (fun ps _ H3 => ps.length ≤ 1000 ∧ (∀ p ∈ ps, ∀ H4, Ext H3 H4 → ET b (relabelS scope sc) t (up (up (compV scope m) x (.int p.1)) y (.int p.2)) H4 (fun r H5 => r = false ∧ Ext H4 H5) NoX) ∧ ∀ H4, Ext H3 H4 → Q .next (up m v (.ref H4.n)) (H4.alloc (.list []))))
    (hv : sc.names.lookup v = some .local) (hvn : (scope.names.any fun (n, k) => n == v && (k == .local || k == .cell)) = false) (hline : (pv.line == pos.line) = true := by rfl)
    (he : ∀ env, eval (.Call (.Name "zip" np) [e1, e2] [] zp) env = (do callWith zp (← eval (.Name "zip" np) env) [] (backTo zp (starEach [e1, e2] env)) (backToKw zp (keywordEach [] env))) := by intro _; rfl)
    (hs : ∀ env, starEach [e1, e2] env = (false, eval e1 env) :: starEach [e2] env := by intro _; rfl) (hs2 : ∀ env, starEach [e2] env = (false, eval e2 env) :: starEach [] env := by intro _; rfl) (hplain : ∀ env, (backTo zp (starEach [e2] env)).any (·.1) = false := by intro _; rfl)
    (hf : ∀ env v, foldedSetIterable (.Call (.Name "zip" np) [e1, e2] [] zp) env v = pure v := by intro _ _; rfl) :
    ES b sc (.Assign [.Name v pv] (.ListComp elt [⟨.Tuple [.Name x px, .Name y py] k tp, .Call (.Name "zip" np) [e1, e2] [] zp, [t], 0⟩] scope pos) spos) m H Q X := by
  refine ES_assign_comp co (TBp_pair hx hy) ((IT_zip_ints h he hs hs2 hplain).mono fun l src H3 z => ?_) hv hvn hline hf
  obtain ⟨ps, rfl, hsrc, hl, ht, hq⟩ := z
  refine ⟨pL_pair, by rw [pL_len]; exact hl, fun i ys H2 => Ext H3 H2 ∧ ys = [], ⟨Ext.refl, rfl⟩, ?_, ?_⟩
  · rintro i a ys H2 e ⟨ex, rfl⟩ _
    obtain ⟨p, hp, rfl⟩ := pL_get e
    show ET b (relabelS scope sc) t _ H2 _ NoX
    refine (ht p (List.mem_of_getElem? hp) H2 ex).mono (fun r H5 z => ?_) fun _ x => x
    obtain ⟨rfl, e3⟩ := z
    rw [if_neg (by decide)]
    exact ⟨hsrc _ (ex.trans e3), ex.trans e3, rfl⟩
  · rintro ys H2 ⟨ex, rfl⟩
    exact hq H2 ex
/-- a comprehension over range of which all pass the test -/
inductive RangeAllP (b : Bd) (sc : Scope) (t : Expr) (x : PySem.Str) (m : Vars) (Q : AV → AH → Prop) (a1 : AV) (H3 : AH) : Prop
  | mk (n : Nat) : a1 = .int n → n ≤ 1000 → (∀ i < n, ∀ H4, Ext H3 H4 → ET b sc t (up m x (.int (i : Nat))) H4 (fun r H5 => r = true ∧ Ext H4 H5) NoX) → (∀ H4, Ext H3 H4 → Q (.ref H4.n) (H4.alloc (.list (iL (nums n))))) → RangeAllP b sc t x m Q a1 H3
theorem ES_comp_range_all {scope : Scope} {t e1 : Expr} {x v : PySem.Str} {px pe pv np zp pos spos : Pos} {Q : Fl → Vars → AH → Prop} {X : Vars → AH → Prop} (co : CompOk scope sc) (hx : (relabelS scope sc).names.lookup x = some .local) (hn : sc.names.lookup ("range" : PySem.Str) = some .globalImplicit)
    (h : EV b sc e1 m H (RangeAllP b (relabelS scope sc) t x (compV scope m) fun r H4 => Q .next (up m v r) H4) NoX)
    (hd : (x == ("__debug__" : PySem.Str)) = false) (hcl : (x == ("__classdict__" : PySem.Str)) = false)
    (hv : sc.names.lookup v = some .local) (hvn : (scope.names.any fun (n, k) => n == v && (k == .local || k == .cell)) = false) (hline : (pv.line == pos.line) = true := by rfl)
    (he : ∀ env, eval (.Call (.Name "range" np) [e1] [] zp) env = (do callWith zp (← eval (.Name "range" np) env) [] (backTo zp (starEach [e1] env)) (backToKw zp (keywordEach [] env))) := by intro _; rfl)
    (hs : ∀ env, starEach [e1] env = (false, eval e1 env) :: starEach [] env := by intro _; rfl)
    (hf : ∀ env v, foldedSetIterable (.Call (.Name "range" np) [e1] [] zp) env v = pure v := by intro _ _; rfl) :
    ES b sc (.Assign [.Name v pv] (.ListComp (.Name x pe) [⟨.Name x px, .Call (.Name "range" np) [e1] [] zp, [t], 0⟩] scope pos) spos) m H Q X := by
  refine ES_assign_comp (P := fun _ => True) co (TBp_name hx) (IT_range1 (EV_bi hn (fun _ => by kernel_rfl) (by decide +kernel) (by decide) ⟨rfl, h.mono (fun a1 H3 z => ?_) fun _ x => x⟩) he hs) hv hvn hline hf
  obtain ⟨n, rfl, hl, ht, hq⟩ := z
  refine ⟨n, rfl, by omega, fun _ _ => trivial, by unfold rangeA; simpa using hl, fun i ys H2 => Ext H3 H2 ∧ ys = (rangeA 0 n).take i, ⟨Ext.refl, rfl⟩, ?_, ?_⟩
  · rintro i a ys H2 e ⟨ex, rfl⟩ _
    obtain ⟨hi, rfl⟩ := rangeA_get e
    rw [Int.zero_add] at e ⊢
    show ET b (relabelS scope sc) t _ H2 _ NoX
    refine (ht i hi H2 ex).mono (fun r H5 z => ?_) fun _ x => x
    obtain ⟨rfl, e3⟩ := z
    rw [if_pos rfl]
    exact EV_var hd hcl ⟨_, up_self, trivial, ex.trans e3, by rw [take_get e]⟩
  · rintro ys H2 ⟨ex, rfl⟩
    rw [List.take_length, rangeA_iL]
    exact hq H2 ex
end
theorem zip_at {n : Nat} {l : List Int} {p : Int × Int} (h : p ∈ (nums n).zip l) : ∃ i : Nat, p.1 = i ∧ l[i]? = some p.2 := by
  obtain ⟨i, hi⟩ := List.getElem?_of_mem h
  obtain ⟨h1, h2⟩ := List.getElem?_zip_eq_some.mp hi
  refine ⟨i, ?_, h2⟩
  unfold nums at h1
  rw [List.getElem?_map] at h1
  rcases Nat.lt_or_ge i n with q | q
  · rw [List.getElem?_range q] at h1; simpa using h1.symm
  · rw [List.getElem?_eq_none (by simpa using q)] at h1; cases h1
theorem set_take {l f : List Int} {i : Nat} {v : Int} (hi : f[i]? = some v) (hl : l.length = f.length) : ((f.take i ++ l.drop i).set i v) = f.take (i + 1) ++ l.drop (i + 1) := by
  have h : i < f.length := by
    rcases Nat.lt_or_ge i f.length with q | q
    · exact q
    · rw [List.getElem?_eq_none q] at hi; cases hi
  have e : (l.drop i).set 0 v = v :: l.drop (i + 1) := by rw [List.drop_eq_getElem_cons (by omega : i < l.length)]; rfl
  rw [take_get hi, List.set_append_right _ _ (by rw [List.length_take]; omega), List.length_take, Nat.min_eq_left (Nat.le_of_lt h), Nat.sub_self, e]
  simp
section
variable {b : Bd} {H : AH} {X : AH → Prop} {Q : AV → AH → Prop}
inductive JLv (H : AH) (total : Int) (j1 j2 : Nat) (k : Nat) (m : Vars) (H2 : AH) : Prop
  | mk : Ext H H2 → m "total" = some (.int total) → m "weights" = some (.ref j1) → m "leasts" = some (.ref j2) → m "fixed" = some (.ref H.n) → H2.f H.n = .list (iL []) → H.n < H2.n → JLv H total j1 j2 k m H2
inductive KLv (H11 : AH) (sf ls : List Int) (i : Nat) (m : Vars) (H12 : AH) : Prop
  | mk : m "found" = some (.ref H11.n) → H12.f H11.n = .list (iL (sf.take i ++ ls.drop i)) → H11.n < H12.n → (∀ j, j < H11.n → H12.f j = H11.f j) → KLv H11 sf ls i m H12
theorem c_level_shares {total : Int} {ws ls : List Int} {j1 j2 : Nat} (f1 : H.f j1 = .list (iL ws)) (f2 : H.f j2 = .list (iL ls)) (l1 : j1 < H.n) (l2 : j2 < H.n) (hll : ws.length = ls.length) (hl : ls.length ≤ 500) (hne : ls ≠ []) (h0 : 0 ≤ ws.sum) (h3 : ws.sum < 1000000) (hr : total.natAbs < 2 ^ 63)
    (hge : ∀ p ∈ (sharesF total ws (List.replicate ls.length 0)).zip ls, p.2 ≤ p.1)
    (hb : 2 ≤ b.n) (h : ∀ H' r, Ext H H' → H.n ≤ r → r < H'.n → H'.f r = .list (iL (sharesF total ws (List.replicate ls.length 0))) → Q (.ref r) H') : CL b (.ref 230) [.int total, .ref j1, .ref j2] H Q X := by
  refine (CA_defs (names := ["total", "weights", "leasts"]) (fun _ => by with_unfolding_all rfl) (fun _ => by kernel_rfl) rfl rfl rfl rfl (by walk_at "b") (by decide) (by walk_at "d") ?_).cl
  intro sc hsc
  have hlen : 0 < ls.length := List.length_pos_iff.mpr hne
  repeat walk_at "w"
  refine ⟨by simp, ?_⟩
  repeat walk_at "w"
  refine ES_while (JLv H total j1 j2) (n := 0)
    ⟨Ext.refl.alloc, by walk_at "v", by walk_at "v", by walk_at "v", by walk_at "v", al_self, Nat.lt_succ_self _⟩ ?_
  rintro k m H2 ⟨e1, mt, mw, ml, mf, ff, lf⟩
  refine ET_true ?_
  rw [if_pos rfl]
  walk_at "w"
  refine ES_comp_range_all (by walk_at "co") (by walk_at "k") (by walk_at "k") ?_ (by decide) (by decide) (by walk_at "k") (by walk_at "k")
  repeat walk_at "w"
  refine CL_len (l := iL ws) ((e1.f _ l1).trans f1) (by rw [iL_len]; omega) ?_
  rw [iL_len]
  refine ⟨_, rfl, by omega, fun i hi H4 ex => ?_, fun H4 ex => ?_⟩
  · refine ET_cmp ?_
    repeat walk_at "w"
    refine OP_notin ((ex.f _ lf).trans ff) ⟨_, rfl, rfl, Ext.refl⟩
  have e2 := (e1.trans ex).alloc (o := .list (iL (nums ws.length)))
  have lr : H4.n < (H4.alloc (.list (iL (nums ws.length)))).n := Nat.lt_succ_self _
  have fr : (H4.alloc (.list (iL (nums ws.length)))).f H4.n = .list (iL (nums ws.length)) := al_self
  have ff2 : (H4.alloc (.list (iL (nums ws.length)))).f H.n = .list (iL []) := ((ex.alloc).f _ lf).trans ff
  have lf2 : H.n < (H4.alloc (.list (iL (nums ws.length)))).n := Nat.lt_of_lt_of_le lf (ex.alloc).le
  revert e2 lr fr ff2 lf2
  generalize H4.alloc (.list (iL (nums ws.length))) = H5
  generalize H4.n = jf
  intro e2 lr fr ff2 lf2
  repeat walk_at "w"
  refine EV_comp_map (by walk_at "co") (by walk_at "k") ?_
  repeat walk_at "w"
  refine ⟨_, _, rfl, ff2, lf2, by simp, fun _ => .none, fun c hc => by simp at hc, fun H6 ex6 => ?_⟩
  repeat walk_at "w"
  refine CL_sum (ns := []) al_self ?_
  repeat walk_at "w"
  refine EV_comp_map (by walk_at "co") (by walk_at "k") ?_
  repeat walk_at "w"
  have e7 := ex6.alloc (o := .list [])
  show CompP _ _ _ _ _ _ (.ref jf) (H6.alloc (.list []))
  refine ⟨_, _, rfl, (e7.f _ lr).trans fr, Nat.lt_of_lt_of_le lr e7.le, by rw [nums_len]; omega, fun at' => .int (ws.getD at'.toNat 0), fun c hc H7 ex7 => ?_, fun H7 ex7 => ?_⟩
  · repeat walk_at "w"
    obtain ⟨c1, c2⟩ := nums_mem hc
    refine SB_list (l := iL ws) (((e2.trans e7).trans ex7).f _ l1 |>.trans f1) c1 (by walk_at "d") ?_ ⟨rfl, Ext.refl⟩
    unfold iL
    rw [List.getElem?_map, List.getElem?_eq_getElem (by walk_at "d")]
    simp; rw [List.getElem?_eq_getElem (by walk_at "d")]; rfl
  have em : (nums ws.length).map (fun at' => AV.int (ws.getD at'.toNat 0)) = iL ws := by
    conv => rhs; rw [← nums_map (ws := ws)]
    unfold iL; rw [List.map_map]; rfl
  rw [em]
  have e8 := (e7.trans ex7).alloc (o := .list (iL ws))
  have fw : (H7.alloc (.list (iL ws))).f H7.n = .list (iL ws) := al_self
  have lw : H7.n < (H7.alloc (.list (iL ws))).n := Nat.lt_succ_self _
  revert e8 fw lw
  generalize H7.alloc (.list (iL ws)) = H8
  generalize H7.n = jw
  intro e8 fw lw
  repeat walk_at "w"
  refine ⟨by simp, ?_⟩
  repeat walk_at "w"
  refine CL_len (l := iL (nums ws.length)) ?_ (by rw [iL_len, nums_len]; omega) ?_
  · exact (al_lt (Nat.lt_of_lt_of_le lr e8.le)).trans ((e8.f _ lr).trans fr)
  rw [iL_len, nums_len]
  refine OP_rep (n := ws.length) al_self rfl (by walk_at "d") ?_
  repeat walk_at "w"
  have e9 : Ext H8 ((H8.alloc (.list [.int 0])).alloc (.list (List.replicate ws.length (.int 0)))) := Ext.refl.alloc.alloc
  have fz : ((H8.alloc (.list [.int 0])).alloc (.list (List.replicate ws.length (.int 0)))).f (H8.alloc (.list [.int 0])).n = .list (iL (List.replicate ls.length 0)) := by
    refine al_self.trans ?_
    unfold iL; rw [List.map_replicate, hll]
  have lz : (H8.alloc (.list [.int 0])).n < ((H8.alloc (.list [.int 0])).alloc (.list (List.replicate ws.length (.int 0)))).n := Nat.lt_succ_self _
  revert e9 fz lz
  generalize (H8.alloc (.list [.int 0])).alloc (.list (List.replicate ws.length (.int 0))) = H9
  generalize (H8.alloc (.list [.int 0])).n = jz
  intro e9 fz lz
  have hs0 : (List.replicate ls.length (0 : Int)).sum = 0 := by simp
  refine c_shares ((e9.f _ lw).trans fw) fz (Nat.lt_of_lt_of_le lw e9.le) lz (by simp; omega) (by simp; exact hne) h0 h3 (by rw [hs0]; simpa using hr) (by walk_at "d") fun HA r exA r1 r2 fs => ?_
  have hsl : (sharesF total ws (List.replicate ls.length 0)).length = ls.length := by rw [sharesF_len (by simp [hll])]; simp
  have t0 : total - List.sum [] = total := by simp
  rw [t0] at fs
  have eA : Ext H HA := ((e2.trans e8).trans e9).trans exA
  have frA : HA.f jf = .list (iL (nums ws.length)) := ((e8.trans e9).trans exA).f _ lr |>.trans fr
  have lrA : jf < HA.n := Nat.lt_of_lt_of_le lr ((e8.trans e9).trans exA).le
  walk_at "w"
  walk_at "w"
  walk_at "w"
  refine ES_comp_zip_none (by walk_at "co") (by walk_at "k") (by walk_at "k") ⟨by walk_at "k", ?_⟩ (by walk_at "k") (by walk_at "k")
  repeat walk_at "w"
  refine ⟨_, _, _, _, rfl, rfl, frA, fs, lrA, r2, by rw [List.length_zip, nums_len]; omega, fun p hp H4 ex => ?_, fun H4 ex => ?_⟩
  · obtain ⟨i, hi, hg⟩ := zip_at hp
    have hil : i < ls.length := by
      rcases Nat.lt_or_ge i ls.length with q | q
      · exact q
      · rw [List.getElem?_eq_none (by walk_at "d")] at hg; cases hg
    have hle : ls[i] ≤ p.2 := hge (p.2, ls[i]) (List.mem_of_getElem? (List.getElem?_zip_eq_some.mpr ⟨hg, List.getElem?_eq_getElem hil⟩))
    repeat walk_at "w"
    refine SB_list (l := iL ls) (a := .int ls[i]) ((eA.trans ex).f _ l2 |>.trans f2) (by walk_at "d") (by walk_at "d") ?_ ?_
    · unfold iL
      rw [hi, List.getElem?_map, Int.toNat_natCast, List.getElem?_eq_getElem hil]; rfl
    · repeat walk_at "w"
      exact ⟨decide_eq_false (by walk_at "d"), Ext.refl⟩
  have e10 := ex.alloc (o := .list [])
  have fsh : (H4.alloc (.list [])).f H4.n = .list [] := al_self
  have lsh : H4.n < (H4.alloc (.list [])).n := Nat.lt_succ_self _
  revert e10 fsh lsh
  generalize H4.alloc (.list []) = H10
  generalize H4.n = js
  intro e10 fsh lsh
  walk_at "w"
  walk_at "w"
  walk_at "w"
  refine ET_eq_nil ?_
  walk_at "w"
  refine ⟨_, _, rfl, fsh, lsh, rfl, ?_⟩
  refine if_b (fun _ => ?_) (fun q => absurd q (by decide))
  have e11 := e10.alloc (o := .list [])
  revert e11
  generalize H10.alloc (.list []) = H11
  intro e11
  repeat walk_at "w"
  refine CL_list (l := iL ls) ((eA.trans e11).f _ l2 |>.trans f2) (by rw [iL_len]; omega) ?_
  repeat walk_at "w"
  have frB : H11.f jf = .list (iL (nums ws.length)) := (e11.f _ lrA).trans frA
  have lrB : jf < H11.n := Nat.lt_of_lt_of_le lrA e11.le
  have fsB := (e11.f _ r2).trans fs
  have lsB : r < H11.n := Nat.lt_of_lt_of_le r2 e11.le
  generalize hsf : sharesF total ws (List.replicate ls.length 0) = sf at *
  refine ES_for_zip (by walk_at "k") (by walk_at "k") ⟨by walk_at "k", ?_⟩
  repeat walk_at "w"
  refine ⟨_, _, _, _, rfl, rfl, (al_lt lrB).trans frB, (al_lt lsB).trans fsB, Nat.lt_succ_of_lt lrB, Nat.lt_succ_of_lt lsB,
    KLv H11 sf ls, ⟨by walk_at "v", al_self, Nat.lt_succ_self _, fun j hj => al_lt hj⟩, ?_, ?_⟩
  · rintro i p m1 H12 hp ⟨mf1, ff1, lf1, kp1⟩ ⟨hs1, hs2⟩
    obtain ⟨g1, g2⟩ := List.getElem?_zip_eq_some.mp hp
    have hi : i < ls.length := by
      rcases Nat.lt_or_ge i ls.length with q | q
      · exact q
      · rw [List.getElem?_eq_none (by walk_at "d")] at g2; cases g2
    rw [nums_get (by walk_at "d")] at g1
    have hp1 : p.1 = (i : Nat) := (Option.some.inj g1).symm
    repeat walk_at "w"
    refine .inl ⟨_, _, i, rfl, by rw [hp1], ff1, ?_, ?_, ?_⟩
    · rw [iL_len, List.length_append, List.length_take, List.length_drop]; omega
    · rw [iL_len, List.length_append, List.length_take, List.length_drop]; omega
    repeat walk_at "w"
    refine ⟨⟨?_, ?_⟩, by walk_at "v", ?_, lf1, fun j hj => (st_ne (by walk_at "d")).trans (kp1 j hj)⟩
    · rw [st_ne (by walk_at "d")]; exact hs1
    · rw [st_ne (by walk_at "d")]; exact hs2
    · rw [st_self, ← set_take g2 (by walk_at "d")]
      unfold iL
      rw [List.map_set]
  · rintro m1 H12 ⟨mf1, ff1, lf1, kp1⟩
    repeat walk_at "w"
    refine h H12 H11.n ⟨by have := (eA.trans e11).le; omega, fun j hj => (kp1 j (Nat.lt_of_lt_of_le hj (eA.trans e11).le)).trans ((eA.trans e11).f j hj)⟩ (eA.trans e11).le lf1 ?_
    rw [ff1, List.length_zip, nums_len, hll, hsl, Nat.min_self, List.take_of_length_le (by walk_at "d"), List.drop_eq_nil_of_le (Nat.le_refl _), List.append_nil]
end
end
-- C12
section
theorem sum_app {l k : List Int} : (l ++ k).sum = l.sum + k.sum := by simp
/-- division, summed -/
theorem div_sum {r W : Int} (hW : 0 < W) : ∀ (ws ls : List Int), ws.length = ls.length →
    W * (shF r W ws ls).sum ≤ W * ls.sum + r * ws.sum ∧ (ls ≠ [] → W * ls.sum + r * ws.sum < W * (shF r W ws ls).sum + W * ls.length)
  | [], [], _ => by simp [shF]
  | w :: ws, l :: ls, h => by
    have h' : ws.length = ls.length := by simpa using h
    obtain ⟨h1, h2⟩ := div_sum (r := r) hW ws ls h'
    have e : (shF r W (w :: ws) (l :: ls)).sum = l + r * w / W + (shF r W ws ls).sum := by simp [shF]
    have m1 := Int.emod_add_mul_ediv (r * w) W
    have m2 := Int.emod_nonneg (r * w) (Int.ne_of_gt hW)
    have m3 := Int.emod_lt_of_pos (r * w) hW
    have e1 : W * (shF r W (w :: ws) (l :: ls)).sum = W * l + W * (r * w / W) + W * (shF r W ws ls).sum := by rw [e, Int.mul_add, Int.mul_add]
    have e2 : W * (l :: ls).sum + r * (w :: ws).sum = W * l + r * w + (W * ls.sum + r * ws.sum) := by
      rw [List.sum_cons, List.sum_cons, Int.mul_add, Int.mul_add]; omega
    have e3 : W * ((l :: ls).length : Int) = W + W * (ls.length : Int) := by
      rw [List.length_cons]; push_cast; rw [Int.mul_add, Int.mul_one]; omega
    refine ⟨by rw [e1, e2]; omega, fun _ => ?_⟩
    rw [e1, e2, e3]
    by_cases q : ls = []
    · subst q
      have : ws = [] := List.eq_nil_of_length_eq_zero h'
      subst this
      simp [shF]; omega
    · have := h2 q
      omega
  | [], _ :: _, h => by simp at h
  | _ :: _, [], h => by simp at h
theorem bonus_sum : ∀ (f : List Int) (k : Nat) (R : Int), ((((List.range' k f.length).map fun i => ((i : Nat) : Int)).zip f).map fun p => p.2 + if p.1 < R then 1 else 0).sum = f.sum + (if R ≤ k then 0 else if R ≤ k + f.length then R - k else f.length)
  | [], k, R => by
    have e : ∀ R' : Int, (if R' ≤ (k : Int) then (0 : Int) else if R' ≤ (k : Int) + ((([] : List Int).length : Nat) : Int) then R' - k else ((([] : List Int).length : Nat) : Int)) = 0 := fun R' => by
      show (if R' ≤ (k : Int) then (0 : Int) else if R' ≤ (k : Int) + 0 then R' - k else 0) = 0
      split
      · rfl
      · split <;> omega
    rw [e]; rfl
  | v :: f, k, R => by
    rw [List.length_cons, List.range'_succ, List.map_cons, List.zip_cons_cons, List.map_cons, List.sum_cons, bonus_sum f (k + 1) R, List.sum_cons]
    push_cast
    split <;> split <;> (try split) <;> (try split) <;> (try split) <;> omega
theorem topUp_sum {t : Int} {f : List Int} (h0 : 0 ≤ t - f.sum) (h1 : t - f.sum ≤ f.length) : (topUp t f).sum = t := by
  unfold topUp nums
  rw [List.range_eq_range', bonus_sum f 0 (t - f.sum)]
  split
  · simp at *; omega
  · rw [if_pos (by simpa using h1)]; simp; omega
theorem topUp_get {t : Int} {f : List Int} {i : Nat} {v : Int} (h : f[i]? = some v) : (topUp t f)[i]? = some (v + if (i : Int) < t - f.sum then 1 else 0) := by
  have hi : i < f.length := by
    rcases Nat.lt_or_ge i f.length with q | q
    · exact q
    · rw [List.getElem?_eq_none q] at h; cases h
  unfold topUp
  have e := List.getElem?_zip_eq_some.mpr (⟨nums_get hi, h⟩ : (nums f.length)[i]? = some ((i : Int), v).1 ∧ f[i]? = some ((i : Int), v).2)
  rw [List.getElem?_map, e]
  rfl
theorem shF_get {r W : Int} {ws ls : List Int} {i : Nat} {w l : Int} (h1 : ws[i]? = some w) (h2 : ls[i]? = some l) : (shF r W ws ls)[i]? = some (l + r * w / W) := by
  unfold shF
  have e := List.getElem?_zip_eq_some.mpr (⟨h1, h2⟩ : ws[i]? = some (w, l).1 ∧ ls[i]? = some (w, l).2)
  rw [List.getElem?_map, e]
  rfl
theorem sh_core {t W : Int} {ws ls : List Int} (hW : 0 < W) (hs : ws.sum = W) (hl : ws.length = ls.length) (hne : ls ≠ []) : (topUp t (shF (t - ls.sum) W ws ls)).sum = t := by
  obtain ⟨h1, h2⟩ := div_sum (r := t - ls.sum) hW ws ls hl
  have h2 := h2 hne
  rw [hs, Int.mul_comm (t - ls.sum) W, ← Int.mul_add] at h1 h2
  have e : ls.sum + (t - ls.sum) = t := by omega
  rw [e] at h1 h2
  rw [← Int.mul_add] at h2
  have h1' := Int.le_of_mul_le_mul_left h1 hW
  have h2' := Int.lt_of_mul_lt_mul_left h2 (Int.le_of_lt hW)
  refine topUp_sum (by walk_at "d") ?_
  rw [shF_len hl]; omega
theorem sum_rep {n : Nat} : (List.replicate n (1 : Int)).sum = n := by
  induction n with
  | zero => rfl
  | succ n ih => rw [List.replicate_succ, List.sum_cons, ih]; push_cast; omega
theorem sharesF_sum {t : Int} {ws ls : List Int} (h0 : 0 ≤ ws.sum) (hl : ws.length = ls.length) (hne : ls ≠ []) : (sharesF t ws ls).sum = t := by
  have hp := List.length_pos_iff.mpr hne
  unfold sharesF
  split
  · exact sh_core (by walk_at "d") sum_rep (by simp) hne
  · exact sh_core (by walk_at "d") rfl hl hne
theorem sharesF_ge {t : Int} {ws ls : List Int} (h0 : ∀ w ∈ ws, 0 ≤ w) (hr : ls.sum ≤ t) (hl : ws.length = ls.length) {i : Nat} {l v : Int} (h1 : ls[i]? = some l) (h2 : (sharesF t ws ls)[i]? = some v) : l ≤ v := by
  have hi : i < ls.length := by
    rcases Nat.lt_or_ge i ls.length with q | q
    · exact q
    · rw [List.getElem?_eq_none q] at h1; cases h1
  have hpos : ∀ {f : Int}, 0 ≤ f → ∀ {r : Int}, v = l + f + (if (i : Int) < r then 1 else 0) → l ≤ v := fun hf r e => by
    rw [e]; split <;> omega
  have hs0 : 0 ≤ ws.sum := by
    clear h2 hl hpos
    induction ws with
    | nil => simp
    | cons a r ih => rw [List.sum_cons]; have := ih fun w hw => h0 w (.tail _ hw); have := h0 a (.head _); omega
  unfold sharesF at h2
  split at h2
  · have hg : (List.replicate ls.length (1 : Int))[i]? = some 1 := by simp [hi]
    rw [topUp_get (shF_get hg h1)] at h2
    exact hpos (Int.ediv_nonneg (by walk_at "d") (by walk_at "d")) (Option.some.inj h2).symm
  · have hi' : i < ws.length := by omega
    rw [topUp_get (shF_get (List.getElem?_eq_getElem hi') h1)] at h2
    exact hpos (Int.ediv_nonneg (Int.mul_nonneg (by walk_at "d") (h0 _ (List.getElem_mem hi'))) hs0) (Option.some.inj h2).symm
end
-- C13
section
noncomputable def withz (S : St) (a : Int) (z : Int → Int) : St := if a = 0 then { S with w := z } else { S with h := z }
section
variable {S : St} {a : Int} {z : Int → Int} {rk : Int → Nat}
theorem wz_N : (withz S a z).N = S.N := by unfold withz; split <;> rfl
theorem wz_root : (withz S a z).root = S.root := by unfold withz; split <;> rfl
theorem wz_sort : (withz S a z).sort = S.sort := by unfold withz; split <;> rfl
theorem wz_par : (withz S a z).par = S.par := by unfold withz; split <;> rfl
theorem wz_kids : (withz S a z).kids = S.kids := by unfold withz; split <;> rfl
theorem wz_buf : (withz S a z).buf = S.buf := by unfold withz; split <;> rfl
theorem wz_dm {k : Int} : (withz S a z).Dm k ↔ S.Dm k := by unfold St.Dm; rw [wz_N]
theorem wz_pre : pre (withz S a z) = pre S := by unfold pre; rw [wz_kids]
theorem wz_val : val (withz S a z) = val S := by unfold val; rw [wz_kids, wz_sort]
theorem wz_sz {k : Int} : sz (withz S a z) a k = z k := by
  unfold sz withz
  by_cases h : a = 0
  · rw [if_pos h, if_pos h]
  · rw [if_neg h, if_neg h]
theorem wz_sz_ne {c k : Int} (h : (c = 0) ≠ (a = 0)) : sz (withz S a z) c k = sz S c k := by
  unfold sz withz
  by_cases h1 : a = 0 <;> by_cases h2 : c = 0 <;> simp_all
theorem wz_self : withz S a (sz S a) = S := by
  unfold withz sz
  by_cases h : a = 0
  · rw [if_pos h]; simp only [h, if_true]
  · rw [if_neg h]; simp only [h, if_false]
theorem Wf.wz (wf : Wf S rk) : Wf (withz S a z) rk := by
  constructor
  · rw [wz_N]; exact wf.N
  · rw [wz_dm, wz_root]; exact wf.root
  · rw [wz_par, wz_root]; exact wf.rp
  · intro n hn; rw [wz_sort, wz_kids]; exact wf.so n (wz_dm.mp hn)
  · intro n hn c hc; rw [wz_kids] at hc; rw [wz_dm, wz_par, wz_sort]; exact wf.kd n (wz_dm.mp hn) c hc
  · intro n hn; rw [wz_kids]; exact wf.nd n (wz_dm.mp hn)
  · intro n hn; rw [wz_root, wz_par, wz_kids, wz_dm]; exact wf.up n (wz_dm.mp hn)
  · exact wf.rb
  · intro n hn; rw [wz_sort, wz_buf]; exact wf.bf n (wz_dm.mp hn)
noncomputable def Lay (Λ : La) (N n : Nat) : Prop := Λ.T < n ∧ Λ.W < n ∧ ∀ k : Int, 1 ≤ k ∧ k ≤ N → Λ.jw k < n ∧ Λ.jc k < n ∧ Λ.je k < n ∧ Λ.jl k < n
theorem Rep.lay {Λ : La} {H : AH} (x : Rep Λ S H) : Lay Λ S.N H.n := ⟨x.bT, x.bW, fun k h => ⟨x.bw k h, x.bc k h, x.be k h, x.bl k h⟩⟩
theorem Rep.setn {Λ : La} {H : AH} {i n : Nat} {o : AO} (x : Rep Λ S H) (l : Lay Λ S.N n) (h : n ≤ i) : Rep Λ S (H.set i o) :=
  ⟨x.bT, x.bW, (st_ne (by have := l.1; omega)).trans x.fT, (st_ne (by have := l.2.1; omega)).trans x.fW, x.bw, x.bc, x.be, x.bl,
    fun k hk => (st_ne (by have := l.2.2 k hk; omega)).trans (x.fw k hk), fun k hk => (st_ne (by have := l.2.2 k hk; omega)).trans (x.fc k hk), fun k hk => (st_ne (by have := l.2.2 k hk; omega)).trans (x.fe k hk), fun k hk => (st_ne (by have := l.2.2 k hk; omega)).trans (x.fl k hk), x.ij, x.ce⟩
theorem Rep.alloc {Λ : La} {H : AH} {o : AO} (x : Rep Λ S H) : Rep Λ S (H.alloc o) := x.ext Ext.refl.alloc
theorem wat_set {Λ : La} {k v : Int} : lkset (if a = 0 then ("width" : PySem.Str) else ("height" : PySem.Str)) (.int v) (wat Λ (withz S a z) k) = wat Λ (withz S a (fs z k v)) k := by
  unfold withz
  by_cases h : a = 0
  · simp only [if_pos h]
    have e : wat Λ { S with w := fs z k v } k = wat Λ { S with w := fun _ => v } k := by unfold wat; simp only [fs_self]
    rw [e]; rfl
  · simp only [if_neg h]
    have e : wat Λ { S with h := fs z k v } k = wat Λ { S with h := fun _ => v } k := by unfold wat; simp only [fs_self]
    rw [e]; rfl
theorem Rep.setz {Λ : La} {H : AH} {k v : Int} (x : Rep Λ (withz S a z) H) (hk : S.Dm k) : Rep Λ (withz S a (fs z k v)) (H.set (Λ.jw k) (.inst 93 (lk (lkset (if a = 0 then ("width" : PySem.Str) else ("height" : PySem.Str)) (.int v) (wat Λ (withz S a z) k))))) := by
  rw [wat_set]
  refine x.upw (wz_dm.mpr hk) (by rw [wz_N, wz_N]) (by rw [wz_root, wz_root]) (fun k' _ => by rw [wz_kids, wz_kids]) fun k' _ hn => ?_
  unfold withz
  by_cases h : a = 0
  · simp only [if_pos h]; unfold wat; simp only [fs_ne hn]
  · simp only [if_neg h]; unfold wat; simp only [fs_ne hn]
end
noncomputable def stk (Z : Int → Int) (L : List Int) : List AV := L.map fun x => .tup [.int x, .int (Z x)]
theorem okds_stk {Z : Int → Int} : ∀ {L : List Int}, AV.okds 60 (stk Z L) = true
  | [] => rfl
  | x :: L => by
    show AV.okds 60 (AV.tup [.int x, .int (Z x)] :: stk Z L) = true
    rw [AV.okds, okds_stk, Bool.and_true]; rfl
noncomputable def asg : List Int → List Int → (Int → Int) → Int → Int
  | k :: ks, p :: ps, Z => fs (asg ks ps Z) k p
  | _, _, Z => Z
theorem asg_ne : ∀ {ks ps : List Int} {Z : Int → Int} {y : Int}, y ∉ ks → asg ks ps Z y = Z y
  | [], _, _, _, _ => by unfold asg; rfl
  | _ :: _, [], _, _, _ => by unfold asg; rfl
  | k :: ks, p :: ps, Z, y, h => by
    have yk : y ≠ k := fun e => h (by rw [e]; exact .head _)
    rw [asg, fs_ne yk, asg_ne fun q => h (.tail _ q)]
theorem asg_map : ∀ {ks ps : List Int} {Z : Int → Int}, ks.Nodup → ps.length = ks.length → ks.map (asg ks ps Z) = ps
  | [], ps, _, _, h => by rw [List.eq_nil_of_length_eq_zero h]; rfl
  | k :: ks, [], _, _, h => by simp at h
  | k :: ks, p :: ps, Z, hn, h => by
    rw [List.nodup_cons] at hn
    rw [List.map_cons, asg, fs_self]
    have ih := asg_map (Z := Z) hn.2 (by simpa using h : ps.length = ks.length)
    congr 1
    refine Eq.trans (List.map_congr_left fun y hy => fs_ne fun e => hn.1 (e ▸ hy)) ih
theorem pL_stk {f : Int → Int} : ∀ {ks : List Int}, pL (ks.zip (ks.map f)) = stk f ks
  | [] => rfl
  | k :: ks => by
    show AV.tup [.int k, .int (f k)] :: pL (ks.zip (ks.map f)) = AV.tup [.int k, .int (f k)] :: stk f ks
    rw [pL_stk]
/-- how far a new size has been handed down -/
structure SZ (S : St) (a n v : Int) (L : List Int) (Z z : Int → Int) : Prop where
  dm : ∀ x ∈ L, S.Dm x
  sub : ∀ x ∈ L.flatMap (pre S), x ∈ pre S n
  nd : (L.flatMap (pre S)).Nodup
  out : ∀ x, x ∉ pre S n → z x = sz S a x
  todo : ∀ x ∈ L.flatMap (pre S), z x = sz S a x
  done : ∀ x ∈ pre S n, x ∉ L.flatMap (pre S) → z x = Z x ∧ (S.sort x ≠ 0 → if al (S.sort x) = a then ((S.kids x).map Z).sum = Z x else ∀ c ∈ S.kids x, Z c = Z x) ∧ val S (leastL a) a x ≤ Z x ∧ Z x ≤ v
  up : ∀ x ∈ L, val S (leastL a) a x ≤ Z x ∧ Z x ≤ v
  top : Z n = v
theorem SZ.step {S : St} {rk : Int → Nat} (wf : Wf S rk) {a n v x : Int} (hn : S.Dm n) {L : List Int} {Z Z' z : Int → Int} (q : SZ S a n v (L ++ [x]) Z z) (h1 : ∀ y, y ∉ S.kids x → Z' y = Z y) (h2 : S.sort x ≠ 0 → if al (S.sort x) = a then ((S.kids x).map Z').sum = Z x else ∀ c ∈ S.kids x, Z' c = Z x)
    (h3 : ∀ c ∈ S.kids x, val S (leastL a) a c ≤ Z' c ∧ Z' c ≤ v) : SZ S a n v (L ++ S.kids x) Z' (fs z x (Z x)) := by
  have hx := q.dm x (List.mem_append_right _ (.head _))
  have e1 : (L ++ [x]).flatMap (pre S) = L.flatMap (pre S) ++ x :: (S.kids x).flatMap (pre S) := by rw [List.flatMap_append, List.flatMap_cons, List.flatMap_nil, List.append_nil, pre_eq wf hx]
  have e2 : (L ++ S.kids x).flatMap (pre S) = L.flatMap (pre S) ++ (S.kids x).flatMap (pre S) := List.flatMap_append
  have nd := q.nd
  rw [e1] at nd
  have nd' := List.nodup_append.mp nd
  have ndx := List.nodup_cons.mp nd'.2.1
  have hxL : x ∉ L.flatMap (pre S) := fun h => nd'.2.2 x h x (.head _) rfl
  have selfk : ∀ c ∈ S.kids x, c ∈ (S.kids x).flatMap (pre S) := fun c hc => List.mem_flatMap.mpr ⟨c, hc, by rw [pre_eq wf (wf.kd x hx c hc).1]; exact .head _⟩
  have selfL : ∀ y ∈ L, y ∈ L.flatMap (pre S) := fun y hy => List.mem_flatMap.mpr ⟨y, hy, by rw [pre_eq wf (q.dm y (List.mem_append_left _ hy))]; exact .head _⟩
  have xk : x ∉ S.kids x := fun h => ndx.1 (selfk x h)
  have Lk : ∀ y ∈ L, y ∉ S.kids x := fun y hy hk => nd'.2.2 y (selfL y hy) y (.tail _ (selfk y hk)) rfl
  have hxn : x ∈ pre S n := q.sub x (by rw [e1]; exact List.mem_append_right _ (.head _))
  refine ⟨fun y hy => ?_, fun y hy => ?_, ?_, fun y hy => ?_, fun y hy => ?_, fun y hy hn' => ?_, fun y hy => ?_, ?_⟩
  · rcases List.mem_append.mp hy with h | h
    · exact q.dm y (List.mem_append_left _ h)
    · exact (wf.kd x hx y h).1
  · refine q.sub y ?_
    rw [e2] at hy; rw [e1]
    rcases List.mem_append.mp hy with h | h
    · exact List.mem_append_left _ h
    · exact List.mem_append_right _ (.tail _ h)
  · rw [e2]
    exact List.nodup_append.mpr ⟨nd'.1, ndx.2, fun y hy w hw => nd'.2.2 y hy w (.tail _ hw)⟩
  · have yx : y ≠ x := fun e => hy (by rw [e]; exact hxn)
    rw [fs_ne yx]; exact q.out y hy
  · rw [e2] at hy
    have yx : y ≠ x := fun e => by
      subst e
      rcases List.mem_append.mp hy with h | h
      · exact hxL h
      · exact ndx.1 h
    rw [fs_ne yx]
    refine q.todo y ?_
    rw [e1]
    rcases List.mem_append.mp hy with h | h
    · exact List.mem_append_left _ h
    · exact List.mem_append_right _ (.tail _ h)
  · rw [e2] at hn'
    have yk : y ∉ S.kids x := fun h => hn' (List.mem_append_right _ (selfk y h))
    by_cases yx : y = x
    · subst yx
      rw [fs_self, h1 y yk]
      exact ⟨rfl, h2, q.up y (List.mem_append_right _ (.head _))⟩
    · rw [fs_ne yx, h1 y yk]
      have hd := q.done y hy (by
        rw [e1]
        intro h
        rcases List.mem_append.mp h with h | h
        · exact hn' (List.mem_append_left _ h)
        · rcases List.mem_cons.mp h with h | h
          · exact yx h
          · exact hn' (List.mem_append_right _ h))
      have ydm := (pre_dm wf _ n (Nat.le_refl _) hn y hy).1
      have kk : ∀ c ∈ S.kids y, c ∉ S.kids x := fun c hc hk => yx (((wf.kd y ydm c hc).2.1).symm.trans (wf.kd x hx c hk).2.1)
      refine ⟨hd.1, fun hs => ?_, hd.2.2⟩
      have := hd.2.1 hs
      split
      · rename_i ha
        rw [if_pos ha] at this
        rw [← this]; congr 1
        exact List.map_congr_left fun c hc => h1 c (kk c hc)
      · rename_i ha
        rw [if_neg ha] at this
        exact fun c hc => (h1 c (kk c hc)).trans (this c hc)
  · rcases List.mem_append.mp hy with h | h
    · rw [h1 y (Lk y h)]; exact q.up y (List.mem_append_left _ h)
    · exact h3 y h
  · rw [h1 n, q.top]
    intro hk
    have := (wf.kd x hx n hk).2.2.2
    rcases (pre_dm wf _ n (Nat.le_refl _) hn x hxn).2 with rfl | ⟨_, h, _⟩ <;> omega
end
-- C14
section
structure Rs (S : St) (a n v : Int) (z : Int → Int) : Prop where
  out : ∀ x, x ∉ pre S n → z x = sz S a x
  top : z n = v
  done : ∀ x ∈ pre S n, val S (leastL a) a x ≤ z x ∧ z x ≤ v ∧ (S.sort x ≠ 0 → if al (S.sort x) = a then ((S.kids x).map z).sum = z x else ∀ c ∈ S.kids x, z c = z x)
theorem kid_pre {S : St} {rk : Int → Nat} (wf : Wf S rk) : ∀ (k : Nat) {n : Int}, rk n ≤ k → S.Dm n → ∀ x ∈ pre S n, ∀ c ∈ S.kids x, c ∈ pre S n
  | k, n, hk, hn, x, hx, c, hc => by
    rw [pre_eq wf hn] at hx ⊢
    rcases List.mem_cons.mp hx with rfl | hx
    · exact .tail _ (List.mem_flatMap.mpr ⟨c, hc, by rw [pre_eq wf (wf.kd _ hn c hc).1]; exact .head _⟩)
    · obtain ⟨d, hd, hx⟩ := List.mem_flatMap.mp hx
      obtain ⟨d1, _, _, d4⟩ := wf.kd n hn d hd
      match k with
      | 0 => omega
      | k + 1 => exact .tail _ (List.mem_flatMap.mpr ⟨d, hd, kid_pre wf k (by walk_at "d") d1 x hx c hc⟩)
theorem SZ.rs {S : St} {rk : Int → Nat} (wf : Wf S rk) {a n v : Int} (hn : S.Dm n) {Z z : Int → Int} (q : SZ S a n v [] Z z) : Rs S a n v z := by
  have hd : ∀ x ∈ pre S n, _ := fun x hx => q.done x hx (by simp)
  refine ⟨q.out, ?_, fun x hx => ?_⟩
  · rw [(hd n (by rw [pre_eq wf hn]; exact .head _)).1, q.top]
  · obtain ⟨h1, h2, h3, h4⟩ := hd x hx
    rw [h1]
    refine ⟨h3, h4, fun hs => ?_⟩
    have := h2 hs
    have kz : ∀ c ∈ S.kids x, z c = Z c := fun c hc => (hd c (kid_pre wf _ (Nat.le_refl _) hn x hx c hc)).1
    split
    · rename_i ha
      rw [if_pos ha] at this
      rw [← this]; congr 1
      exact List.map_congr_left kz
    · rename_i ha
      rw [if_neg ha] at this
      exact fun c hc => (kz c hc).trans (this c hc)
theorem Rep.exti {Λ : La} {S : St} {H H' : AH} (x : Rep Λ S H) (e : Ext H H') : Rep Λ S H' := x.ext e
section
variable {b : Bd} {H : AH} {X : AH → Prop} {Q : AV → AH → Prop} {Λ : La} {S : St} {rk : Int → Nat}
theorem gm_size {j : Nat} {L : Lk} (hf : H.f j = .inst 93 (lk L)) (hn : lk L "size" = none) : GM H (.ref j) "size" (.ref 62) := .inst hf ok_window hn (fun _ => by kernel_rfl) (fun _ => by kernel_rfl) (fun _ => by kernel_rfl)
theorem gm_set_size {j : Nat} {L : Lk} (hf : H.f j = .inst 93 (lk L)) (hn : lk L "set_size" = none) : GM H (.ref j) "set_size" (.ref 69) := .inst hf ok_window hn (fun _ => by kernel_rfl) (fun _ => by kernel_rfl) (fun _ => by kernel_rfl)
theorem gm_place {j : Nat} {L : Lk} (hf : H.f j = .inst 93 (lk L)) (hn : lk L "place" = none) : GM H (.ref j) "place" (.ref 76) := .inst hf ok_window hn (fun _ => by kernel_rfl) (fun _ => by kernel_rfl) (fun _ => by kernel_rfl)
theorem sum_le {l : List Int} {c : Int} (h : ∀ x ∈ l, x ≤ c) : l.sum ≤ c * l.length := by
  induction l with
  | nil => simp
  | cons a r ih =>
    rw [List.sum_cons, List.length_cons]
    have := ih fun x hx => h x (.tail _ hx)
    have := h a (.head _)
    push_cast
    rw [Int.mul_add, Int.mul_one]; omega
theorem sum_ge0 {l : List Int} (h : ∀ x ∈ l, 0 ≤ x) : 0 ≤ l.sum := by
  induction l with
  | nil => simp
  | cons a r ih => rw [List.sum_cons]; have := ih fun x hx => h x (.tail _ hx); have := h a (.head _); omega
theorem le_sum {l : List Int} (h : ∀ x ∈ l, 0 ≤ x) : ∀ x ∈ l, x ≤ l.sum := by
  induction l with
  | nil => intro x hx; cases hx
  | cons a r ih =>
    intro x hx
    rw [List.sum_cons]
    have h0 := h a (.head _)
    have h1 := sum_ge0 fun y hy => h y (.tail _ hy)
    rcases List.mem_cons.mp hx with rfl | hx
    · omega
    · have := ih (fun y hy => h y (.tail _ hy)) x hx; omega
theorem zip_map_map {l : List Int} {f : Int → Int} {g : Int × Int → AV} : (l.zip (l.map f)).map g = l.map fun x => g (x, f x) := by
  induction l with
  | nil => rfl
  | cons a l ih => simp only [List.map_cons, List.zip_cons_cons, ih]
inductive JT (S : St) (Λ : La) (H : AH) (n a v : Int) (k : Nat) (m : Vars) (H1 : AH) : Prop
  | mk (L : List Int) (Z z : Int → Int) : m "tree" = some (.ref Λ.T) → m "waiting" = some (.ref H.n) → m "axis" = some (.int a) → ExI H H1 → H.n < H1.n → Rep Λ (withz S a z) H1 → H1.f H.n = .list (stk Z L) → SZ S a n v L Z z → k = (L.flatMap (pre S)).length → JT S Λ H n a v k m H1
inductive MT (S : St) (Λ : La) (H : AH) (a v x : Int) (z Z : Int → Int) (L0 : List Int) (m : Vars) (H4 : AH) : Prop
  | mk (Z' : Int → Int) : m "tree" = some (.ref Λ.T) → m "waiting" = some (.ref H.n) → m "axis" = some (.int a) → m "here" = some (.ref (Λ.jw x)) → m "much" = some (.int (Z x)) → ExI H H4 → H.n < H4.n → Rep Λ (withz S a z) H4 → H4.f H.n = .list (stk Z' (L0 ++ S.kids x)) →
      (∀ y, y ∉ S.kids x → Z' y = Z y) → (S.sort x ≠ 0 → if al (S.sort x) = a then ((S.kids x).map Z').sum = Z x else ∀ c ∈ S.kids x, Z' c = Z x) → (∀ c ∈ S.kids x, val S (leastL a) a c ≤ Z' c ∧ Z' c ≤ v) → MT S Λ H a v x z Z L0 m H4
inductive KT (S : St) (Λ : La) (H : AH) (a x : Int) (z Z : Int → Int) (L0 : List Int) (zp : List (Int × Int)) (i : Nat) (m : Vars) (H9 : AH) : Prop
  | mk : m "tree" = some (.ref Λ.T) → m "waiting" = some (.ref H.n) → m "axis" = some (.int a) → m "here" = some (.ref (Λ.jw x)) → m "much" = some (.int (Z x)) → ExI H H9 → H.n < H9.n → Rep Λ (withz S a z) H9 → H9.f H.n = .list (stk Z L0 ++ (pL zp).take i) → KT S Λ H a x z Z L0 zp i m H9
theorem c_set_tree_size (wf : Wf S rk) (rp : Rep Λ S H) {n a v : Int} (hn : S.Dm n) (ha : a = 0 ∨ a = 1) (hv : val S (leastL a) a n ≤ v) (hv2 : v ≤ 1000) (hs : ∀ x ∈ pre S n, val S (leastL a) a x ≤ sz S a x ∧ sz S a x ≤ 1000) (hb : 3 ≤ b.n)
    (h : ∀ H' z, Rep Λ (withz S a z) H' → ExI H H' → Rs S a n v z → Q .none H') : CL b (.ref 235) [.ref Λ.T, .int n, .int a, .int v] H Q X := by
  refine (CA_defs (names := ["tree", "number", "axis", "size"]) (fun _ => by with_unfolding_all rfl) (fun _ => by kernel_rfl) rfl rfl rfl rfl (by walk_at "b") (by decide) (by walk_at "d") ?_).cl
  intro sc hsc
  have hup : 0 < leastL a := by unfold leastL; split <;> decide
  have lay := rp.lay
  repeat walk_at "w"
  refine ⟨by simp, ?_⟩
  repeat walk_at "w"
  refine ⟨by simp, ?_⟩
  repeat walk_at "w"
  refine ES_while (JT S Λ H n a v) (n := ([n].flatMap (pre S)).length)
    ⟨[n], fun _ => v, sz S a, by walk_at "v", by walk_at "v", by walk_at "v", ExI.refl.alloc, Nat.lt_succ_self _, by rw [wz_self]; exact rp.alloc, al_self, ?_, rfl⟩ ?_
  · refine ⟨fun x hx => by rw [List.mem_singleton.mp hx]; exact hn, fun x hx => by simpa using hx, by simpa using pre_nodup wf _ n (Nat.le_refl _) hn, fun _ _ => rfl, fun _ _ => rfl, fun x hx hx2 => absurd (by simpa using hx) hx2, fun x hx => by rw [List.mem_singleton.mp hx]; exact ⟨hv, Int.le_refl _⟩, rfl⟩
  rintro k m H1 ⟨L, Z, z, mt, mw, ma, ex, lt, r1, fw, sq, rfl⟩
  refine ET_ne_nil ?_
  walk_at "w"
  refine ⟨_, _, rfl, fw, lt, okds_stk, ?_⟩
  rcases List.eq_nil_or_concat L with rfl | ⟨L0, x, rfl⟩
  · refine if_n (fun q => by simp [stk] at q) fun _ => ?_
    repeat walk_at "w"
    exact h _ z r1.alloc ex.alloc (sq.rs wf hn)
  rw [List.concat_eq_append] at *
  have hx := sq.dm x (List.mem_append_right _ (.head _))
  have e1 : (L0 ++ [x]).flatMap (pre S) = L0.flatMap (pre S) ++ x :: (S.kids x).flatMap (pre S) := by rw [List.flatMap_append, List.flatMap_cons, List.flatMap_nil, List.append_nil, pre_eq wf hx]
  have hlen : (L0.flatMap (pre S)).length + ((S.kids x).flatMap (pre S)).length < 13 := by
    have h1 := len_dm sq.nd fun y hy => (pre_dm wf _ n (Nat.le_refl _) hn y (sq.sub y hy)).1
    rw [e1, List.length_append, List.length_cons] at h1
    have := wf.N; omega
  have hL0 := st_len wf fun y hy => sq.dm y (List.mem_append_left _ hy)
  have hkl : (S.kids x).length ≤ ((S.kids x).flatMap (pre S)).length := st_len wf fun c hc => (wf.kd x hx c hc).1
  have hxr : ∀ y ∈ (S.kids x).flatMap (pre S), y ∈ pre S n ∧ z y = sz S a y := fun y hy => by
    have : y ∈ (L0 ++ [x]).flatMap (pre S) := by rw [e1]; exact List.mem_append_right _ (.tail _ hy)
    exact ⟨sq.sub y this, sq.todo y this⟩
  have hkx : ∀ c ∈ S.kids x, S.Dm c ∧ c ∈ pre S n ∧ z c = sz S a c := fun c hc => by
    have := hxr c (List.mem_flatMap.mpr ⟨c, hc, by rw [pre_eq wf (wf.kd x hx c hc).1]; exact .head _⟩)
    exact ⟨(wf.kd x hx c hc).1, this⟩
  obtain ⟨ux1, ux2⟩ := sq.up x (List.mem_append_right _ (.head _))
  refine if_n (fun _ => ?_) fun q => by rw [stk, List.map_append] at q; simp at q
  have fw2 : (H1.alloc (.list [])).f H.n = .list (stk Z L0 ++ [.tup [.int x, .int (Z x)]]) := by rw [al_lt lt, fw]; unfold stk; rw [List.map_append]; rfl
  have lt2 : H.n < (H1.alloc (.list [])).n := Nat.lt_succ_of_lt lt
  have ex2 := ex.alloc (o := .list [])
  have r2 := r1.alloc (o := .list [])
  revert fw2 lt2 ex2 r2
  generalize H1.alloc (.list []) = H2
  intro fw2 lt2 ex2 r2
  repeat walk_at "w"
  refine EV_method0 ?_
  walk_at "w"
  refine ⟨_, GM.list fw2 .pop, ?_⟩
  refine CL_pop fw2 (by simp [stk]; omega) ?_
  refine TA_tuple ?_ rfl
  refine TAs_cons ?_
  repeat walk_at "w"
  refine TAs_cons ?_
  repeat walk_at "w"
  refine TAs_nil ?_
  have ex3 : ExI H (H2.set H.n (.list (stk Z L0))) := ex2.new (Nat.le_refl _)
  have r3 : Rep Λ (withz S a z) (H2.set H.n (.list (stk Z L0))) := r2.setn (by rw [wz_N]; exact lay) (Nat.le_refl _)
  have fw3 : (H2.set H.n (.list (stk Z L0))).f H.n = .list (stk Z L0) := st_self
  have lt3 : H.n < (H2.set H.n (.list (stk Z L0))).n := lt2
  revert ex3 r3 fw3 lt3
  generalize H2.set H.n (.list (stk Z L0)) = H3
  intro ex3 r3 fw3 lt3
  have hx' : (withz S a z).Dm x := wz_dm.mpr hx
  repeat walk_at "w"
  refine ⟨_, _, _, _, rfl, r3.fT, rfl, rfl, ok_tree, ?_⟩
  repeat walk_at "w"
  refine SB_dict r3.fW (wl_get hx') ?_
  walk_at "w"
  walk_at "w"
  refine EX_if_mid (MT S Λ H a v x z Z L0) ?_ ?_
  · have so : (withz S a z).sort x = S.sort x := congrFun wz_sort x
    have ki : (withz S a z).kids x = S.kids x := congrFun wz_kids x
    have fc3 := r3.fc x hx'
    rw [ki] at fc3
    have hnk : (S.kids x).Nodup := wf.nd x hx
    have L0k : ∀ y ∈ L0, y ∉ S.kids x := fun y hy hk => by
      have nd := sq.nd
      rw [e1] at nd
      have s1 : y ∈ L0.flatMap (pre S) := List.mem_flatMap.mpr ⟨y, hy, by rw [pre_eq wf (sq.dm y (List.mem_append_left _ hy))]; exact .head _⟩
      have s2 : y ∈ (S.kids x).flatMap (pre S) := List.mem_flatMap.mpr ⟨y, hk, by rw [pre_eq wf (wf.kd x hx y hk).1]; exact .head _⟩
      exact (List.nodup_append.mp nd).2.2 y s1 y (.tail _ s2) rfl
    have stkL : ∀ parts : List Int, parts.length = (S.kids x).length → stk Z L0 ++ pL ((S.kids x).zip parts) = stk (asg (S.kids x) parts Z) (L0 ++ S.kids x) := fun parts hp => by
      unfold stk
      rw [List.map_append]
      congr 1
      · exact List.map_congr_left fun y hy => by rw [asg_ne (L0k y hy)]
      · have := pL_stk (f := asg (S.kids x) parts Z) (ks := S.kids x)
        rw [asg_map hnk hp] at this
        exact this
    have lc3 : Λ.jc x < H.n := (lay.2.2 x hx).2.1
    repeat walk_at "w"
    refine ⟨_, _, _, _, rfl, r3.fw x hx', rfl, rfl, ok_window, ?_⟩
    repeat walk_at "w"
    refine if_ne (fun hs0 => ?_) fun hs0 => ?_
    · rw [so] at hs0
      have hne : S.kids x ≠ [] := fun q => hs0 ((lf_iff wf hx).mpr q)
      have vx := val_eq wf (u := leastL a) (a := a) hx
      rw [if_neg hs0] at vx
      repeat walk_at "w"
      refine ⟨_, _, _, _, rfl, r3.fw x hx', rfl, rfl, ok_window, ?_⟩
      repeat walk_at "w"
      refine c_along (by walk_at "d") ?_
      repeat walk_at "w"
      refine if_eq (fun hal => ?_) fun hal => ?_
      · rw [so] at hal
        rw [if_pos hal] at vx
        walk_at "w"
        refine ES_comp_map (by walk_at "co") (by walk_at "k") ?_ (by walk_at "k") (by walk_at "k")
        repeat walk_at "w"
        refine ⟨_, _, _, _, rfl, r3.fw x hx', rfl, rfl, ok_window, ?_⟩
        refine ⟨_, _, rfl, fc3, Nat.lt_trans lc3 lt3, by omega, fun c => .int (val S (leastL a) a c), fun c hc H4 e4 => ?_, fun H4 e4 => ?_⟩
        · repeat walk_at "w"
          refine c_least_size wf.wz (r3.ext e4) (wz_dm.mpr (hkx c hc).1) (by walk_at "d") fun H5 e5 => ⟨by rw [wz_val], e5⟩
        have em : (S.kids x).map (fun c => AV.int (val S (leastL a) a c)) = iL ((S.kids x).map (val S (leastL a) a)) := by unfold iL; rw [List.map_map]; rfl
        rw [em]
        have e5 := e4.alloc (o := .list (iL ((S.kids x).map (val S (leastL a) a))))
        have fl5 : (H4.alloc (.list (iL ((S.kids x).map (val S (leastL a) a))))).f H4.n = .list (iL ((S.kids x).map (val S (leastL a) a))) := al_self
        have ll5 : H4.n < (H4.alloc (.list (iL ((S.kids x).map (val S (leastL a) a))))).n := Nat.lt_succ_self _
        have g5 := e4.le
        revert e5 fl5 ll5 g5
        generalize H4.alloc (.list (iL ((S.kids x).map (val S (leastL a) a)))) = H5
        generalize H4.n = jl
        intro e5 fl5 ll5 g5
        have r5 := r3.ext e5
        repeat walk_at "w"
        refine ES_comp_zip (by walk_at "co") (by walk_at "k") (by walk_at "k") ⟨by walk_at "k", ?_⟩ (by walk_at "k") (by walk_at "k")
        repeat walk_at "w"
        refine ⟨_, _, _, _, rfl, r5.fw x hx', rfl, rfl, ok_window, ?_⟩
        repeat walk_at "w"
        have lcH5 : Λ.jc x < H5.n := Nat.lt_of_lt_of_le (Nat.lt_trans lc3 lt3) e5.le
        refine ⟨_, _, _, _, rfl, rfl, (e5.f _ (Nat.lt_trans lc3 lt3)).trans fc3, fl5, lcH5, ll5, by rw [List.length_zip]; omega, fun p => .int (z p.1 - p.2), fun p hp H6 e6 => ?_, fun H6 e6 => ?_⟩
        · have hc := (List.of_mem_zip (a := p.1) (b := p.2) hp).1
          have r6 := r5.ext e6
          have hd' : (withz S a z).Dm p.1 := wz_dm.mpr (hkx _ hc).1
          repeat walk_at "w"
          refine EV_method ?_
          repeat walk_at "w"
          refine ⟨_, _, _, _, rfl, r6.fT, rfl, rfl, ok_tree, ?_⟩
          repeat walk_at "w"
          refine SB_dict r6.fW (wl_get hd') ?_
          refine ⟨_, gm_size (r6.fw _ hd') rfl, ?_⟩
          repeat walk_at "w"
          refine c_size (by walk_at "d") (r6.fw _ hd') ?_
          repeat walk_at "w"
          exact ⟨by rw [wz_sz], Ext.refl⟩
        have em2 : ((S.kids x).zip ((S.kids x).map (val S (leastL a) a))).map (fun p => AV.int (z p.1 - p.2)) = iL ((S.kids x).map fun c => z c - val S (leastL a) a c) := by
          rw [zip_map_map]; unfold iL; rw [List.map_map]; rfl
        rw [em2]
        have e7 := e6.alloc (o := .list (iL ((S.kids x).map fun c => z c - val S (leastL a) a c)))
        have fs7 : (H6.alloc (.list (iL ((S.kids x).map fun c => z c - val S (leastL a) a c)))).f H6.n = .list (iL ((S.kids x).map fun c => z c - val S (leastL a) a c)) := al_self
        have ls7 : H6.n < (H6.alloc (.list (iL ((S.kids x).map fun c => z c - val S (leastL a) a c)))).n := Nat.lt_succ_self _
        revert e7 fs7 ls7
        generalize H6.alloc (.list (iL ((S.kids x).map fun c => z c - val S (leastL a) a c))) = H7
        generalize H6.n = js
        intro e7 fs7 ls7
        have r7 := r5.ext e7
        have e37 := e5.trans e7
        -- the numbers
        have hval : ∀ c ∈ S.kids x, 0 < val S (leastL a) a c := fun c hc => val_pos wf hup c (hkx c hc).1
        have hspare : ∀ c ∈ S.kids x, 0 ≤ z c - val S (leastL a) a c ∧ z c - val S (leastL a) a c ≤ 1000 := fun c hc => by
          obtain ⟨k1, k2, k3⟩ := hkx c hc
          obtain ⟨k4, k5⟩ := hs c k2
          have := hval c hc
          omega
        have s0 : 0 ≤ ((S.kids x).map fun c => z c - val S (leastL a) a c).sum := sum_ge0 fun y hy => by
          obtain ⟨c, hc, rfl⟩ := List.mem_map.mp hy; exact (hspare c hc).1
        have s1 : ((S.kids x).map fun c => z c - val S (leastL a) a c).sum < 1000000 := by
          have := sum_le (l := (S.kids x).map fun c => z c - val S (leastL a) a c) (c := 1000) fun y hy => by
            obtain ⟨c, hc, rfl⟩ := List.mem_map.mp hy; exact (hspare c hc).2
          rw [List.length_map] at this
          omega
        have s2 : 0 ≤ ((S.kids x).map (val S (leastL a) a)).sum := sum_ge0 fun y hy => by
          obtain ⟨c, hc, rfl⟩ := List.mem_map.mp hy; exact Int.le_of_lt (hval c hc)
        repeat walk_at "w"
        refine ES_for_zip (by walk_at "k") (by walk_at "k") ⟨by walk_at "k", ?_⟩
        repeat walk_at "w"
        refine ⟨_, _, _, _, rfl, r7.fw x hx', rfl, rfl, ok_window, ?_⟩
        repeat walk_at "w"
        refine c_shares fs7 ((e7.f _ ll5).trans fl5) ls7 (Nat.lt_of_lt_of_le ll5 e7.le) (by rw [List.length_map]; omega) (by simpa using hne) s0 s1 (by walk_at "d") (by walk_at "d") fun H8 rr e8 q1 q2 fr => ?_
        have hpl : (sharesF (Z x) ((S.kids x).map fun c => z c - val S (leastL a) a c) ((S.kids x).map (val S (leastL a) a))).length = (S.kids x).length := by rw [sharesF_len (by simp)]; simp
        have psum := sharesF_sum (t := Z x) s0 (by simp : ((S.kids x).map fun c => z c - val S (leastL a) a c).length = ((S.kids x).map (val S (leastL a) a)).length) (by simpa using hne)
        have pge : ∀ (i : Nat) (l v' : Int), ((S.kids x).map (val S (leastL a) a))[i]? = some l → (sharesF (Z x) ((S.kids x).map fun c => z c - val S (leastL a) a c) ((S.kids x).map (val S (leastL a) a)))[i]? = some v' → l ≤ v' := fun i l v' g1 g2 =>
          sharesF_ge (fun w hw => by obtain ⟨c, hc, rfl⟩ := List.mem_map.mp hw; exact (hspare c hc).1) (by rw [← vx]; exact ux1) (by simp) g1 g2
        generalize sharesF (Z x) ((S.kids x).map fun c => z c - val S (leastL a) a c) ((S.kids x).map (val S (leastL a) a)) = parts at *
        have e38 := e37.trans e8
        have r8 := r3.ext e38
        have ex8 := ex3.trans e38.i
        have lc8 : Λ.jc x < H8.n := Nat.lt_of_lt_of_le (Nat.lt_trans lc3 lt3) e38.le
        have lt8 : H.n < H8.n := Nat.lt_of_lt_of_le lt3 e38.le
        have rrH : H.n < rr := by have := e37.le; omega
        refine ⟨_, _, _, _, rfl, rfl, (e38.f _ (Nat.lt_trans lc3 lt3)).trans fc3, fr, lc8, q2,
          KT S Λ H a x z Z L0 ((S.kids x).zip parts),
          ⟨by walk_at "v", by walk_at "v", by walk_at "v", by walk_at "v", by walk_at "v", ex8, lt8, r8, by rw [e38.f _ lt3, fw3]; simp⟩, ?_, ?_⟩
        · rintro i p m1 H9 hp ⟨n1, n2, n3, n4, n5, ex9, lt9, r9, fw9⟩ ⟨hs1, hs2⟩
          have hil : i < (S.kids x).length := by
            rcases Nat.lt_or_ge i (S.kids x).length with q | q
            · exact q
            · rw [List.getElem?_eq_none (by rw [List.length_zip]; omega)] at hp; cases hp
          repeat walk_at "w"
          refine EV_method ?_
          repeat walk_at "w"
          refine ⟨_, GM.list fw9 .append, ?_⟩
          repeat walk_at "w"
          refine ⟨by simp, ?_⟩
          repeat walk_at "w"
          refine CL_append fw9 (by rw [List.length_append, List.length_take, pL_len, List.length_zip]; unfold stk; rw [List.length_map]; omega) ?_
          repeat walk_at "w"
          refine ⟨⟨by rw [st_ne (by walk_at "d")]; exact hs1, by rw [st_ne (by walk_at "d")]; exact hs2⟩, by walk_at "v", by walk_at "v", by walk_at "v", by walk_at "v", by walk_at "v", ex9.new (Nat.le_refl _), lt9, r9.setn (by rw [wz_N]; exact lay) (Nat.le_refl _), ?_⟩
          rw [st_self, List.append_assoc]
          have hpg : (pL ((S.kids x).zip parts))[i]? = some (.tup [.int p.1, .int p.2]) := by unfold pL; rw [List.getElem?_map, hp]; rfl
          rw [take_get hpg]
        · rintro m1 H9 ⟨n1, n2, n3, n4, n5, ex9, lt9, r9, fw9⟩
          rw [← pL_len, List.take_length, stkL parts hpl] at fw9
          have am := asg_map (Z := Z) hnk hpl
          repeat walk_at "w"
          refine ⟨asg (S.kids x) parts Z, n1, n2, n3, n4, n5, ex9, lt9, r9, fw9, fun y hy => asg_ne hy, fun _ => ?_, fun c hc => ?_⟩
          · rw [if_pos hal, am, psum]
          · obtain ⟨i, hi⟩ := List.getElem?_of_mem hc
            have g2 : parts[i]? = some (asg (S.kids x) parts Z c) := by
              have : ((S.kids x).map (asg (S.kids x) parts Z))[i]? = some (asg (S.kids x) parts Z c) := by rw [List.getElem?_map, hi]; rfl
              rwa [am] at this
            have g1 : ((S.kids x).map (val S (leastL a) a))[i]? = some (val S (leastL a) a c) := by rw [List.getElem?_map, hi]; rfl
            refine ⟨pge i _ _ g1 g2, ?_⟩
            have pp : ∀ y ∈ parts, 0 ≤ y := fun y hy => by
              obtain ⟨i', hi'⟩ := List.getElem?_of_mem hy
              have hl' : i' < (S.kids x).length := by
                rcases Nat.lt_or_ge i' parts.length with q | q
                · omega
                · rw [List.getElem?_eq_none q] at hi'; cases hi'
              have g3 : ((S.kids x).map (val S (leastL a) a))[i']? = some (val S (leastL a) a (S.kids x)[i']) := by rw [List.getElem?_map, List.getElem?_eq_getElem hl']; rfl
              have := pge i' _ _ g3 hi'
              have := hval _ (List.getElem_mem hl')
              omega
            have := le_sum pp _ (List.mem_of_getElem? g2)
            rw [psum] at this
            omega
      · rw [so] at hal
        rw [if_neg hal] at vx
        walk_at "w"
        refine ES_for_ints (by walk_at "k") ?_
        repeat walk_at "w"
        refine ⟨_, _, _, _, rfl, r3.fw x hx', rfl, rfl, ok_window, ?_⟩
        have hcl : ((S.kids x).map fun _ => Z x).length = (S.kids x).length := by simp
        refine ⟨_, _, rfl, fc3, KT S Λ H a x z Z L0 ((S.kids x).zip ((S.kids x).map fun _ => Z x)),
          ⟨by walk_at "v", by walk_at "v", by walk_at "v", by walk_at "v", by walk_at "v", ex3, lt3, r3, by rw [fw3]; simp⟩, ?_, ?_⟩
        · rintro i c m1 H9 hc ⟨n1, n2, n3, n4, n5, ex9, lt9, r9, fw9⟩ hsrc
          have hil : i < (S.kids x).length := by
            rcases Nat.lt_or_ge i (S.kids x).length with q | q
            · exact q
            · rw [List.getElem?_eq_none q] at hc; cases hc
          repeat walk_at "w"
          refine EV_method ?_
          repeat walk_at "w"
          refine ⟨_, GM.list fw9 .append, ?_⟩
          repeat walk_at "w"
          refine ⟨by simp, ?_⟩
          repeat walk_at "w"
          refine CL_append fw9 (by rw [List.length_append, List.length_take, pL_len, List.length_zip]; unfold stk; rw [List.length_map]; omega) ?_
          repeat walk_at "w"
          refine ⟨by rw [st_ne (by walk_at "d")]; exact hsrc, by walk_at "v", by walk_at "v", by walk_at "v", by walk_at "v", by walk_at "v", ex9.new (Nat.le_refl _), lt9, r9.setn (by rw [wz_N]; exact lay) (Nat.le_refl _), ?_⟩
          rw [st_self, List.append_assoc]
          have hz : ((S.kids x).zip ((S.kids x).map fun _ => Z x))[i]? = some (c, Z x) := List.getElem?_zip_eq_some.mpr ⟨hc, by rw [List.getElem?_map, hc]; rfl⟩
          have hpg : (pL ((S.kids x).zip ((S.kids x).map fun _ => Z x)))[i]? = some (.tup [.int c, .int (Z x)]) := by unfold pL; rw [List.getElem?_map, hz]; rfl
          rw [take_get hpg]
        · rintro m1 H9 ⟨n1, n2, n3, n4, n5, ex9, lt9, r9, fw9⟩
          have hle : (pL ((S.kids x).zip ((S.kids x).map fun _ => Z x))).length ≤ (S.kids x).length := by rw [pL_len, List.length_zip]; omega
          rw [List.take_of_length_le hle, stkL _ hcl] at fw9
          have am := asg_map (Z := Z) hnk hcl
          have ac : ∀ c ∈ S.kids x, asg (S.kids x) ((S.kids x).map fun _ => Z x) Z c = Z x := List.map_inj_left.mp am
          repeat walk_at "w"
          refine ⟨_, n1, n2, n3, n4, n5, ex9, lt9, r9, fw9, fun y hy => asg_ne hy, fun _ => ?_, fun c hc => ?_⟩
          · rw [if_neg hal]; exact ac
          · rw [ac c hc]
            have := mx_ge (l := (S.kids x).map (val S (leastL a) a)) _ (List.mem_map_of_mem hc)
            omega
    · rw [so] at hs0
      have hk0 := (lf_iff wf hx).mp hs0
      repeat walk_at "w"
      refine ⟨Z, by walk_at "v", by walk_at "v", by walk_at "v", by walk_at "v", by walk_at "v", ex3, lt3, r3, by rw [hk0, List.append_nil]; exact fw3, fun _ _ => rfl, fun q => absurd hs0 q, fun c hc => by rw [hk0] at hc; cases hc⟩
  rintro m4 H4 ⟨Z', m1, m2, m3, m4', m5, ex4, lt4, r4, fw4, z1, z2, z3⟩
  repeat walk_at "w"
  refine EV_method ?_
  walk_at "w"
  refine ⟨_, gm_set_size (r4.fw x hx') rfl, ?_⟩
  repeat walk_at "w"
  refine c_set_size (by walk_at "d") (r4.fw x hx') ?_
  repeat walk_at "w"
  have fx := r4.fw x hx'
  refine ⟨_, ?_, L0 ++ S.kids x, Z', fs z x (Z x), by walk_at "v", by walk_at "v", by walk_at "v", ex4.set fx, lt4, r4.setz hx, ?_, sq.step wf hn z1 z2 z3, rfl⟩
  · rw [e1, List.flatMap_append]; simp
  · rw [st_ne (fun q => by rw [q, fx] at fw4; cases fw4)]; exact fw4
end
end
-- C15
section
noncomputable def withp (S : St) (p1 p2 : Int → Int) : St := { S with l := p1, t := p2 }
noncomputable def ofl (S : St) (x : Int) (i : Nat) (l : Int) : Int := if al (S.sort x) = 0 then l + (((S.kids x).take i).map S.w).sum else l
noncomputable def oft (S : St) (x : Int) (i : Nat) (t : Int) : Int := if al (S.sort x) = 0 then t else t + (((S.kids x).take i).map S.h).sum
theorem Wf.wp {S : St} {rk : Int → Nat} {p1 p2 : Int → Int} (wf : Wf S rk) : Wf (withp S p1 p2) rk := ⟨wf.N, wf.root, wf.rp, wf.so, wf.kd, wf.nd, wf.up, wf.rb, wf.bf⟩
theorem Rep.setl {Λ : La} {S : St} {H : AH} {k v : Int} (x : Rep Λ S H) (hk : S.Dm k) : Rep Λ { S with l := fs S.l k v } (H.set (Λ.jw k) (.inst 93 (lk (lkset "left" (.int v) (wat Λ S k))))) := by
  have e : lkset "left" (.int v) (wat Λ S k) = wat Λ { S with l := fs S.l k v } k := by
    have e : wat Λ { S with l := fs S.l k v } k = wat Λ { S with l := fun _ => v } k := by unfold wat; simp only [fs_self]
    rw [e]; rfl
  rw [e]
  exact x.upw (S' := { S with l := fs S.l k v }) hk rfl rfl (fun _ _ => rfl) fun k' _ hn => by unfold wat; simp only [fs_ne hn]
theorem Rep.sett {Λ : La} {S : St} {H : AH} {k v : Int} (x : Rep Λ S H) (hk : S.Dm k) : Rep Λ { S with t := fs S.t k v } (H.set (Λ.jw k) (.inst 93 (lk (lkset "top" (.int v) (wat Λ S k))))) := by
  have e : lkset "top" (.int v) (wat Λ S k) = wat Λ { S with t := fs S.t k v } k := by
    have e : wat Λ { S with t := fs S.t k v } k = wat Λ { S with t := fun _ => v } k := by unfold wat; simp only [fs_self]
    rw [e]; rfl
  rw [e]
  exact x.upw (S' := { S with t := fs S.t k v }) hk rfl rfl (fun _ _ => rfl) fun k' _ hn => by unfold wat; simp only [fs_ne hn]
structure PZ (S : St) (L : List Int) (P1 P2 p1 p2 : Int → Int) : Prop where
  dm : ∀ x ∈ L, S.Dm x
  sub : ∀ x ∈ L.flatMap (pre S), x ∈ pre S S.root
  nd : (L.flatMap (pre S)).Nodup
  done : ∀ x ∈ pre S S.root, x ∉ L.flatMap (pre S) → p1 x = P1 x ∧ p2 x = P2 x ∧ ∀ (i : Nat) (c : Int), (S.kids x)[i]? = some c → P1 c = ofl S x i (P1 x) ∧ P2 c = oft S x i (P2 x)
  top : P1 S.root = 0 ∧ P2 S.root = 0
theorem PZ.step {S : St} {rk : Int → Nat} (wf : Wf S rk) {x : Int} {L : List Int} {P1 P2 P1' P2' p1 p2 : Int → Int} (q : PZ S (L ++ [x]) P1 P2 p1 p2) (h1 : ∀ y, y ∉ S.kids x → P1' y = P1 y ∧ P2' y = P2 y)
    (h2 : ∀ (i : Nat) (c : Int), (S.kids x)[i]? = some c → P1' c = ofl S x i (P1 x) ∧ P2' c = oft S x i (P2 x)) : PZ S (L ++ S.kids x) P1' P2' (fs p1 x (P1 x)) (fs p2 x (P2 x)) := by
  have hx := q.dm x (List.mem_append_right _ (.head _))
  have e1 : (L ++ [x]).flatMap (pre S) = L.flatMap (pre S) ++ x :: (S.kids x).flatMap (pre S) := by rw [List.flatMap_append, List.flatMap_cons, List.flatMap_nil, List.append_nil, pre_eq wf hx]
  have e2 : (L ++ S.kids x).flatMap (pre S) = L.flatMap (pre S) ++ (S.kids x).flatMap (pre S) := List.flatMap_append
  have nd := q.nd
  rw [e1] at nd
  have nd' := List.nodup_append.mp nd
  have ndx := List.nodup_cons.mp nd'.2.1
  have selfk : ∀ c ∈ S.kids x, c ∈ (S.kids x).flatMap (pre S) := fun c hc => List.mem_flatMap.mpr ⟨c, hc, by rw [pre_eq wf (wf.kd x hx c hc).1]; exact .head _⟩
  have hxn : x ∈ pre S S.root := q.sub x (by rw [e1]; exact List.mem_append_right _ (.head _))
  refine ⟨fun y hy => ?_, fun y hy => ?_, ?_, fun y hy hn' => ?_, ?_⟩
  · rcases List.mem_append.mp hy with h | h
    · exact q.dm y (List.mem_append_left _ h)
    · exact (wf.kd x hx y h).1
  · refine q.sub y ?_
    rw [e2] at hy; rw [e1]
    rcases List.mem_append.mp hy with h | h
    · exact List.mem_append_left _ h
    · exact List.mem_append_right _ (.tail _ h)
  · rw [e2]
    exact List.nodup_append.mpr ⟨nd'.1, ndx.2, fun y hy w hw => nd'.2.2 y hy w (.tail _ hw)⟩
  · rw [e2] at hn'
    have yk : y ∉ S.kids x := fun h => hn' (List.mem_append_right _ (selfk y h))
    by_cases yx : y = x
    · subst yx
      rw [fs_self, fs_self, (h1 y yk).1, (h1 y yk).2]
      exact ⟨rfl, rfl, h2⟩
    · rw [fs_ne yx, fs_ne yx, (h1 y yk).1, (h1 y yk).2]
      have hd := q.done y hy (by
        rw [e1]
        intro h
        rcases List.mem_append.mp h with h | h
        · exact hn' (List.mem_append_left _ h)
        · rcases List.mem_cons.mp h with h | h
          · exact yx h
          · exact hn' (List.mem_append_right _ h))
      have ydm := (pre_dm wf _ S.root (Nat.le_refl _) wf.root y hy).1
      refine ⟨hd.1, hd.2.1, fun i c hc => ?_⟩
      have kk : c ∉ S.kids x := fun hk => yx (((wf.kd y ydm c (List.mem_of_getElem? hc)).2.1).symm.trans (wf.kd x hx c hk).2.1)
      rw [(h1 c kk).1, (h1 c kk).2]
      exact hd.2.2 i c hc
  · have hr : S.root ∉ S.kids x := fun hk => by
      have := (wf.kd x hx _ hk).2.1
      rw [wf.rp] at this
      have := hx.1; omega
    rw [(h1 _ hr).1, (h1 _ hr).2]; exact q.top
noncomputable def stk3 (P1 P2 : Int → Int) (L : List Int) : List AV := L.map fun x => .tup [.int x, .int (P1 x), .int (P2 x)]
theorem okds_stk3 {P1 P2 : Int → Int} : ∀ {L : List Int}, AV.okds 60 (stk3 P1 P2 L) = true
  | [] => rfl
  | x :: L => by
    show AV.okds 60 (AV.tup [.int x, .int (P1 x), .int (P2 x)] :: stk3 P1 P2 L) = true
    rw [AV.okds, okds_stk3, Bool.and_true]; rfl
/-- the places that follow from the sizes -/
structure Ps (S : St) (p1 p2 : Int → Int) : Prop where
  top : p1 S.root = 0 ∧ p2 S.root = 0
  kid : ∀ x ∈ pre S S.root, ∀ (i : Nat) (c : Int), (S.kids x)[i]? = some c → p1 c = ofl S x i (p1 x) ∧ p2 c = oft S x i (p2 x)
theorem PZ.ps {S : St} {rk : Int → Nat} (wf : Wf S rk) {P1 P2 p1 p2 : Int → Int} (q : PZ S [] P1 P2 p1 p2) : Ps S p1 p2 := by
  have hd : ∀ x ∈ pre S S.root, _ := fun x hx => q.done x hx (by simp)
  have hr := hd S.root (by rw [pre_eq wf wf.root]; exact .head _)
  refine ⟨⟨hr.1.trans q.top.1, hr.2.1.trans q.top.2⟩, fun x hx i c hc => ?_⟩
  obtain ⟨h1, h2, h3⟩ := hd x hx
  obtain ⟨k1, k2, _⟩ := hd c (kid_pre wf _ (Nat.le_refl _) wf.root x hx c (List.mem_of_getElem? hc))
  rw [h1, h2, k1, k2]
  exact h3 i c hc
theorem idx_nd : ∀ {l : List Int} {i : Nat} {c : Int}, l.Nodup → l[i]? = some c → l.idxOf c = i
  | [], i, c, _, h => by simp at h
  | a :: l, 0, c, _, h => by
    have : a = c := by simpa using h
    subst this; simp
  | a :: l, i + 1, c, hn, h => by
    rw [List.nodup_cons] at hn
    have h' : l[i]? = some c := by simpa using h
    have : a ≠ c := fun e => hn.1 (e ▸ List.mem_of_getElem? h')
    rw [List.idxOf_cons, idx_nd hn.2 h']
    have e : (a == c) = false := by simpa using this
    rw [e]; rfl
section
variable {b : Bd} {H : AH} {X : AH → Prop} {Q : AV → AH → Prop} {Λ : La} {S : St} {rk : Int → Nat}
inductive JP (S : St) (Λ : La) (H : AH) (k : Nat) (m : Vars) (H1 : AH) : Prop
  | mk (L : List Int) (P1 P2 p1 p2 : Int → Int) : m "tree" = some (.ref Λ.T) → m "waiting" = some (.ref H.n) → ExI H H1 → H.n < H1.n → Rep Λ (withp S p1 p2) H1 → H1.f H.n = .list (stk3 P1 P2 L) → PZ S L P1 P2 p1 p2 → k = (L.flatMap (pre S)).length → JP S Λ H k m H1
inductive KP (S : St) (Λ : La) (H : AH) (x : Int) (p1 p2 P1 P2 : Int → Int) (L0 : List Int) (i : Nat) (m : Vars) (H9 : AH) : Prop
  | mk : m "tree" = some (.ref Λ.T) → m "waiting" = some (.ref H.n) → m "here" = some (.ref (Λ.jw x)) → m "left" = some (.int (ofl S x i (P1 x))) → m "top" = some (.int (oft S x i (P2 x))) → ExI H H9 → H.n < H9.n → Rep Λ (withp S (fs p1 x (P1 x)) (fs p2 x (P2 x))) H9 →
      H9.f H.n = .list (stk3 P1 P2 L0 ++ ((S.kids x).take i).map fun c => .tup [.int c, .int (ofl S x ((S.kids x).idxOf c) (P1 x)), .int (oft S x ((S.kids x).idxOf c) (P2 x))]) → KP S Λ H x p1 p2 P1 P2 L0 i m H9
theorem c_set_places (wf : Wf S rk) (rp : Rep Λ S H) (hb : 2 ≤ b.n) (h : ∀ H' p1 p2, Rep Λ (withp S p1 p2) H' → ExI H H' → Ps S p1 p2 → Q .none H') : CL b (.ref 242) [.ref Λ.T] H Q X := by
  refine (CA_defs (names := ["tree"]) (fun _ => by with_unfolding_all rfl) (fun _ => by kernel_rfl) rfl rfl rfl rfl (by walk_at "b") (by decide) (by walk_at "d") ?_).cl
  intro sc hsc
  have lay := rp.lay
  repeat walk_at "w"
  refine ⟨_, _, _, _, rfl, rp.fT, rfl, rfl, ok_tree, ?_⟩
  repeat walk_at "w"
  refine ⟨by simp, ?_⟩
  repeat walk_at "w"
  refine ⟨by simp, ?_⟩
  repeat walk_at "w"
  refine ES_while (JP S Λ H) (n := ([S.root].flatMap (pre S)).length)
    ⟨[S.root], fun _ => 0, fun _ => 0, S.l, S.t, by walk_at "v", by walk_at "v", ExI.refl.alloc, Nat.lt_succ_self _, rp.alloc, al_self, ?_, rfl⟩ ?_
  · exact ⟨fun x hx => by rw [List.mem_singleton.mp hx]; exact wf.root, fun x hx => by simpa using hx, by simpa using pre_nodup wf _ _ (Nat.le_refl _) wf.root, fun x hx hx2 => absurd (by simpa using hx) hx2, rfl, rfl⟩
  rintro k m H1 ⟨L, P1, P2, p1, p2, mt, mw, ex, lt, r1, fw, sq, rfl⟩
  refine ET_ne_nil ?_
  walk_at "w"
  refine ⟨_, _, rfl, fw, lt, okds_stk3, ?_⟩
  rcases List.eq_nil_or_concat L with rfl | ⟨L0, x, rfl⟩
  · refine if_n (fun q => by simp [stk3] at q) fun _ => ?_
    walk_at "w"
    repeat walk_at "w"
    exact h _ p1 p2 r1.alloc ex.alloc (sq.ps wf)
  rw [List.concat_eq_append] at *
  have hx := sq.dm x (List.mem_append_right _ (.head _))
  have e1 : (L0 ++ [x]).flatMap (pre S) = L0.flatMap (pre S) ++ x :: (S.kids x).flatMap (pre S) := by rw [List.flatMap_append, List.flatMap_cons, List.flatMap_nil, List.append_nil, pre_eq wf hx]
  have hlen : (L0.flatMap (pre S)).length + ((S.kids x).flatMap (pre S)).length < 13 := by
    have h1 := len_dm sq.nd fun y hy => (pre_dm wf _ _ (Nat.le_refl _) wf.root y (sq.sub y hy)).1
    rw [e1, List.length_append, List.length_cons] at h1
    have := wf.N; omega
  have hL0 := st_len wf fun y hy => sq.dm y (List.mem_append_left _ hy)
  have hkl : (S.kids x).length ≤ ((S.kids x).flatMap (pre S)).length := st_len wf fun c hc => (wf.kd x hx c hc).1
  refine if_n (fun _ => ?_) fun q => by rw [stk3, List.map_append] at q; simp at q
  have fw2 : (H1.alloc (.list [])).f H.n = .list (stk3 P1 P2 L0 ++ [.tup [.int x, .int (P1 x), .int (P2 x)]]) := by rw [al_lt lt, fw]; unfold stk3; rw [List.map_append]; rfl
  have lt2 : H.n < (H1.alloc (.list [])).n := Nat.lt_succ_of_lt lt
  have ex2 := ex.alloc (o := .list [])
  have r2 := r1.alloc (o := .list [])
  revert fw2 lt2 ex2 r2
  generalize H1.alloc (.list []) = H2
  intro fw2 lt2 ex2 r2
  repeat walk_at "w"
  refine EV_method0 ?_
  walk_at "w"
  refine ⟨_, GM.list fw2 .pop, ?_⟩
  refine CL_pop fw2 (by simp [stk3]; omega) ?_
  refine TA_tuple ?_ rfl
  refine TAs_cons ?_
  repeat walk_at "w"
  refine TAs_cons ?_
  repeat walk_at "w"
  refine TAs_cons ?_
  repeat walk_at "w"
  refine TAs_nil ?_
  have ex3 : ExI H (H2.set H.n (.list (stk3 P1 P2 L0))) := ex2.new (Nat.le_refl _)
  have r3 : Rep Λ (withp S p1 p2) (H2.set H.n (.list (stk3 P1 P2 L0))) := r2.setn lay (Nat.le_refl _)
  have fw3 : (H2.set H.n (.list (stk3 P1 P2 L0))).f H.n = .list (stk3 P1 P2 L0) := st_self
  have lt3 : H.n < (H2.set H.n (.list (stk3 P1 P2 L0))).n := lt2
  revert ex3 r3 fw3 lt3
  generalize H2.set H.n (.list (stk3 P1 P2 L0)) = H3
  intro ex3 r3 fw3 lt3
  have hx' : (withp S p1 p2).Dm x := hx
  repeat walk_at "w"
  refine ⟨_, _, _, _, rfl, r3.fT, rfl, rfl, ok_tree, ?_⟩
  repeat walk_at "w"
  refine SB_dict r3.fW (wl_get hx') ?_
  repeat walk_at "w"
  refine ⟨by simp, ?_⟩
  refine TA_tuple ?_ rfl
  refine TAs_cons ?_
  repeat walk_at "w"
  refine ⟨_, _, _, rfl, r3.fw x hx', ok_window, ?_⟩
  rw [upd_set]
  have ex4 := ex3.set (o := .inst 93 (lk (lkset "left" (.int (P1 x)) (wat Λ (withp S p1 p2) x)))) (r3.fw x hx')
  have r4 := r3.setl (v := P1 x) hx'
  have lt4 : H.n < (H3.set (Λ.jw x) (.inst 93 (lk (lkset "left" (.int (P1 x)) (wat Λ (withp S p1 p2) x))))).n := lt3
  have fw4 : (H3.set (Λ.jw x) (.inst 93 (lk (lkset "left" (.int (P1 x)) (wat Λ (withp S p1 p2) x))))).f H.n = .list (stk3 P1 P2 L0) := by
    rw [st_ne (fun q => by rw [q, r3.fw x hx'] at fw3; cases fw3)]; exact fw3
  revert ex4 r4 lt4 fw4
  generalize H3.set (Λ.jw x) (.inst 93 (lk (lkset "left" (.int (P1 x)) (wat Λ (withp S p1 p2) x)))) = H4
  intro ex4 r4 lt4 fw4
  refine TAs_cons ?_
  repeat walk_at "w"
  refine ⟨_, _, _, rfl, r4.fw x hx', ok_window, ?_⟩
  rw [upd_set]
  have ex5 := ex4.set (o := .inst 93 (lk (lkset "top" (.int (P2 x)) (wat Λ { withp S p1 p2 with l := fs (withp S p1 p2).l x (P1 x) } x)))) (r4.fw x hx')
  have r5 : Rep Λ (withp S (fs p1 x (P1 x)) (fs p2 x (P2 x))) _ := r4.sett (v := P2 x) hx'
  have lt5 : H.n < (H4.set (Λ.jw x) (.inst 93 (lk (lkset "top" (.int (P2 x)) (wat Λ { withp S p1 p2 with l := fs (withp S p1 p2).l x (P1 x) } x))))).n := lt4
  have fw5 : (H4.set (Λ.jw x) (.inst 93 (lk (lkset "top" (.int (P2 x)) (wat Λ { withp S p1 p2 with l := fs (withp S p1 p2).l x (P1 x) } x))))).f H.n = .list (stk3 P1 P2 L0) := by
    rw [st_ne (fun q => by rw [q, r4.fw x hx'] at fw4; cases fw4)]; exact fw4
  revert ex5 r5 lt5 fw5
  generalize H4.set (Λ.jw x) (.inst 93 (lk (lkset "top" (.int (P2 x)) (wat Λ { withp S p1 p2 with l := fs (withp S p1 p2).l x (P1 x) } x)))) = H5
  intro ex5 r5 lt5 fw5
  refine TAs_nil ?_
  have lc : Λ.jc x < H.n := (lay.2.2 x hx).2.1
  repeat walk_at "w"
  refine ES_for_ints (by walk_at "k") ?_
  repeat walk_at "w"
  refine ⟨_, _, _, _, rfl, r5.fw x hx', rfl, rfl, ok_window, ?_⟩
  refine ⟨_, _, rfl, r5.fc x hx', KP S Λ H x p1 p2 P1 P2 L0,
    ⟨by walk_at "v", by walk_at "v", by walk_at "v", ?_, ?_, ex5, lt5, r5, by rw [fw5]; simp⟩, ?_, ?_⟩
  · refine Eq.trans (by walk_at "v" : _ = some (AV.int (P1 x))) ?_
    unfold ofl; simp
  · refine Eq.trans (by walk_at "v" : _ = some (AV.int (P2 x))) ?_
    unfold oft; simp
  · rintro i c m1 H9 hc ⟨n1, n2, n3, n4, n5, ex9, lt9, r9, fw9⟩ hsrc
    have hc0 : (S.kids x)[i]? = some c := hc
    have hcd : S.Dm c := (wf.kd x hx c (List.mem_of_getElem? hc0)).1
    have hil : i < (S.kids x).length := by
      rcases Nat.lt_or_ge i (S.kids x).length with q | q
      · exact q
      · rw [List.getElem?_eq_none q] at hc0; cases hc0
    repeat walk_at "w"
    refine EV_method ?_
    repeat walk_at "w"
    refine ⟨_, GM.list fw9 .append, ?_⟩
    repeat walk_at "w"
    refine ⟨by simp, ?_⟩
    repeat walk_at "w"
    refine CL_append fw9 (by rw [List.length_append, List.length_map, List.length_take]; unfold stk3; rw [List.length_map]; omega) ?_
    have ex10 := ex9.new (i := H.n) (o := .list ((stk3 P1 P2 L0 ++ ((S.kids x).take i).map fun c => .tup [.int c, .int (ofl S x ((S.kids x).idxOf c) (P1 x)), .int (oft S x ((S.kids x).idxOf c) (P2 x))]) ++ [.tup [.int c, .int (ofl S x i (P1 x)), .int (oft S x i (P2 x))]])) (Nat.le_refl _)
    have r10 := r9.setn (i := H.n) (o := .list ((stk3 P1 P2 L0 ++ ((S.kids x).take i).map fun c => .tup [.int c, .int (ofl S x ((S.kids x).idxOf c) (P1 x)), .int (oft S x ((S.kids x).idxOf c) (P2 x))]) ++ [.tup [.int c, .int (ofl S x i (P1 x)), .int (oft S x i (P2 x))]])) lay (Nat.le_refl _)
    have fl : (H9.set H.n (.list ((stk3 P1 P2 L0 ++ ((S.kids x).take i).map fun c => .tup [.int c, .int (ofl S x ((S.kids x).idxOf c) (P1 x)), .int (oft S x ((S.kids x).idxOf c) (P2 x))]) ++ [.tup [.int c, .int (ofl S x i (P1 x)), .int (oft S x i (P2 x))]]))).f H.n = .list (stk3 P1 P2 L0 ++ ((S.kids x).take (i + 1)).map fun c => .tup [.int c, .int (ofl S x ((S.kids x).idxOf c) (P1 x)), .int (oft S x ((S.kids x).idxOf c) (P2 x))]) := by
      rw [st_self, take_get hc0, List.map_append, List.append_assoc]
      congr 3
      rw [List.map_cons, List.map_nil, idx_nd (wf.nd x hx) hc0]
    have hs10 : (H9.set H.n (.list ((stk3 P1 P2 L0 ++ ((S.kids x).take i).map fun c => .tup [.int c, .int (ofl S x ((S.kids x).idxOf c) (P1 x)), .int (oft S x ((S.kids x).idxOf c) (P2 x))]) ++ [.tup [.int c, .int (ofl S x i (P1 x)), .int (oft S x i (P2 x))]]))).f (Λ.jc x) = .list (iL (S.kids x)) := by
      rw [st_ne (Nat.ne_of_lt lc)]; exact hsrc
    have lt10 : H.n < (H9.set H.n (.list ((stk3 P1 P2 L0 ++ ((S.kids x).take i).map fun c => .tup [.int c, .int (ofl S x ((S.kids x).idxOf c) (P1 x)), .int (oft S x ((S.kids x).idxOf c) (P2 x))]) ++ [.tup [.int c, .int (ofl S x i (P1 x)), .int (oft S x i (P2 x))]]))).n := lt9
    revert ex10 r10 fl hs10 lt10
    generalize H9.set H.n (.list ((stk3 P1 P2 L0 ++ ((S.kids x).take i).map fun c => .tup [.int c, .int (ofl S x ((S.kids x).idxOf c) (P1 x)), .int (oft S x ((S.kids x).idxOf c) (P2 x))]) ++ [.tup [.int c, .int (ofl S x i (P1 x)), .int (oft S x i (P2 x))]])) = H10
    intro ex10 r10 fl hs10 lt10
    have hcd' : (withp S (fs p1 x (P1 x)) (fs p2 x (P2 x))).Dm c := hcd
    repeat walk_at "w"
    refine ⟨_, _, _, _, rfl, r10.fw x hx', rfl, rfl, ok_window, ?_⟩
    repeat walk_at "w"
    refine c_along (by walk_at "d") ?_
    repeat walk_at "w"
    refine if_eq (fun hal => ?_) fun hal => ?_
    · have hal : al (S.sort x) = 0 := hal
      repeat walk_at "w"
      refine ⟨_, _, _, _, rfl, r10.fT, rfl, rfl, ok_tree, ?_⟩
      repeat walk_at "w"
      refine SB_dict r10.fW (wl_get hcd') ?_
      refine ⟨_, _, _, _, rfl, r10.fw c hcd', rfl, rfl, ok_window, ?_⟩
      repeat walk_at "w"
      refine ⟨hs10, by walk_at "v", by walk_at "v", by walk_at "v", ?_, ?_, ex10, lt10, r10, fl⟩
      · rw [up_self]; unfold ofl
        rw [if_pos hal, if_pos hal, take_get hc0, List.map_append, sum_app]
        simp [withp, Int.add_assoc]
      · refine Eq.trans (by walk_at "v" : _ = some (AV.int (oft S x i (P2 x)))) ?_
        unfold oft; rw [if_pos hal, if_pos hal]
    · have hal : ¬ al (S.sort x) = 0 := hal
      repeat walk_at "w"
      refine ⟨_, _, _, _, rfl, r10.fT, rfl, rfl, ok_tree, ?_⟩
      repeat walk_at "w"
      refine SB_dict r10.fW (wl_get hcd') ?_
      refine ⟨_, _, _, _, rfl, r10.fw c hcd', rfl, rfl, ok_window, ?_⟩
      repeat walk_at "w"
      refine ⟨hs10, by walk_at "v", by walk_at "v", by walk_at "v", ?_, ?_, ex10, lt10, r10, fl⟩
      · refine Eq.trans (by walk_at "v" : _ = some (AV.int (ofl S x i (P1 x)))) ?_
        unfold ofl; rw [if_neg hal, if_neg hal]
      · rw [up_self]; unfold oft
        rw [if_neg hal, if_neg hal, take_get hc0, List.map_append, sum_app]
        simp [withp, Int.add_assoc]
  · rintro m1 H9 ⟨n1, n2, n3, n4, n5, ex9, lt9, r9, fw9⟩
    have L0k : ∀ y ∈ L0, y ∉ S.kids x := fun y hy hk => by
      have nd := sq.nd
      rw [e1] at nd
      have s1 : y ∈ L0.flatMap (pre S) := List.mem_flatMap.mpr ⟨y, hy, by rw [pre_eq wf (sq.dm y (List.mem_append_left _ hy))]; exact .head _⟩
      have s2 : y ∈ (S.kids x).flatMap (pre S) := List.mem_flatMap.mpr ⟨y, hk, by rw [pre_eq wf (wf.kd x hx y hk).1]; exact .head _⟩
      exact (List.nodup_append.mp nd).2.2 y s1 y (.tail _ s2) rfl
    repeat walk_at "w"
    refine ⟨_, ?_, L0 ++ S.kids x, fun y => if y ∈ S.kids x then ofl S x ((S.kids x).idxOf y) (P1 x) else P1 y, fun y => if y ∈ S.kids x then oft S x ((S.kids x).idxOf y) (P2 x) else P2 y, fs p1 x (P1 x), fs p2 x (P2 x), n1, n2, ex9, lt9, r9, ?_, sq.step wf (fun y hy => ⟨if_neg hy, if_neg hy⟩) fun i c hc => ?_, rfl⟩
    · rw [e1, List.flatMap_append]; simp
    · have tk : (S.kids x).take ((withp S (fs p1 x (P1 x)) (fs p2 x (P2 x))).kids x).length = S.kids x := List.take_length
      rw [fw9, tk]
      unfold stk3
      rw [List.map_append]
      congr 2
      · exact List.map_congr_left fun y hy => by dsimp only; rw [if_neg (L0k y hy), if_neg (L0k y hy)]
      · exact List.map_congr_left fun y hy => by dsimp only; rw [if_pos hy, if_pos hy]
    · have hm := List.mem_of_getElem? hc
      show (if c ∈ S.kids x then _ else _) = _ ∧ (if c ∈ S.kids x then _ else _) = _
      rw [if_pos hm, if_pos hm, idx_nd (wf.nd x hx) hc]
      exact ⟨rfl, rfl⟩
end
end
-- C16
section
/-- the sizes of a tree hold together -/
structure Cn (S : St) : Prop where
  leaf : ∀ x, S.Dm x → S.sort x = 0 → 3 ≤ S.w x ∧ 2 ≤ S.h x
  sum : ∀ x, S.Dm x → S.sort x ≠ 0 → ((S.kids x).map (sz S (al (S.sort x)))).sum = sz S (al (S.sort x)) x
  perp : ∀ x, S.Dm x → S.sort x ≠ 0 → ∀ c ∈ S.kids x, sz S (1 - al (S.sort x)) c = sz S (1 - al (S.sort x)) x
  big : S.w S.root ≤ 1000 ∧ S.h S.root ≤ 1000
  two : ∀ x, S.Dm x → S.sort x ≠ 0 → 2 ≤ (S.kids x).length
theorem al01 {s : Int} : al s = 0 ∨ al s = 1 := by unfold al; split <;> simp
section
variable {S : St} {rk : Int → Nat}
theorem sum_mono {f g : Int → Int} : ∀ {l : List Int}, (∀ x ∈ l, f x ≤ g x) → (l.map f).sum ≤ (l.map g).sum
  | [], _ => Int.le_refl _
  | a :: l, h => by
    simp only [List.map_cons, List.sum_cons]
    have := sum_mono (l := l) fun x hx => h x (.tail _ hx)
    have := h a (.head _)
    omega
theorem Cn.ge (wf : Wf S rk) (cn : Cn S) {a : Int} (ha : a = 0 ∨ a = 1) : ∀ x, S.Dm x → val S (leastL a) a x ≤ sz S a x := by
  refine wf.ind fun x hx ih => ?_
  rw [val_eq wf hx]
  by_cases h0 : S.sort x = 0
  · rw [if_pos h0]
    have := cn.leaf x hx h0
    rcases ha with rfl | rfl
    · exact this.1
    · exact this.2
  · rw [if_neg h0]
    by_cases h1 : al (S.sort x) = a
    · rw [if_pos h1]
      have := cn.sum x hx h0
      rw [h1] at this
      rw [← this]
      exact sum_mono ih
    · rw [if_neg h1]
      have hne : (S.kids x).map (val S (leastL a) a) ≠ [] := by
        have := fun q => h0 ((lf_iff wf hx).mpr q)
        simpa using this
      have hp : ∀ y ∈ (S.kids x).map (val S (leastL a) a), 0 ≤ y := fun y hy => by
        obtain ⟨c, hc, rfl⟩ := List.mem_map.mp hy
        exact Int.le_of_lt (val_pos wf (by unfold leastL; split <;> decide) c (wf.kd x hx c hc).1)
      obtain ⟨c, hc, e⟩ := List.mem_map.mp (mx_mem hne hp)
      rw [← e]
      have := cn.perp x hx h0 c hc
      have e2 : 1 - al (S.sort x) = a := by rcases al01 (s := S.sort x) with h | h <;> omega
      rw [e2] at this
      have := ih c hc
      omega
theorem Cn.pos (wf : Wf S rk) (cn : Cn S) {a : Int} (ha : a = 0 ∨ a = 1) (x : Int) (hx : S.Dm x) : 0 < sz S a x := by
  have := cn.ge wf ha x hx
  have := val_pos wf (a := a) (u := leastL a) (by unfold leastL; split <;> decide) x hx
  omega
theorem Cn.kid_le (wf : Wf S rk) (cn : Cn S) {a x c : Int} (ha : a = 0 ∨ a = 1) (hx : S.Dm x) (hc : c ∈ S.kids x) : sz S a c ≤ sz S a x := by
  have h0 : S.sort x ≠ 0 := fun q => by rw [(lf_iff wf hx).mp q] at hc; cases hc
  by_cases h1 : al (S.sort x) = a
  · have := cn.sum x hx h0
    rw [h1] at this
    rw [← this]
    exact le_sum (fun y hy => by obtain ⟨d, hd, rfl⟩ := List.mem_map.mp hy; exact Int.le_of_lt (cn.pos wf ha d (wf.kd x hx d hd).1)) _ (List.mem_map_of_mem hc)
  · have := cn.perp x hx h0 c hc
    have e2 : 1 - al (S.sort x) = a := by rcases al01 (s := S.sort x) with h | h <;> omega
    rw [e2] at this
    omega
theorem Cn.le (wf : Wf S rk) (cn : Cn S) {a : Int} (ha : a = 0 ∨ a = 1) : ∀ (k : Nat) (x : Int), 40 ≤ k + rk x → S.Dm x → sz S a x ≤ 1000 := by
  have hr : sz S a S.root ≤ 1000 := by rcases ha with rfl | rfl; exact cn.big.1; exact cn.big.2
  intro k
  induction k with
  | zero =>
    intro x hk hx
    by_cases q : x = S.root
    · rw [q]; exact hr
    · have := wf.up x hx q
      have := (wf.kd _ this.1 x this.2).2.2.2
      have := wf.rb (S.par x)
      omega
  | succ k ih =>
    intro x hk hx
    by_cases q : x = S.root
    · rw [q]; exact hr
    · have hu := wf.up x hx q
      have := (wf.kd _ hu.1 x hu.2).2.2.2
      have := ih (S.par x) (by walk_at "d") hu.1
      have := cn.kid_le wf ha hu.1 hu.2
      omega
theorem sum_scale {u : Int} {f : Int → Int} : ∀ {l : List Int}, (l.map fun x => u * f x).sum = u * (l.map f).sum
  | [] => by simp
  | a :: l => by simp only [List.map_cons, List.sum_cons]; rw [sum_scale, Int.mul_add]
theorem mx_scale {u : Int} (hu : 0 < u) {f : Int → Int} : ∀ {l : List Int}, mx (l.map fun x => u * f x) = u * mx (l.map f)
  | [] => by simp [mx]
  | a :: l => by
    simp only [List.map_cons, mx]
    rw [mx_scale hu]
    by_cases h : mx (l.map f) ≤ f a
    · rw [if_pos h, if_pos (Int.mul_le_mul_of_nonneg_left h (Int.le_of_lt hu))]
    · rw [if_neg h, if_neg]
      intro q
      exact h (Int.le_of_mul_le_mul_left q hu)
theorem val_scale (wf : Wf S rk) {u a : Int} (hu : 0 < u) : ∀ x, S.Dm x → val S u a x = u * val S 1 a x := by
  refine wf.ind fun x hx ih => ?_
  rw [val_eq wf hx, val_eq wf (u := 1) hx]
  have e : (S.kids x).map (val S u a) = (S.kids x).map fun c => u * val S 1 a c := List.map_congr_left fun c hc => ih c hc
  rw [e]
  split
  · omega
  · split
    · exact sum_scale
    · exact mx_scale hu
end
noncomputable def wts (S : St) (a x : Int) : List Int := (S.kids x).map (val S 1 a)
noncomputable def zeros (S : St) (x : Int) : List Int := List.replicate (S.kids x).length 0
/-- the windows of a combination have been shared out -/
noncomputable def Fair (S : St) (x : Int) : Prop := (S.kids x).map (sz S (al (S.sort x))) = sharesF (sz S (al (S.sort x)) x) (wts S (al (S.sort x)) x) (zeros S x)
theorem parts_ge {t u : Int} {ws : List Int} {n : Nat} (hu : 0 < u) (hw : ∀ w ∈ ws, 0 < w) (hl : ws.length = n) (hn : 0 < n) (ht : u * ws.sum ≤ t) : ∀ p ∈ (sharesF t ws (List.replicate n 0)).zip (ws.map fun w => u * w), p.2 ≤ p.1 := by
  intro p hp
  obtain ⟨i, hi⟩ := List.getElem?_of_mem hp
  obtain ⟨h1, h2⟩ := List.getElem?_zip_eq_some.mp hi
  have hil : i < ws.length := by
    rcases Nat.lt_or_ge i ws.length with q | q
    · exact q
    · have e : (ws.map fun w => u * w)[i]? = none := List.getElem?_eq_none (by rw [List.length_map]; exact q)
      rw [e] at h2; cases h2
  have hpos : 0 < ws.sum := sum_pos hw (by rintro rfl; exact absurd hil (Nat.not_lt_zero _))
  have hne : ws.sum ≠ 0 := by omega
  unfold sharesF at h1
  rw [if_neg hne] at h1
  have hg : (List.replicate n (0 : Int))[i]? = some 0 := by rw [List.getElem?_replicate, if_pos (by walk_at "d")]
  have hs0 : (List.replicate n (0 : Int)).sum = 0 := by simp
  rw [hs0, topUp_get (shF_get (List.getElem?_eq_getElem hil) hg)] at h1
  rw [List.getElem?_map, List.getElem?_eq_getElem hil] at h2
  have e1 := Option.some.inj h1
  have e2 : u * ws[i] = p.2 := Option.some.inj h2
  have hwi := hw _ (List.getElem_mem hil)
  have hd : u * ws[i] ≤ (t - 0) * ws[i] / ws.sum := by
    rw [Int.sub_zero]
    refine Int.le_ediv_of_mul_le hpos ?_
    rw [Int.mul_assoc, Int.mul_comm ws[i], ← Int.mul_assoc]
    exact Int.mul_le_mul_of_nonneg_right ht (Int.le_of_lt hwi)
  rw [← e1, ← e2]
  split <;> omega
end
-- C17
section
noncomputable def withw (S : St) (w h : Int → Int) : St := { S with w := w, h := h }
theorem Wf.ww {S : St} {rk : Int → Nat} {w h : Int → Int} (wf : Wf S rk) : Wf (withw S w h) rk := ⟨wf.N, wf.root, wf.rp, wf.so, wf.kd, wf.nd, wf.up, wf.rb, wf.bf⟩
/-- some of the windows below x have their new sizes along a -/
structure BI (S : St) (a x : Int) (parts : List Int) (j : Nat) (z : Int → Int) : Prop where
  off : ∀ y, y ∉ ((S.kids x).take j).flatMap (pre S) → z y = sz S a y
  kid : ∀ (i : Nat) (c p : Int), i < j → (S.kids x)[i]? = some c → parts[i]? = some p → z c = p
  ins : ∀ y ∈ ((S.kids x).take j).flatMap (pre S), val S (leastL a) a y ≤ z y ∧ (S.sort y ≠ 0 → if al (S.sort y) = a then ((S.kids y).map z).sum = z y else ∀ d ∈ S.kids y, z d = z y)
section
variable {S : St} {rk : Int → Nat}
theorem kid_self (wf : Wf S rk) {x c : Int} (hx : S.Dm x) (hc : c ∈ S.kids x) : c ∈ pre S c := by rw [pre_eq wf (wf.kd x hx c hc).1]; exact .head _
theorem kid_apart (wf : Wf S rk) {x c d y : Int} (hx : S.Dm x) (hc : c ∈ S.kids x) (hd : d ∈ S.kids x) (h1 : y ∈ pre S c) (h2 : y ∈ pre S d) : c = d := pre_apart wf hx hc hd 40 y (by walk_at "d") h1 h2
theorem take_mem {l : List Int} {j i : Nat} {c : Int} (h : l[i]? = some c) (hj : i < j) : c ∈ l.take j := by
  refine List.mem_of_getElem? (i := i) ?_
  rw [List.getElem?_take, if_pos hj]; exact h
theorem BI.step (wf : Wf S rk) {a x c p : Int} {parts : List Int} {j : Nat} {z z' : Int → Int} (hx : S.Dm x) (q : BI S a x parts j z) (hc : (S.kids x)[j]? = some c) (hp : parts[j]? = some p) (r : Rs (withz S a z) a c p z') : BI S a x parts (j + 1) z' := by
  have hcm := List.mem_of_getElem? hc
  have hcd := (wf.kd x hx c hcm).1
  have et : (S.kids x).take (j + 1) = (S.kids x).take j ++ [c] := take_get hc
  have ef : ((S.kids x).take (j + 1)).flatMap (pre S) = ((S.kids x).take j).flatMap (pre S) ++ pre S c := by rw [et, List.flatMap_append]; simp
  have ro : ∀ y, y ∉ pre S c → z' y = z y := fun y hy => by
    have := r.out y (by rw [wz_pre]; exact hy)
    rwa [wz_sz] at this
  have hcj : c ∉ (S.kids x).take j := fun h => by
    obtain ⟨i, hi⟩ := List.getElem?_of_mem h
    rw [List.getElem?_take] at hi
    split at hi
    · have := idx_nd (wf.nd x hx) hi
      rw [idx_nd (wf.nd x hx) hc] at this
      omega
    · cases hi
  have sep : ∀ d ∈ (S.kids x).take j, ∀ y ∈ pre S d, y ∉ pre S c := fun d hd y hy hyc => hcj ((kid_apart wf hx (List.mem_of_mem_take hd) hcm hy hyc) ▸ hd)
  refine ⟨fun y hy => ?_, fun i d p' hi hd hp' => ?_, fun y hy => ?_⟩
  · rw [ef] at hy
    rw [ro y fun h => hy (List.mem_append_right _ h)]
    exact q.off y fun h => hy (List.mem_append_left _ h)
  · rcases Nat.lt_or_ge i j with h | h
    · rw [ro d (sep d (take_mem hd h) d (kid_self wf hx (List.mem_of_getElem? hd)))]
      exact q.kid i d p' h hd hp'
    · have e : i = j := by omega
      subst e
      rw [hc] at hd; cases hd
      rw [hp] at hp'; cases hp'
      exact r.top
  · rw [ef] at hy
    rcases List.mem_append.mp hy with h | h
    · obtain ⟨d, hd, hyd⟩ := List.mem_flatMap.mp h
      have hyc := sep d hd y hyd
      have ydm := (pre_dm wf _ d (Nat.le_refl _) (wf.kd x hx d (List.mem_of_mem_take hd)).1 y hyd).1
      have hk : ∀ e ∈ S.kids y, z' e = z e := fun e he => ro e (sep d hd e (kid_pre wf _ (Nat.le_refl _) (wf.kd x hx d (List.mem_of_mem_take hd)).1 y hyd e he))
      obtain ⟨g1, g2⟩ := q.ins y h
      rw [ro y hyc]
      refine ⟨g1, fun hs => ?_⟩
      have := g2 hs
      split
      · rename_i ha
        rw [if_pos ha] at this
        rw [← this]; congr 1
        exact List.map_congr_left hk
      · rename_i ha
        rw [if_neg ha] at this
        exact fun e he => (hk e he).trans (this e he)
    · have := r.done y (by rw [wz_pre]; exact h)
      rw [wz_val, wz_sort, wz_kids] at this
      exact ⟨this.1, this.2.2⟩
/-- after the last of them all holds together again -/
theorem BI.fin (wf : Wf S rk) (cn : Cn S) {x : Int} (hx : S.Dm x) (h0 : S.sort x ≠ 0) {parts : List Int} {z : Int → Int} (hl : parts.length = (S.kids x).length) (hsum : parts.sum = sz S (al (S.sort x)) x) (q : BI S (al (S.sort x)) x parts (S.kids x).length z) :
    Cn (withz S (al (S.sort x)) z) ∧ (S.kids x).map z = parts ∧ (∀ y, y ∉ (S.kids x).flatMap (pre S) → z y = sz S (al (S.sort x)) y) ∧ z S.root = sz S (al (S.sort x)) S.root ∧ x ∉ (S.kids x).flatMap (pre S) := by
  generalize ha : al (S.sort x) = a at *
  have ha01 : a = 0 ∨ a = 1 := ha ▸ al01
  have off : ∀ y, y ∉ (S.kids x).flatMap (pre S) → z y = sz S a y := fun y hy => q.off y (by rw [List.take_length]; exact hy)
  have ins : ∀ y ∈ (S.kids x).flatMap (pre S), _ := fun y hy => q.ins y (by rw [List.take_length]; exact hy)
  have km : (S.kids x).map z = parts := by
    apply List.ext_getElem?
    intro i
    rw [List.getElem?_map]
    rcases Nat.lt_or_ge i (S.kids x).length with h | h
    · rw [List.getElem?_eq_getElem h, List.getElem?_eq_getElem (by walk_at "d")]
      exact congrArg some (q.kid i _ _ h (List.getElem?_eq_getElem h) (List.getElem?_eq_getElem (by walk_at "d")))
    · rw [List.getElem?_eq_none h, List.getElem?_eq_none (by walk_at "d")]; rfl
  have xn : x ∉ (S.kids x).flatMap (pre S) := fun h => by
    obtain ⟨c, hc, h⟩ := List.mem_flatMap.mp h
    have := (wf.kd x hx c hc).2.2.2
    rcases (pre_dm wf _ c (Nat.le_refl _) (wf.kd x hx c hc).1 x h).2 with e | ⟨_, e, _⟩
    · rw [e] at this; omega
    · omega
  -- a window outside: its own are outside too
  have out : ∀ y, S.Dm y → y ≠ x → y ∉ (S.kids x).flatMap (pre S) → ∀ d ∈ S.kids y, d ∉ (S.kids x).flatMap (pre S) := fun y hy hyx hyn d hd h => by
    obtain ⟨c, hc, h⟩ := List.mem_flatMap.mp h
    have hdp := (wf.kd y hy d hd).2.1
    rcases (pre_dm wf _ c (Nat.le_refl _) (wf.kd x hx c hc).1 d h).2 with e | ⟨_, _, _, e⟩
    · have := (wf.kd x hx c hc).2.1
      rw [← e, hdp] at this
      exact hyx this
    · rw [hdp] at e
      exact hyn (List.mem_flatMap.mpr ⟨c, hc, e⟩)
  have rn : S.root ∉ (S.kids x).flatMap (pre S) := fun h => by
    obtain ⟨c, hc, h⟩ := List.mem_flatMap.mp h
    rcases (pre_dm wf _ c (Nat.le_refl _) (wf.kd x hx c hc).1 _ h).2 with e | ⟨_, _, e, _⟩
    · have := (wf.kd x hx c hc).2.1
      rw [← e, wf.rp] at this
      have := hx.1; omega
    · exact e rfl
  have hne : ∀ {c : Int}, c = 0 ∨ c = 1 → c ≠ a → (c = 0) ≠ (a = 0) := fun h1 h2 e => by
    rcases h1 with rfl | rfl <;> rcases ha01 with rfl | rfl <;> simp_all
  refine ⟨⟨fun y hy hy0 => ?_, fun y hy hy0 => ?_, fun y hy hy0 d hd => ?_, ?_, fun y hy hy0 => by rw [wz_kids]; rw [wz_sort] at hy0; exact cn.two y (wz_dm.mp hy) hy0⟩, km, off, off _ rn, xn⟩
  · rw [wz_dm] at hy
    rw [wz_sort] at hy0
    have la := cn.leaf y hy hy0
    have key : leastL a ≤ z y := by
      by_cases h : y ∈ (S.kids x).flatMap (pre S)
      · have := (ins y h).1
        rw [val_eq wf hy, if_pos hy0] at this
        exact this
      · rw [off y h]
        rcases ha01 with rfl | rfl
        · exact la.1
        · exact la.2
    rcases ha01 with rfl | rfl
    · exact ⟨key, la.2⟩
    · exact ⟨la.1, key⟩
  · rw [wz_dm] at hy
    rw [wz_sort] at hy0
    rw [wz_kids, wz_sort]
    by_cases hs : al (S.sort y) = a
    · rw [hs]
      have e1 : sz (withz S a z) a = z := funext fun k => wz_sz
      rw [e1]
      by_cases h : y ∈ (S.kids x).flatMap (pre S)
      · have := (ins y h).2 hy0
        rw [if_pos hs] at this
        exact this
      · rw [off y h]
        by_cases hyx : y = x
        · subst hyx; rw [km, hsum]
        · have := cn.sum y hy hy0
          rw [hs] at this
          rw [← this]; congr 1
          exact List.map_congr_left fun d hd => off d (out y hy hyx h d hd)
    · have e1 : sz (withz S a z) (al (S.sort y)) = sz S (al (S.sort y)) := funext fun k => wz_sz_ne (hne al01 hs)
      rw [e1]
      exact cn.sum y hy hy0
  · rw [wz_dm] at hy
    rw [wz_sort] at hy0
    rw [wz_kids] at hd
    rw [wz_sort]
    by_cases hs : 1 - al (S.sort y) = a
    · rw [hs, wz_sz, wz_sz]
      have hs' : al (S.sort y) ≠ a := fun e => by rcases al01 (s := S.sort y) with g | g <;> omega
      have yx : y ≠ x := fun e => hs' (by rw [e]; exact ha)
      by_cases h : y ∈ (S.kids x).flatMap (pre S)
      · have := (ins y h).2 hy0
        rw [if_neg hs'] at this
        exact this d hd
      · rw [off y h, off d (out y hy yx h d hd)]
        have := cn.perp y hy hy0 d hd
        rwa [hs] at this
    · have h01 : 1 - al (S.sort y) = 0 ∨ 1 - al (S.sort y) = 1 := by rcases al01 (s := S.sort y) with g | g <;> omega
      rw [wz_sz_ne (hne h01 hs), wz_sz_ne (hne h01 hs)]
      exact cn.perp y hy hy0 d hd
  · rw [wz_root]
    have := off _ rn
    rcases ha01 with rfl | rfl
    · exact ⟨by show z S.root ≤ _; rw [this]; exact cn.big.1, cn.big.2⟩
    · exact ⟨cn.big.1, by show z S.root ≤ _; rw [this]; exact cn.big.2⟩
theorem Fair.keep (wf : Wf S rk) {a x y : Int} {z : Int → Int} (hx : S.Dm x) (ha : a = 0 ∨ a = 1) (hy : S.Dm y) (hyx : y ≠ x) (hyn : y ∉ (S.kids x).flatMap (pre S)) (off : ∀ y, y ∉ (S.kids x).flatMap (pre S) → z y = sz S a y) (f : Fair S y) : Fair (withz S a z) y := by
  have out : ∀ d ∈ S.kids y, d ∉ (S.kids x).flatMap (pre S) := fun d hd h => by
    obtain ⟨c, hc, h⟩ := List.mem_flatMap.mp h
    have hdp := (wf.kd y hy d hd).2.1
    rcases (pre_dm wf _ c (Nat.le_refl _) (wf.kd x hx c hc).1 d h).2 with e | ⟨_, _, _, e⟩
    · have := (wf.kd x hx c hc).2.1
      rw [← e, hdp] at this
      exact hyx this
    · rw [hdp] at e
      exact hyn (List.mem_flatMap.mpr ⟨c, hc, e⟩)
  unfold Fair wts zeros at *
  rw [wz_sort, wz_kids, wz_val]
  have same : ∀ d, d ∉ (S.kids x).flatMap (pre S) → sz (withz S a z) (al (S.sort y)) d = sz S (al (S.sort y)) d := fun d hd => by
    by_cases hs : al (S.sort y) = a
    · rw [hs, wz_sz, off d hd]
    · refine wz_sz_ne fun e => hs ?_
      rcases al01 (s := S.sort y) with h1 | h1 <;> rcases ha with rfl | rfl <;> simp_all
  rw [same y hyn, ← f]
  exact List.map_congr_left fun d hd => same d (out d hd)
end
theorem wz_wz {S : St} {a : Int} {z z' : Int → Int} : withz (withz S a z) a z' = withz S a z' := by
  unfold withz
  by_cases h : a = 0
  · simp only [if_pos h]
  · simp only [if_neg h]
theorem wz_wws {S : St} {a : Int} {w h z : Int → Int} : withz (withw S w h) a z = withw S (if a = 0 then z else w) (if a = 0 then h else z) := by
  unfold withz withw
  split <;> rfl
end
-- C18
section
section
variable {b : Bd} {H : AH} {X : AH → Prop} {Q : AV → AH → Prop} {Λ : La} {S : St} {rk : Int → Nat}
theorem gm_window {j : Nat} {L : Lk} (hf : H.f j = .inst 164 (lk L)) (hn : lk L "window" = none) : GM H (.ref j) "window" (.ref 126) := .inst hf ok_tree hn (fun _ => by kernel_rfl) (fun _ => by kernel_rfl) (fun _ => by kernel_rfl)
theorem c_window {n : Int} (rp : Rep Λ S H) (hn : S.Dm n) (hb : 1 ≤ b.n) (h : Q (.ref (Λ.jw n)) H) : CL b (.ref 126) [.ref Λ.T, .int n] H Q X := by
  refine (CA_defs (names := ["self", "number"]) (fun _ => by with_unfolding_all rfl) (fun _ => by kernel_rfl) rfl rfl rfl rfl (by walk_at "b") (by decide) (by walk_at "d") ?_).cl
  intro sc hsc
  repeat walk_at "w"
  refine EV_method ?_
  repeat walk_at "w"
  refine ⟨_, _, _, _, rfl, rp.fT, rfl, rfl, ok_tree, ?_⟩
  refine ⟨_, GM.dict rp.fW, ?_⟩
  repeat walk_at "w"
  refine CL_get rp.fW ?_
  rw [wl_get hn]
  repeat walk_at "w"
  refine OP_is (t := false) rfl ⟨_, rfl, ?_⟩
  refine if_b (fun q => by cases q) fun _ => ?_
  repeat walk_at "w"
  exact h
inductive JB (S : St) (Λ : La) (H1 : AH) (i : Nat) (m : Vars) (H2 : AH) : Prop
  | mk (w1 h1 : Int → Int) : m "tree" = some (.ref Λ.T) → ExI H1 H2 → Rep Λ (withw S w1 h1) H2 → Cn (withw S w1 h1) → w1 S.root = S.w S.root → h1 S.root = S.h S.root → (∀ y ∈ (pre S S.root).take i, S.sort y ≠ 0 → Fair (withw S w1 h1) y) → JB S Λ H1 i m H2
inductive KB (S' : St) (Λ : La) (H8 : AH) (a x : Int) (parts : List Int) (j : Nat) (m : Vars) (H9 : AH) : Prop
  | mk (z : Int → Int) : m "tree" = some (.ref Λ.T) → m "axis" = some (.int a) → ExI H8 H9 → Rep Λ (withz S' a z) H9 → BI S' a x parts j z → KB S' Λ H8 a x parts j m H9
theorem c_balance (wf : Wf S rk) (rp : Rep Λ S H) (cn : Cn S) (hb : 4 ≤ b.n)
    (h : ∀ H' w' h' p1 p2, Rep Λ (withp (withw S w' h') p1 p2) H' → ExI H H' → Cn (withw S w' h') → w' S.root = S.w S.root → h' S.root = S.h S.root → (∀ y ∈ pre S S.root, S.sort y ≠ 0 → Fair (withw S w' h') y) → Ps (withw S w' h') p1 p2 → Q .none H') : CL b (.ref 247) [.ref Λ.T, .int S.root] H Q X := by
  refine (CA_defs (names := ["tree", "number"]) (fun _ => by with_unfolding_all rfl) (fun _ => by kernel_rfl) rfl rfl rfl rfl (by walk_at "b") (by decide) (by walk_at "d") ?_).cl
  intro sc hsc
  have lay := rp.lay
  repeat walk_at "w"
  refine EV_method ?_
  repeat walk_at "w"
  refine ⟨_, gm_window rp.fT rfl, ?_⟩
  repeat walk_at "w"
  refine c_window rp wf.root (by walk_at "d") ?_
  walk_at "w"
  walk_at "w"
  refine ES_for_ints (by walk_at "k") ?_
  repeat walk_at "w"
  refine c_windows_under wf rp wf.root (by walk_at "d") fun H1 r e1 b1 b2 f1 => ?_
  refine ⟨_, _, rfl, f1, JB S Λ H1,
    ⟨S.w, S.h, by walk_at "v", ExI.refl, rp.ext e1, cn, rfl, rfl, fun y hy => by simp at hy⟩, ?_, ?_⟩
  · rintro i x m1 H2 hxi ⟨w1, h1, mt, ex, r2, cn1, rw1, rh1, fr⟩ hsrc
    have e0 : pre S S.root = (pre S S.root).take i ++ x :: (pre S S.root).drop (i + 1) := by
      have hi : i < (pre S S.root).length := by
        rcases Nat.lt_or_ge i (pre S S.root).length with q | q
        · exact q
        · rw [List.getElem?_eq_none q] at hxi; cases hxi
      conv => lhs; rw [← List.take_append_drop i (pre S S.root)]
      congr 1
      rw [List.drop_eq_getElem_cons hi]
      congr 1
      rw [List.getElem?_eq_getElem hi] at hxi
      exact Option.some.inj hxi
    obtain ⟨hx, st', hst, hR⟩ := suf wf _ [S.root] (fun y hy => by rw [List.mem_singleton.mp hy]; exact wf.root) (by simpa using e0)
    have hnd := pre_nodup wf _ S.root (Nat.le_refl _) wf.root
    -- windows ahead of x in the walk are not below it
    have ahead : ∀ y ∈ (pre S S.root).take i, y ≠ x ∧ y ∉ (S.kids x).flatMap (pre S) := fun y hy => by
      rw [e0] at hnd
      have h3 := (List.nodup_append.mp hnd).2.2 y hy
      refine ⟨fun q => h3 x (.head _) q, fun q => h3 y (.tail _ ?_) rfl⟩
      rw [hR, List.flatMap_append]
      exact List.mem_append_left _ q
    have hSx : (withw S w1 h1).Dm x := hx
    have wf1 : Wf (withw S w1 h1) rk := wf.ww
    have hkl : (S.kids x).length ≤ 13 := by
      have := st_len wf fun y hy => (wf.kd x hx y hy).1
      have h2 := pre_len wf hx
      rw [pre_eq wf hx, List.length_cons] at h2
      omega
    repeat walk_at "w"
    refine ⟨_, _, _, _, rfl, r2.fT, rfl, rfl, ok_tree, ?_⟩
    repeat walk_at "w"
    refine SB_dict r2.fW (wl_get hSx) ?_
    repeat walk_at "w"
    refine ⟨_, _, _, _, rfl, r2.fw x hSx, rfl, rfl, ok_window, ?_⟩
    repeat walk_at "w"
    have tk : ∀ y ∈ (pre S S.root).take (i + 1), y ∈ (pre S S.root).take i ∨ y = x := fun y hy => by
      rw [take_get hxi] at hy
      exact (List.mem_append.mp hy).imp id List.mem_singleton.mp
    refine if_ne (fun hs0 => ?_) fun hs0 => ?_
    · have hs0 : S.sort x ≠ 0 := hs0
      have hne : S.kids x ≠ [] := fun q => hs0 ((lf_iff wf hx).mpr q)
      have ha01 : al (S.sort x) = 0 ∨ al (S.sort x) = 1 := al01
      repeat walk_at "w"
      refine ⟨_, _, _, _, rfl, r2.fw x hSx, rfl, rfl, ok_window, ?_⟩
      repeat walk_at "w"
      refine c_along (by walk_at "d") ?_
      repeat walk_at "w"
      show ES _ _ _ (up _ _ (.int (al (S.sort x)))) _ _ _
      have fc2 := r2.fc x hSx
      have lc2 := r2.bc x hSx
      have hkd : ∀ c ∈ S.kids x, (withw S w1 h1).Dm c := fun c hc => (wf.kd x hx c hc).1
      refine ES_comp_map (by walk_at "co") (by walk_at "k") ?_ (by walk_at "k") (by walk_at "k")
      repeat walk_at "w"
      refine ⟨_, _, _, _, rfl, r2.fw x hSx, rfl, rfl, ok_window, ?_⟩
      refine ⟨_, _, rfl, fc2, lc2, by show (S.kids x).length ≤ 1000; omega, fun c => .int (val S 1 (al (S.sort x)) c), fun c hc H4 e4 => ?_, fun H4 e4 => ?_⟩
      · repeat walk_at "w"
        exact c_weight_of wf1 (r2.ext e4) (hkd c hc) (by walk_at "d") fun H5 e5 => ⟨rfl, e5⟩
      have em : (S.kids x).map (fun c => AV.int (val S 1 (al (S.sort x)) c)) = iL (wts S (al (S.sort x)) x) := by unfold iL wts; rw [List.map_map]; rfl
      refine Kn (by assumption) ?_
      show EX _ _ _ _ (H4.alloc (.list ((S.kids x).map fun c => AV.int (val S 1 (al (S.sort x)) c)))) _ _
      rw [em]
      have e5 := e4.alloc (o := .list (iL (wts S (al (S.sort x)) x)))
      have fw5 : (H4.alloc (.list (iL (wts S (al (S.sort x)) x)))).f H4.n = .list (iL (wts S (al (S.sort x)) x)) := al_self
      have lw5 : H4.n < (H4.alloc (.list (iL (wts S (al (S.sort x)) x)))).n := Nat.lt_succ_self _
      have gw5 := e4.le
      revert e5 fw5 lw5 gw5
      generalize H4.alloc (.list (iL (wts S (al (S.sort x)) x))) = H5
      generalize H4.n = jwt
      intro e5 fw5 lw5 gw5
      have r5 := r2.ext e5
      walk_at "w"
      refine ES_comp_map (by walk_at "co") (by walk_at "k") ?_ (by walk_at "k") (by walk_at "k")
      repeat walk_at "w"
      refine ⟨_, _, _, _, rfl, r5.fw x hSx, rfl, rfl, ok_window, ?_⟩
      refine ⟨_, _, rfl, r5.fc x hSx, r5.bc x hSx, by show (S.kids x).length ≤ 1000; omega, fun c => .int (val S (leastL (al (S.sort x))) (al (S.sort x)) c), fun c hc H6 e6 => ?_, fun H6 e6 => ?_⟩
      · repeat walk_at "w"
        exact c_least_size wf1 (r5.ext e6) (hkd c hc) (by walk_at "d") fun H7 e7 => ⟨rfl, e7⟩
      have em2 : (S.kids x).map (fun c => AV.int (val S (leastL (al (S.sort x))) (al (S.sort x)) c)) = iL ((S.kids x).map (val S (leastL (al (S.sort x))) (al (S.sort x)))) := by unfold iL; rw [List.map_map]; rfl
      refine Kn (by assumption) ?_
      show EX _ _ _ _ (H6.alloc (.list ((S.kids x).map fun c => AV.int (val S (leastL (al (S.sort x))) (al (S.sort x)) c)))) _ _
      rw [em2]
      have e7 := e6.alloc (o := .list (iL ((S.kids x).map (val S (leastL (al (S.sort x))) (al (S.sort x))))))
      have fl7 : (H6.alloc (.list (iL ((S.kids x).map (val S (leastL (al (S.sort x))) (al (S.sort x))))))).f H6.n = .list (iL ((S.kids x).map (val S (leastL (al (S.sort x))) (al (S.sort x))))) := al_self
      have ll7 : H6.n < (H6.alloc (.list (iL ((S.kids x).map (val S (leastL (al (S.sort x))) (al (S.sort x))))))).n := Nat.lt_succ_self _
      revert e7 fl7 ll7
      generalize H6.alloc (.list (iL ((S.kids x).map (val S (leastL (al (S.sort x))) (al (S.sort x)))))) = H7
      generalize H6.n = jll
      intro e7 fl7 ll7
      have r7 := r5.ext e7
      generalize ha : al (S.sort x) = a at *
      -- the numbers
      have hu : 0 < leastL a := by unfold leastL; split <;> decide
      have wpos : ∀ w ∈ wts S a x, 0 < w := fun w hw => by
        obtain ⟨c, hc, rfl⟩ := List.mem_map.mp hw
        exact val_pos wf (by decide) c (wf.kd x hx c hc).1
      have wlen : (wts S a x).length = (S.kids x).length := by unfold wts; rw [List.length_map]
      have vx := val_eq wf (u := 1) (a := a) hx
      rw [if_neg hs0, if_pos ha] at vx
      have hge := cn1.ge wf1 ha01 x hSx
      have hsc : val (withw S w1 h1) (leastL a) a x = leastL a * val S 1 a x := val_scale wf hu x hx
      rw [hsc, vx] at hge
      have hle := cn1.le wf1 ha01 40 x (by walk_at "d") hSx
      have hls : (S.kids x).map (val S (leastL a) a) = (wts S a x).map fun w => leastL a * w := by
        unfold wts; rw [List.map_map]
        exact List.map_congr_left fun c hc => val_scale wf hu c (wf.kd x hx c hc).1
      have s0 : 0 ≤ (wts S a x).sum := sum_ge0 fun w hw => Int.le_of_lt (wpos w hw)
      have hT0 := cn1.pos wf1 ha01 x hSx
      have s1 : (wts S a x).sum < 1000000 := by
        have : (wts S a x).sum ≤ leastL a * (wts S a x).sum := by
          have := Int.mul_le_mul_of_nonneg_right (show 1 ≤ leastL a by omega) s0
          rwa [Int.one_mul] at this
        have : leastL a * (wts S a x).sum ≤ sz (withw S w1 h1) a x := hge
        omega
      have hkn : 0 < (S.kids x).length := List.length_pos_iff.mpr hne
      have pge := parts_ge (t := sz (withw S w1 h1) a x) hu wpos wlen hkn hge
      rw [← hls] at pge
      have plen : (sharesF (sz (withw S w1 h1) a x) (wts S a x) (zeros S x)).length = (S.kids x).length := by
        rw [sharesF_len (by rw [wlen]; unfold zeros; simp)]; unfold zeros; simp
      have psum : (sharesF (sz (withw S w1 h1) a x) (wts S a x) (zeros S x)).sum = sz (withw S w1 h1) a x :=
        sharesF_sum s0 (by rw [wlen]; unfold zeros; simp) (by intro q; have := congrArg List.length q; unfold zeros at this; simp at this; exact hne this)
      walk_at "w"
      refine ES_for_zip (by walk_at "k") (by walk_at "k") ⟨by walk_at "k", ?_⟩
      repeat walk_at "w"
      refine ⟨_, _, _, _, rfl, r7.fw x hSx, rfl, rfl, ok_window, ?_⟩
      walk_at "w"
      walk_at "w"
      refine EV_method ?_
      repeat walk_at "w"
      refine ⟨_, gm_size (r7.fw x hSx) rfl, ?_⟩
      repeat walk_at "w"
      refine c_size (by walk_at "d") (r7.fw x hSx) ?_
      repeat walk_at "w"
      refine c_level_shares ((e7.f _ lw5).trans fw5) fl7 (Nat.lt_of_lt_of_le lw5 e7.le) ll7 (by rw [wlen, List.length_map]) (by rw [List.length_map]; omega) (by simpa using hne) s0 s1 (by walk_at "d") ?_ (by walk_at "d") fun H8 rr e8 q1 q2 fr8 => ?_
      · rw [List.length_map]; exact pge
      have ez : List.replicate ((S.kids x).map (val S (leastL a) a)).length (0 : Int) = zeros S x := by rw [List.length_map]; rfl
      rw [ez] at fr8
      have pge' : ∀ p ∈ (sharesF (sz (withw S w1 h1) a x) (wts S a x) (zeros S x)).zip ((S.kids x).map (val S (leastL a) a)), p.2 ≤ p.1 := pge
      clear pge
      generalize hparts : sharesF (sz (withw S w1 h1) a x) (wts S a x) (zeros S x) = parts at *
      have e28 := (e5.trans e7).trans e8
      have r8 := r2.ext e28
      have f8c : H8.f (Λ.jc x) = .list (iL (S.kids x)) := r8.fc x hSx
      have l8c := r8.bc x hSx
      have pval : ∀ (j : Nat) (c p : Int), (S.kids x)[j]? = some c → parts[j]? = some p → val S (leastL a) a c ≤ p := fun j c p h1 h2 =>
        pge' (p, val S (leastL a) a c) (List.mem_of_getElem? (i := j) (List.getElem?_zip_eq_some.mpr ⟨h2, by rw [List.getElem?_map, h1]; rfl⟩))
      have ppos : ∀ y ∈ parts, 0 ≤ y := fun y hy => by
        obtain ⟨j, hj⟩ := List.getElem?_of_mem hy
        have hjl : j < (S.kids x).length := by
          rcases Nat.lt_or_ge j parts.length with q | q
          · omega
          · rw [List.getElem?_eq_none q] at hj; cases hj
        have := pval j _ y (List.getElem?_eq_getElem hjl) hj
        have := val_pos wf (a := a) hu _ (wf.kd x hx _ (List.getElem_mem hjl)).1
        omega
      refine ⟨_, _, _, _, rfl, rfl, f8c, fr8, l8c, q2, KB (withw S w1 h1) Λ H8 a x parts,
        ⟨sz (withw S w1 h1) a, by walk_at "v", by walk_at "v", ExI.refl, by rw [wz_self]; exact r8, fun _ _ => rfl, fun _ _ _ h => absurd h (Nat.not_lt_zero _), fun y hy => by simp at hy⟩, ?_, ?_⟩
      · rintro j ⟨c, p⟩ m2 H9 hcp ⟨z, n1, n2, ex9, r9, bi⟩ ⟨hs1, hs2⟩
        obtain ⟨hc, hp⟩ := List.getElem?_zip_eq_some.mp hcp
        have hc : (S.kids x)[j]? = some c := hc
        have hp : parts[j]? = some p := hp
        have hcm := List.mem_of_getElem? hc
        have hcd := (wf.kd x hx c hcm).1
        have hcj : c ∉ (S.kids x).take j := fun h => by
          obtain ⟨i', hi'⟩ := List.getElem?_of_mem h
          rw [List.getElem?_take] at hi'
          split at hi'
          · have := idx_nd (wf.nd x hx) hi'
            rw [idx_nd (wf.nd x hx) hc] at this
            omega
          · cases hi'
        have untouched : ∀ y ∈ pre S c, z y = sz (withw S w1 h1) a y := fun y hy => bi.off y fun h => by
          obtain ⟨d, hd, hyd⟩ := List.mem_flatMap.mp h
          have hd : d ∈ (S.kids x).take j := hd
          have := kid_apart wf hx (List.mem_of_mem_take hd) hcm hyd hy
          exact hcj (this ▸ hd)
        have hps := le_sum ppos p (List.mem_of_getElem? hp)
        repeat walk_at "w"
        refine c_set_tree_size (S := withz (withw S w1 h1) a z) wf1.wz r9 (wz_dm.mpr hcd) ha01 ?_ (by show p ≤ 1000; omega) ?_ (by walk_at "d") fun H10 z' r10 e10 rs => ?_
        · rw [wz_val]; exact pval j c p hc hp
        · intro y hy
          rw [wz_pre] at hy
          have hyd := (pre_dm wf _ c (Nat.le_refl _) hcd y hy).1
          rw [wz_val, wz_sz, untouched y hy]
          exact ⟨cn1.ge wf1 ha01 y hyd, cn1.le wf1 ha01 40 y (by walk_at "d") hyd⟩
        · repeat walk_at "w"
          rw [wz_wz] at r10
          refine ⟨⟨e10.list (r9.bc x (wz_dm.mpr hSx)) hs1, e10.list (Nat.lt_of_lt_of_le q2 ex9.le) hs2⟩, z', by walk_at "v", by walk_at "v", ex9.trans e10, r10, bi.step wf1 hx hc hp rs⟩
      · rintro m2 H9 ⟨z, n1, n2, ex9, r9, bi⟩
        rw [List.length_zip, plen, Nat.min_self] at bi
        subst ha
        obtain ⟨c1, c2, c3, c4, c5⟩ := bi.fin wf1 cn1 hSx hs0 plen psum
        repeat walk_at "w"
        refine ⟨?_, _, _, n1, (ex.trans e28.i).trans ex9, wz_wws ▸ r9, wz_wws ▸ c1, ?_, ?_, fun y hy hy0 => ?_⟩
        · exact ((e28.i.trans ex9).list (by have := ex.le; omega) hsrc)
        · have c4 : z S.root = sz (withw S w1 h1) (al (S.sort x)) S.root := c4
          rcases ha01 with q | q
          · rw [if_pos q, c4, q]; exact rw1
          · rw [if_neg (by walk_at "d")]; exact rw1
        · have c4 : z S.root = sz (withw S w1 h1) (al (S.sort x)) S.root := c4
          rcases ha01 with q | q
          · rw [if_pos q]; exact rh1
          · rw [if_neg (by walk_at "d"), c4, q]; exact rh1
        · rw [← wz_wws]
          rcases tk y hy with h | h
          · obtain ⟨g1, g2⟩ := ahead y h
            have hyd : S.Dm y := (pre_dm wf _ _ (Nat.le_refl _) wf.root y (List.mem_of_mem_take h)).1
            exact Fair.keep wf1 hSx ha01 hyd g1 g2 c3 (fr y h hy0)
          · subst h
            unfold Fair
            have es : (withz (withw S w1 h1) (al (S.sort y)) z).sort y = S.sort y := congrFun wz_sort y
            have ek : (withz (withw S w1 h1) (al (S.sort y)) z).kids y = S.kids y := congrFun wz_kids y
            have ev : wts (withz (withw S w1 h1) (al (S.sort y)) z) (al (S.sort y)) y = wts S (al (S.sort y)) y := by unfold wts; rw [ek, wz_val]; rfl
            have ez : zeros (withz (withw S w1 h1) (al (S.sort y)) z) y = zeros S y := by unfold zeros; rw [ek]
            have ef : sz (withz (withw S w1 h1) (al (S.sort y)) z) (al (S.sort y)) = z := funext fun k => wz_sz
            rw [es, ek, ev, ez, ef, c3 y c5]
            exact c2.trans hparts.symm
    · have hs0 : S.sort x = 0 := hs0
      repeat walk_at "w"
      refine ⟨hsrc, w1, h1, by walk_at "v", ex, r2, cn1, rw1, rh1, fun y hy hy0 => ?_⟩
      rcases tk y hy with h | h
      · exact fr y h hy0
      · rw [h] at hy0; exact absurd hs0 hy0
  · rintro m1 H2 ⟨w1, h1, mt, ex, r2, cn1, rw1, rh1, fr⟩
    repeat walk_at "w"
    refine c_set_places wf.ww r2 (by walk_at "d") fun H3 p1 p2 r3 e3 ps => ?_
    repeat walk_at "w"
    refine h _ w1 h1 p1 p2 r3 ((e1.i.trans ex).trans e3) cn1 rw1 rh1 (fun y hy => fr y ?_) ps
    rw [List.take_length]; exact hy
end
end
-- C19
section
section
variable {Λ : La} {S : St} {rk : Int → Nat}
theorem c_law_long (wf : Wf S rk) {a : Int} (ha : a = 0 ∨ a = 1) : ∀ n, S.Dm n → ∀ {b : Bd} {H : AH} {X : AH → Prop} {Q : AV → AH → Prop}, Rep Λ S H → rk n + 2 ≤ b.n → (∀ H', Ext H H' → Q (.int (val S 1 a n)) H') → CL b (.ref 313) [.ref Λ.T, .int n, .int a] H Q X := by
  refine wf.ind fun n hn ih => ?_
  intro b H X Q rp hb h
  refine (CA_defs (names := ["tree", "number", "axis"]) (fun _ => by with_unfolding_all rfl) (fun _ => by kernel_rfl) rfl rfl rfl rfl (by walk_at "b") (by decide) (by walk_at "d") ?_).cl
  intro sc hsc
  have vn := val_eq wf (u := 1) (a := a) hn
  repeat walk_at "w"
  refine ⟨_, _, _, _, rfl, rp.fT, rfl, rfl, ok_tree, ?_⟩
  repeat walk_at "w"
  refine SB_dict rp.fW (wl_get hn) ?_
  repeat walk_at "w"
  refine ⟨_, _, _, _, rfl, rp.fw n hn, rfl, rfl, ok_window, ?_⟩
  repeat walk_at "w"
  refine if_eq (fun hs => ?_) fun hs => ?_
  · rw [if_pos hs] at vn
    rw [vn] at h
    repeat walk_at "w"
    exact h _ Ext.refl
  · rw [if_neg hs] at vn
    have hs12 : S.sort n = 1 ∨ S.sort n = 2 := by
      rcases wf.so n hn with ⟨h1, _⟩ | ⟨h1, _⟩
      · exact absurd h1 hs
      · exact h1
    have hne : S.kids n ≠ [] := fun q => hs ((lf_iff wf hn).mpr q)
    have hkl : (S.kids n).length ≤ 13 := by
      have := st_len wf fun y hy => (wf.kd n hn y hy).1
      have h2 := pre_len wf hn
      rw [pre_eq wf hn, List.length_cons] at h2
      omega
    walk_at "w"
    walk_at "w"
    walk_at "w"
    refine ES_comp_map (by walk_at "co") (by walk_at "k") ?_ (by walk_at "k") (by walk_at "k")
    repeat walk_at "w"
    refine ⟨_, _, _, _, rfl, rp.fw n hn, rfl, rfl, ok_window, ?_⟩
    refine ⟨_, _, rfl, rp.fc n hn, rp.bc n hn, by omega, fun c => .int (val S 1 a c), fun c hc H4 e4 => ?_, fun H4 e4 => ?_⟩
    · repeat walk_at "w"
      refine ih c hc (rp.ext e4) ?_ fun H5 e5 => ⟨rfl, e5⟩
      have := (wf.kd n hn c hc).2.2.2
      walk_at "d"
    have em : (S.kids n).map (fun c => AV.int (val S 1 a c)) = iL ((S.kids n).map (val S 1 a)) := by unfold iL; rw [List.map_map]; rfl
    rw [em]
    have e5 := e4.alloc (o := .list (iL ((S.kids n).map (val S 1 a))))
    have f5 : (H4.alloc (.list (iL ((S.kids n).map (val S 1 a))))).f H4.n = .list (iL ((S.kids n).map (val S 1 a))) := al_self
    revert e5 f5
    generalize H4.alloc (.list (iL ((S.kids n).map (val S 1 a)))) = H5
    intro e5 f5
    have r5 := rp.ext e5
    repeat walk_at "w"
    refine ⟨_, _, _, _, rfl, r5.fw n hn, rfl, rfl, ok_window, ?_⟩
    repeat walk_at "w"
    refine OP_eqb ⟨_, rfl, ?_⟩
    have key : ((S.sort n == 1) == (a == 1)) = true ↔ al (S.sort n) = a := by
      rcases hs12 with e | e <;> rcases ha with rfl | rfl <;> rw [e] <;> decide
    refine if_b (fun q => ?_) fun q => ?_
    · rw [if_pos (key.mp q)] at vn
      rw [vn] at h
      repeat walk_at "w"
      refine CL_sum f5 ?_
      repeat walk_at "w"
      exact h _ e5
    · rw [if_neg (fun e => by rw [key.mpr e] at q; cases q)] at vn
      rw [vn] at h
      repeat walk_at "w"
      refine CL_max f5 (by rw [List.length_map]; exact List.length_pos_iff.mpr hne) fun M h1 h2 => ?_
      have hM : M = mx ((S.kids n).map (val S 1 a)) := mx_uniq h1 h2 fun x hx => by
        obtain ⟨y, hy, rfl⟩ := List.mem_map.mp hx
        exact Int.le_of_lt (val_pos wf (by decide) y (wf.kd n hn y hy).1)
      subst hM
      repeat walk_at "w"
      exact h _ e5
end
end
-- C20
section
section
variable {b : Bd} {sc : Scope} {m : Vars} {H : AH} {X : AH → Prop}
inductive NoneP (b : Bd) (sc : Scope) (t : Expr) (x : PySem.Str) (m : Vars) (Q : AV → AH → Prop) (a : AV) (H1 : AH) : Prop
  | mk (j : Nat) (ns : List Int) : a = .ref j → H1.f j = .list (iL ns) → j < H1.n → ns.length ≤ 1000 →
    (∀ c ∈ ns, ∀ H2, Ext H1 H2 → ET b sc t (up m x (.int c)) H2 (fun r H3 => r = false ∧ Ext H2 H3) NoX) → (∀ H2, Ext H1 H2 → Q (.ref H2.n) (H2.alloc (.list []))) → NoneP b sc t x m Q a H1
theorem EV_comp_none {scope : Scope} {elt it t : Expr} {x : PySem.Str} {px pos : Pos} {Q : AV → AH → Prop} (co : CompOk scope sc) (hx : (relabelS scope sc).names.lookup x = some .local)
    (h : EV b sc it m H (NoneP b (relabelS scope sc) t x (compV scope m) Q) NoX) (hs : ∀ env x, foldedSetIterable it env x = pure x := by intro _ _; rfl) :
    EV b sc (.ListComp elt [⟨.Name x px, it, [t], 0⟩] scope pos) m H Q X := by
  refine EV_comp co (TBp_name (P := fun _ => True) hx) (IT_list (h.mono (fun a H1 z => ?_) fun _ x => x)) hs
  obtain ⟨j, ns, rfl, hf, hj, hl, ht, hq⟩ := z
  refine ⟨j, iL ns, rfl, hf, fun _ _ => trivial, by rw [iL_len]; exact hl, fun i ys H2 => Ext H1 H2 ∧ ys = [], ⟨Ext.refl, rfl⟩, ?_, ?_⟩
  · rintro i a ys H2 e ⟨ex, rfl⟩ hs
    obtain ⟨c, hc, rfl⟩ := iL_get e
    show ET b (relabelS scope sc) t _ H2 _ NoX
    refine (ht c (List.mem_of_getElem? hc) H2 ex).mono (fun r H3 z => ?_) fun _ x => x
    obtain ⟨rfl, e3⟩ := z
    rw [if_neg (by decide)]
    exact ⟨(e3.f j (Nat.lt_of_lt_of_le hj ex.le)).trans hs, ex.trans e3, rfl⟩
  · rintro ys H2 ⟨ex, rfl⟩
    exact hq H2 ex
theorem EV_cut {e : Expr} {Q : AV → AH → Prop} (P : AV → AH → Prop) (h : EV b sc e m H P X) (k : ∀ a H', P a H' → Q a H') : EV b sc e m H Q X := h.mono k fun _ x => x
/-- a loop over range(a, ..) -/
inductive Range2P (b : Bd) (sc : Scope) (body : List Stmt) (x : PySem.Str) (m : Vars) (Q : Fl → Vars → AH → Prop) (a1 a2 : AV) (H3 : AH) : Prop
  | mk (a : Int) (n : Nat) : a1 = .int a → a2 = .int (a + n) → (-(2 ^ 61) ≤ a ∧ a < 2 ^ 61) → n < 2 ^ 61 → (J : Nat → Vars → AH → Prop) → J 0 m H3 →
    (∀ i m1 H4, i < n → J i m1 H4 → EX b sc body (up m1 x (.int (a + (i : Nat)))) H4 (LX (J (i + 1)) Q) NoXV) → (∀ m1 H4, J n m1 H4 → Q .next m1 H4) → Range2P b sc body x m Q a1 a2 H3
theorem ES_for_range2 {x : PySem.Str} {px np zp pos : Pos} {e1 e2 : Expr} {body : List Stmt} {Q : Fl → Vars → AH → Prop} {X : Vars → AH → Prop} (hx : sc.names.lookup x = some .local) (hn : sc.names.lookup ("range" : PySem.Str) = some .globalImplicit)
    (h : EV b sc e1 m H (fun a1 H2 => EV b sc e2 m H2 (Range2P b sc body x m Q a1) NoX) NoX)
    (he : ∀ env, eval (.Call (.Name "range" np) [e1, e2] [] zp) env = (do callWith zp (← eval (.Name "range" np) env) [] (backTo zp (starEach [e1, e2] env)) (backToKw zp (keywordEach [] env))) := by intro _; rfl)
    (hs : ∀ env, starEach [e1, e2] env = (false, eval e1 env) :: starEach [e2] env := by intro _; rfl) (hs2 : ∀ env, starEach [e2] env = (false, eval e2 env) :: starEach [] env := by intro _; rfl) (hplain : ∀ env, (backTo zp (starEach [e2] env)).any (·.1) = false := by intro _; rfl)
    (hf : ∀ env v, foldedSetIterable (.Call (.Name "range" np) [e1, e2] [] zp) env v = pure v := by intro _ _; rfl) :
    ES b sc (.For (.Name x px) (.Call (.Name "range" np) [e1, e2] [] zp) body [] pos) m H Q X := by
  refine ES_for (TBp_name (P := fun _ => True) hx) (IT_range2 (EV_bi hn (fun _ => by kernel_rfl) (by decide +kernel) (by decide) ⟨rfl, h.mono (fun a1 H2 z => z.mono (fun a2 H3 z => ?_) fun _ x => x) fun _ x => x⟩) he hs hs2 hplain) hf
  obtain ⟨a, n, rfl, rfl, ha, hn', J, j0, turn, fin⟩ := z
  refine ⟨a, n, rfl, rfl, ha, hn', fun _ _ => trivial, J, j0, fun i v m1 H4 e hj _ => ?_, fun m1 H4 hj => fin m1 H4 ?_⟩
  · obtain ⟨hi, rfl⟩ := rangeA_get e
    exact (turn i m1 H4 hi hj).mono (fun fl m2 H5 z => by
      cases fl with
      | next => exact ⟨trivial, z⟩
      | ret r => exact z) fun _ _ x => x
  · have : (rangeA a n).length = n := by unfold rangeA; simp
    rwa [this] at hj
end
theorem fair_get {S : St} {rk : Int → Nat} (wf : Wf S rk) {n : Int} (hn : S.Dm n) (h0 : S.sort n ≠ 0) (f : Fair S n) {i : Nat} (hi : i < (S.kids n).length) :
    ∃ c, (S.kids n)[i]? = some c ∧ 0 < (wts S (al (S.sort n)) n).sum ∧ sz S (al (S.sort n)) c = val S 1 (al (S.sort n)) c * sz S (al (S.sort n)) n / (wts S (al (S.sort n)) n).sum + (if (i : Int) < sz S (al (S.sort n)) n - (shF (sz S (al (S.sort n)) n) (wts S (al (S.sort n)) n).sum (wts S (al (S.sort n)) n) (zeros S n)).sum then 1 else 0) := by
  have hc : (S.kids n)[i]? = some (S.kids n)[i] := List.getElem?_eq_getElem hi
  refine ⟨_, hc, ?_, ?_⟩
  · refine sum_pos (fun w hw => ?_) ?_
    · obtain ⟨c, hc, rfl⟩ := List.mem_map.mp hw
      exact val_pos wf (by decide) c (wf.kd n hn c hc).1
    · intro q
      have := congrArg List.length q
      unfold wts at this
      rw [List.length_map] at this
      have := List.eq_nil_of_length_eq_zero this
      exact h0 ((lf_iff wf hn).mpr this)
  · have wp : 0 < (wts S (al (S.sort n)) n).sum := by
      refine sum_pos (fun w hw => ?_) ?_
      · obtain ⟨c, hc, rfl⟩ := List.mem_map.mp hw
        exact val_pos wf (by decide) c (wf.kd n hn c hc).1
      · intro q
        have := congrArg List.length q
        unfold wts at this
        rw [List.length_map] at this
        have := List.eq_nil_of_length_eq_zero this
        exact h0 ((lf_iff wf hn).mpr this)
    have e : ((S.kids n).map (sz S (al (S.sort n))))[i]? = some (sz S (al (S.sort n)) (S.kids n)[i]) := by rw [List.getElem?_map, hc]; rfl
    have f : (S.kids n).map (sz S (al (S.sort n))) = _ := f
    rw [f] at e
    unfold sharesF at e
    have zs : (zeros S n).sum = 0 := by unfold zeros; simp
    rw [if_neg (by walk_at "d"), zs, Int.sub_zero] at e
    have g1 : (wts S (al (S.sort n)) n)[i]? = some (val S 1 (al (S.sort n)) (S.kids n)[i]) := by unfold wts; rw [List.getElem?_map, hc]; rfl
    have g2 : (zeros S n)[i]? = some 0 := by unfold zeros; rw [List.getElem?_replicate, if_pos hi]
    rw [topUp_get (shF_get g1 g2)] at e
    have := Option.some.inj e
    rw [← this, Int.zero_add, Int.mul_comm]
section
variable {Λ : La} {S : St} {rk : Int → Nat}
inductive JF (S : St) (Λ : La) (n : Int) (jd js : Nat) (P : AH → Prop) (i : Nat) (m : Vars) (H8 : AH) : Prop
  | mk : m "tree" = some (.ref Λ.T) → m "shown_window" = some (.ref (Λ.jw n)) → m "axis" = some (.int (al (S.sort n))) → m "shares_due" = some (.ref jd) → m "sizes" = some (.ref js) → P H8 → JF S Λ n jd js P i m H8
set_option maxHeartbeats 2000000 in
theorem c_law_is_fair (wf : Wf S rk) (cn : Cn S) (hF : ∀ y, S.Dm y → S.sort y ≠ 0 → Fair S y) : ∀ n, S.Dm n → ∀ {b : Bd} {H : AH} {X : AH → Prop} {Q : AV → AH → Prop}, Rep Λ S H → rk n + 4 ≤ b.n → (∀ H', Ext H H' → Q (.bool true) H') → CL b (.ref 318) [.ref Λ.T, .int n] H Q X := by
  refine wf.ind fun n hn ih => ?_
  intro b H X Q rp hb h
  refine (CA_defs (names := ["tree", "number"]) (fun _ => by with_unfolding_all rfl) (fun _ => by kernel_rfl) rfl rfl rfl rfl (by walk_at "b") (by decide) (by walk_at "d") ?_).cl
  intro sc hsc
  repeat walk_at "w"
  refine ⟨_, _, _, _, rfl, rp.fT, rfl, rfl, ok_tree, ?_⟩
  repeat walk_at "w"
  refine SB_dict rp.fW (wl_get hn) ?_
  repeat walk_at "w"
  refine ⟨_, _, _, _, rfl, rp.fw n hn, rfl, rfl, ok_window, ?_⟩
  repeat walk_at "w"
  refine if_eq (fun hs => ?_) fun hs => ?_
  · repeat walk_at "w"
    exact h _ Ext.refl
  have hs12 : S.sort n = 1 ∨ S.sort n = 2 := by
    rcases wf.so n hn with ⟨h1, _⟩ | ⟨h1, _⟩
    · exact absurd h1 hs
    · exact h1
  have hk2 : 2 ≤ (S.kids n).length := cn.two n hn hs
  have hkl : (S.kids n).length ≤ 13 := by
    have := st_len wf fun y hy => (wf.kd n hn y hy).1
    have h2 := pre_len wf hn
    rw [pre_eq wf hn, List.length_cons] at h2
    omega
  have ha01 : al (S.sort n) = 0 ∨ al (S.sort n) = 1 := al01
  have fg := @fair_get S rk wf n hn hs (hF n hn hs)
  have hle := cn.le wf ha01 40 n (by walk_at "d") hn
  have hT := cn.pos wf ha01 n hn
  have hsum := cn.sum n hn hs
  have wle : ∀ c ∈ S.kids n, val S 1 (al (S.sort n)) c ≤ 1000 ∧ 0 < val S 1 (al (S.sort n)) c := fun c hc => by
    have hcd := (wf.kd n hn c hc).1
    have h1 := cn.ge wf ha01 c hcd
    have h2 := cn.le wf ha01 40 c (by walk_at "d") hcd
    have hu : 0 < leastL (al (S.sort n)) := by unfold leastL; split <;> decide
    rw [val_scale wf hu c hcd] at h1
    have h3 := val_pos wf (a := al (S.sort n)) (show (0:Int) < 1 by decide) c hcd
    have h4 : 1 * val S 1 (al (S.sort n)) c ≤ leastL (al (S.sort n)) * val S 1 (al (S.sort n)) c := Int.mul_le_mul_of_nonneg_right (by walk_at "d") (Int.le_of_lt h3)
    rw [Int.one_mul] at h4
    omega
  have wsum : (wts S (al (S.sort n)) n).sum ≤ 1000 * ((S.kids n).length : Int) := by
    have := sum_le (l := wts S (al (S.sort n)) n) (c := 1000) fun y hy => by
      obtain ⟨c, hc, rfl⟩ := List.mem_map.mp hy; exact (wle c hc).1
    unfold wts at this ⊢
    rwa [List.length_map] at this
  walk_at "w"
  walk_at "w"
  walk_at "w"
  walk_at "w"
  refine EV_cut (fun a H' => a = .int (al (S.sort n)) ∧ H' = H) ?_ ?_
  · repeat walk_at "w"
    refine ⟨_, _, _, _, rfl, rp.fw n hn, rfl, rfl, ok_window, ?_⟩
    repeat walk_at "w"
    refine if_eq (fun e => ?_) fun e => ?_
    · repeat walk_at "w"
      exact ⟨by rw [e]; rfl, rfl⟩
    · have e2 : S.sort n = 2 := by rcases hs12 with q | q; exact absurd q e; exact q
      repeat walk_at "w"
      exact ⟨by rw [e2]; rfl, rfl⟩
  rintro _ _ ⟨rfl, rfl⟩
  walk_at "w"
  walk_at "w"
  walk_at "w"
  refine ES_comp_map (by walk_at "co") (by walk_at "k") ?_ (by walk_at "k") (by walk_at "k")
  repeat walk_at "w"
  refine ⟨_, _, _, _, rfl, rp.fw n hn, rfl, rfl, ok_window, ?_⟩
  refine ⟨_, _, rfl, rp.fc n hn, rp.bc n hn, by omega, fun c => .int (val S 1 (al (S.sort n)) c), fun c hc H4 e4 => ?_, fun H4 e4 => ?_⟩
  · repeat walk_at "w"
    have := (wf.kd n hn c hc).2.2.2
    exact c_law_long wf ha01 c (wf.kd n hn c hc).1 (rp.ext e4) (by walk_at "d") fun H5 e5 => ⟨rfl, e5⟩
  have em : (S.kids n).map (fun c => AV.int (val S 1 (al (S.sort n)) c)) = iL (wts S (al (S.sort n)) n) := by unfold iL wts; rw [List.map_map]; rfl
  rw [em]
  have e5 := e4.alloc (o := .list (iL (wts S (al (S.sort n)) n)))
  have fd5 : (H4.alloc (.list (iL (wts S (al (S.sort n)) n)))).f H4.n = .list (iL (wts S (al (S.sort n)) n)) := al_self
  have ld5 : H4.n < (H4.alloc (.list (iL (wts S (al (S.sort n)) n)))).n := Nat.lt_succ_self _
  revert e5 fd5 ld5
  generalize H4.alloc (.list (iL (wts S (al (S.sort n)) n))) = H5
  generalize H4.n = jd
  intro e5 fd5 ld5
  have r5 := rp.ext e5
  walk_at "w"
  walk_at "w"
  refine ES_comp_map (by walk_at "co") (by walk_at "k") ?_ (by walk_at "k") (by walk_at "k")
  repeat walk_at "w"
  refine ⟨_, _, _, _, rfl, r5.fw n hn, rfl, rfl, ok_window, ?_⟩
  refine ⟨_, _, rfl, r5.fc n hn, r5.bc n hn, by omega, fun c => .int (sz S (al (S.sort n)) c), fun c hc H6 e6 => ?_, fun H6 e6 => ?_⟩
  · have r6 := r5.ext e6
    have hcd := (wf.kd n hn c hc).1
    refine EV_method ?_
    repeat walk_at "w"
    refine ⟨_, _, _, _, rfl, r6.fT, rfl, rfl, ok_tree, ?_⟩
    repeat walk_at "w"
    refine SB_dict r6.fW (wl_get hcd) ?_
    refine ⟨_, gm_size (r6.fw _ hcd) rfl, ?_⟩
    repeat walk_at "w"
    refine c_size (by walk_at "d") (r6.fw _ hcd) ?_
    exact ⟨rfl, Ext.refl⟩
  have em2 : (S.kids n).map (fun c => AV.int (sz S (al (S.sort n)) c)) = iL ((S.kids n).map (sz S (al (S.sort n)))) := by unfold iL; rw [List.map_map]; rfl
  rw [em2]
  have e7 := e6.alloc (o := .list (iL ((S.kids n).map (sz S (al (S.sort n))))))
  have fs7 : (H6.alloc (.list (iL ((S.kids n).map (sz S (al (S.sort n))))))).f H6.n = .list (iL ((S.kids n).map (sz S (al (S.sort n))))) := al_self
  have ls7 : H6.n < (H6.alloc (.list (iL ((S.kids n).map (sz S (al (S.sort n))))))).n := Nat.lt_succ_self _
  revert e7 fs7 ls7
  generalize H6.alloc (.list (iL ((S.kids n).map (sz S (al (S.sort n)))))) = H7
  generalize H6.n = js
  intro e7 fs7 ls7
  have fd7 := (e7.f _ ld5).trans fd5
  have ld7 := Nat.lt_of_lt_of_le ld5 e7.le
  have r7 := r5.ext e7
  have wl : (wts S (al (S.sort n)) n).length = (S.kids n).length := by unfold wts; rw [List.length_map]
  have sg : ∀ {i : Nat} {c : Int}, (S.kids n)[i]? = some c → (wts S (al (S.sort n)) n)[i]? = some (val S 1 (al (S.sort n)) c) ∧ ((S.kids n).map (sz S (al (S.sort n))))[i]? = some (sz S (al (S.sort n)) c) := fun h => by
    unfold wts; rw [List.getElem?_map, List.getElem?_map, h]; exact ⟨rfl, rfl⟩
  walk_at "w"
  walk_at "w"
  refine ES_for_zip (by walk_at "k") (by walk_at "k") ⟨by walk_at "k", ?_⟩
  repeat walk_at "w"
  refine ⟨_, _, _, _, rfl, rfl, fd7, fs7, ld7, ls7, JF S Λ n jd js (Ext H7),
    ⟨by walk_at "v", by walk_at "v", by walk_at "v", by walk_at "v", by walk_at "v", Ext.refl⟩, ?_, ?_⟩
  · rintro i ⟨p1, p2⟩ m1 H8 hp ⟨m1', m2', m3', m4', m5', e8⟩ ⟨hs1, hs2⟩
    obtain ⟨g1, g2⟩ := List.getElem?_zip_eq_some.mp hp
    have hil : i < (S.kids n).length := by
      rcases Nat.lt_or_ge i (S.kids n).length with q | q
      · exact q
      · rw [List.getElem?_eq_none (by walk_at "d")] at g1; cases g1
    obtain ⟨c, hc, wp, hsz⟩ := fg hil
    obtain ⟨k1, k2⟩ := sg hc
    have e1 : val S 1 (al (S.sort n)) c = p1 := Option.some.inj (k1.symm.trans g1)
    have e2 : sz S (al (S.sort n)) c = p2 := Option.some.inj (k2.symm.trans g2)
    rw [e1, e2] at hsz
    have hp1 := wle c (List.mem_of_getElem? hc)
    rw [e1] at hp1
    have r8 := r7.ext e8
    have mulOk : p1.natAbs < 2 ^ 63 := by omega
    have wsml : (wts S (al (S.sort n)) n).sum < 1073741824 := by omega
    have quot : ∀ {H9 : AH} {X9 : AH → Prop} {Q9 : AV → AH → Prop} {sc9 : Scope} {b9 : Bd}, True := fun {_ _ _ _ _} => trivial
    have b1 : p1 * sz S (al (S.sort n)) n / (wts S (al (S.sort n)) n).sum ≤ p2 := by rw [hsz]; split <;> omega
    have b2 : p2 ≤ p1 * sz S (al (S.sort n)) n / (wts S (al (S.sort n)) n).sum + 1 := by rw [hsz]; split <;> omega
    walk_at "w"
    walk_at "w"
    refine ET_not (ET_chain ?_)
    walk_at "w"
    walk_at "w"
    walk_at "w"
    refine EV_method ?_
    repeat walk_at "w"
    refine ⟨_, gm_size (r8.fw n hn) rfl, ?_⟩
    repeat walk_at "w"
    refine c_size (by walk_at "d") (r8.fw n hn) ?_
    refine OP_mul mulOk ?_
    repeat walk_at "w"
    refine CL_sum hs1 ?_
    refine OP_floordiv wp wsml ?_
    repeat walk_at "w"
    refine if_d (fun _ => ?_) fun q => absurd b1 q
    walk_at "w"
    walk_at "w"
    walk_at "w"
    walk_at "w"
    refine EV_method ?_
    repeat walk_at "w"
    refine ⟨_, gm_size (r8.fw n hn) rfl, ?_⟩
    repeat walk_at "w"
    refine c_size (by walk_at "d") (r8.fw n hn) ?_
    refine OP_mul mulOk ?_
    repeat walk_at "w"
    refine CL_sum hs1 ?_
    refine OP_floordiv wp wsml ?_
    repeat walk_at "w"
    refine if_n (fun q => absurd b2 (of_decide_eq_false q)) fun _ => ?_
    repeat walk_at "w"
    exact ⟨⟨hs1, hs2⟩, by walk_at "v", by walk_at "v", by walk_at "v", by walk_at "v", by walk_at "v", e8⟩
  rintro m1 H8 ⟨n1, n2, n3, n4, n5, e8⟩
  have fd8 := (e8.f _ ld7).trans fd7
  have fs8 := (e8.f _ ls7).trans fs7
  walk_at "w"
  walk_at "w"
  refine ES_for_range2 (by walk_at "k") (by walk_at "k") ?_
  repeat walk_at "w"
  refine CL_len fd8 (by rw [iL_len, wl]; omega) ?_
  rw [iL_len, wl]
  refine ⟨1, (S.kids n).length - 1, rfl, by congr 1; omega, by omega, by omega, JF S Λ n jd js (fun H9 => H9 = H8),
    ⟨by walk_at "v", by walk_at "v", by walk_at "v", by walk_at "v", by walk_at "v", rfl⟩, ?_, ?_⟩
  · rintro i m2 H9 hi ⟨n1, n2, n3, n4, n5, rfl⟩
    obtain ⟨c, hc, wp, hsz⟩ := fg (show i < (S.kids n).length by omega)
    obtain ⟨d, hd, _, hszd⟩ := fg (show i + 1 < (S.kids n).length by omega)
    obtain ⟨c1, c2⟩ := sg hc
    obtain ⟨d1, d2⟩ := sg hd
    have t1 : (1 + (i : Int)).toNat = i + 1 := by omega
    have t2 : (1 + (i : Int) - 1).toNat = i := by omega
    have gi : ∀ {l : List Int} {k : Nat} {v : Int}, l[k]? = some v → (iL l)[k]? = some (.int v) := fun h => by unfold iL; rw [List.getElem?_map, h]; rfl
    have fin : ∀ (A B : Prop), True := fun _ _ => trivial
    walk_at "w"
    walk_at "w"
    walk_at "w"
    walk_at "w"
    walk_at "w"
    repeat walk_at "w"
    refine SB_list fd8 (by walk_at "d") (by walk_at "d") (by rw [t1]; exact gi d1) ?_
    repeat walk_at "w"
    refine SB_list fd8 (by walk_at "d") (by walk_at "d") (by rw [t2]; exact gi c1) ?_
    repeat walk_at "w"
    refine if_eq (fun he => ?_) fun he => ?_
    · repeat walk_at "w"
      refine SB_list fs8 (by walk_at "d") (by walk_at "d") (by rw [t1]; exact gi d2) ?_
      repeat walk_at "w"
      refine SB_list fs8 (by walk_at "d") (by walk_at "d") (by rw [t2]; exact gi c2) ?_
      repeat walk_at "w"
      refine if_d (fun q => ?_) fun q => ?_
      · exfalso
        rw [hsz, hszd, he] at q
        revert q
        push_cast
        split <;> split <;> omega
      · repeat walk_at "w"
        refine if_b (fun q => by cases q) fun _ => ?_
        repeat walk_at "w"
        exact ⟨by walk_at "v", by walk_at "v", by walk_at "v", by walk_at "v", by walk_at "v", rfl⟩
    · refine if_b (fun q => by cases q) fun _ => ?_
      repeat walk_at "w"
      exact ⟨by walk_at "v", by walk_at "v", by walk_at "v", by walk_at "v", by walk_at "v", rfl⟩
  rintro m2 H9 ⟨n1, n2, n3, n4, n5, rfl⟩
  have r9 := r7.ext e8
  walk_at "w"
  walk_at "w"
  walk_at "w"
  refine EV_and2 ?_
  repeat walk_at "w"
  refine CL_sum fs8 ?_
  refine EV_method ?_
  repeat walk_at "w"
  refine ⟨_, gm_size (r9.fw n hn) rfl, ?_⟩
  repeat walk_at "w"
  refine c_size (by walk_at "d") (r9.fw n hn) ?_
  refine OP_eq ⟨_, rfl, ?_⟩
  refine if_eq (fun _ => ?_) fun q => absurd hsum q
  walk_at "w"
  refine EV_comp_none (by walk_at "co") (by walk_at "k") ?_
  repeat walk_at "w"
  refine ⟨_, _, _, _, rfl, r9.fw n hn, rfl, rfl, ok_window, ?_⟩
  refine ⟨_, _, rfl, r9.fc n hn, r9.bc n hn, by omega, fun c hc HA eA => ?_, fun HA eA => ?_⟩
  · refine ET_not (ET_val ?_)
    repeat walk_at "w"
    have := (wf.kd n hn c hc).2.2.2
    exact ih c hc (r9.ext eA) (by walk_at "d") fun HB eB => ⟨true, rfl, rfl, eB⟩
  repeat walk_at "w"
  refine ⟨by decide, ?_⟩
  refine OP_eqd (RD.list ((al_lt (Nat.lt_succ_self _)).trans al_self) (by rfl)) (RD.list al_self (by rfl)) ?_
  repeat walk_at "w"
  exact h _ ((((e5.trans e7).trans e8).trans eA).alloc.alloc)
end
end
-- C21
section
noncomputable def ndF (S : St) : Nat → Int → AV
  | 0, _ => .none
  | f + 1, n => if S.sort n = 0 then .tup [.int n, .int (S.w n), .int (S.h n), .tup [.int 1, .int 1, .int 1, .int 0], .bool false, .int (if n = 1 then 1 else 0), .tup [], .tup []]
    else .tup [.int n, .int (S.sort n), .int (S.w n), .int (S.h n), .tup ((S.kids n).map (ndF S f))]
noncomputable def nd (S : St) (n : Int) : AV := ndF S 41 n
theorem okd_mono : ∀ {k k' : Nat}, k ≤ k' → ∀ {a : AV}, AV.okd k a = true → AV.okd k' a = true := by
  have go : ∀ (k k' : Nat), k ≤ k' → (∀ a, AV.okd k a = true → AV.okd k' a = true) ∧ (∀ l, AV.okds k l = true → AV.okds k' l = true) := by
    intro k
    induction k with
    | zero =>
      intro k' _
      have h1 : ∀ a, AV.okd 0 a = true → AV.okd k' a = true := fun a h => by
        cases a with
        | none => cases k' <;> rfl
        | bool b => cases k' <;> rfl
        | int i => cases k' <;> rfl
        | str x => cases h
        | ref i => cases h
        | tup l => cases h
        | gl v => cases h
      refine ⟨h1, fun l => ?_⟩
      induction l with
      | nil => intro _; cases k' <;> rfl
      | cons a r ih =>
        intro h
        rw [AV.okds, Bool.and_eq_true] at h ⊢
        exact ⟨h1 a h.1, ih h.2⟩
    | succ k ihk =>
      intro k' hk
      obtain ⟨k2, rfl⟩ : ∃ k2, k' = k2 + 1 := ⟨k' - 1, by omega⟩
      have h1 : ∀ a, AV.okd (k + 1) a = true → AV.okd (k2 + 1) a = true := fun a h => by
        cases a with
        | none => rfl
        | bool b => rfl
        | int i => rfl
        | str x => cases h
        | ref i => cases h
        | tup l => exact (ihk k2 (by walk_at "d")).2 l h
        | gl v => cases h
      refine ⟨h1, fun l => ?_⟩
      induction l with
      | nil => intro _; rfl
      | cons a r ih =>
        intro h
        rw [AV.okds, Bool.and_eq_true] at h ⊢
        exact ⟨h1 a h.1, ih h.2⟩
  intro k k' h a
  exact (go k k' h).1 a
theorem okds_of {k : Nat} : ∀ {l : List AV}, (∀ a ∈ l, AV.okd k a = true) → AV.okds k l = true
  | [], _ => by cases k <;> rfl
  | a :: r, h => by
    rw [AV.okds, h a (.head _), okds_of fun b hb => h b (.tail _ hb)]; rfl
section
variable {S : St} {rk : Int → Nat}
theorem ndF_stable (wf : Wf S rk) : ∀ (f g : Nat) (n : Int), S.Dm n → rk n < f → rk n < g → ndF S f n = ndF S g n
  | 0, _, _, _, h, _ => absurd h (Nat.not_lt_zero _)
  | _ + 1, 0, _, _, _, h => absurd h (Nat.not_lt_zero _)
  | f + 1, g + 1, n, hn, hf, hg => by
    have e : (S.kids n).map (ndF S f) = (S.kids n).map (ndF S g) := by
      refine List.map_congr_left fun c hc => ?_
      obtain ⟨hc', _, _, hr⟩ := wf.kd n hn c hc
      exact ndF_stable wf f g c hc' (by walk_at "d") (by walk_at "d")
    unfold ndF
    rw [e]
theorem nd_eq (wf : Wf S rk) {n : Int} (hn : S.Dm n) : nd S n = if S.sort n = 0 then .tup [.int n, .int (S.w n), .int (S.h n), .tup [.int 1, .int 1, .int 1, .int 0], .bool false, .int (if n = 1 then 1 else 0), .tup [], .tup []]
    else .tup [.int n, .int (S.sort n), .int (S.w n), .int (S.h n), .tup ((S.kids n).map (nd S))] := by
  have := wf.rb n
  have e : nd S n = ndF S 42 n := ndF_stable wf 41 42 n hn (by walk_at "d") (by walk_at "d")
  rw [e]; rfl
theorem nd_ok (wf : Wf S rk) : ∀ n, S.Dm n → AV.okd (2 * rk n + 2) (nd S n) = true := by
  refine wf.ind fun n hn ih => ?_
  rw [nd_eq wf hn]
  split
  · rfl
  · have : AV.okds (2 * rk n) ((S.kids n).map (nd S)) = true := okds_of fun a ha => by
      obtain ⟨c, hc, rfl⟩ := List.mem_map.mp ha
      have := (wf.kd n hn c hc).2.2.2
      exact okd_mono (by walk_at "d") (ih c hc)
    show AV.okds (2 * rk n + 1) _ = true
    refine okds_of fun a ha => ?_
    simp only [List.mem_cons, List.not_mem_nil, or_false] at ha
    rcases ha with rfl | rfl | rfl | rfl | rfl
    · rfl
    · rfl
    · rfl
    · rfl
    · exact this
end
/-- how the table of node_of stands -/
structure JN (Λ : La) (H : AH) (q : Nat) (n : Int) (g : Int → AV) (L : List Int) (i : Nat) (m : Vars) (H2 : AH) : Prop where
  t : m "tree" = some (.ref Λ.T)
  f : m "made" = some (.ref H.n)
  n : m "number" = some (.int n)
  e : Ext H H2
  lt : q < H2.n
  d : ∃ d, H2.f H.n = .dict d ∧ d.length ≤ i ∧ ∀ y ∈ L.take i, dget d y = some (g y)
theorem JN.step {Λ : La} {H H2 H3 : AH} {q : Nat} {n c : Int} {g : Int → AV} {L : List Int} {i : Nat} {m : Vars} {v : AV} {d : List (Int × AV)} (x : JN Λ H q n g L i m H2) (hq : H.n < q) (hc : L[i]? = some c) (hs : H2.f q = .list (iL L)) (e : Ext H2 H3)
    (hdl : d.length ≤ i) (hd : ∀ y ∈ L.take i, dget d y = some (g y)) (hv : v = g c) {mm : Vars} (h1 : mm "tree" = m "tree") (h2 : mm "made" = m "made") (h4 : mm "number" = m "number") :
    (H3.set H.n (.dict (dset d c v))).f q = .list (iL L) ∧ JN Λ H q n g L (i + 1) mm (H3.set H.n (.dict (dset d c v))) := by
  have := x.lt
  refine ⟨by rw [st_ne (by walk_at "d"), e.f _ this, hs], h1.trans x.t, h2.trans x.f, h4.trans x.n, (x.e.trans e).set (Nat.le_refl _), Nat.lt_of_lt_of_le this e.le, _, st_self, Nat.le_trans dset_len (by walk_at "d"), fun y hy => ?_⟩
  subst hv
  rw [take_get hc] at hy
  rw [dget_dset]
  by_cases q : y = c
  · rw [if_pos q, q]
  · rw [if_neg q]
    rcases List.mem_append.mp hy with hy | hy
    · exact hd y hy
    · exact absurd (List.mem_singleton.mp hy) q
section
variable {b : Bd} {H : AH} {X : AH → Prop} {Q : AV → AH → Prop} {Λ : La} {S : St} {rk : Int → Nat}
theorem gm_shown {j : Nat} {L : Lk} (hf : H.f j = .inst 93 (lk L)) (hn : lk L "shown" = none) : GM H (.ref j) "shown" (.ref 83) := .inst hf ok_window hn (fun _ => by kernel_rfl) (fun _ => by kernel_rfl) (fun _ => by kernel_rfl)
theorem c_shown {n : Int} {j : Nat} (hf : H.f j = .inst 93 (lk (wat Λ S n))) (hb : 1 ≤ b.n) (h : Q (.tup [.int (S.buf n), .int 1, .int 1, .int 0]) H) : CL b (.ref 83) [.ref j] H Q X := by
  refine (CA_defs (names := ["self"]) (fun _ => by with_unfolding_all rfl) (fun _ => by kernel_rfl) rfl rfl rfl rfl (by walk_at "b") (by decide) (by walk_at "d") ?_).cl
  intro sc hsc
  repeat walk_at "w"
  refine ⟨_, _, _, _, rfl, hf, rfl, rfl, ok_window, ?_⟩
  repeat walk_at "w"
  refine ⟨_, _, _, _, rfl, hf, rfl, rfl, ok_window, ?_⟩
  repeat walk_at "w"
  refine ⟨_, _, _, _, rfl, hf, rfl, rfl, ok_window, ?_⟩
  repeat walk_at "w"
  refine ⟨_, _, _, _, rfl, hf, rfl, rfl, ok_window, ?_⟩
  repeat walk_at "w"
  refine ⟨by simp, ?_⟩
  repeat walk_at "w"
  exact h
theorem c_node_of (wf : Wf S rk) (rp : Rep Λ S H) {n : Int} (hn : S.Dm n) (hb : 2 ≤ b.n) (h : ∀ H', Ext H H' → Q (nd S n) H') : CL b (.ref 266) [.ref Λ.T, .int n] H Q X := by
  refine (CA_defs (names := ["tree", "number"]) (fun _ => by with_unfolding_all rfl) (fun _ => by kernel_rfl) rfl rfl rfl rfl (by walk_at "b") (by decide) (by walk_at "d") ?_).cl
  intro sc hsc
  repeat walk_at "w"
  refine ES_for_ints (by walk_at "k") ?_
  refine EV_rev ?_
  repeat walk_at "w"
  refine c_windows_under wf (rp.ext Ext.refl.alloc) hn (by walk_at "d") fun H1 r e1 b1 b2 f1 => ?_
  repeat walk_at "w"
  have hlen := pre_len wf hn
  refine ⟨rfl, _, _, rfl, f1, by rw [iL_len]; omega, ?_⟩
  rw [iL_rev]
  have e2 : Ext H (H1.alloc (.list (iL (pre S n).reverse))) := (Ext.refl.alloc.trans e1).alloc
  rw [al_n] at b1
  have hlt : H.n < H1.n := by omega
  refine ⟨_, _, rfl, al_self, JN Λ H H1.n n (nd S) (pre S n).reverse,
    ⟨by walk_at "v", by walk_at "v", by walk_at "v", e2, by rw [al_n]; omega, [], ?_, Nat.le_refl _, fun y hy => by simp at hy⟩, ?_, ?_⟩
  · rw [al_lt hlt, e1.f _ (by rw [al_n]; omega), al_self]
  · intro i c m1 H2 hc jj hsrc
    obtain ⟨m1t, m1f, m1n, e3, hlt2, d, fd, hdl, hd⟩ := id jj
    have hi : i < 13 := by
      rcases Nat.lt_or_ge i (pre S n).reverse.length with q | q
      · rw [List.length_reverse] at q; omega
      · rw [List.getElem?_eq_none q] at hc; cases hc
    obtain ⟨hc1, hck⟩ := rev_kids wf hn hc
    have r3 := rp.ext e3
    have ve := nd_eq wf hc1
    have hkl : (S.kids c).length ≤ 1000 := by
      have := st_len wf fun y hy => (wf.kd c hc1 y hy).1
      have h2 := pre_len wf hc1
      rw [pre_eq wf hc1, List.length_cons] at h2
      omega
    have hcomp : ∀ H2', Ext H2 H2' → ∀ y ∈ S.kids c, H2'.f H.n = .dict d ∧ dget d y = some (nd S y) := fun H2' ex y hy => ⟨(ex.f _ (by walk_at "d")).trans fd, hd y (hck y hy)⟩
    have fr3 := r3.fw c hc1
    repeat walk_at "w"
    refine ⟨_, _, _, _, rfl, r3.fT, rfl, rfl, ok_tree, ?_⟩
    repeat walk_at "w"
    refine SB_dict r3.fW (wl_get hc1) ?_
    repeat walk_at "w"
    refine ⟨_, _, _, _, rfl, fr3, rfl, rfl, ok_window, ?_⟩
    repeat walk_at "w"
    refine if_eq (fun hs => ?_) fun hs => ?_
    · have hs' : S.sort c = 0 := hs
      rw [if_pos hs'] at ve
      repeat walk_at "w"
      refine ⟨_, _, _, _, rfl, fr3, rfl, rfl, ok_window, ?_⟩
      repeat walk_at "w"
      refine ⟨_, _, _, _, rfl, fr3, rfl, rfl, ok_window, ?_⟩
      repeat walk_at "w"
      refine EV_method0 ?_
      repeat walk_at "w"
      refine ⟨_, gm_shown fr3 rfl, ?_⟩
      refine c_shown fr3 (by walk_at "d") ?_
      rw [wf.bf c hc1 hs']
      repeat walk_at "w"
      refine ⟨_, _, _, _, rfl, fr3, rfl, rfl, ok_window, ?_⟩
      repeat walk_at "w"
      refine ⟨_, _, _, _, rfl, fr3, rfl, rfl, ok_window, ?_⟩
      repeat walk_at "w"
      refine ⟨_, _, _, _, rfl, fr3, rfl, rfl, ok_window, ?_⟩
      repeat walk_at "w"
      refine CL_tuple (r3.fe c hc1) (by simp) ?_
      repeat walk_at "w"
      refine ⟨_, _, _, _, rfl, fr3, rfl, rfl, ok_window, ?_⟩
      repeat walk_at "w"
      refine CL_tuple (r3.fl c hc1) (by simp) ?_
      repeat walk_at "w"
      refine ⟨by simp, ?_⟩
      repeat walk_at "w"
      refine .inr ⟨_, _, _, rfl, rfl, fd, by omega, ?_⟩
      repeat walk_at "w"
      exact jj.step hlt hc hsrc Ext.refl hdl hd (by rw [ve]) (by walk_at "v") (by walk_at "v") (by walk_at "v")
    · have hs' : S.sort c ≠ 0 := hs
      rw [if_neg hs'] at ve
      walk_at "w"
      walk_at "w"
      walk_at "w"
      walk_at "w"
      refine EV_comp_map (by walk_at "co") (by walk_at "k") ?_
      repeat walk_at "w"
      refine ⟨_, _, _, _, rfl, fr3, rfl, rfl, ok_window, ?_⟩
      repeat walk_at "w"
      refine ⟨_, _, rfl, r3.fc c hc1, r3.bc c hc1, hkl, nd S, fun y hy H4 ex => ?_, fun H4 ex => ?_⟩
      · obtain ⟨z1, z2⟩ := hcomp H4 ex y hy
        repeat walk_at "w"
        exact SB_dict z1 z2 ⟨rfl, Ext.refl⟩
      · repeat walk_at "w"
        refine CL_tuple al_self (by rw [List.length_map]; exact hkl) ?_
        have fr4 := (r3.ext (H' := H4.alloc (.list ((S.kids c).map (nd S)))) ex.alloc).fw c hc1
        repeat walk_at "w"
        refine ⟨_, _, _, _, rfl, fr4, rfl, rfl, ok_window, ?_⟩
        repeat walk_at "w"
        refine ⟨_, _, _, _, rfl, fr4, rfl, rfl, ok_window, ?_⟩
        repeat walk_at "w"
        refine ⟨_, _, _, _, rfl, fr4, rfl, rfl, ok_window, ?_⟩
        repeat walk_at "w"
        refine ⟨by simp, ?_⟩
        repeat walk_at "w"
        refine .inr ⟨_, _, _, rfl, rfl, by rw [al_lt (Nat.lt_of_lt_of_le (by walk_at "d") ex.le), ex.f _ (by walk_at "d"), fd], by omega, ?_⟩
        repeat walk_at "w"
        exact jj.step hlt hc hsrc ex.alloc hdl hd (by rw [ve]) (by walk_at "v") (by walk_at "v") (by walk_at "v")
  · rintro m1 H2 ⟨m1t, m1f, m1n, e3, hlt2, d, fd, hdl, hd⟩
    rw [List.take_length] at hd
    repeat walk_at "w"
    refine SB_dict fd (hd n (by rw [List.mem_reverse, pre_eq wf hn]; exact .head _)) ?_
    repeat walk_at "w"
    exact h _ e3
noncomputable def conf (S : St) : AV := .tup [.tup [.int (S.w S.root), .int (S.h S.root)], nd S S.root, .int 1]
theorem c_configuration (wf : Wf S rk) (rp : Rep Λ S H) (hb : 3 ≤ b.n) (h : ∀ H', Ext H H' → Q (conf S) H') : CL b (.ref 273) [.ref Λ.T] H Q X := by
  refine (CA_defs (names := ["tree"]) (fun _ => by with_unfolding_all rfl) (fun _ => by kernel_rfl) rfl rfl rfl rfl (by walk_at "b") (by decide) (by walk_at "d") ?_).cl
  intro sc hsc
  have fr := rp.fw S.root wf.root
  repeat walk_at "w"
  refine ⟨_, _, _, _, rfl, rp.fT, rfl, rfl, ok_tree, ?_⟩
  repeat walk_at "w"
  refine ⟨_, _, _, _, rfl, rp.fT, rfl, rfl, ok_tree, ?_⟩
  refine SB_dict rp.fW (wl_get wf.root) ?_
  repeat walk_at "w"
  refine ⟨_, _, _, _, rfl, fr, rfl, rfl, ok_window, ?_⟩
  repeat walk_at "w"
  refine ⟨_, _, _, _, rfl, fr, rfl, rfl, ok_window, ?_⟩
  repeat walk_at "w"
  refine ⟨by simp, ?_⟩
  repeat walk_at "w"
  refine ⟨_, _, _, _, rfl, rp.fT, rfl, rfl, ok_tree, ?_⟩
  repeat walk_at "w"
  refine c_node_of wf rp wf.root (by walk_at "d") fun H1 e1 => ?_
  repeat walk_at "w"
  refine ⟨_, _, _, _, rfl, (rp.ext e1).fT, rfl, rfl, ok_tree, ?_⟩
  repeat walk_at "w"
  refine ⟨by simp, ?_⟩
  repeat walk_at "w"
  exact h _ e1
end
end
-- C22
section
section
variable {b : Bd} {H : AH} {X : AH → Prop} {Q : AV → AH → Prop} {Λ : La} {S : St} {rk : Int → Nat}
theorem all_pre (wf : Wf S rk) : ∀ (k : Nat) (y : Int), 40 ≤ k + rk y → S.Dm y → y ∈ pre S S.root := by
  have hr : S.root ∈ pre S S.root := by rw [pre_eq wf wf.root]; exact .head _
  intro k
  induction k with
  | zero =>
    intro y hk hy
    by_cases q : y = S.root
    · rw [q]; exact hr
    · have hu := wf.up y hy q
      have := (wf.kd _ hu.1 y hu.2).2.2.2
      have := wf.rb (S.par y)
      omega
  | succ k ih =>
    intro y hk hy
    by_cases q : y = S.root
    · rw [q]; exact hr
    · have hu := wf.up y hy q
      have := (wf.kd _ hu.1 y hu.2).2.2.2
      exact kid_pre wf _ (Nat.le_refl _) wf.root _ (ih _ (by walk_at "d") hu.1) y hu.2
theorem ps_kid (ps : Ps S S.l S.t) {n c : Int} {i : Nat} (hn : n ∈ pre S S.root) (hc : (S.kids n)[i]? = some c) :
    pl S (al (S.sort n)) c = pl S (al (S.sort n)) n + (((S.kids n).take i).map (sz S (al (S.sort n)))).sum ∧ pl S (1 - al (S.sort n)) c = pl S (1 - al (S.sort n)) n := by
  obtain ⟨h1, h2⟩ := ps.kid n hn i c hc
  unfold ofl at h1
  unfold oft at h2
  rcases al01 (s := S.sort n) with h | h
  · rw [if_pos h] at h1 h2
    rw [h]
    exact ⟨h1, h2⟩
  · rw [if_neg (by walk_at "d")] at h1 h2
    rw [h]
    exact ⟨h2, h1⟩
inductive JW (S : St) (Λ : La) (n : Int) (H : AH) (i : Nat) (m : Vars) (H2 : AH) : Prop
  | mk : m "tree" = some (.ref Λ.T) → m "number" = some (.int n) → m "here" = some (.ref (Λ.jw n)) → m "axis" = some (.int (al (S.sort n))) → m "at" = some (.int (pl S (al (S.sort n)) n + (((S.kids n).take i).map (sz S (al (S.sort n)))).sum)) → H2 = H → JW S Λ n H i m H2
theorem c_wrong_window (wf : Wf S rk) (rp : Rep Λ S H) (cn : Cn S) (ps : Ps S S.l S.t) {n : Int} (hn' : n ∈ pre S S.root) (hb : 2 ≤ b.n) (h : ∀ H', Ext H H' → Q .none H') : CL b (.ref 254) [.ref Λ.T, .int n] H Q X := by
  refine (CA_defs (names := ["tree", "number"]) (fun _ => by with_unfolding_all rfl) (fun _ => by kernel_rfl) rfl rfl rfl rfl (by walk_at "b") (by decide) (by walk_at "d") ?_).cl
  intro sc hsc
  have hn : S.Dm n := (pre_dm wf _ _ (Nat.le_refl _) wf.root n hn').1
  have fr := rp.fw n hn
  repeat walk_at "w"
  refine ⟨_, _, _, _, rfl, rp.fT, rfl, rfl, ok_tree, ?_⟩
  repeat walk_at "w"
  refine SB_dict rp.fW (wl_get hn) ?_
  repeat walk_at "w"
  refine ⟨_, _, _, _, rfl, fr, rfl, rfl, ok_window, ?_⟩
  repeat walk_at "w"
  refine if_eq (fun hs => ?_) fun hs => ?_
  · have hs' : S.sort n = 0 := hs
    have hk := (lf_iff wf hn).mp hs'
    have hl := cn.leaf n hn hs'
    have fc := rp.fc n hn
    rw [hk] at fc
    walk_at "w"
    walk_at "w"
    refine ET_ne_nil ?_
    repeat walk_at "w"
    refine ⟨_, _, _, _, rfl, fr, rfl, rfl, ok_window, ?_⟩
    refine ⟨_, _, rfl, fc, rp.bc n hn, rfl, ?_⟩
    refine if_n (fun q => by cases q) fun _ => ?_
    have r2 := rp.alloc (o := .list [])
    have fr2 := r2.fw n hn
    repeat walk_at "w"
    refine ⟨_, _, _, _, rfl, fr2, rfl, rfl, ok_window, ?_⟩
    repeat walk_at "w"
    refine ⟨_, _, _, _, rfl, r2.fT, rfl, rfl, ok_tree, ?_⟩
    repeat walk_at "w"
    refine if_d (fun q => by omega) fun _ => ?_
    repeat walk_at "w"
    refine ⟨_, _, _, _, rfl, fr2, rfl, rfl, ok_window, ?_⟩
    repeat walk_at "w"
    refine ⟨_, _, _, _, rfl, r2.fT, rfl, rfl, ok_tree, ?_⟩
    repeat walk_at "w"
    refine if_d (fun q => by omega) fun _ => ?_
    repeat walk_at "w"
    refine if_b (fun q => by cases q) fun _ => ?_
    repeat walk_at "w"
    exact h _ Ext.refl.alloc
  have hs0 : S.sort n ≠ 0 := hs
  have hk2 : 2 ≤ (S.kids n).length := cn.two n hn hs0
  have hkl : (S.kids n).length ≤ 13 := by
    have := st_len wf fun y hy => (wf.kd n hn y hy).1
    have h2 := pre_len wf hn
    rw [pre_eq wf hn, List.length_cons] at h2
    omega
  repeat walk_at "w"
  refine ⟨_, _, _, _, rfl, fr, rfl, rfl, ok_window, ?_⟩
  repeat walk_at "w"
  refine CL_len (rp.fc n hn) (by rw [iL_len]; omega) ?_
  rw [iL_len]
  repeat walk_at "w"
  refine if_d (fun q => by omega) fun _ => ?_
  walk_at "w"
  walk_at "w"
  walk_at "w"
  refine ES_swap (by walk_at "k") (by walk_at "k") ?_ (by intro _ _; rfl) (by walk_at "sw")
  repeat walk_at "w"
  refine ⟨_, _, _, _, rfl, fr, rfl, rfl, ok_window, ?_⟩
  repeat walk_at "w"
  refine c_along (by walk_at "d") ?_
  repeat walk_at "w"
  refine EV_method ?_
  repeat walk_at "w"
  refine ⟨_, gm_place fr rfl, ?_⟩
  repeat walk_at "w"
  refine ⟨_, _, _, _, rfl, fr, rfl, rfl, ok_window, ?_⟩
  repeat walk_at "w"
  refine c_along (by walk_at "d") ?_
  repeat walk_at "w"
  refine c_place (by walk_at "d") fr ?_
  repeat walk_at "w"
  refine ⟨by simp, ?_⟩
  refine ⟨_, _, rfl, ?_⟩
  walk_at "w"
  walk_at "w"
  refine ES_for_ints (by walk_at "k") ?_
  repeat walk_at "w"
  refine ⟨_, _, _, _, rfl, fr, rfl, rfl, ok_window, ?_⟩
  refine ⟨_, _, rfl, rp.fc n hn, JW S Λ n H,
    ⟨by walk_at "v", by walk_at "v", by walk_at "v", by walk_at "v", ?_, rfl⟩, ?_, ?_⟩
  · refine Eq.trans (by walk_at "v" : _ = some (AV.int (pl S (al (S.sort n)) n))) ?_
    simp
  · rintro i c m1 H2 hc ⟨n1, n2, n3, n4, n5, rfl⟩ _
    have hcm := List.mem_of_getElem? hc
    obtain ⟨c1, c2, c3, _⟩ := wf.kd n hn c hcm
    obtain ⟨p1, p2⟩ := ps_kid ps hn' hc
    have frc := rp.fw c c1
    have pp := cn.perp n hn hs0 c hcm
    walk_at "w"
    walk_at "w"
    refine EV_method ?_
    repeat walk_at "w"
    refine ⟨_, _, _, _, rfl, rp.fT, rfl, rfl, ok_tree, ?_⟩
    refine ⟨_, GM.dict rp.fW, ?_⟩
    repeat walk_at "w"
    refine CL_get rp.fW ?_
    rw [wl_get c1]
    repeat walk_at "w"
    refine OP_is (t := false) rfl ⟨_, rfl, ?_⟩
    refine if_b (fun q => by cases q) fun _ => ?_
    repeat walk_at "w"
    refine ⟨_, _, _, _, rfl, frc, rfl, rfl, ok_window, ?_⟩
    repeat walk_at "w"
    refine if_ne (fun q => absurd c2 q) fun _ => ?_
    repeat walk_at "w"
    refine ⟨_, _, _, _, rfl, frc, rfl, rfl, ok_window, ?_⟩
    repeat walk_at "w"
    refine ⟨_, _, _, _, rfl, fr, rfl, rfl, ok_window, ?_⟩
    repeat walk_at "w"
    refine if_eq (fun q => absurd q c3) fun _ => ?_
    repeat walk_at "w"
    refine if_b (fun q => by cases q) fun _ => ?_
    repeat walk_at "w"
    refine EV_method ?_
    repeat walk_at "w"
    refine ⟨_, gm_place frc rfl, ?_⟩
    repeat walk_at "w"
    refine c_place (by walk_at "d") frc ?_
    repeat walk_at "w"
    refine if_ne (fun q => absurd p1 q) fun _ => ?_
    repeat walk_at "w"
    refine EV_method ?_
    repeat walk_at "w"
    refine ⟨_, gm_place frc rfl, ?_⟩
    repeat walk_at "w"
    refine c_place (by walk_at "d") frc ?_
    refine EV_method ?_
    repeat walk_at "w"
    refine ⟨_, gm_place fr rfl, ?_⟩
    repeat walk_at "w"
    refine c_place (by walk_at "d") fr ?_
    repeat walk_at "w"
    refine if_ne (fun q => absurd p2 q) fun _ => ?_
    repeat walk_at "w"
    refine if_b (fun q => by cases q) fun _ => ?_
    repeat walk_at "w"
    refine EV_method ?_
    repeat walk_at "w"
    refine ⟨_, gm_size frc rfl, ?_⟩
    repeat walk_at "w"
    refine c_size (by walk_at "d") frc ?_
    refine EV_method ?_
    repeat walk_at "w"
    refine ⟨_, gm_size fr rfl, ?_⟩
    repeat walk_at "w"
    refine c_size (by walk_at "d") fr ?_
    repeat walk_at "w"
    refine if_ne (fun q => absurd pp q) fun _ => ?_
    repeat walk_at "w"
    refine EV_method ?_
    repeat walk_at "w"
    refine ⟨_, gm_size frc rfl, ?_⟩
    repeat walk_at "w"
    refine c_size (by walk_at "d") frc ?_
    repeat walk_at "w"
    refine ⟨rp.fc n hn, by walk_at "v", by walk_at "v", by walk_at "v", by walk_at "v", ?_, rfl⟩
    rw [up_self, take_get hc, List.map_append, sum_app]
    simp [Int.add_assoc]
  · rintro m1 H2 ⟨n1, n2, n3, n4, n5, rfl⟩
    have hsum := cn.sum n hn hs0
    rw [List.take_length, hsum] at n5
    repeat walk_at "w"
    refine EV_method ?_
    repeat walk_at "w"
    refine ⟨_, gm_place fr rfl, ?_⟩
    repeat walk_at "w"
    refine c_place (by walk_at "d") fr ?_
    refine EV_method ?_
    repeat walk_at "w"
    refine ⟨_, gm_size fr rfl, ?_⟩
    repeat walk_at "w"
    refine c_size (by walk_at "d") fr ?_
    repeat walk_at "w"
    refine if_eq (fun _ => ?_) fun q => absurd rfl q
    repeat walk_at "w"
    exact h _ Ext.refl
end
end
-- C23
section
section
variable {b : Bd} {H : AH} {X : AH → Prop} {Q : AV → AH → Prop} {Λ : La} {S : St} {rk : Int → Nat}
theorem pre_perm (wf : Wf S rk) : (pre S S.root).Perm ((wl Λ S.N).map (·.1)) := by
  rw [wl_keys]
  have nd2 : ((List.range S.N).map fun i => ((i : Nat) : Int) + 1).Nodup := by
    refine List.pairwise_map.mpr (List.Pairwise.imp (fun {a b} (h : a ≠ b) => ?_) List.nodup_range)
    omega
  refine (List.perm_ext_iff_of_nodup (pre_nodup wf _ _ (Nat.le_refl _) wf.root) nd2).mpr fun y => ⟨fun h => ?_, fun h => ?_⟩
  · have hd := (pre_dm wf _ _ (Nat.le_refl _) wf.root y h).1
    refine List.mem_map.mpr ⟨(y - 1).toNat, List.mem_range.mpr ?_, ?_⟩ <;> (obtain ⟨a, b⟩ := hd; omega)
  · obtain ⟨i, hi, rfl⟩ := List.mem_map.mp h
    rw [List.mem_range] at hi
    exact all_pre wf 40 _ (by walk_at "d") ⟨by omega, by omega⟩
theorem eqv_ints {l : List Int} : PyData.eqv (.list (AV.pys (iL l))) (.list (AV.pys (iL l))) = true := SeqAt.eqv_refl _ (by rw [PyData.canLay0]; exact (okds_lay (k := 60) okds_iL).1)
theorem c_tree_error (wf : Wf S rk) (rp : Rep Λ S H) (cn : Cn S) (ps : Ps S S.l S.t) (h1 : S.Dm 1 ∧ S.sort 1 = 0) (hb : 4 ≤ b.n) (h : ∀ H', Ext H H' → Q .none H') : CL b (.ref 261) [.ref Λ.T] H Q X := by
  refine (CA_defs (names := ["tree"]) (fun _ => by with_unfolding_all rfl) (fun _ => by kernel_rfl) rfl rfl rfl rfl (by walk_at "b") (by decide) (by walk_at "d") ?_).cl
  intro sc hsc
  have fr := rp.fw S.root wf.root
  walk_at "w"
  walk_at "w"
  refine EV_method ?_
  repeat walk_at "w"
  refine ⟨_, _, _, _, rfl, rp.fT, rfl, rfl, ok_tree, ?_⟩
  refine ⟨_, GM.dict rp.fW, ?_⟩
  repeat walk_at "w"
  refine ⟨_, _, _, _, rfl, rp.fT, rfl, rfl, ok_tree, ?_⟩
  repeat walk_at "w"
  refine CL_get rp.fW ?_
  rw [wl_get wf.root]
  repeat walk_at "w"
  refine OP_is (t := false) rfl ⟨_, rfl, ?_⟩
  refine if_b (fun q => by cases q) fun _ => ?_
  repeat walk_at "w"
  refine ⟨_, _, _, _, rfl, fr, rfl, rfl, ok_window, ?_⟩
  repeat walk_at "w"
  refine if_ne (fun q => absurd wf.rp q) fun _ => ?_
  repeat walk_at "w"
  refine ⟨_, _, _, _, rfl, fr, rfl, rfl, ok_window, ?_⟩
  repeat walk_at "w"
  refine if_ne (fun q => absurd ps.top.1 q) fun _ => ?_
  repeat walk_at "w"
  refine ⟨_, _, _, _, rfl, fr, rfl, rfl, ok_window, ?_⟩
  repeat walk_at "w"
  refine if_ne (fun q => absurd ps.top.2 q) fun _ => ?_
  repeat walk_at "w"
  refine if_b (fun q => by cases q) fun _ => ?_
  repeat walk_at "w"
  refine ⟨_, _, _, _, rfl, rp.fT, rfl, rfl, ok_tree, ?_⟩
  repeat walk_at "w"
  refine c_windows_under wf rp wf.root (by walk_at "d") fun H1 r e1 b1 b2 f1 => ?_
  have hlen := pre_len wf wf.root
  have r1 := rp.ext e1
  walk_at "w"
  walk_at "w"
  walk_at "w"
  refine ES_for_ints (by walk_at "k") ?_
  repeat walk_at "w"
  refine ⟨_, _, rfl, f1, fun i m H2 => m "tree" = some (.ref Λ.T) ∧ m "found" = some (.ref r) ∧ Ext H1 H2, ⟨by walk_at "v", by walk_at "v", Ext.refl⟩, ?_, ?_⟩
  · rintro i c m1 H2 hc ⟨n1, n2, e2⟩ hsrc
    repeat walk_at "w"
    refine c_wrong_window wf (r1.ext e2) cn ps (List.mem_of_getElem? hc) (by walk_at "d") fun H3 e3 => ?_
    repeat walk_at "w"
    refine OP_isnot (t := true) rfl ⟨_, rfl, ?_⟩
    refine if_b (fun q => by cases q) fun _ => ?_
    repeat walk_at "w"
    exact ⟨(e3.f _ (Nat.lt_of_lt_of_le b2 e2.le)).trans hsrc, by walk_at "v", by walk_at "v", e2.trans e3⟩
  rintro m1 H2 ⟨n1, n2, e2⟩
  have r2 := r1.ext e2
  have f2 := (e2.f _ b2).trans f1
  walk_at "w"
  walk_at "w"
  walk_at "w"
  refine ET_cmp ?_
  repeat walk_at "w"
  refine CL_sorted f2 (by walk_at "d") fun l1 p1 s1 => ?_
  have r3 := r2.alloc (o := .list (iL l1))
  repeat walk_at "w"
  refine ⟨_, _, _, _, rfl, r3.fT, rfl, rfl, ok_tree, ?_⟩
  repeat walk_at "w"
  refine CL_sortedD r3.fW (by rw [wl_len]; have := wf.N; omega) fun l2 p2 s2 => ?_
  have el : l1 = l2 := List.Perm.eq_of_pairwise (fun a b _ _ h1 h2 => Int.le_antisymm h1 h2) s1 s2 (p1.trans ((pre_perm wf).trans p2.symm))
  subst el
  refine OP_ned (RD.list ((al_lt (Nat.lt_succ_self _)).trans al_self) okds_iL) (RD.list al_self okds_iL) ⟨_, rfl, ?_⟩
  rw [eqv_ints]
  refine if_n (fun q => by cases q) fun _ => ?_
  have r4 := r3.alloc (o := .list (iL l1))
  have e4 : Ext H ((H2.alloc (.list (iL l1))).alloc (.list (iL l1))) := (e1.trans e2).alloc.alloc
  repeat walk_at "w"
  refine ⟨_, _, _, _, rfl, r4.fT, rfl, rfl, ok_tree, ?_⟩
  repeat walk_at "w"
  refine ⟨_, _, _, _, rfl, r4.fT, rfl, rfl, ok_tree, ?_⟩
  repeat walk_at "w"
  refine c_leaves_under wf r4 wf.root (by walk_at "d") fun H5 r5 e5 g1 g2 f5 => ?_
  refine OP_in f5 ⟨_, rfl, ?_⟩
  refine if_b (fun _ => ?_) fun q => ?_
  · repeat walk_at "w"
    exact h _ (e4.trans e5)
  · exfalso
    rw [List.any_eq_false] at q
    refine q 1 ?_ rfl
    unfold lvs
    rw [List.mem_filter]
    exact ⟨all_pre wf 40 1 (by walk_at "d") h1.1, by rw [h1.2]; rfl⟩
end
end
-- C24
section
noncomputable def newW (k s p : Int) (c e l : Nat) : Lk := [("number", .int k), ("sort", .int s), ("parent", .int p), ("children", .ref c), ("left", .int 0), ("top", .int 0), ("width", .int 0), ("height", .int 0),
  ("buffer", .int 0), ("start", .int 1), ("point", .int 1), ("hscroll", .int 0), ("is_dedicated", .bool false), ("use_time", .int 0), ("earlier", .ref e), ("later", .ref l)]
/-- an object in the making, its lists behind it -/
structure IW (C : Addr) (H H1 : AH) (c : Nat) (L : Lk) : Prop where
  n : H1.n = H.n + c
  e : Ext H H1
  f : H1.f H.n = .inst C (lk L)
  pos : 1 ≤ c
  ls : ∀ i, 1 ≤ i → i < c → H1.f (H.n + i) = .list []
theorem IW.set {C : Addr} {H H1 : AH} {c : Nat} {L : Lk} {x : PySem.Str} {a : AV} (i : IW C H H1 c L) : IW C H (H1.set H.n (.inst C (upd (lk L) x a))) c (lkset x a L) :=
  ⟨i.n, i.e.set (Nat.le_refl _), by rw [st_self, upd_set], i.pos, fun k h1 h2 => (st_ne (by walk_at "d")).trans (i.ls k h1 h2)⟩
theorem IW.alloc {C : Addr} {H H1 : AH} {c : Nat} {L : Lk} (i : IW C H H1 c L) : IW C H (H1.alloc (.list [])) (c + 1) L :=
  ⟨by rw [al_n, i.n]; omega, i.e.alloc, by rw [al_lt (by rw [i.n]; have := i.pos; omega)]; exact i.f, by omega, fun k h1 h2 => by
    by_cases q : k = c
    · subst q; rw [← i.n]; exact al_self
    · rw [al_lt (by rw [i.n]; omega)]; exact i.ls k h1 (by walk_at "d")⟩
section
variable {b : Bd} {H : AH} {X : AH → Prop} {Q : AV → AH → Prop}
theorem c_Window {k s p : Int} (hb : 2 ≤ b.n) (h : ∀ H', H'.n = H.n + 4 → Ext H H' → H'.f H.n = .inst 93 (lk (newW k s p (H.n + 1) (H.n + 2) (H.n + 3))) → H'.f (H.n + 1) = .list [] → H'.f (H.n + 2) = .list [] → H'.f (H.n + 3) = .list [] → Q (.ref H.n) H') : CL b (.ref 93) [.int k, .int s, .int p] H Q X := by
  refine CL_make (fI := 55) (fun _ => by kernel_rfl) (fun _ => by kernel_rfl) (fun _ => by kernel_rfl) (by walk_at "d") ?_
  refine CA_defs (names := ["self", "number", "sort", "parent"]) (fun _ => by with_unfolding_all rfl) (fun _ => by kernel_rfl) rfl rfl rfl rfl (by walk_at "b") (by decide) (by walk_at "d") ?_
  intro sc hsc
  have i0 : IW 93 H (H.alloc (.inst 93 fun _ => none)) 1 [] := ⟨rfl, Ext.refl.alloc, al_self, Nat.le_refl _, fun i h1 h2 => by omega⟩
  repeat walk_at "w"
  refine ⟨_, _, _, rfl, i0.f, ok_window, ?_⟩
  have i1 := i0.set (x := "number") (a := AV.int k)
  repeat walk_at "w"
  refine ⟨_, _, _, rfl, i1.f, ok_window, ?_⟩
  have i2 := i1.set (x := "sort") (a := AV.int s)
  repeat walk_at "w"
  refine ⟨_, _, _, rfl, i2.f, ok_window, ?_⟩
  have i3 := i2.set (x := "parent") (a := AV.int p)
  repeat walk_at "w"
  refine ⟨by decide, ?_⟩
  have i4 := i3.alloc
  repeat walk_at "w"
  refine ⟨_, _, _, rfl, i4.f, ok_window, ?_⟩
  have i5 := i4.set (x := "children") (a := AV.ref (H.n + 1))
  repeat walk_at "w"
  refine ⟨_, _, _, rfl, i5.f, ok_window, ?_⟩
  have i6 := i5.set (x := "left") (a := AV.int 0)
  repeat walk_at "w"
  refine ⟨_, _, _, rfl, i6.f, ok_window, ?_⟩
  have i7 := i6.set (x := "top") (a := AV.int 0)
  repeat walk_at "w"
  refine ⟨_, _, _, rfl, i7.f, ok_window, ?_⟩
  have i8 := i7.set (x := "width") (a := AV.int 0)
  repeat walk_at "w"
  refine ⟨_, _, _, rfl, i8.f, ok_window, ?_⟩
  have i9 := i8.set (x := "height") (a := AV.int 0)
  repeat walk_at "w"
  refine ⟨_, _, _, rfl, i9.f, ok_window, ?_⟩
  have i10 := i9.set (x := "buffer") (a := AV.int 0)
  repeat walk_at "w"
  refine ⟨_, _, _, rfl, i10.f, ok_window, ?_⟩
  have i11 := i10.set (x := "start") (a := AV.int 1)
  repeat walk_at "w"
  refine ⟨_, _, _, rfl, i11.f, ok_window, ?_⟩
  have i12 := i11.set (x := "point") (a := AV.int 1)
  repeat walk_at "w"
  refine ⟨_, _, _, rfl, i12.f, ok_window, ?_⟩
  have i13 := i12.set (x := "hscroll") (a := AV.int 0)
  repeat walk_at "w"
  refine ⟨_, _, _, rfl, i13.f, ok_window, ?_⟩
  have i14 := i13.set (x := "is_dedicated") (a := AV.bool false)
  repeat walk_at "w"
  refine ⟨_, _, _, rfl, i14.f, ok_window, ?_⟩
  have i15 := i14.set (x := "use_time") (a := AV.int 0)
  repeat walk_at "w"
  refine ⟨by decide, ?_⟩
  have i16 := i15.alloc
  repeat walk_at "w"
  refine ⟨_, _, _, rfl, i16.f, ok_window, ?_⟩
  have i17 := i16.set (x := "earlier") (a := AV.ref (H.n + 2))
  repeat walk_at "w"
  refine ⟨by decide, ?_⟩
  have i18 := i17.alloc
  repeat walk_at "w"
  refine ⟨_, _, _, rfl, i18.f, ok_window, ?_⟩
  have i19 := i18.set (x := "later") (a := AV.ref (H.n + 3))
  repeat walk_at "w"
  refine ⟨rfl, h _ i19.n i19.e i19.f (i19.ls 1 (by decide) (by decide)) (i19.ls 2 (by decide) (by decide)) (i19.ls 3 (by decide) (by decide))⟩
end
noncomputable def fk (f : Int → List Int) (k : Int) (v : List Int) : Int → List Int := fun x => if x = k then v else f x
theorem fk_self {f : Int → List Int} {k : Int} {v : List Int} : fk f k v k = v := if_pos rfl
theorem fk_ne {f : Int → List Int} {k x : Int} {v : List Int} (h : x ≠ k) : fk f k v x = f x := if_neg h
noncomputable def fresh (S : St) (s p : Int) : St := { N := S.N + 1, root := S.root, sort := fs S.sort (S.N + 1) s, par := fs S.par (S.N + 1) p, kids := fk S.kids (S.N + 1) [], w := fs S.w (S.N + 1) 0, h := fs S.h (S.N + 1) 0, l := fs S.l (S.N + 1) 0, t := fs S.t (S.N + 1) 0, buf := fs S.buf (S.N + 1) 0 }
noncomputable def fn (f : Int → Nat) (k : Int) (v : Nat) : Int → Nat := fun x => if x = k then v else f x
theorem fn_self {f : Int → Nat} {k : Int} {v : Nat} : fn f k v k = v := if_pos rfl
theorem fn_ne {f : Int → Nat} {k x : Int} {v : Nat} (h : x ≠ k) : fn f k v x = f x := if_neg h
noncomputable def La.new (Λ : La) (k : Int) (j : Nat) : La := { T := Λ.T, W := Λ.W, jw := fn Λ.jw k j, jc := fn Λ.jc k (j + 1), je := fn Λ.je k (j + 2), jl := fn Λ.jl k (j + 3) }
theorem Rep.new {Λ : La} {S : St} {H H' : AH} {s p : Int} {j : Nat} (x : Rep Λ S H) (h1 : 1 ≤ S.N) (hj : H.n ≤ j) (hn : j + 4 ≤ H'.n) (hT : H'.f Λ.T = .inst 164 (lk (tl Λ (fresh S s p)))) (hW : H'.f Λ.W = .dict (wl (Λ.new (S.N + 1) j) (S.N + 1)))
    (ho : ∀ i, i < H.n → i ≠ Λ.T → i ≠ Λ.W → H'.f i = H.f i) (f1 : H'.f j = .inst 93 (lk (newW (S.N + 1) s p (j + 1) (j + 2) (j + 3)))) (f2 : H'.f (j + 1) = .list []) (f3 : H'.f (j + 2) = .list []) (f4 : H'.f (j + 3) = .list []) : Rep (Λ.new (S.N + 1) j) (fresh S s p) H' := by
  have cs : ∀ k : Int, (fresh S s p).Dm k → (S.Dm k ∧ k ≠ S.N + 1) ∨ k = S.N + 1 := fun k h => by
    obtain ⟨a, b⟩ := h
    have b : k ≤ (S.N : Int) + 1 := by have : (fresh S s p).N = S.N + 1 := rfl; rw [this] at b; omega
    by_cases q : k = S.N + 1
    · exact .inr q
    · exact .inl ⟨⟨a, by omega⟩, q⟩
  have ot : ∀ {i : Nat} {o : AO}, i < H.n → H.f i = o → (∀ d, o ≠ .inst 164 d) → (∀ l, o ≠ .dict l) → H'.f i = o := fun hi h2 h3 h4 => (ho _ hi (fun q => by rw [q, x.fT] at h2; exact h3 _ h2.symm) (fun q => by rw [q, x.fW] at h2; exact h4 _ h2.symm)).trans h2
  have hle : H.n ≤ H'.n := by omega
  refine ⟨Nat.lt_of_lt_of_le x.bT hle, Nat.lt_of_lt_of_le x.bW hle, hT, hW, fun k h => ?_, fun k h => ?_, fun k h => ?_, fun k h => ?_, fun k h => ?_, fun k h => ?_, fun k h => ?_, fun k h => ?_, fun k k' h h' e => ?_, fun k k' h h' => ?_⟩
  · show fn Λ.jw _ _ k < _
    rcases cs k h with ⟨hd, hk⟩ | rfl
    · rw [fn_ne hk]; have := x.bw k hd; omega
    · rw [fn_self]; omega
  · show fn Λ.jc _ _ k < _
    rcases cs k h with ⟨hd, hk⟩ | rfl
    · rw [fn_ne hk]; have := x.bc k hd; omega
    · rw [fn_self]; omega
  · show fn Λ.je _ _ k < _
    rcases cs k h with ⟨hd, hk⟩ | rfl
    · rw [fn_ne hk]; have := x.be k hd; omega
    · rw [fn_self]; omega
  · show fn Λ.jl _ _ k < _
    rcases cs k h with ⟨hd, hk⟩ | rfl
    · rw [fn_ne hk]; have := x.bl k hd; omega
    · rw [fn_self]; omega
  · show H'.f (fn Λ.jw _ _ k) = _
    rcases cs k h with ⟨hd, hk⟩ | rfl
    · rw [fn_ne hk, ot (x.bw k hd) (x.fw k hd) (fun d q => by have := (AO.inst.inj q).1; revert this; decide) (fun l q => by cases q)]
      congr 2
      unfold wat fresh La.new
      simp only [fs_ne hk, fn_ne hk]
    · rw [fn_self, f1]
      congr 2
      unfold wat newW fresh La.new
      have h1' : ¬ ((S.N : Int) + 1 = 1) := by omega
      simp only [fs_self, fn_self, if_neg h1']
  · show H'.f (fn Λ.jc _ _ k) = .list (iL (fk S.kids _ _ k))
    rcases cs k h with ⟨hd, hk⟩ | rfl
    · rw [fn_ne hk, fk_ne hk]; exact ot (x.bc k hd) (x.fc k hd) (fun d q => by cases q) (fun l q => by cases q)
    · rw [fn_self, fk_self]; exact f2
  · show H'.f (fn Λ.je _ _ k) = _
    rcases cs k h with ⟨hd, hk⟩ | rfl
    · rw [fn_ne hk]; exact ot (x.be k hd) (x.fe k hd) (fun d q => by cases q) (fun l q => by cases q)
    · rw [fn_self]; exact f3
  · show H'.f (fn Λ.jl _ _ k) = _
    rcases cs k h with ⟨hd, hk⟩ | rfl
    · rw [fn_ne hk]; exact ot (x.bl k hd) (x.fl k hd) (fun d q => by cases q) (fun l q => by cases q)
    · rw [fn_self]; exact f4
  · have e : fn Λ.jc (S.N + 1) (j + 1) k = fn Λ.jc (S.N + 1) (j + 1) k' := e
    rcases cs k h with ⟨hd, hk⟩ | rfl <;> rcases cs k' h' with ⟨hd', hk'⟩ | rfl
    · rw [fn_ne hk, fn_ne hk'] at e; exact x.ij k k' hd hd' e
    · rw [fn_ne hk, fn_self] at e; have := x.bc k hd; omega
    · rw [fn_self, fn_ne hk'] at e; have := x.bc k' hd'; omega
    · rfl
  · show fn Λ.jc (S.N + 1) (j + 1) k ≠ fn Λ.je (S.N + 1) (j + 2) k' ∧ fn Λ.jc (S.N + 1) (j + 1) k ≠ fn Λ.jl (S.N + 1) (j + 3) k'
    rcases cs k h with ⟨hd, hk⟩ | rfl <;> rcases cs k' h' with ⟨hd', hk'⟩ | rfl
    · rw [fn_ne hk, fn_ne hk', fn_ne hk']; exact x.ce k k' hd hd'
    · rw [fn_ne hk, fn_self, fn_self]; have := x.bc k hd; omega
    · rw [fn_self, fn_ne hk', fn_ne hk']; have := x.be k' hd'; have := x.bl k' hd'; omega
    · rw [fn_self, fn_self, fn_self]; omega
section
variable {b : Bd} {H : AH} {X : AH → Prop} {Q : AV → AH → Prop} {Λ : La} {S : St}
theorem gm_fresh {j : Nat} {L : Lk} (hf : H.f j = .inst 164 (lk L)) (hn : lk L "fresh" = none) : GM H (.ref j) "fresh" (.ref 119) := .inst hf ok_tree hn (fun _ => by kernel_rfl) (fun _ => by kernel_rfl) (fun _ => by kernel_rfl)
theorem c_fresh {s p : Int} (rp : Rep Λ S H) (h1 : 1 ≤ S.N) (h2 : S.N ≤ 900) (hb : 3 ≤ b.n) (h : ∀ H', Rep (Λ.new (S.N + 1) H.n) (fresh S s p) H' → H'.n = H.n + 4 → (∀ i, i < H.n → i ≠ Λ.T → i ≠ Λ.W → H'.f i = H.f i) → Q (.ref H.n) H') : CL b (.ref 119) [.ref Λ.T, .int s, .int p] H Q X := by
  refine (CA_defs (names := ["self", "sort", "parent"]) (fun _ => by with_unfolding_all rfl) (fun _ => by kernel_rfl) rfl rfl rfl rfl (by walk_at "b") (by decide) (by walk_at "d") ?_).cl
  intro sc hsc
  repeat walk_at "w"
  refine ⟨_, _, _, _, rfl, rp.fT, rfl, rfl, ok_tree, ?_⟩
  repeat walk_at "w"
  refine ⟨_, _, _, rfl, rp.fT, ok_tree, ?_⟩
  rw [upd_set]
  have fT1 : (H.set Λ.T (.inst 164 (lk (lkset "last" (.int (S.N + 1)) (tl Λ S))))).f Λ.T = .inst 164 (lk (lkset "last" (.int (S.N + 1)) (tl Λ S))) := st_self
  have fo1 : ∀ i, i ≠ Λ.T → (H.set Λ.T (.inst 164 (lk (lkset "last" (.int (S.N + 1)) (tl Λ S))))).f i = H.f i := fun i hi => st_ne hi
  have n1 : (H.set Λ.T (.inst 164 (lk (lkset "last" (.int (S.N + 1)) (tl Λ S))))).n = H.n := rfl
  revert fT1 fo1 n1
  generalize (H.set Λ.T (.inst 164 (lk (lkset "last" (.int (S.N + 1)) (tl Λ S))))) = H1
  intro fT1 fo1 n1
  have TW : Λ.W ≠ Λ.T := fun q => by have := rp.fW; rw [q, rp.fT] at this; cases this
  repeat walk_at "w"
  refine ⟨_, _, _, _, rfl, fT1, rfl, rfl, ok_tree, ?_⟩
  repeat walk_at "w"
  refine c_Window (by walk_at "d") fun H2 n2 e2 g1 g2 g3 g4 => ?_
  rw [n1] at n2 g1 g2 g3 g4
  have fT2 : H2.f Λ.T = _ := (e2.f _ (by rw [n1]; exact rp.bT)).trans fT1
  have fW2 : H2.f Λ.W = .dict (wl Λ S.N) := ((e2.f _ (by rw [n1]; exact rp.bW)).trans (fo1 _ TW)).trans rp.fW
  rw [n1]
  repeat walk_at "w"
  refine ⟨_, _, _, _, rfl, fT2, rfl, rfl, ok_tree, ?_⟩
  repeat walk_at "w"
  refine ⟨_, _, _, _, rfl, fT2, rfl, rfl, ok_tree, ?_⟩
  refine .inr ⟨_, _, _, rfl, rfl, fW2, by rw [wl_len]; omega, ?_⟩
  rw [wl_new (jw' := fn Λ.jw (S.N + 1) H.n) fn_self (fun k hk => fn_ne (by walk_at "d"))]
  repeat walk_at "w"
  refine h _ (rp.new h1 (Nat.le_refl _) ?_ ?_ ?_ ?_ ?_ ?_ ?_ ?_) n2 ?_
  · rw [st_n, n2]; omega
  · rw [st_ne TW.symm, fT2]; congr 1
  · rw [st_self]; rfl
  · intro i hi q1 q2
    rw [st_ne q2, e2.f _ (by rw [n1]; exact hi), fo1 _ q1]
  · rw [st_ne (by have := rp.bW; omega)]; exact g1
  · rw [st_ne (by have := rp.bW; omega)]; exact g2
  · rw [st_ne (by have := rp.bW; omega)]; exact g3
  · rw [st_ne (by have := rp.bW; omega)]; exact g4
  · intro i hi q1 q2
    rw [st_ne q2, e2.f _ (by rw [n1]; exact hi), fo1 _ q1]
end
end
-- C25
section
theorem call_cellsB {prog : Program} {w : World} {A : Around} {s : Shared} {R : Result → Shared → Prop} {a : Addr} {o : Obj} {fd : FuncData} {body : List Stmt} {vals : List Value} {binds : List (PySem.Str × Value)}
    (hroom : A.depth < recursionLimit) (ho : s.heap.get? a = some o) (hdata : o.data = .func fd) (hlim : s.heap.NoLimit) (hcd : s.heap.CodeRec fd.code fd.qualname)
    (hbody : fd.body = .stmts body) (hbind : BindsTo s fd ⟨vals, []⟩ binds) (hclo : fd.closure = [])
    (hkind : ∀ x ∈ binds, fd.scope.names.lookup x.1 = some .local ∨ (fd.scope.names.lookup x.1 = some .cell ∧ ((cellsFrom (s.heap.objs.size + 1) fd.scope.names []).lookup x.1).isSome = true))
    (h : ∀ s₁, InCallC s (callEnvC fd s.heap.objs.size a).locals (bindL (callEnvC fd s.heap.objs.size a).kindOf binds fun _ => none) (callEnvC fd s.heap.objs.size a).cells
        (bindC (callEnvC fd s.heap.objs.size a).kindOf binds fun _ => none) s₁ →
      wpAny (model prog w) (A.deeper (callEnvC fd s.heap.objs.size a)) (execs body (callEnvC fd s.heap.objs.size a)) (fun f s' => R (.ok (.ret (match f with | .ret v => v | _ => .none))) s')
        (fun e s' => wpAny (model prog w) (A.deeper (callEnvC fd s.heap.objs.size a)) (leaving (callEnvC fd s.heap.objs.size a) e) (fun _ s'' => R (.error e) s'') (fun e' s'' => R (.error e') s'') s') s₁)
    (hco : fd.scope.isCoroutine = false := by rfl) (hgen : fd.scope.isGenerator = false := by rfl) (hk : fd.scope.kind = .function := by rfl) :
    codeAny (model prog w) A (.call (.ref a) ⟨vals, []⟩) R s := by
  refine codeAny_call_function hroom ho hdata hco hgen hbody hcd ?_
  rw [hclo]
  refine hbind _ _ _ _ (wpAny_newFunctionEnv_cells hk hkind fun env he s' x => ?_)
  subst he
  exact ⟨hlim.keeps x.toInCall.keep, codeAny_func (h s' x)⟩
theorem CA_defB {b : Bd} {H : AH} {X : AH → Prop} {Q : AV → AH → Prop} {f : Addr} {fd : FuncData} {oc : Value} {od : Option Addr} {osl : Array (Option Value)} {body : List Stmt} {names : List PySem.Str} {args : List AV}
    (hK : ∀ P, (hd.heap_1 P).lookup f = some ⟨oc, od, .func fd, osl⟩) (hcd : ∀ P, codeIn (hd.heap_1 P) fd.code fd.qualname = true)
    (hb : fd.body = .stmts body) (hg : fd.globals = mainGlobals) (hbi : fd.builtins = builtinsNs) (hclo : fd.closure = [])
    (hbind : ∀ (P : Params) (s : Shared) (vs : List Value), vs.length = args.length → (hd.heap_1 P).In s.heap → BindsTo s fd ⟨vs, []⟩ (names.zip vs))
    (hkind : ∀ x ∈ names, fd.scope.names.lookup x = some .local ∨ fd.scope.names.lookup x = some .cell)
    (hb1 : 1 ≤ b.n) (h : EX b.dn fd.scope body (bindV names args v0) H (fun fl _ H' => Q (retOf fl) H') (fun _ H' => X H'))
    (hco : fd.scope.isCoroutine = false := by rfl) (hgen : fd.scope.isGenerator = false := by rfl) (hk : fd.scope.kind = .function := by rfl) : CA b (.ref f) args H Q X := by
  intro c s lm cm α δ vs R ok at' r q xx
  have KI : c.K.In s.heap := ok.K.keeps at'.bs
  have hsz : ∀ a o, s.heap.get? a = some o → a < s.heap.objs.size := fun a o e => Heap.lt_size e
  refine (call_cellsB (fd := fd) (vals := vs) (binds := names.zip vs) (by have := ok.dp; show _ < 1000; omega) (KI _ _ (hK _)) rfl (ok.T.nolimit.keeps at'.bs) (codeRec_of KI (hcd _)) hb (hbind _ s vs r.length KI) hclo ?_ (fun s₁ I => ?_) hco hgen hk)
  · intro x hx
    have hx' : x.1 ∈ names := (List.of_mem_zip (a := x.1) (b := x.2) hx).1
    rcases hkind _ hx' with k | k
    · exact .inl k
    · exact .inr ⟨k, cellsFrom_some _ _ _ (.inl k)⟩
  · obtain ⟨h₁, tk, rfl, hkeep⟩ := I.done
    have ns₁ := I.toInCall.ns
    generalize henv : callEnvC fd s.heap.objs.size f = env at *
    have eL : env.locals = s.heap.objs.size := by rw [← henv]; rfl
    have eF : env.frame = some s.heap.objs.size := by rw [← henv]; rfl
    have eS : env.scope = fd.scope := by rw [← henv]; rfl
    have sz₁ : s.heap.objs.size < h₁.objs.size := eL ▸ ns₁.lt
    have cab : ∀ x a, env.cells.lookup x = some a → s.heap.objs.size < a := fun x a e => eL ▸ I.above x a (mem_of_lookup e)
    have none_ge : ∀ a, s.heap.objs.size ≤ a → c.base.get? a = none := fun a ha => by
      cases e : c.base.get? a with
      | none => rfl
      | some o => exact absurd (Heap.lt_size (at'.bs _ _ e)) (Nat.not_lt.mpr ha)
    have dlt : ∀ i, i < H.n → δ i < s.heap.objs.size := fun i hi => by obtain ⟨ob, e, _⟩ := (at'.ob i hi).stor; exact Heap.lt_size e
    let c' : Cx := { c with A := c.A.deeper env, env := env, fs := env :: c.fs }
    have ok' : c'.Ok b.dn := by
      refine ⟨ok.pb, trivial, ok.hh, ?_, ?_, ?_, by rw [eS]; exact hk, by show env.globals = _; rw [← henv]; exact hg, by show env.builtins = _; rw [← henv]; exact hbi, ok.K, ok.T, fun x hx => ?_, fun x y a e1 e2 => ?_⟩
      · show c.A.frames.map (env :: ·) = _; rw [ok.hf]; rfl
      · show c.A.depth + 1 + (b.n - 1) ≤ 900; have := ok.dp; omega
      · show c.A.units + 3 + 8 * (b.n - 1) ≤ 9000; have := ok.un; omega
      · have : fd.scope.names.lookup x = some .cell := by rw [← eS]; exact hx
        have := cellsFrom_some fd.scope.names (s.heap.objs.size + 1) [] (.inl this)
        obtain ⟨a, ha⟩ := Option.isSome_iff_exists.mp this
        exact ⟨a, by show env.cells.lookup x = _; rw [← henv]; exact ha⟩
      · exact name_of_addr I.apart (mem_of_lookup e1) (mem_of_lookup e2)
    have atc : At c' { s with heap := h₁, toks := tk } (bindL env.kindOf (names.zip vs) fun _ => none) (bindC env.kindOf (names.zip vs) fun _ => none) H α δ := by
      refine ⟨at'.toAtH.more hkeep, ns₁, fun a o e => hkeep a o (at'.bs a o e), none_ge _ (by show _ ≤ env.locals; rw [eL]; exact Nat.le_refl _), fun x a e => ⟨I.cell x a e, none_ge a (Nat.le_of_lt (cab x a e))⟩,
        Heap.FunFrames.cons (by rw [eS, hk]; decide) eF (eL ▸ ns₁) (none_ge _ (Nat.le_refl _)) (at'.fr.of_keeps fun b o e _ => ⟨o, hkeep b o e, rfl⟩),
        fun i hi => ?_, fun i hi e he => ?_, fun p hp => let ⟨o, e⟩ := at'.bb p hp; ⟨o, hkeep _ _ e⟩⟩
      · show δ i ≠ env.locals; rw [eL]; exact Nat.ne_of_lt (dlt i hi)
      · rcases List.mem_cons.mp he with rfl | he
        · rw [eF]; intro z; exact Nat.lt_irrefl _ ((Option.some.inj z).symm ▸ dlt i hi)
        · exact at'.df i hi e he
    have st₀ : Step c.bad H.n H.n α δ α δ s { s with heap := h₁, toks := tk } := Step.more ⟨_, _, rfl⟩ hkeep
    have nm' : NmR c' h₁ (bindL env.kindOf (names.zip vs) fun _ => none) (bindC env.kindOf (names.zip vs) fun _ => none) H.n α (bindV names args v0) := by
      intro x a e
      rcases bindV_nm (kind := env.kindOf) (st₀.vrs r) (fun x hx => by unfold Env.kindOf; rw [eS]; exact hkind x hx) (fun x a e => (by cases e)) x a e with z | ⟨k, v, e1, e2⟩
      · exact .inl z
      · obtain ⟨ad, had⟩ := ok'.lk x k
        exact .inr ⟨.inl k, ad, v, had, e1, e2⟩
    have gone : ∀ (s' : Shared) (H' : AH) (α' δ' : Nat → Addr), StepX c' H.n H'.n α δ α' δ' { s with heap := h₁, toks := tk } s' → Step c.bad H.n H'.n α δ α' δ' s s' := fun s' H' α' δ' st =>
      ⟨st₀.sh.trans st.sh, st.gr, fun a o e => st.pr a o (hkeep a o e), fun a o e z => st.kp a o (hkeep a o e) z (by show a ≠ env.locals; rw [eL]; exact Nat.ne_of_lt (Heap.lt_size e)) (fun x y => absurd (Heap.lt_size e) (Nat.not_lt.mpr (Nat.le_of_lt (cab x a y)))),
        fun i hi hn => none_back st₀.pr (st.nw i hi hn), fun p us z t => st.tu p us z (t.keeps hkeep)⟩
    refine h c' _ _ _ α δ _ _ ok' eS ⟨c.fs, rfl⟩ (by show env.frame = some env.locals; rw [eF, eL]) atc nm' (fun fl w s' lm' cm' m' H' α' δ' st at2 nm2 fr qq => ?_) (fun e s' lm' cm' m' H' α' δ' ex at2 nm2 x' => ?_)
    · have stp := gone s' H' α' δ' st
      have atf := at'.step stp at2.toAtH
      cases fr with
      | next => exact q _ _ _ _ _ _ stp atf .none qq
      | ret r => exact q _ _ _ _ _ _ stp atf r qq
    · have oldL : ∀ a o, s.heap.get? a = some o → a ≠ env.locals := fun a o e => by rw [eL]; exact Nat.ne_of_lt (Heap.lt_size e)
      have oldC : ∀ a o, s.heap.get? a = some o → ∀ x, env.cells.lookup x ≠ some a := fun a o e x y => absurd (Heap.lt_size e) (Nat.not_lt.mpr (Nat.le_of_lt (cab x a y)))
      have k1' : ∀ (h' : Heap), s'.heap.UpToSlots h' → ∀ a o, s.heap.get? a = some o → (∀ i, i < H.n → δ i ≠ a) → (∀ vs, o.data ≠ .fields vs) → ∃ sl, h'.get? a = some ⟨o.cls, o.dict, o.data, sl⟩ := fun h' us a o e z f => by
        obtain ⟨sl, z⟩ := ex.k1 a o (hkeep a o e) z (oldL a o e) (oldC a o e) f
        obtain ⟨sl', z'⟩ := us a _ z f
        exact ⟨sl', z'⟩
      rcases ex.fl with ⟨xb, a0, fl, k, d⟩ | ⟨⟨oe, ws, a0, he, hcls, hdat, h0, h1⟩, nn, kk⟩
      · refine wpAny_leaves_onW (outer := c.fs) ok'.hf eF fl fun h' fl' us => xx e _ H' α' δ' ⟨st₀.sh.trans (ex.sh.trans ⟨_, _, rfl⟩), ex.gr, at2.toAtH.slots us fun i hi o e => fl'.1 _ _ (d i hi o e), fun i hi hn => none_back st₀.pr (ex.nw i hi hn), k1' h' us, xb, a0, fl', fun a o e z f => ?_, fun i hi o e => ?_⟩ x'
        · refine k a o (hkeep a o e) z (oldL a o e) (oldC a o e) fun g hg => ?_
          rcases List.mem_cons.mp hg with rfl | hg
          · rw [eF]; intro z; exact Nat.lt_irrefl _ ((Option.some.inj z).symm ▸ Heap.lt_size e)
          · exact f g hg
        · obtain ⟨ob, e', _⟩ := (at2.ob i hi).stor
          have := fl'.1 _ _ (d i hi _ e')
          rw [this] at e; cases e
          exact d i hi _ e'
      · have hin : ∀ f ∈ (env :: c.fs), ∀ a, f.frame = some a → a ∈ e :: (env :: c.fs).filterMap (·.frame) := fun f hf a ha => .tail _ (List.mem_filterMap.mpr ⟨f, hf, ha⟩)
        have dn : ∀ i, i < H'.n → δ' i ∉ e :: (env :: c.fs).filterMap (·.frame) := fun i hi hm => by
          rcases List.mem_cons.mp hm with q | hm
          · obtain ⟨ob, e', stt⟩ := (at2.ob i hi).stor
            rw [q, he] at e'; cases e'; exact stt.fields _ hdat
          · obtain ⟨f, hf, hfr⟩ := List.mem_filterMap.mp hm
            exact at2.df i hi f hf hfr
        refine wpAny_leaving_firstW (base := hideAll s'.heap (e :: (env :: c.fs).filterMap (·.frame))) ok'.hf (funFrames_hide at2.fr hin) eF he (fun _ _ q => of_hideAll _ q) (hideAll_none _ (.head _)) hdat h1 h0 fun h' hL => ?_
        obtain ⟨l1, ⟨_, _, l2⟩, l3, l4⟩ := hL
        rw [hcls] at l3
        have us : s'.heap.UpToSlots h' := fun b o q f => l4 b o q f
        refine xx e _ H' α' δ' ⟨st₀.sh.trans (ex.sh.trans ⟨_, _, rfl⟩), ex.gr, at2.toAtH.slots us fun i hi o e => l1 _ _ (hideAll_get _ e (dn i hi)), fun i hi hn => none_back st₀.pr (ex.nw i hi hn), k1' h' us, _, a0, ⟨l1, hideAll_none _ (.head _), l2, l3⟩, fun a o e' z f => ?_, fun i hi o e' => ?_⟩ x'
        · refine hideAll_get _ (kk a o (hkeep a o e') z (oldL a o e') (oldC a o e')) fun hm => ?_
          rcases List.mem_cons.mp hm with q | hm
          · have := none_back st₀.pr nn; rw [← q, e'] at this; cases this
          · obtain ⟨g, hg, hgf⟩ := List.mem_filterMap.mp hm
            rcases List.mem_cons.mp hg with rfl | hg
            · have hgf : g.frame = some a := hgf
              rw [eF] at hgf; exact Nat.lt_irrefl _ ((Option.some.inj hgf).symm ▸ Heap.lt_size e')
            · exact f g hg hgf
        · obtain ⟨ob, e2, _⟩ := (at2.ob i hi).stor
          have e3 := hideAll_get (e :: (env :: c.fs).filterMap (·.frame)) e2 (dn i hi)
          have := l1 _ _ e3
          rw [this] at e'; cases e'
          exact e3
section
variable {b : Bd} {H : AH} {X : AH → Prop} {Q : AV → AH → Prop}
theorem c_fresh_raw {T W : Nat} {L : Lk} {n s p : Int} {l : List (Int × AV)} (fT : H.f T = .inst 164 (lk L)) (hl : lk L "last" = some (.int n)) (hl' : lk (lkset "last" (.int (n + 1)) L) "last" = some (.int (n + 1))) (hw' : lk (lkset "last" (.int (n + 1)) L) "windows" = some (.ref W))
    (fW : H.f W = .dict l) (hlen : l.length ≤ 900) (bT : T < H.n) (bW : W < H.n) (hb : 3 ≤ b.n)
    (h : ∀ H', H'.n = H.n + 4 → (∀ i, i < H.n → i ≠ T → i ≠ W → H'.f i = H.f i) → H'.f T = .inst 164 (lk (lkset "last" (.int (n + 1)) L)) → H'.f W = .dict (dset l (n + 1) (.ref H.n)) → H'.f H.n = .inst 93 (lk (newW (n + 1) s p (H.n + 1) (H.n + 2) (H.n + 3))) →
      H'.f (H.n + 1) = .list [] → H'.f (H.n + 2) = .list [] → H'.f (H.n + 3) = .list [] → Q (.ref H.n) H') : CL b (.ref 119) [.ref T, .int s, .int p] H Q X := by
  refine (CA_defs (names := ["self", "sort", "parent"]) (fun _ => by with_unfolding_all rfl) (fun _ => by kernel_rfl) rfl rfl rfl rfl (by walk_at "b") (by decide) (by walk_at "d") ?_).cl
  intro sc hsc
  repeat walk_at "w"
  refine ⟨_, _, _, _, rfl, fT, hl, rfl, ok_tree, ?_⟩
  repeat walk_at "w"
  refine ⟨_, _, _, rfl, fT, ok_tree, ?_⟩
  rw [upd_set]
  have fT1 : (H.set T (.inst 164 (lk (lkset "last" (.int (n + 1)) L)))).f T = .inst 164 (lk (lkset "last" (.int (n + 1)) L)) := st_self
  have fo1 : ∀ i, i ≠ T → (H.set T (.inst 164 (lk (lkset "last" (.int (n + 1)) L)))).f i = H.f i := fun i hi => st_ne hi
  have n1 : (H.set T (.inst 164 (lk (lkset "last" (.int (n + 1)) L)))).n = H.n := rfl
  revert fT1 fo1 n1
  generalize (H.set T (.inst 164 (lk (lkset "last" (.int (n + 1)) L)))) = H1
  intro fT1 fo1 n1
  have TW : W ≠ T := fun q => by rw [q, fT] at fW; cases fW
  repeat walk_at "w"
  refine ⟨_, _, _, _, rfl, fT1, hl', rfl, ok_tree, ?_⟩
  repeat walk_at "w"
  refine c_Window (by walk_at "d") fun H2 n2 e2 g1 g2 g3 g4 => ?_
  rw [n1] at n2 g1 g2 g3 g4
  have fT2 : H2.f T = _ := (e2.f _ (by rw [n1]; exact bT)).trans fT1
  have fW2 : H2.f W = .dict l := ((e2.f _ (by rw [n1]; exact bW)).trans (fo1 _ TW)).trans fW
  rw [n1]
  repeat walk_at "w"
  refine ⟨_, _, _, _, rfl, fT2, hw', rfl, ok_tree, ?_⟩
  repeat walk_at "w"
  refine ⟨_, _, _, _, rfl, fT2, hl', rfl, ok_tree, ?_⟩
  refine .inr ⟨_, _, _, rfl, rfl, fW2, by omega, ?_⟩
  repeat walk_at "w"
  refine h _ n2 ?_ ?_ ?_ ?_ ?_ ?_ ?_
  · intro i hi q1 q2
    rw [st_ne q2, e2.f _ (by rw [n1]; exact hi), fo1 _ q1]
  · rw [st_ne TW.symm, fT2]
  · rw [st_self]
  · rw [st_ne (by walk_at "d")]; exact g1
  · rw [st_ne (by walk_at "d")]; exact g2
  · rw [st_ne (by walk_at "d")]; exact g3
  · rw [st_ne (by walk_at "d")]; exact g4
/-- a tree in the making, ahead of its first window -/
structure TW (H H1 : AH) (L : Lk) : Prop where
  n : H1.n = H.n + 2
  e : Ext H H1
  f : H1.f H.n = .inst 164 (lk L)
  d : H1.f (H.n + 1) = .dict []
theorem TW.set {H H1 : AH} {L : Lk} {x : PySem.Str} {a : AV} (i : TW H H1 L) : TW H (H1.set H.n (.inst 164 (upd (lk L) x a))) (lkset x a L) :=
  ⟨i.n, i.e.set (Nat.le_refl _), by rw [st_self, upd_set], (st_ne (by walk_at "d")).trans i.d⟩
/-- and behind it -/
structure TY (H H1 : AH) (L M : Lk) : Prop where
  n : H1.n = H.n + 6
  e : Ext H H1
  fT : H1.f H.n = .inst 164 (lk L)
  fW : H1.f (H.n + 1) = .dict [(1, .ref (H.n + 2))]
  f1 : H1.f (H.n + 2) = .inst 93 (lk M)
  c : H1.f (H.n + 3) = .list []
  e' : H1.f (H.n + 4) = .list []
  l : H1.f (H.n + 5) = .list []
theorem TY.setT {H H1 : AH} {L M : Lk} {x : PySem.Str} {a : AV} (i : TY H H1 L M) : TY H (H1.set H.n (.inst 164 (upd (lk L) x a))) (lkset x a L) M :=
  ⟨i.n, i.e.set (Nat.le_refl _), by rw [st_self, upd_set], (st_ne (by walk_at "d")).trans i.fW, (st_ne (by walk_at "d")).trans i.f1, (st_ne (by walk_at "d")).trans i.c, (st_ne (by walk_at "d")).trans i.e', (st_ne (by walk_at "d")).trans i.l⟩
theorem TY.set1 {H H1 : AH} {L M : Lk} {x : PySem.Str} {a : AV} (i : TY H H1 L M) : TY H (H1.set (H.n + 2) (.inst 93 (upd (lk M) x a))) L (lkset x a M) :=
  ⟨i.n, i.e.set (by walk_at "d"), (st_ne (by walk_at "d")).trans i.fT, (st_ne (by walk_at "d")).trans i.fW, by rw [st_self, upd_set], (st_ne (by walk_at "d")).trans i.c, (st_ne (by walk_at "d")).trans i.e', (st_ne (by walk_at "d")).trans i.l⟩
theorem gm_touch {j : Nat} {L : Lk} (hf : H.f j = .inst 164 (lk L)) (hn : lk L "touch" = none) : GM H (.ref j) "touch" (.ref 140) := .inst hf ok_tree hn (fun _ => by kernel_rfl) (fun _ => by kernel_rfl) (fun _ => by kernel_rfl)
theorem c_touch {H0 : AH} {L M : Lk} (i : TY H0 H L M) (hc : lk L "clock" = some (.int 0)) (hc' : lk (lkset "clock" (.int (0 + 1)) L) "clock" = some (.int (0 + 1))) (hw : lk (lkset "clock" (.int (0 + 1)) L) "windows" = some (.ref (H0.n + 1))) (hb : 1 ≤ b.n)
    (h : ∀ H', TY H0 H' (lkset "clock" (.int (0 + 1)) L) (lkset "use_time" (.int (0 + 1)) M) → Q .none H') : CL b (.ref 140) [.ref H0.n, .int 1] H Q X := by
  refine (CA_defs (names := ["self", "number"]) (fun _ => by with_unfolding_all rfl) (fun _ => by kernel_rfl) rfl rfl rfl rfl (by walk_at "b") (by decide) (by walk_at "d") ?_).cl
  intro sc hsc
  repeat walk_at "w"
  refine ⟨_, _, _, _, rfl, i.fT, hc, rfl, ok_tree, ?_⟩
  repeat walk_at "w"
  refine ⟨_, _, _, rfl, i.fT, ok_tree, ?_⟩
  have i1 := i.setT (x := "clock") (a := .int (0 + 1))
  repeat walk_at "w"
  refine ⟨_, _, _, _, rfl, i1.fT, hc', rfl, ok_tree, ?_⟩
  repeat walk_at "w"
  refine ⟨_, _, _, _, rfl, i1.fT, hw, rfl, ok_tree, ?_⟩
  repeat walk_at "w"
  refine SB_dict i1.fW rfl ?_
  refine ⟨_, _, _, rfl, i1.f1, ok_window, ?_⟩
  repeat walk_at "w"
  exact h _ i1.set1
noncomputable def St0 (w h : Int) : St := { N := 1, root := 1, sort := fun _ => 0, par := fun _ => 0, kids := fun _ => [], w := fun _ => w, h := fun _ => h, l := fun _ => 0, t := fun _ => 0, buf := fun _ => 1 }
noncomputable def La0 (n : Nat) : La := { T := n, W := n + 1, jw := fun _ => n + 2, jc := fun _ => n + 3, je := fun _ => n + 4, jl := fun _ => n + 5 }
theorem c_WindowTree {w h : Int} (hb : 5 ≤ b.n) (hq : ∀ H', Rep (La0 H.n) (St0 w h) H' → Ext H H' → Q (.ref H.n) H') : CL b (.ref 164) [.int w, .int h, .int 1, .int 3, .int 2] H Q X := by
  refine CL_make (fI := 112) (fun _ => by kernel_rfl) (fun _ => by kernel_rfl) (fun _ => by kernel_rfl) (by walk_at "d") ?_
  refine CA_defB (names := ["self", "width", "height", "buffer", "least_width", "least_height"]) (fun _ => by with_unfolding_all rfl) (fun _ => by kernel_rfl) rfl rfl rfl rfl (by intro P s vs e KI; exact len6 (P := fun vs => BindsTo s _ ⟨vs, []⟩ (List.zip _ vs)) (fun _ _ _ _ _ _ => kp_binds KI (fun _ => by with_unfolding_all rfl)) vs e) (by decide) (by walk_at "d") ?_
  repeat walk_at "w"
  refine ⟨_, _, _, rfl, (al_lt (Nat.lt_succ_self _)).trans al_self, ok_tree, ?_⟩
  have i0 : TW H ((H.alloc (.inst 164 fun _ => none)).alloc (.dict [])) [] := ⟨rfl, Ext.refl.alloc.alloc, (al_lt (Nat.lt_succ_self _)).trans al_self, al_self⟩
  have i1 := i0.set (x := "windows") (a := .ref (H.n + 1))
  repeat walk_at "w"
  refine ⟨_, _, _, rfl, i1.f, ok_tree, ?_⟩
  have i2 := i1.set (x := "last") (a := .int 0)
  repeat walk_at "w"
  refine ⟨_, _, _, rfl, i2.f, ok_tree, ?_⟩
  have i3 := i2.set (x := "clock") (a := .int 0)
  repeat walk_at "w"
  refine ⟨_, _, _, rfl, i3.f, ok_tree, ?_⟩
  have i4 := i3.set (x := "least_width") (a := .int 3)
  repeat walk_at "w"
  refine ⟨_, _, _, rfl, i4.f, ok_tree, ?_⟩
  have i5 := i4.set (x := "least_height") (a := .int 2)
  repeat walk_at "w"
  refine EV_method ?_
  repeat walk_at "w"
  refine ⟨_, gm_fresh i5.f rfl, ?_⟩
  repeat walk_at "w"
  refine c_fresh_raw (n := 0) (W := H.n + 1) i5.f rfl rfl rfl i5.d (by simp) (by show H.n < H.n + 2; omega) (by show H.n + 1 < H.n + 2; omega) (by walk_at "d") fun H2 n2 o2 g1 g2 g3 g4 g5 g6 => ?_
  have n2 : H2.n = H.n + 6 := n2
  have o2 : ∀ i, i < H.n + 2 → i ≠ H.n → i ≠ H.n + 1 → H2.f i = _ := o2
  have j0 : TY H H2 _ _ := ⟨n2, ⟨by omega, fun i hi => (o2 i (by walk_at "d") (by walk_at "d") (by walk_at "d")).trans (i5.e.f i hi)⟩, g1, g2, g3, g4, g5, g6⟩
  repeat walk_at "w"
  refine ⟨_, _, _, rfl, j0.f1, ok_window, ?_⟩
  have j1 := j0.set1 (x := "width") (a := .int w)
  repeat walk_at "w"
  refine ⟨_, _, _, rfl, j1.f1, ok_window, ?_⟩
  have j2 := j1.set1 (x := "height") (a := .int h)
  repeat walk_at "w"
  refine ⟨_, _, _, rfl, j2.f1, ok_window, ?_⟩
  have j3 := j2.set1 (x := "buffer") (a := .int 1)
  repeat walk_at "w"
  refine ⟨_, _, _, _, rfl, j3.f1, rfl, rfl, ok_window, ?_⟩
  repeat walk_at "w"
  refine ⟨_, _, _, rfl, j3.fT, ok_tree, ?_⟩
  have j4 := j3.setT (x := "root") (a := .int (0 + 1))
  repeat walk_at "w"
  refine ⟨_, _, _, _, rfl, j4.f1, rfl, rfl, ok_window, ?_⟩
  repeat walk_at "w"
  refine ⟨_, _, _, rfl, j4.fT, ok_tree, ?_⟩
  have j5 := j4.setT (x := "selected") (a := .int (0 + 1))
  repeat walk_at "w"
  refine EV_method ?_
  repeat walk_at "w"
  refine ⟨_, gm_touch j5.fT rfl, ?_⟩
  repeat walk_at "w"
  refine ⟨_, _, _, _, rfl, j5.f1, rfl, rfl, ok_window, ?_⟩
  repeat walk_at "w"
  refine c_touch j5 rfl rfl rfl (by walk_at "d") fun H3 j6 => ?_
  repeat walk_at "w"
  refine ⟨rfl, hq H3 ?_ j6.e⟩
  have one : ∀ k : Int, (St0 w h).Dm k → k = 1 := fun k hk => by
    obtain ⟨a, c⟩ := hk
    have : ((St0 w h).N : Int) = 1 := rfl
    omega
  have hn := j6.n
  refine ⟨by show H.n < _; omega, by show H.n + 1 < _; omega, j6.fT, j6.fW, fun k _ => by show H.n + 2 < _; omega, fun k _ => by show H.n + 3 < _; omega, fun k _ => by show H.n + 4 < _; omega, fun k _ => by show H.n + 5 < _; omega,
    fun k hk => ?_, fun _ _ => j6.c, fun _ _ => j6.e', fun _ _ => j6.l, fun a c ha hc _ => (one a ha).trans (one c hc).symm, fun a c _ _ => ⟨by show H.n + 3 ≠ H.n + 4; omega, by show H.n + 3 ≠ H.n + 5; omega⟩⟩
  rw [one k hk]
  exact j6.f1
end
end
-- C26
section
section
variable {Λ : La} {S : St} {H : AH} {k v : Int}
theorem Rep.upg {Λ' : La} {S' : St} (x : Rep Λ S H) (hk : S.Dm k) (hN : S'.N = S.N) (hr : S'.root = S.root) (hT : Λ'.T = Λ.T) (hW : Λ'.W = Λ.W) (hj : Λ'.jw = Λ.jw)
    (ho : ∀ k', S.Dm k' → k' ≠ k → wat Λ' S' k' = wat Λ S k' ∧ S'.kids k' = S.kids k' ∧ Λ'.jc k' = Λ.jc k' ∧ Λ'.je k' = Λ.je k' ∧ Λ'.jl k' = Λ.jl k')
    (hc : Λ'.jc k < H.n ∧ H.f (Λ'.jc k) = .list (iL (S'.kids k))) (he : Λ'.je k < H.n ∧ H.f (Λ'.je k) = .list []) (hl : Λ'.jl k < H.n ∧ H.f (Λ'.jl k) = .list [])
    (hij : ∀ k', S.Dm k' → k' ≠ k → Λ'.jc k ≠ Λ.jc k') (hce : ∀ k', S.Dm k' → Λ'.jc k ≠ Λ'.je k' ∧ Λ'.jc k ≠ Λ'.jl k') (hec : ∀ k', S.Dm k' → k' ≠ k → Λ.jc k' ≠ Λ'.je k ∧ Λ.jc k' ≠ Λ'.jl k) :
    Rep Λ' S' (H.set (Λ.jw k) (.inst 93 (lk (wat Λ' S' k)))) := by
  have D : ∀ k', S'.Dm k' → S.Dm k' := fun k' h => by rw [St.Dm, hN] at h; exact h
  have ne : ∀ {i : Nat} {o : AO}, H.f i = o → (∀ C d, o ≠ .inst C d) → i ≠ Λ.jw k := fun h1 h2 q => by rw [q, x.fw k hk] at h1; exact h2 _ _ h1.symm
  have ls : ∀ {i : Nat} {l : List AV}, H.f i = .list l → (H.set (Λ.jw k) (.inst 93 (lk (wat Λ' S' k)))).f i = .list l := fun h => (st_ne (ne h fun _ _ q => by cases q)).trans h
  refine ⟨by rw [hT]; exact x.bT, by rw [hW]; exact x.bW, ?_, ?_, fun k' h => by rw [hj]; exact x.bw k' (D k' h), fun k' h => ?_, fun k' h => ?_, fun k' h => ?_, fun k' h => ?_, fun k' h => ?_, fun k' h => ?_, fun k' h => ?_, fun a b h1 h2 e => ?_, fun a b h1 h2 => ?_⟩
  · rw [hT, st_ne, x.fT]
    · unfold tl; rw [hN, hr, hW]
    · intro q
      have a := x.fT
      rw [q, x.fw k hk] at a
      have := (AO.inst.inj a).1
      revert this; decide
  · rw [hW, st_ne (ne x.fW fun _ _ q => by cases q), x.fW]
    unfold wl; rw [hN, hj]
  · by_cases e : k' = k
    · subst e; exact hc.1
    · rw [(ho k' (D k' h) e).2.2.1]; exact x.bc k' (D k' h)
  · by_cases e : k' = k
    · subst e; exact he.1
    · rw [(ho k' (D k' h) e).2.2.2.1]; exact x.be k' (D k' h)
  · by_cases e : k' = k
    · subst e; exact hl.1
    · rw [(ho k' (D k' h) e).2.2.2.2]; exact x.bl k' (D k' h)
  · rw [hj]
    by_cases e : k' = k
    · subst e; rw [st_self]
    · rw [st_ne (fun q => e (x.iw (D k' h) hk q)), x.fw k' (D k' h), (ho k' (D k' h) e).1]
  · by_cases e : k' = k
    · subst e; exact ls hc.2
    · obtain ⟨_, o2, o3, _⟩ := ho k' (D k' h) e
      rw [o2, o3]; exact ls (x.fc k' (D k' h))
  · by_cases e : k' = k
    · subst e; exact ls he.2
    · rw [(ho k' (D k' h) e).2.2.2.1]; exact ls (x.fe k' (D k' h))
  · by_cases e : k' = k
    · subst e; exact ls hl.2
    · rw [(ho k' (D k' h) e).2.2.2.2]; exact ls (x.fl k' (D k' h))
  · have h1 := D a h1
    have h2 := D b h2
    by_cases ea : a = k <;> by_cases eb : b = k
    · rw [ea, eb]
    · subst ea; rw [(ho b h2 eb).2.2.1] at e; exact absurd e (hij b h2 eb)
    · subst eb; rw [(ho a h1 ea).2.2.1] at e; exact absurd e.symm (hij a h1 ea)
    · rw [(ho a h1 ea).2.2.1, (ho b h2 eb).2.2.1] at e; exact x.ij a b h1 h2 e
  · have h1 := D a h1
    have h2 := D b h2
    by_cases ea : a = k
    · subst ea; exact hce b h2
    · rw [(ho a h1 ea).2.2.1]
      by_cases eb : b = k
      · subst eb; exact hec a h1 ea
      · rw [(ho b h2 eb).2.2.2.1, (ho b h2 eb).2.2.2.2]; exact x.ce a b h1 h2
theorem Rep.setpar (x : Rep Λ S H) (hk : S.Dm k) : Rep Λ { S with par := fs S.par k v } (H.set (Λ.jw k) (.inst 93 (lk (lkset "parent" (.int v) (wat Λ S k))))) := by
  have e : lkset "parent" (.int v) (wat Λ S k) = wat Λ { S with par := fs S.par k v } k := by
    have e : wat Λ { S with par := fs S.par k v } k = wat Λ { S with par := fun _ => v } k := by unfold wat; simp only [fs_self]
    rw [e]; rfl
  rw [e]
  exact x.upw (S' := { S with par := fs S.par k v }) hk rfl rfl (fun _ _ => rfl) fun k' _ hn => by unfold wat; simp only [fs_ne hn]
theorem Rep.setw (x : Rep Λ S H) (hk : S.Dm k) : Rep Λ { S with w := fs S.w k v } (H.set (Λ.jw k) (.inst 93 (lk (lkset "width" (.int v) (wat Λ S k))))) := by
  have e : lkset "width" (.int v) (wat Λ S k) = wat Λ { S with w := fs S.w k v } k := by
    have e : wat Λ { S with w := fs S.w k v } k = wat Λ { S with w := fun _ => v } k := by unfold wat; simp only [fs_self]
    rw [e]; rfl
  rw [e]
  exact x.upw (S' := { S with w := fs S.w k v }) hk rfl rfl (fun _ _ => rfl) fun k' _ hn => by unfold wat; simp only [fs_ne hn]
theorem Rep.seth (x : Rep Λ S H) (hk : S.Dm k) : Rep Λ { S with h := fs S.h k v } (H.set (Λ.jw k) (.inst 93 (lk (lkset "height" (.int v) (wat Λ S k))))) := by
  have e : lkset "height" (.int v) (wat Λ S k) = wat Λ { S with h := fs S.h k v } k := by
    have e : wat Λ { S with h := fs S.h k v } k = wat Λ { S with h := fun _ => v } k := by unfold wat; simp only [fs_self]
    rw [e]; rfl
  rw [e]
  exact x.upw (S' := { S with h := fs S.h k v }) hk rfl rfl (fun _ _ => rfl) fun k' _ hn => by unfold wat; simp only [fs_ne hn]
theorem Rep.setbuf (x : Rep Λ S H) (hk : S.Dm k) : Rep Λ { S with buf := fs S.buf k v } (H.set (Λ.jw k) (.inst 93 (lk (lkset "buffer" (.int v) (wat Λ S k))))) := by
  have e : lkset "buffer" (.int v) (wat Λ S k) = wat Λ { S with buf := fs S.buf k v } k := by
    have e : wat Λ { S with buf := fs S.buf k v } k = wat Λ { S with buf := fun _ => v } k := by unfold wat; simp only [fs_self]
    rw [e]; rfl
  rw [e]
  exact x.upw (S' := { S with buf := fs S.buf k v }) hk rfl rfl (fun _ _ => rfl) fun k' _ hn => by unfold wat; simp only [fs_ne hn]
/-- the list of a window's own replaced -/
theorem Rep.setc {i : Nat} {l : List Int} (x : Rep Λ S H) (hk : S.Dm k) (hi : i < H.n) (hf : H.f i = .list (iL l)) (h1 : ∀ k', S.Dm k' → i ≠ Λ.jc k' ∧ i ≠ Λ.je k' ∧ i ≠ Λ.jl k') :
    Rep { Λ with jc := fn Λ.jc k i } { S with kids := fk S.kids k l } (H.set (Λ.jw k) (.inst 93 (lk (lkset "children" (.ref i) (wat Λ S k))))) := by
  have e : lkset "children" (.ref i) (wat Λ S k) = wat { Λ with jc := fn Λ.jc k i } { S with kids := fk S.kids k l } k := by
    have e : wat { Λ with jc := fn Λ.jc k i } { S with kids := fk S.kids k l } k = wat { Λ with jc := fun _ => i } { S with kids := fk S.kids k l } k := by unfold wat; simp only [fn_self]
    rw [e]; rfl
  rw [e]
  refine x.upg (Λ' := { Λ with jc := fn Λ.jc k i }) (S' := { S with kids := fk S.kids k l }) hk rfl rfl rfl rfl rfl (fun k' hk' hn => ⟨by unfold wat; simp only [fn_ne hn], fk_ne hn, fn_ne hn, rfl, rfl⟩) ⟨?_, ?_⟩ ⟨x.be k hk, x.fe k hk⟩ ⟨x.bl k hk, x.fl k hk⟩ (fun k' h hn => ?_) (fun k' h => ?_) (fun k' h hn => x.ce k' k h hk)
  · show fn Λ.jc k i k < _; rw [fn_self]; exact hi
  · show H.f (fn Λ.jc k i k) = .list (iL (fk S.kids k l k)); rw [fn_self, fk_self]; exact hf
  · show fn Λ.jc k i k ≠ _; rw [fn_self]; exact (h1 k' h).1
  · show fn Λ.jc k i k ≠ Λ.je k' ∧ fn Λ.jc k i k ≠ Λ.jl k'; rw [fn_self]; exact (h1 k' h).2
theorem Rep.sete {i : Nat} (x : Rep Λ S H) (hk : S.Dm k) (hi : i < H.n) (hf : H.f i = .list []) (h1 : ∀ k', S.Dm k' → i ≠ Λ.jc k') :
    Rep { Λ with je := fn Λ.je k i } S (H.set (Λ.jw k) (.inst 93 (lk (lkset "earlier" (.ref i) (wat Λ S k))))) := by
  have e : lkset "earlier" (.ref i) (wat Λ S k) = wat { Λ with je := fn Λ.je k i } S k := by
    have e : wat { Λ with je := fn Λ.je k i } S k = wat { Λ with je := fun _ => i } S k := by unfold wat; simp only [fn_self]
    rw [e]; rfl
  rw [e]
  refine x.upg (Λ' := { Λ with je := fn Λ.je k i }) (S' := S) hk rfl rfl rfl rfl rfl (fun k' hk' hn => ⟨by unfold wat; simp only [fn_ne hn], rfl, rfl, fn_ne hn, rfl⟩) ⟨x.bc k hk, x.fc k hk⟩ ⟨?_, ?_⟩ ⟨x.bl k hk, x.fl k hk⟩ (fun k' h hn => ?_) (fun k' h => ?_) (fun k' h hn => ?_)
  · show fn Λ.je k i k < _; rw [fn_self]; exact hi
  · show H.f (fn Λ.je k i k) = _; rw [fn_self]; exact hf
  · exact fun q => hn (x.ij k k' hk h q).symm
  · show Λ.jc k ≠ fn Λ.je k i k' ∧ Λ.jc k ≠ Λ.jl k'
    refine ⟨?_, (x.ce k k' hk h).2⟩
    by_cases q : k' = k
    · subst q; rw [fn_self]; exact (h1 _ hk).symm
    · rw [fn_ne q]; exact (x.ce k k' hk h).1
  · show Λ.jc k' ≠ fn Λ.je k i k ∧ Λ.jc k' ≠ Λ.jl k
    rw [fn_self]; exact ⟨(h1 k' h).symm, (x.ce k' k h hk).2⟩
/-- the list of a window's own turned in place -/
theorem Rep.upk {l : List Int} (x : Rep Λ S H) (hk : S.Dm k) : Rep Λ { S with kids := fk S.kids k l } (H.set (Λ.jc k) (.list (iL l))) := by
  have fc := x.fc k hk
  have ne : ∀ {i : Nat} {o : AO}, H.f i = o → (∀ l, o ≠ .list l) → i ≠ Λ.jc k := fun h1 h2 q => by rw [q, fc] at h1; exact h2 _ h1.symm
  refine ⟨x.bT, x.bW, (st_ne (ne x.fT fun _ q => by cases q)).trans x.fT, (st_ne (ne x.fW fun _ q => by cases q)).trans x.fW, x.bw, x.bc, x.be, x.bl, fun k' h => (st_ne (ne (x.fw k' h) fun _ q => by cases q)).trans (x.fw k' h), fun k' h => ?_, fun k' h => ?_, fun k' h => ?_, x.ij, x.ce⟩
  · show _ = AO.list (iL (fk S.kids k l k'))
    by_cases e : k' = k
    · subst e; rw [st_self, fk_self]
    · rw [fk_ne e, st_ne (fun q => e (x.ij k' k h hk q))]; exact x.fc k' h
  · rw [st_ne (x.ce k k' hk h).1.symm]; exact x.fe k' h
  · rw [st_ne (x.ce k k' hk h).2.symm]; exact x.fl k' h
theorem Rep.setroot (x : Rep Λ S H) : Rep Λ { S with root := v } (H.set Λ.T (.inst 164 (lk (lkset "root" (.int v) (tl Λ S))))) := by
  have ne : ∀ {i : Nat} {o : AO}, H.f i = o → (∀ d, o ≠ .inst 164 d) → i ≠ Λ.T := fun h1 h2 q => by rw [q, x.fT] at h1; exact h2 _ h1.symm
  refine ⟨x.bT, x.bW, st_self, (st_ne (ne x.fW fun _ q => by cases q)).trans x.fW, x.bw, x.bc, x.be, x.bl, fun k' h => (st_ne (ne (x.fw k' h) fun _ q => by have := (AO.inst.inj q).1; revert this; decide)).trans (x.fw k' h), fun k' h => ?_, fun k' h => ?_, fun k' h => ?_, x.ij, x.ce⟩
  · exact (st_ne (ne (x.fc k' h) fun _ q => by cases q)).trans (x.fc k' h)
  · exact (st_ne (ne (x.fe k' h) fun _ q => by cases q)).trans (x.fe k' h)
  · exact (st_ne (ne (x.fl k' h) fun _ q => by cases q)).trans (x.fl k' h)
end
/-- what is none of the tree's own -/
noncomputable def Ofw (Λ : La) (N i : Nat) : Prop := i ≠ Λ.T ∧ i ≠ Λ.W ∧ ∀ k : Int, 1 ≤ k ∧ k ≤ N → i ≠ Λ.jw k ∧ i ≠ Λ.jc k ∧ i ≠ Λ.je k ∧ i ≠ Λ.jl k
/-- all lists but the tree's own stand -/
structure Mv (Λ : La) (N : Nat) (H : AH) (Λ' : La) (N' : Nat) (H' : AH) : Prop where
  le : H.n ≤ H'.n
  f : ∀ i, i < H.n → Ofw Λ N i → (∀ l, H.f i = .list l → H'.f i = .list l) ∧ Ofw Λ' N' i
theorem Mv.refl {Λ : La} {N : Nat} {H : AH} : Mv Λ N H Λ N H := ⟨Nat.le_refl _, fun _ _ h => ⟨fun _ e => e, h⟩⟩
theorem Mv.trans {Λ Λ' Λ'' : La} {N N' N'' : Nat} {H H' H'' : AH} (x : Mv Λ N H Λ' N' H') (y : Mv Λ' N' H' Λ'' N'' H'') : Mv Λ N H Λ'' N'' H'' :=
  ⟨Nat.le_trans x.le y.le, fun i hi ho => by
    obtain ⟨a, b⟩ := x.f i hi ho
    obtain ⟨c, d⟩ := y.f i (Nat.lt_of_lt_of_le hi x.le) b
    exact ⟨fun l e => c l (a l e), d⟩⟩
theorem ExI.mv {Λ : La} {N : Nat} {H H' : AH} (x : ExI H H') : Mv Λ N H Λ N H' := ⟨x.le, fun i hi ho => ⟨fun l e => x.list hi e, ho⟩⟩
theorem Mv.setw {Λ : La} {N : Nat} {H : AH} {k : Int} {o : AO} (hk : 1 ≤ k ∧ k ≤ N) : Mv Λ N H Λ N (H.set (Λ.jw k) o) := ⟨Nat.le_refl _, fun i _ ho => ⟨fun l e => (st_ne (ho.2.2 k hk).1).trans e, ho⟩⟩
theorem Mv.setc {Λ : La} {N : Nat} {H : AH} {k : Int} {o : AO} (hk : 1 ≤ k ∧ k ≤ N) : Mv Λ N H Λ N (H.set (Λ.jc k) o) := ⟨Nat.le_refl _, fun i _ ho => ⟨fun l e => (st_ne (ho.2.2 k hk).2.1).trans e, ho⟩⟩
theorem Mv.setT {Λ : La} {N : Nat} {H : AH} {o : AO} : Mv Λ N H Λ N (H.set Λ.T o) := ⟨Nat.le_refl _, fun i _ ho => ⟨fun l e => (st_ne ho.1).trans e, ho⟩⟩
/-- a list of the tree's own lies elsewhere now -/
theorem Mv.jc {Λ0 Λ : La} {N0 N : Nat} {H H2 : AH} {k : Int} {j : Nat} (x : Mv Λ0 N0 H Λ N H2) (hj : H.n ≤ j) : Mv Λ0 N0 H { Λ with jc := fn Λ.jc k j } N H2 :=
  ⟨x.le, fun i hi ho => by
    obtain ⟨a, b1, b2, b3⟩ := x.f i hi ho
    refine ⟨a, b1, b2, fun k' h => ⟨(b3 k' h).1, ?_, (b3 k' h).2.2⟩⟩
    show i ≠ fn Λ.jc k j k'
    by_cases e : k' = k
    · subst e; rw [fn_self]; omega
    · rw [fn_ne e]; exact (b3 k' h).2.1⟩
theorem Mv.je {Λ0 Λ : La} {N0 N : Nat} {H H2 : AH} {k : Int} {j : Nat} (x : Mv Λ0 N0 H Λ N H2) (hj : H.n ≤ j) : Mv Λ0 N0 H { Λ with je := fn Λ.je k j } N H2 :=
  ⟨x.le, fun i hi ho => by
    obtain ⟨a, b1, b2, b3⟩ := x.f i hi ho
    refine ⟨a, b1, b2, fun k' h => ⟨(b3 k' h).1, (b3 k' h).2.1, ?_, (b3 k' h).2.2.2⟩⟩
    show i ≠ fn Λ.je k j k'
    by_cases e : k' = k
    · subst e; rw [fn_self]; omega
    · rw [fn_ne e]; exact (b3 k' h).2.2.1⟩
theorem Mv.new {Λ : La} {N : Nat} {H H' : AH} (hn : H.n ≤ H'.n) (ho : ∀ i, i < H.n → i ≠ Λ.T → i ≠ Λ.W → H'.f i = H.f i) : Mv Λ N H (Λ.new ((N : Int) + 1) H.n) (N + 1) H' :=
  ⟨hn, fun i hi h => ⟨fun l e => (ho i hi h.1 h.2.1).trans e, h.1, h.2.1, fun k hk => by
    show i ≠ fn Λ.jw _ _ k ∧ i ≠ fn Λ.jc _ _ k ∧ i ≠ fn Λ.je _ _ k ∧ i ≠ fn Λ.jl _ _ k
    by_cases e : k = (N : Int) + 1
    · subst e; rw [fn_self, fn_self, fn_self, fn_self]; omega
    · rw [fn_ne e, fn_ne e, fn_ne e, fn_ne e]; exact h.2.2 k ⟨hk.1, by omega⟩⟩⟩
end
-- C27
section
section
variable {b : Bd} {H : AH} {X : AH → Prop} {Q : AV → AH → Prop} {Λ : La} {S : St} {rk : Int → Nat}
theorem c_split_parts (wf : Wf S rk) (rp : Rep Λ S H) {n a : Int} {sv : AV} (hn : S.Dm n) (h0 : S.sort n = 0) (hs : sv = .none ∨ ∃ k, sv = .int k) (hb : 5 ≤ b.n) (hX : ∀ H', Ext H H' → X H')
    (h : ∀ H' old new, Ext H H' → old + new = sz S a n → leastL a ≤ old → leastL a ≤ new → Q (.tup [.int old, .int new]) H') : CL b (.ref 280) [.ref Λ.T, .int n, sv, .int a] H Q X := by
  refine (CA_defs (names := ["tree", "number", "size", "axis"]) (fun _ => by with_unfolding_all rfl) (fun _ => by kernel_rfl) rfl rfl rfl rfl (by walk_at "b") (by decide) (by walk_at "d") ?_).cl
  intro sc hsc
  have vn := val_eq wf (u := leastL a) (a := a) hn
  rw [if_pos h0] at vn
  walk_at "w"
  walk_at "w"
  refine EV_method ?_
  refine EV_method ?_
  repeat walk_at "w"
  refine ⟨_, gm_window rp.fT rfl, ?_⟩
  repeat walk_at "w"
  refine c_window rp hn (by walk_at "d") ?_
  refine ⟨_, gm_size (rp.fw n hn) rfl, ?_⟩
  repeat walk_at "w"
  refine c_size (by walk_at "d") (rp.fw n hn) ?_
  walk_at "w"
  walk_at "w"
  refine EX_if_mid (fun m H2 => ∃ new, H2 = H ∧ m "tree" = some (.ref Λ.T) ∧ m "number" = some (.int n) ∧ m "axis" = some (.int a) ∧ m "whole" = some (.int (sz S a n)) ∧ m "new" = some (.int new)) ?_ ?_
  · walk_at "w"
    walk_at "w"
    walk_at "w"
    rcases hs with rfl | ⟨k, rfl⟩
    · refine OP_is (t := true) rfl ⟨_, rfl, ?_⟩
      refine if_b (fun _ => ?_) fun q => by cases q
      repeat walk_at "w"
      refine OP_floordiv (by decide) (by decide) ?_
      repeat walk_at "w"
      exact ⟨_, rfl, by walk_at "v", by walk_at "v", by walk_at "v", by walk_at "v", by walk_at "v"⟩
    · refine OP_is (t := false) rfl ⟨_, rfl, ?_⟩
      refine if_b (fun q => by cases q) fun _ => ?_
      walk_at "w"
      walk_at "w"
      refine EV_cut (fun a H' => (∃ new, a = .int new) ∧ H' = H) ?_ ?_
      · repeat walk_at "w"
        refine if_d (fun _ => ?_) fun _ => ?_
        · repeat walk_at "w"
          exact ⟨⟨_, rfl⟩, rfl⟩
        · repeat walk_at "w"
          exact ⟨⟨_, rfl⟩, rfl⟩
      rintro _ _ ⟨⟨new, rfl⟩, rfl⟩
      repeat walk_at "w"
      exact ⟨_, rfl, by walk_at "v", by walk_at "v", by walk_at "v", by walk_at "v", by walk_at "v"⟩
  rintro m H2 ⟨new, rfl, m1, m2, m3, m4, m5⟩
  have rz : ∀ {H3 : AH} {mm : Vars} {rest : List Stmt}, True := fun {_ _ _} => trivial
  repeat walk_at "w"
  refine c_least_size wf rp hn (by walk_at "d") fun H3 e3 => ?_
  rw [vn]
  have r3 := rp.ext e3
  have e32 := e3
  repeat walk_at "w"
  refine if_d (fun hlt => ?_) fun hlt => ?_
  · refine if_b (fun _ => ?_) fun q => by cases q
    walk_at "w"
    refine ES_raise (by walk_at "d") ?_
    refine EV_glob (by walk_at "k") sig_name (fun _ _ _ _ => .gl _) ⟨rfl, ?_⟩
    repeat walk_at "w"
    refine ⟨by decide, ?_⟩
    repeat walk_at "w"
    exact ⟨rfl, hX _ e3.alloc⟩
  · repeat walk_at "w"
    refine EV_method ?_
    repeat walk_at "w"
    refine ⟨_, gm_least_leaf r3.fT, ?_⟩
    repeat walk_at "w"
    refine c_least_leaf r3.fT (by walk_at "d") ?_
    repeat walk_at "w"
    refine if_d (fun hlt2 => ?_) fun hlt2 => ?_
    · refine if_b (fun _ => ?_) fun q => by cases q
      walk_at "w"
      refine ES_raise (by walk_at "d") ?_
      refine EV_glob (by walk_at "k") sig_name (fun _ _ _ _ => .gl _) ⟨rfl, ?_⟩
      repeat walk_at "w"
      refine ⟨by decide, ?_⟩
      repeat walk_at "w"
      exact ⟨rfl, hX _ e3.alloc⟩
    · repeat walk_at "w"
      refine if_b (fun q => by cases q) fun _ => ?_
      repeat walk_at "w"
      refine ⟨by simp, ?_⟩
      repeat walk_at "w"
      exact h _ _ _ e3 (by walk_at "d") (by walk_at "d") (by walk_at "d")
end
end
-- C28
section
theorem st_st {H : AH} {i : Nat} {o o' : AO} : (H.set i o).set i o' = H.set i o' := by
  unfold AH.set
  congr 1
  funext j
  by_cases q : j = i
  · simp only [q, if_true]
  · simp only [q, if_false]
theorem st_same {H : AH} {i : Nat} {o : AO} (h : H.f i = o) : H.set i o = H := by
  unfold AH.set
  cases H
  congr 1
  funext j
  by_cases q : j = i
  · subst q; rw [if_pos rfl]; exact h.symm
  · rw [if_neg q]
noncomputable def repl (S : St) (n g : Int) : St := if S.par n = 0 then { S with par := fs S.par g (S.par n), root := g } else { S with par := fs S.par g (S.par n), kids := fk S.kids (S.par n) ((S.kids (S.par n)).set ((S.kids (S.par n)).idxOf n) g) }
noncomputable def wr1 (S : St) (n a : Int) : St := { fresh S (sal a) (S.par n) with w := fs (fresh S (sal a) (S.par n)).w (S.N + 1) (S.w n), h := fs (fresh S (sal a) (S.par n)).h (S.N + 1) (S.h n), l := fs (fresh S (sal a) (S.par n)).l (S.N + 1) (S.l n), t := fs (fresh S (sal a) (S.par n)).t (S.N + 1) (S.t n) }
noncomputable def wrap (S : St) (n a : Int) : St := { repl (wr1 S n a) n (S.N + 1) with par := fs (repl (wr1 S n a) n (S.N + 1)).par n (S.N + 1), kids := fk (repl (wr1 S n a) n (S.N + 1)).kids (S.N + 1) [n] }
section
variable {b : Bd} {H : AH} {X : AH → Prop} {Q : AV → AH → Prop} {Λ : La} {S : St} {rk : Int → Nat}
theorem gm_show {j : Nat} {L : Lk} (hf : H.f j = .inst 93 (lk L)) (hn : lk L "show" = none) : GM H (.ref j) "show" (.ref 90) := .inst hf ok_window hn (fun _ => by kernel_rfl) (fun _ => by kernel_rfl) (fun _ => by kernel_rfl)
theorem c_show {j : Nat} {k v : Int} (hf : H.f j = .inst 93 (lk (wat Λ S k))) (hb : 1 ≤ b.n) (h : Q .none (H.set j (.inst 93 (lk (lkset "buffer" (.int v) (wat Λ S k)))))) : CL b (.ref 90) [.ref j, .tup [.int v, .int 1, .int 1, .int 0]] H Q X := by
  refine (CA_defs (names := ["self", "told"]) (fun _ => by with_unfolding_all rfl) (fun _ => by kernel_rfl) rfl rfl rfl rfl (by walk_at "b") (by decide) (by walk_at "d") ?_).cl
  intro sc hsc
  repeat walk_at "w"
  refine TA_tuple ?_ rfl
  refine TAs_cons ?_
  repeat walk_at "w"
  refine ⟨_, _, _, rfl, hf, ok_window, ?_⟩
  rw [upd_set]
  refine TAs_cons ?_
  repeat walk_at "w"
  refine ⟨_, _, _, rfl, st_self, ok_window, ?_⟩
  rw [upd_set, st_st]
  refine TAs_cons ?_
  repeat walk_at "w"
  refine ⟨_, _, _, rfl, st_self, ok_window, ?_⟩
  rw [upd_set, st_st]
  refine TAs_cons ?_
  repeat walk_at "w"
  refine ⟨_, _, _, rfl, st_self, ok_window, ?_⟩
  rw [upd_set, st_st]
  refine TAs_nil ?_
  repeat walk_at "w"
  exact h
theorem c_replace_child {n g : Int} (rp : Rep Λ S H) (hn : S.Dm n) (hg : S.Dm g) (hng : n ≠ g) (hp : S.par n ≠ 0 → S.Dm (S.par n) ∧ n ∈ S.kids (S.par n) ∧ (S.kids (S.par n)).length ≤ 500) (hb : 1 ≤ b.n)
    (h : ∀ H', Rep Λ (repl S n g) H' → Mv Λ S.N H Λ S.N H' → Q .none H') : CL b (.ref 210) [.ref Λ.T, .int n, .int g] H Q X := by
  refine (CA_defs (names := ["tree", "old", "new"]) (fun _ => by with_unfolding_all rfl) (fun _ => by kernel_rfl) rfl rfl rfl rfl (by walk_at "b") (by decide) (by walk_at "d") ?_).cl
  intro sc hsc
  repeat walk_at "w"
  refine ⟨_, _, _, _, rfl, rp.fT, rfl, rfl, ok_tree, ?_⟩
  repeat walk_at "w"
  refine SB_dict rp.fW (wl_get hn) ?_
  refine ⟨_, _, _, _, rfl, rp.fw n hn, rfl, rfl, ok_window, ?_⟩
  repeat walk_at "w"
  refine ⟨_, _, _, _, rfl, rp.fT, rfl, rfl, ok_tree, ?_⟩
  repeat walk_at "w"
  refine SB_dict rp.fW (wl_get hg) ?_
  refine ⟨_, _, _, rfl, rp.fw g hg, ok_window, ?_⟩
  rw [upd_set]
  have r1 := rp.setpar (v := S.par n) hg
  have mv1 : Mv Λ S.N H Λ S.N (H.set (Λ.jw g) (.inst 93 (lk (lkset "parent" (.int (S.par n)) (wat Λ S g))))) := Mv.setw hg
  revert r1 mv1
  generalize (H.set (Λ.jw g) (.inst 93 (lk (lkset "parent" (.int (S.par n)) (wat Λ S g))))) = H1
  intro r1 mv1
  have pn : ({ S with par := fs S.par g (S.par n) } : St).par n = S.par n := fs_ne hng
  repeat walk_at "w"
  refine if_eq (fun hz => ?_) fun hz => ?_
  · repeat walk_at "w"
    refine ⟨_, _, _, rfl, r1.fT, ok_tree, ?_⟩
    rw [upd_set]
    repeat walk_at "w"
    refine h _ ?_ (mv1.trans Mv.setT)
    unfold repl
    rw [if_pos hz]
    exact r1.setroot
  · obtain ⟨p1, p2, p3⟩ := hp hz
    have p1' : ({ S with par := fs S.par g (S.par n) } : St).Dm (S.par n) := p1
    repeat walk_at "w"
    refine ⟨_, _, _, _, rfl, r1.fT, rfl, rfl, ok_tree, ?_⟩
    repeat walk_at "w"
    refine SB_dict r1.fW (wl_get p1') ?_
    refine ⟨_, _, _, _, rfl, r1.fw _ p1', rfl, rfl, ok_window, ?_⟩
    repeat walk_at "w"
    refine EV_method ?_
    repeat walk_at "w"
    have fc := r1.fc _ p1'
    refine ⟨_, GM.list fc .index, ?_⟩
    repeat walk_at "w"
    refine CL_index fc p2 (by show (S.kids (S.par n)).length ≤ 1000; omega) ?_
    refine .inl ⟨_, _, _, rfl, rfl, fc, ?_, by rw [iL_len]; show (S.kids (S.par n)).length ≤ 1000; omega, ?_⟩
    · rw [iL_len]; exact List.idxOf_lt_length_of_mem p2
    repeat walk_at "w"
    refine h _ ?_ (mv1.trans (Mv.setc p1))
    have e : (iL (S.kids (S.par n))).set ((S.kids (S.par n)).idxOf n) (.int g) = iL ((S.kids (S.par n)).set ((S.kids (S.par n)).idxOf n) g) := by unfold iL; rw [List.map_set]
    have := r1.upk (l := (S.kids (S.par n)).set ((S.kids (S.par n)).idxOf n) g) p1'
    unfold repl
    rw [if_neg hz]
    rw [← e] at this
    exact this
end
end
-- C29
section
/-- the tree, and what stands off it since H0 -/
structure RM (Λ0 : La) (N0 : Nat) (H0 : AH) (Λ : La) (S : St) (H : AH) : Prop where
  r : Rep Λ S H
  m : Mv Λ0 N0 H0 Λ S.N H
section
variable {Λ0 Λ : La} {N0 : Nat} {H0 H : AH} {S : St} {k v : Int}
theorem RM.setw (x : RM Λ0 N0 H0 Λ S H) (hk : S.Dm k) : RM Λ0 N0 H0 Λ { S with w := fs S.w k v } (H.set (Λ.jw k) (.inst 93 (lk (lkset "width" (.int v) (wat Λ S k))))) := ⟨x.r.setw hk, x.m.trans (Mv.setw hk)⟩
theorem RM.seth (x : RM Λ0 N0 H0 Λ S H) (hk : S.Dm k) : RM Λ0 N0 H0 Λ { S with h := fs S.h k v } (H.set (Λ.jw k) (.inst 93 (lk (lkset "height" (.int v) (wat Λ S k))))) := ⟨x.r.seth hk, x.m.trans (Mv.setw hk)⟩
theorem RM.setl (x : RM Λ0 N0 H0 Λ S H) (hk : S.Dm k) : RM Λ0 N0 H0 Λ { S with l := fs S.l k v } (H.set (Λ.jw k) (.inst 93 (lk (lkset "left" (.int v) (wat Λ S k))))) := ⟨x.r.setl hk, x.m.trans (Mv.setw hk)⟩
theorem RM.sett (x : RM Λ0 N0 H0 Λ S H) (hk : S.Dm k) : RM Λ0 N0 H0 Λ { S with t := fs S.t k v } (H.set (Λ.jw k) (.inst 93 (lk (lkset "top" (.int v) (wat Λ S k))))) := ⟨x.r.sett hk, x.m.trans (Mv.setw hk)⟩
theorem RM.setpar (x : RM Λ0 N0 H0 Λ S H) (hk : S.Dm k) : RM Λ0 N0 H0 Λ { S with par := fs S.par k v } (H.set (Λ.jw k) (.inst 93 (lk (lkset "parent" (.int v) (wat Λ S k))))) := ⟨x.r.setpar hk, x.m.trans (Mv.setw hk)⟩
theorem RM.setbuf (x : RM Λ0 N0 H0 Λ S H) (hk : S.Dm k) : RM Λ0 N0 H0 Λ { S with buf := fs S.buf k v } (H.set (Λ.jw k) (.inst 93 (lk (lkset "buffer" (.int v) (wat Λ S k))))) := ⟨x.r.setbuf hk, x.m.trans (Mv.setw hk)⟩
theorem RM.setz {a : Int} {z : Int → Int} (x : RM Λ0 N0 H0 Λ (withz S a z) H) (hk : S.Dm k) : RM Λ0 N0 H0 Λ (withz S a (fs z k v)) (H.set (Λ.jw k) (.inst 93 (lk (lkset (if a = 0 then ("width" : PySem.Str) else ("height" : PySem.Str)) (.int v) (wat Λ (withz S a z) k))))) :=
  ⟨x.r.setz hk, by have := x.m.trans (Mv.setw (H := H) (o := .inst 93 (lk (lkset (if a = 0 then ("width" : PySem.Str) else ("height" : PySem.Str)) (.int v) (wat Λ (withz S a z) k)))) (wz_dm.mpr hk : (withz S a z).Dm k)); rw [wz_N] at this ⊢; exact this⟩
theorem RM.upk {l : List Int} (x : RM Λ0 N0 H0 Λ S H) (hk : S.Dm k) : RM Λ0 N0 H0 Λ { S with kids := fk S.kids k l } (H.set (Λ.jc k) (.list (iL l))) := ⟨x.r.upk hk, x.m.trans (Mv.setc hk)⟩
theorem RM.alloc {l : List AV} (x : RM Λ0 N0 H0 Λ S H) : RM Λ0 N0 H0 Λ S (H.alloc (.list l)) := ⟨x.r.alloc, x.m.trans ExI.refl.alloc.mv⟩
theorem RM.setc {i : Nat} {l : List Int} (x : RM Λ0 N0 H0 Λ S H) (hk : S.Dm k) (h0 : H0.n ≤ i) (hi : i < H.n) (hf : H.f i = .list (iL l)) (h1 : ∀ k', S.Dm k' → i ≠ Λ.jc k' ∧ i ≠ Λ.je k' ∧ i ≠ Λ.jl k') :
    RM Λ0 N0 H0 { Λ with jc := fn Λ.jc k i } { S with kids := fk S.kids k l } (H.set (Λ.jw k) (.inst 93 (lk (lkset "children" (.ref i) (wat Λ S k))))) := ⟨x.r.setc hk hi hf h1, (x.m.trans (Mv.setw hk)).jc h0⟩
theorem RM.sete {i : Nat} (x : RM Λ0 N0 H0 Λ S H) (hk : S.Dm k) (h0 : H0.n ≤ i) (hi : i < H.n) (hf : H.f i = .list []) (h1 : ∀ k', S.Dm k' → i ≠ Λ.jc k') :
    RM Λ0 N0 H0 { Λ with je := fn Λ.je k i } S (H.set (Λ.jw k) (.inst 93 (lk (lkset "earlier" (.ref i) (wat Λ S k))))) := ⟨x.r.sete hk hi hf h1, (x.m.trans (Mv.setw hk)).je h0⟩
theorem RM.fresh_list {l : List AV} (x : RM Λ0 N0 H0 Λ S H) : ∀ k', S.Dm k' → H.n ≠ Λ.jc k' ∧ H.n ≠ Λ.je k' ∧ H.n ≠ Λ.jl k' := fun k' h => by
  have := x.r.bc k' h; have := x.r.be k' h; have := x.r.bl k' h; omega
end
section
variable {b : Bd} {H : AH} {X : AH → Prop} {Q : AV → AH → Prop} {Λ : La} {S : St} {rk : Int → Nat}
theorem c_combined {n a : Int} (rp : Rep Λ S H) (hn : S.Dm n) (h1N : S.N ≤ 900) (hp : S.par n ≠ 0 → S.Dm (S.par n) ∧ n ∈ S.kids (S.par n) ∧ (S.kids (S.par n)).length ≤ 500) (hb : 4 ≤ b.n)
    (h1 : S.par n ≠ 0 → al (S.sort (S.par n)) = a → Q (.int (S.par n)) H)
    (h2 : ¬ (S.par n ≠ 0 ∧ al (S.sort (S.par n)) = a) → ∀ H' Λ', Rep Λ' (wrap S n a) H' → Mv Λ S.N H Λ' (S.N + 1) H' → Λ'.T = Λ.T → Q (.int (S.N + 1)) H') : CL b (.ref 287) [.ref Λ.T, .int n, .int a] H Q X := by
  refine (CA_defs (names := ["tree", "number", "axis"]) (fun _ => by with_unfolding_all rfl) (fun _ => by kernel_rfl) rfl rfl rfl rfl (by walk_at "b") (by decide) (by walk_at "d") ?_).cl
  intro sc hsc
  have fr := rp.fw n hn
  have hng : n ≠ (S.N : Int) + 1 := by have := hn.2; omega
  have hN1 : 1 ≤ S.N := by have := hn.1; have := hn.2; omega
  repeat walk_at "w"
  refine ⟨_, _, _, _, rfl, rp.fT, rfl, rfl, ok_tree, ?_⟩
  repeat walk_at "w"
  refine SB_dict rp.fW (wl_get hn) ?_
  walk_at "w"
  walk_at "w"
  refine EX_if_mid (fun m' H' => H' = H ∧ ¬ (S.par n ≠ 0 ∧ al (S.sort (S.par n)) = a) ∧ m' "tree" = some (.ref Λ.T) ∧ m' "number" = some (.int n) ∧ m' "axis" = some (.int a) ∧ m' "here" = some (.ref (Λ.jw n))) ?_ ?_
  · repeat walk_at "w"
    refine ⟨_, _, _, _, rfl, fr, rfl, rfl, ok_window, ?_⟩
    repeat walk_at "w"
    refine if_ne (fun hz => ?_) fun hz => ?_
    · obtain ⟨p1, p2, p3⟩ := hp hz
      repeat walk_at "w"
      refine ⟨_, _, _, _, rfl, rp.fT, rfl, rfl, ok_tree, ?_⟩
      repeat walk_at "w"
      refine ⟨_, _, _, _, rfl, fr, rfl, rfl, ok_window, ?_⟩
      refine SB_dict rp.fW (wl_get p1) ?_
      refine ⟨_, _, _, _, rfl, rp.fw _ p1, rfl, rfl, ok_window, ?_⟩
      repeat walk_at "w"
      refine c_along (by walk_at "d") ?_
      repeat walk_at "w"
      refine if_eq (fun hal => ?_) fun hal => ?_
      · repeat walk_at "w"
        refine if_b (fun _ => ?_) fun q => by cases q
        repeat walk_at "w"
        refine ⟨_, _, _, _, rfl, fr, rfl, rfl, ok_window, ?_⟩
        repeat walk_at "w"
        exact h1 hz hal
      · refine if_b (fun q => by cases q) fun _ => ?_
        repeat walk_at "w"
        exact ⟨rfl, fun q => hal q.2, by walk_at "v", by walk_at "v", by walk_at "v", by walk_at "v"⟩
    · refine if_b (fun q => by cases q) fun _ => ?_
      repeat walk_at "w"
      exact ⟨rfl, fun q => q.1 hz, by walk_at "v", by walk_at "v", by walk_at "v", by walk_at "v"⟩
  rintro m' Hx ⟨hH, hneg, n1, n2, n3, n4⟩
  subst Hx
  walk_at "w"
  walk_at "w"
  refine EV_method ?_
  repeat walk_at "w"
  refine ⟨_, gm_fresh rp.fT rfl, ?_⟩
  repeat walk_at "w"
  refine c_sort_along (by walk_at "d") ?_
  repeat walk_at "w"
  refine ⟨_, _, _, _, rfl, fr, rfl, rfl, ok_window, ?_⟩
  repeat walk_at "w"
  refine c_fresh rp hN1 h1N (by walk_at "d") fun H1 r1 nn1 o1 => ?_
  have mv1 : Mv Λ S.N H (Λ.new (S.N + 1) H.n) (S.N + 1) H1 := Mv.new (by walk_at "d") o1
  obtain ⟨Λ1, hΛ⟩ : ∃ Λ1, Λ1 = Λ.new (S.N + 1) H.n := ⟨_, rfl⟩
  rw [← hΛ] at r1 mv1
  have ej : Λ1.jw (S.N + 1) = H.n := by rw [hΛ]; exact fn_self
  have en : Λ1.jw n = Λ.jw n := by rw [hΛ]; exact fn_ne hng
  have eT : Λ1.T = Λ.T := by rw [hΛ]; rfl
  have gd : (fresh S (sal a) (S.par n)).Dm (S.N + 1) := ⟨by omega, by show (S.N : Int) + 1 ≤ ((S.N + 1 : Nat) : Int); omega⟩
  have nd' : (fresh S (sal a) (S.par n)).Dm n := ⟨hn.1, by have := hn.2; show n ≤ ((S.N + 1 : Nat) : Int); omega⟩
  rw [← ej]
  rw [← en] at n4
  rw [← eT] at n1
  have frn := r1.fw n nd'
  have ew : (fresh S (sal a) (S.par n)).w n = S.w n := fs_ne hng
  have eh : (fresh S (sal a) (S.par n)).h n = S.h n := fs_ne hng
  have el : (fresh S (sal a) (S.par n)).l n = S.l n := fs_ne hng
  have et : (fresh S (sal a) (S.par n)).t n = S.t n := fs_ne hng
  repeat walk_at "w"
  refine ⟨_, _, _, _, rfl, frn, rfl, rfl, ok_window, ?_⟩
  repeat walk_at "w"
  refine ⟨_, _, _, _, rfl, frn, rfl, rfl, ok_window, ?_⟩
  repeat walk_at "w"
  refine ⟨_, _, _, _, rfl, frn, rfl, rfl, ok_window, ?_⟩
  repeat walk_at "w"
  refine ⟨_, _, _, _, rfl, frn, rfl, rfl, ok_window, ?_⟩
  repeat walk_at "w"
  refine ⟨by simp, ?_⟩
  rw [ew, eh, el, et]
  refine TA_tuple ?_ rfl
  refine TAs_cons ?_
  repeat walk_at "w"
  refine ⟨_, _, _, rfl, r1.fw _ gd, ok_window, ?_⟩
  rw [upd_set]
  have q1 : RM Λ S.N H Λ1 (fresh S (sal a) (S.par n)) H1 := ⟨r1, mv1⟩
  have q2 := q1.setw (v := S.w n) gd
  revert q2
  generalize AH.set H1 _ _ = H2
  intro q2
  refine TAs_cons ?_
  repeat walk_at "w"
  refine ⟨_, _, _, rfl, q2.r.fw _ gd, ok_window, ?_⟩
  rw [upd_set]
  have q3 := q2.seth (v := S.h n) gd
  revert q3
  generalize AH.set H2 _ _ = H3
  intro q3
  refine TAs_cons ?_
  repeat walk_at "w"
  refine ⟨_, _, _, rfl, q3.r.fw _ gd, ok_window, ?_⟩
  rw [upd_set]
  have q4 := q3.setl (v := S.l n) gd
  revert q4
  generalize AH.set H3 _ _ = H4
  intro q4
  refine TAs_cons ?_
  repeat walk_at "w"
  refine ⟨_, _, _, rfl, q4.r.fw _ gd, ok_window, ?_⟩
  rw [upd_set]
  have q5 : RM Λ S.N H Λ1 (wr1 S n a) _ := q4.sett (v := S.t n) gd
  revert q5
  generalize AH.set H4 _ _ = H5
  intro q5
  clear q1 q2 q3 q4 r1 mv1
  refine TAs_nil ?_
  have gd : (wr1 S n a).Dm (S.N + 1) := gd
  have nd' : (wr1 S n a).Dm n := nd'
  have pn5 : (wr1 S n a).par n = S.par n := fs_ne hng
  have kn5 : ∀ k : Int, k ≠ S.N + 1 → (wr1 S n a).kids k = S.kids k := fun k hk => fk_ne hk
  repeat walk_at "w"
  refine ⟨_, _, _, _, rfl, q5.r.fw _ gd, rfl, rfl, ok_window, ?_⟩
  repeat walk_at "w"
  refine c_replace_child q5.r nd' gd hng (fun hz => ?_) (by walk_at "d") fun H6 r6 mv6 => ?_
  · rw [pn5] at hz ⊢
    obtain ⟨p1, p2, p3⟩ := hp hz
    have : S.par n ≠ S.N + 1 := by have := p1.2; omega
    rw [kn5 _ this]
    exact ⟨⟨p1.1, by have := p1.2; show S.par n ≤ ((S.N + 1 : Nat) : Int); omega⟩, p2, p3⟩
  have rN : (repl (wr1 S n a) n (S.N + 1)).N = S.N + 1 := by unfold repl; split <;> rfl
  have q6 : RM Λ S.N H Λ1 (repl (wr1 S n a) n (S.N + 1)) H6 := ⟨r6, by rw [rN]; exact q5.m.trans mv6⟩
  have gd6 : (repl (wr1 S n a) n (S.N + 1)).Dm (S.N + 1) := by unfold St.Dm; rw [rN]; exact gd
  have nd6 : (repl (wr1 S n a) n (S.N + 1)).Dm n := by unfold St.Dm; rw [rN]; exact nd'
  repeat walk_at "w"
  refine ⟨_, _, _, _, rfl, q6.r.fw _ gd6, rfl, rfl, ok_window, ?_⟩
  repeat walk_at "w"
  refine ⟨_, _, _, rfl, q6.r.fw _ nd6, ok_window, ?_⟩
  rw [upd_set]
  have q7 := q6.setpar (v := S.N + 1) nd6
  revert q7
  generalize AH.set H6 _ _ = H7
  intro q7
  have gd7 : ({ repl (wr1 S n a) n (S.N + 1) with par := fs (repl (wr1 S n a) n (S.N + 1)).par n (S.N + 1) } : St).Dm (S.N + 1) := gd6
  repeat walk_at "w"
  refine ⟨by simp, ?_⟩
  have q8 := q7.alloc (l := [.int n])
  have nl := q7.fresh_list (l := [])
  repeat walk_at "w"
  refine ⟨_, _, _, rfl, q8.r.fw _ gd7, ok_window, ?_⟩
  rw [upd_set]
  have q9 := q8.setc (l := [n]) gd7 (i := H7.n) (by have := q7.m.le; omega) (Nat.lt_succ_self _) al_self nl
  revert q9
  generalize AH.set (AH.alloc H7 _) _ _ = H9
  intro q9
  have gd9 : ({ { repl (wr1 S n a) n (S.N + 1) with par := fs (repl (wr1 S n a) n (S.N + 1)).par n (S.N + 1) } with kids := fk (repl (wr1 S n a) n (S.N + 1)).kids (S.N + 1) [n] } : St).Dm (S.N + 1) := gd6
  have ejw : ({ Λ1 with jc := fn Λ1.jc (S.N + 1) H7.n } : La).jw (S.N + 1) = Λ1.jw (S.N + 1) := rfl
  have f9 : H9.f (Λ1.jw (S.N + 1)) = _ := q9.r.fw _ gd9
  repeat walk_at "w"
  refine ⟨_, _, _, _, rfl, f9, rfl, rfl, ok_window, ?_⟩
  repeat walk_at "w"
  refine h2 hneg H9 _ q9.r ?_ eT
  have q9m : Mv Λ S.N H { Λ1 with jc := fn Λ1.jc (S.N + 1) H7.n } (repl (wr1 S n a) n (S.N + 1)).N H9 := q9.m
  rw [rN] at q9m
  exact q9m
end
end
-- C30
section
section
variable {b : Bd} {H : AH} {X : AH → Prop} {Q : AV → AH → Prop} {Λ : La} {S : St}
theorem RM.refl (r : Rep Λ S H) : RM Λ S.N H Λ S H := ⟨r, Mv.refl⟩
theorem RM.setn {Λ0 : La} {N0 n i : Nat} {H0 : AH} {o : AO} (x : RM Λ0 N0 H0 Λ S H) (l : Lay Λ S.N n) (h : n ≤ i) (h0 : H0.n ≤ i) : RM Λ0 N0 H0 Λ S (H.set i o) :=
  ⟨x.r.setn l h, x.m.le, fun j hj ho => by
    obtain ⟨a, b⟩ := x.m.f j hj ho
    exact ⟨fun l e => (st_ne (by walk_at "d")).trans (a l e), b⟩⟩
theorem par_same {c p : Int} (h : S.par c = p) : lkset "parent" (.int p) (wat Λ S c) = wat Λ S c := by subst h; rfl
inductive JJ (S : St) (Λ : La) (p : Int) (r : Nat) (P : Nat → AH → Prop) (i : Nat) (m : Vars) (H2 : AH) : Prop
  | mk : m "tree" = some (.ref Λ.T) → m "here" = some (.ref (Λ.jw p)) → m "found" = some (.ref r) → m "number" = some (.int p) → P i H2 → JJ S Λ p r P i m H2
theorem c_joined {p : Int} (rp : Rep Λ S H) (hp : S.Dm p) (hk : ∀ c ∈ S.kids p, S.Dm c ∧ S.par c = p ∧ S.sort c ≠ S.sort p) (hl : (S.kids p).length ≤ 500) (hb : 1 ≤ b.n)
    (h : ∀ H' Λ', Rep Λ' S H' → Mv Λ S.N H Λ' S.N H' → Λ'.T = Λ.T → Λ'.jw = Λ.jw → Q .none H') : CL b (.ref 301) [.ref Λ.T, .int p] H Q X := by
  refine (CA_defs (names := ["tree", "number"]) (fun _ => by with_unfolding_all rfl) (fun _ => by kernel_rfl) rfl rfl rfl rfl (by walk_at "b") (by decide) (by walk_at "d") ?_).cl
  intro sc hsc
  have lay := rp.lay
  repeat walk_at "w"
  refine ⟨_, _, _, _, rfl, rp.fT, rfl, rfl, ok_tree, ?_⟩
  repeat walk_at "w"
  refine SB_dict rp.fW (wl_get hp) ?_
  repeat walk_at "w"
  refine ⟨by decide, ?_⟩
  have r1 := rp.alloc (o := .list [])
  repeat walk_at "w"
  refine ES_for_ints (by walk_at "k") ?_
  repeat walk_at "w"
  refine ⟨_, _, _, _, rfl, r1.fw p hp, rfl, rfl, ok_window, ?_⟩
  refine ⟨_, _, rfl, r1.fc p hp, JJ S Λ p H.n fun i H2 => RM Λ S.N H Λ S H2 ∧ H.n < H2.n ∧ H2.f H.n = .list (iL ((S.kids p).take i)),
    ⟨by walk_at "v", by walk_at "v", by walk_at "v", by walk_at "v", (RM.refl rp).alloc, Nat.lt_succ_self _, al_self⟩, ?_, ?_⟩
  · rintro i c m1 H2 hc ⟨n1, n2, n3, n4, q2, lt2, f2⟩ hsrc
    obtain ⟨c1, c2, c3⟩ := hk c (List.mem_of_getElem? hc)
    repeat walk_at "w"
    refine ⟨_, _, _, _, rfl, q2.r.fT, rfl, rfl, ok_tree, ?_⟩
    repeat walk_at "w"
    refine SB_dict q2.r.fW (wl_get c1) ?_
    repeat walk_at "w"
    refine ⟨_, _, _, _, rfl, q2.r.fw c c1, rfl, rfl, ok_window, ?_⟩
    repeat walk_at "w"
    refine ⟨_, _, _, _, rfl, q2.r.fw p hp, rfl, rfl, ok_window, ?_⟩
    repeat walk_at "w"
    refine if_eq (fun q => absurd q c3) fun _ => ?_
    repeat walk_at "w"
    refine EV_method ?_
    repeat walk_at "w"
    refine ⟨_, GM.list f2 .append, ?_⟩
    repeat walk_at "w"
    refine CL_append f2 (by rw [iL_len, List.length_take]; omega) ?_
    repeat walk_at "w"
    have lc := (lay.2.2 p hp).2.1
    exact ⟨(st_ne (Nat.ne_of_lt lc)).trans hsrc, by walk_at "v", by walk_at "v", by walk_at "v", by walk_at "v", q2.setn lay (Nat.le_refl _) (Nat.le_refl _), lt2, by rw [st_self, take_get hc, iL_app]⟩
  rintro m1 H2 ⟨n1, n2, n3, n4, q2, lt2, f2⟩
  rw [List.take_length] at f2
  walk_at "w"
  walk_at "w"
  refine ES_for_ints (by walk_at "k") ?_
  repeat walk_at "w"
  refine ⟨_, _, rfl, f2, JJ S Λ p H.n fun _ H3 => H3 = H2, ⟨n1, n2, n3, n4, rfl⟩, ?_, ?_⟩
  · rintro i c m2 Hx hc ⟨k1, k2, k3, k4, hH⟩ hsrc
    subst Hx
    obtain ⟨c1, c2, c3⟩ := hk c (List.mem_of_getElem? hc)
    repeat walk_at "w"
    refine ⟨_, _, _, _, rfl, q2.r.fT, rfl, rfl, ok_tree, ?_⟩
    repeat walk_at "w"
    refine SB_dict q2.r.fW (wl_get c1) ?_
    refine ⟨_, _, _, rfl, q2.r.fw c c1, ok_window, ?_⟩
    rw [upd_set, par_same c2, st_same (q2.r.fw c c1)]
    repeat walk_at "w"
    exact ⟨hsrc, by walk_at "v", by walk_at "v", by walk_at "v", by walk_at "v", rfl⟩
  rintro m2 Hx ⟨k1, k2, k3, k4, hH⟩
  subst Hx
  repeat walk_at "w"
  refine ⟨_, _, _, rfl, q2.r.fw p hp, ok_window, ?_⟩
  rw [upd_set]
  repeat walk_at "w"
  have q3 := q2.setc (l := S.kids p) hp (i := H.n) (Nat.le_refl _) lt2 f2 fun k' hk' => by have := lay.2.2 k' hk'; omega
  have es : ({ S with kids := fk S.kids p (S.kids p) } : St) = S := by
    have : fk S.kids p (S.kids p) = S.kids := by
      funext k'
      unfold fk
      split
      · rename_i e; rw [e]
      · rfl
    rw [this]
  rw [es] at q3
  exact h _ _ q3.r q3.m rfl rfl
end
end
-- C31
section
noncomputable def grow1 (P : St) (n p : Int) : St := { fresh P 0 p with w := fs (fresh P 0 p).w (P.N + 1) (P.w n), h := fs (fresh P 0 p).h (P.N + 1) (P.h n) }
noncomputable def grow2 (P : St) (n p a new : Int) : St := withz (grow1 P n p) a (fs (sz (grow1 P n p) a) (P.N + 1) new)
noncomputable def grow3 (P : St) (n p a new : Int) : St := withz (grow2 P n p a new) (1 - a) (fs (sz (grow2 P n p a new) (1 - a)) (P.N + 1) (sz (grow2 P n p a new) (1 - a) n))
noncomputable def grow4 (P : St) (n p a new : Int) : St := { grow3 P n p a new with buf := fs (grow3 P n p a new).buf (P.N + 1) (P.buf n) }
noncomputable def growK (P : St) (n p a new : Int) (i : Nat) : St := { grow3 P n p a new with buf := fs (grow3 P n p a new).buf (P.N + 1) (P.buf n), kids := fk (grow3 P n p a new).kids p ((P.kids p).take i ++ ((P.N : Int) + 1) :: (P.kids p).drop i) }
noncomputable def growZ (P : St) (n p a new old : Int) (i : Nat) : St := withz (growK P n p a new i) a (fs (sz (growK P n p a new i) a) n old)
/-- where a new leaf goes -/
noncomputable def CaseP (S : St) (n a : Int) (P : St) (p : Int) : Prop := (P = S ∧ p = S.par n ∧ S.par n ≠ 0 ∧ al (S.sort (S.par n)) = a) ∨ (P = wrap S n a ∧ p = S.N + 1 ∧ ¬ (S.par n ≠ 0 ∧ al (S.sort (S.par n)) = a))
structure GoP (n a : Int) (P : St) (p : Int) : Prop where
  wf : ∃ rk, Wf P rk
  dn : P.Dm n
  sn : P.sort n = 0
  pn : P.par n = p
  dp : P.Dm p
  mn : n ∈ P.kids p
  gk : ∀ new i, (i = (P.kids p).idxOf n ∨ i = (P.kids p).idxOf n + 1) → ∃ rk, Wf (growK P n p a new i) rk
  sz : sz P a n ≤ 1000
section
variable {b : Bd} {H : AH} {X : AH → Prop} {Q : AV → AH → Prop} {Λ : La} {S : St} {rk : Int → Nat}
theorem g3_N {P : St} {n p a new : Int} : (grow3 P n p a new).N = P.N + 1 := by unfold grow3 grow2; rw [wz_N, wz_N]; rfl
theorem g3_kids {P : St} {n p a new : Int} : (grow3 P n p a new).kids = fk P.kids (P.N + 1) [] := by unfold grow3 grow2; rw [wz_kids, wz_kids]; rfl
theorem g3_buf {P : St} {n p a new : Int} : (grow3 P n p a new).buf = fs P.buf (P.N + 1) 0 := by unfold grow3 grow2; rw [wz_buf, wz_buf]; rfl
theorem g3_sort {P : St} {n p a new : Int} : (grow3 P n p a new).sort = fs P.sort (P.N + 1) 0 := by unfold grow3 grow2; rw [wz_sort, wz_sort]; rfl
set_option maxHeartbeats 4000000 in
theorem sub_ne {a : Int} (ha : a = 0 ∨ a = 1) : (a = 0) ≠ (1 - a = 0) := by rcases ha with rfl | rfl <;> simp
theorem sz_wrap {S : St} {a n : Int} (ha : a = 0 ∨ a = 1) (hn : S.Dm n) : sz (wrap S n a) a n = sz S a n := by
  have hnS : n ≠ (S.N : Int) + 1 := by have := hn.2; omega
  unfold sz wrap repl wr1 fresh
  rcases ha with rfl | rfl
  · simp only [if_true]; split <;> (dsimp only; rw [fs_ne hnS, fs_ne hnS])
  · simp only [show ((1 : Int) = 0) = False from by simp, if_false]; split <;> (dsimp only; rw [fs_ne hnS, fs_ne hnS])
set_option maxHeartbeats 2000000 in
theorem c_split (wf : Wf S rk) (rp : Rep Λ S H) {n a : Int} {sv : AV} {ahead : Bool} (hn : S.Dm n) (h0 : S.sort n = 0) (ha : a = 0 ∨ a = 1) (hs : sv = .none ∨ ∃ k, sv = .int k) (hN : S.N ≤ 11) (hG : ∀ P p, CaseP S n a P p → GoP n a P p) (hb : 6 ≤ b.n)
    (hX : ∀ H', Ext H H' → X H')
    (h : ∀ H' Λ' P p new old i p1 p2, CaseP S n a P p → (i = (P.kids p).idxOf n ∨ i = (P.kids p).idxOf n + 1) → old + new = sz S a n → leastL a ≤ old → leastL a ≤ new → Rep Λ' (withp (growZ P n p a new old i) p1 p2) H' → Mv Λ S.N H Λ' (P.N + 1) H' → Λ'.T = Λ.T → Q (.int (P.N + 1)) H') :
    CL b (.ref 294) [.ref Λ.T, .int n, sv, .int a, .bool ahead] H Q X := by
  refine (CA_defs (names := ["tree", "number", "size", "axis", "is_ahead"]) (fun _ => by with_unfolding_all rfl) (fun _ => by kernel_rfl) rfl rfl rfl rfl (by walk_at "b") (by decide) (by walk_at "d") ?_).cl
  intro sc hsc
  have hpar : S.par n ≠ 0 → S.Dm (S.par n) ∧ n ∈ S.kids (S.par n) ∧ (S.kids (S.par n)).length ≤ 500 := fun hz => by
    have hr : n ≠ S.root := fun q => hz (by rw [q]; exact wf.rp)
    obtain ⟨u1, u2⟩ := wf.up n hn hr
    have := st_len wf fun y hy => (wf.kd _ u1 y hy).1
    have h2 := pre_len wf u1
    rw [pre_eq wf u1, List.length_cons] at h2
    exact ⟨u1, u2, by omega⟩
  repeat walk_at "w"
  refine c_split_parts wf rp hn h0 hs (by walk_at "d") hX fun H1 old new e1 hon ho1 hn1 => ?_
  have r1 := rp.ext e1
  refine TA_tuple ?_ rfl
  refine TAs_cons ?_
  repeat walk_at "w"
  refine TAs_cons ?_
  repeat walk_at "w"
  refine TAs_nil ?_
  walk_at "w"
  walk_at "w"
  walk_at "w"
  refine EV_cut (fun av H2 => ∃ P p Λ2, av = .int p ∧ RM Λ S.N H Λ2 P H2 ∧ Λ2.T = Λ.T ∧ CaseP S n a P p) ?_ ?_
  · repeat walk_at "w"
    refine c_combined r1 hn (by walk_at "d") hpar (by walk_at "d") (fun z1 z2 => ⟨S, S.par n, Λ, rfl, ⟨r1, e1.i.mv⟩, rfl, .inl ⟨rfl, rfl, z1, z2⟩⟩) (fun hneg H2 Λ2 r2 mv2 eT => ⟨wrap S n a, S.N + 1, Λ2, rfl, ⟨r2, ?_⟩, eT, .inr ⟨rfl, rfl, hneg⟩⟩)
    have wN : (wrap S n a).N = S.N + 1 := by unfold wrap repl; split <;> rfl
    rw [wN]
    exact e1.i.mv.trans mv2
  rintro _ H2 ⟨P, p, Λ2, rfl, q2, eT, cP⟩
  have G := hG P p cP
  obtain ⟨rkP, wfP⟩ := G.wf
  have hf : n ≠ (P.N : Int) + 1 := by have := G.dn.2; omega
  have hpf : p ≠ (P.N : Int) + 1 := by have := G.dp.2; omega
  have kpl : (P.kids p).length ≤ 13 := by
    have := st_len wfP fun y hy => (wfP.kd _ G.dp y hy).1
    have h2 := pre_len wfP G.dp
    rw [pre_eq wfP G.dp, List.length_cons] at h2
    omega
  have hPN := wfP.N
  have hP1 : 1 ≤ P.N := by have := G.dn.1; have := G.dn.2; omega
  rw [← eT]
  repeat walk_at "w"
  refine ⟨_, _, _, _, rfl, q2.r.fT, rfl, rfl, ok_tree, ?_⟩
  repeat walk_at "w"
  refine c_leaves_under wfP q2.r G.dn (by walk_at "d") fun H3 r e3 g1 g2 f3 => ?_
  have lv : lvs P n = [n] := by unfold lvs; rw [pre_leaf wfP G.dn G.sn]; simp [G.sn]
  rw [lv] at f3
  have q3 : RM Λ S.N H Λ2 P H3 := ⟨q2.r.ext e3, q2.m.trans e3.i.mv⟩
  repeat walk_at "w"
  refine SB_list f3 (by decide) (by decide) rfl ?_
  refine SB_dict q3.r.fW (wl_get G.dn) ?_
  walk_at "w"
  walk_at "w"
  walk_at "w"
  walk_at "w"
  refine EV_method ?_
  repeat walk_at "w"
  refine ⟨_, gm_fresh q3.r.fT rfl, ?_⟩
  repeat walk_at "w"
  refine c_fresh q3.r hP1 (by walk_at "d") (by walk_at "d") fun H4 r4 n4 o4 => ?_
  have mv4 : Mv Λ2 P.N H3 (Λ2.new (P.N + 1) H3.n) (P.N + 1) H4 := Mv.new (by walk_at "d") o4
  obtain ⟨Λ4, hΛ⟩ : ∃ Λ4, Λ4 = Λ2.new (P.N + 1) H3.n := ⟨_, rfl⟩
  rw [← hΛ] at r4 mv4
  have ej : Λ4.jw (P.N + 1) = H3.n := by rw [hΛ]; exact fn_self
  have en : Λ4.jw n = Λ2.jw n := by rw [hΛ]; exact fn_ne hf
  have ep : Λ4.jw p = Λ2.jw p := by rw [hΛ]; exact fn_ne hpf
  have eT4 : Λ4.T = Λ2.T := by rw [hΛ]; rfl
  have q4 : RM Λ S.N H Λ4 (fresh P 0 p) H4 := ⟨r4, q3.m.trans mv4⟩
  have fd : (fresh P 0 p).Dm (P.N + 1) := ⟨by omega, by show (P.N : Int) + 1 ≤ ((P.N + 1 : Nat) : Int); omega⟩
  have nd' : (fresh P 0 p).Dm n := ⟨G.dn.1, by have := G.dn.2; show n ≤ ((P.N + 1 : Nat) : Int); omega⟩
  have pd' : (fresh P 0 p).Dm p := ⟨G.dp.1, by have := G.dp.2; show p ≤ ((P.N + 1 : Nat) : Int); omega⟩
  rw [← ej, ← en, ← eT4]
  have frn := q4.r.fw n nd'
  have ew : (fresh P 0 p).w n = P.w n := fs_ne hf
  have eh : (fresh P 0 p).h n = P.h n := fs_ne hf
  repeat walk_at "w"
  refine ⟨_, _, _, _, rfl, frn, rfl, rfl, ok_window, ?_⟩
  repeat walk_at "w"
  refine ⟨_, _, _, _, rfl, frn, rfl, rfl, ok_window, ?_⟩
  repeat walk_at "w"
  refine ⟨by simp, ?_⟩
  rw [ew, eh]
  refine TA_tuple ?_ rfl
  refine TAs_cons ?_
  repeat walk_at "w"
  refine ⟨_, _, _, rfl, q4.r.fw _ fd, ok_window, ?_⟩
  rw [upd_set]
  have q5 := q4.setw (v := P.w n) fd
  revert q5
  generalize AH.set H4 _ _ = H5
  intro q5
  refine TAs_cons ?_
  repeat walk_at "w"
  refine ⟨_, _, _, rfl, q5.r.fw _ fd, ok_window, ?_⟩
  rw [upd_set]
  have q6 : RM Λ S.N H Λ4 (grow1 P n p) _ := q5.seth (v := P.h n) fd
  revert q6
  generalize AH.set H5 _ _ = H6
  intro q6
  refine TAs_nil ?_
  have fd1 : (grow1 P n p).Dm (P.N + 1) := fd
  have nd1 : (grow1 P n p).Dm n := nd'
  have pd1 : (grow1 P n p).Dm p := pd'
  walk_at "w"
  walk_at "w"
  walk_at "w"
  refine EV_method ?_
  repeat walk_at "w"
  refine ⟨_, gm_set_size (q6.r.fw _ fd1) rfl, ?_⟩
  repeat walk_at "w"
  refine c_set_size (by walk_at "d") (q6.r.fw _ fd1) ?_
  have q7 : RM Λ S.N H Λ4 (grow2 P n p a new) _ := RM.setz (a := a) (z := sz (grow1 P n p) a) (v := new) (by rw [wz_self]; exact q6) fd1
  rw [wz_self] at q7
  revert q7
  generalize AH.set H6 _ _ = H7
  intro q7
  have fd2 : (grow2 P n p a new).Dm (P.N + 1) := wz_dm.mpr fd1
  have nd2 : (grow2 P n p a new).Dm n := wz_dm.mpr nd1
  have pd2 : (grow2 P n p a new).Dm p := wz_dm.mpr pd1
  walk_at "w"
  walk_at "w"
  walk_at "w"
  refine EV_method ?_
  repeat walk_at "w"
  refine ⟨_, gm_set_size (q7.r.fw _ fd2) rfl, ?_⟩
  repeat walk_at "w"
  refine EV_method ?_
  repeat walk_at "w"
  refine ⟨_, _, _, _, rfl, q7.r.fT, rfl, rfl, ok_tree, ?_⟩
  repeat walk_at "w"
  refine SB_dict q7.r.fW (wl_get nd2) ?_
  refine ⟨_, gm_size (q7.r.fw _ nd2) rfl, ?_⟩
  repeat walk_at "w"
  refine c_size (by walk_at "d") (q7.r.fw _ nd2) ?_
  repeat walk_at "w"
  refine c_set_size (by walk_at "d") (q7.r.fw _ fd2) ?_
  have q8 : RM Λ S.N H Λ4 (grow3 P n p a new) _ := RM.setz (a := 1 - a) (z := sz (grow2 P n p a new) (1 - a)) (v := sz (grow2 P n p a new) (1 - a) n) (by rw [wz_self]; exact q7) fd2
  rw [wz_self] at q8
  revert q8
  generalize AH.set H7 _ _ = H8
  intro q8
  have fd3 : (grow3 P n p a new).Dm (P.N + 1) := wz_dm.mpr fd2
  have nd3 : (grow3 P n p a new).Dm n := wz_dm.mpr nd2
  have pd3 : (grow3 P n p a new).Dm p := wz_dm.mpr pd2
  have b3 : (grow3 P n p a new).buf n = P.buf n := by rw [g3_buf, fs_ne hf]
  walk_at "w"
  walk_at "w"
  walk_at "w"
  refine EV_method ?_
  repeat walk_at "w"
  refine ⟨_, gm_show (q8.r.fw _ fd3) rfl, ?_⟩
  walk_at "w"
  refine EV_method0 ?_
  repeat walk_at "w"
  refine ⟨_, gm_shown (q8.r.fw _ nd3) rfl, ?_⟩
  refine c_shown (q8.r.fw _ nd3) (by walk_at "d") ?_
  rw [b3]
  repeat walk_at "w"
  refine c_show (q8.r.fw _ fd3) (by walk_at "d") ?_
  have q9 : RM Λ S.N H Λ4 (grow4 P n p a new) _ := q8.setbuf (v := P.buf n) fd3
  revert q9
  generalize AH.set H8 _ _ = H9
  intro q9
  have fd4 : (grow4 P n p a new).Dm (P.N + 1) := fd3
  have nd4 : (grow4 P n p a new).Dm n := nd3
  have pd4 : (grow4 P n p a new).Dm p := pd3
  repeat walk_at "w"
  refine ⟨_, _, _, _, rfl, q9.r.fw _ nd4, rfl, rfl, ok_window, ?_⟩
  repeat walk_at "w"
  refine CL_list (q9.r.fe _ nd4) (by simp) ?_
  have q10 := q9.alloc (l := [])
  have nl := q9.fresh_list (l := [])
  repeat walk_at "w"
  refine ⟨_, _, _, rfl, q10.r.fw _ fd4, ok_window, ?_⟩
  rw [upd_set]
  have q11 := q10.sete fd4 (i := H9.n) q9.m.le (Nat.lt_succ_self _) al_self fun k' hk' => (nl k' hk').1
  revert q11
  generalize AH.set (AH.alloc H9 _) _ _ = H11
  generalize H9.n = je
  intro q11
  obtain ⟨Λ5, hΛ5⟩ : ∃ Λ5, Λ5 = ({ Λ4 with je := fn Λ4.je (P.N + 1) je } : La) := ⟨_, rfl⟩
  rw [← hΛ5] at q11
  have e5 : Λ5.jw = Λ4.jw := by rw [hΛ5]
  have eT5 : Λ5.T = Λ4.T := by rw [hΛ5]
  rw [← eT5, ← e5]
  have pk4 : (grow4 P n p a new).kids p = P.kids p := by
    show (grow3 P n p a new).kids p = _
    rw [g3_kids, fk_ne hpf]
  have fc11 := q11.r.fc p pd4
  rw [pk4] at fc11
  repeat walk_at "w"
  refine ⟨_, _, _, _, rfl, q11.r.fT, rfl, rfl, ok_tree, ?_⟩
  repeat walk_at "w"
  refine SB_dict q11.r.fW (wl_get pd4) ?_
  refine ⟨_, _, _, _, rfl, q11.r.fw _ pd4, rfl, rfl, ok_window, ?_⟩
  repeat walk_at "w"
  refine EV_method ?_
  repeat walk_at "w"
  refine ⟨_, GM.list fc11 .index, ?_⟩
  repeat walk_at "w"
  refine CL_index fc11 G.mn (by walk_at "d") ?_
  walk_at "w"
  walk_at "w"
  walk_at "w"
  walk_at "w"
  have hidx : (P.kids p).idxOf n < (P.kids p).length := List.idxOf_lt_length_of_mem G.mn
  refine EV_cut (fun _ H12 => ∃ i, (i = (P.kids p).idxOf n ∨ i = (P.kids p).idxOf n + 1) ∧ RM Λ S.N H Λ5 (growK P n p a new i) H12) ?_ ?_
  · refine EV_method ?_
    repeat walk_at "w"
    refine ⟨_, GM.list fc11 .insert, ?_⟩
    walk_at "w"
    refine EV_cut (fun av Hx => ∃ i : Nat, (i = (P.kids p).idxOf n ∨ i = (P.kids p).idxOf n + 1) ∧ av = .int i ∧ Hx = H11) ?_ ?_
    · refine EV_ifexp ?_
      refine ET_val ?_
      repeat walk_at "w"
      refine ⟨ahead, rfl, ?_⟩
      refine if_b (fun _ => ?_) fun _ => ?_
      · repeat walk_at "w"
        exact ⟨_, .inl rfl, rfl, rfl⟩
      · repeat walk_at "w"
        exact ⟨(P.kids p).idxOf n + 1, .inr rfl, by push_cast; rfl, rfl⟩
    rintro _ Hx ⟨i, hi, rfl, hHx⟩
    subst Hx
    repeat walk_at "w"
    refine ⟨_, _, _, _, rfl, q11.r.fw _ fd4, rfl, rfl, ok_window, ?_⟩
    repeat walk_at "w"
    refine CL_insert fc11 (by rw [iL_len]; omega) rfl (by rw [iL_len]; omega) ?_
    refine ⟨i, hi, ?_⟩
    have q12 := q11.upk (l := (P.kids p).take i ++ ((P.N : Int) + 1) :: (P.kids p).drop i) pd4
    have el : (iL (P.kids p)).take i ++ AV.int ((P.N : Int) + 1) :: (iL (P.kids p)).drop i = iL ((P.kids p).take i ++ ((P.N : Int) + 1) :: (P.kids p).drop i) := by
      unfold iL; rw [List.map_append, List.map_cons, List.map_take, List.map_drop]
    rw [← el] at q12
    exact q12
  rintro _ H12 ⟨i, hi, q12⟩
  obtain ⟨rkK, wfK⟩ := G.gk new i hi
  have kN : (growK P n p a new i).N = P.N + 1 := g3_N
  have ndK : (growK P n p a new i).Dm n := by unfold St.Dm; rw [kN]; exact nd'
  have pdK : (growK P n p a new i).Dm p := by unfold St.Dm; rw [kN]; exact pd'
  have sK : (growK P n p a new i).sort n = 0 := by show (grow3 P n p a new).sort n = 0; rw [g3_sort, fs_ne hf]; exact G.sn
  have szK : sz (growK P n p a new i) a n = sz P a n := by
    show sz (grow3 P n p a new) a n = _
    unfold grow3
    rw [wz_sz_ne (sub_ne ha)]
    unfold grow2
    rw [wz_sz, fs_ne hf]
    rcases ha with h0 | h0
    · rw [h0]
      show fs (fresh P 0 p).w (P.N + 1) (P.w n) n = P.w n
      rw [fs_ne hf]; exact ew
    · rw [h0]
      show fs (fresh P 0 p).h (P.N + 1) (P.h n) n = P.h n
      rw [fs_ne hf]; exact eh
  have szP : sz P a n = sz S a n := by
    rcases cP with ⟨eP, _⟩ | ⟨eP, _⟩
    · rw [eP]
    · rw [eP]; exact sz_wrap ha hn
  have vK := val_eq wfK (u := leastL a) (a := a) ndK
  rw [if_pos sK] at vK
  have hup : 0 < leastL a := by unfold leastL; split <;> decide
  have hs1000 := G.sz
  have preK : pre (growK P n p a new i) n = [n] := pre_leaf wfK ndK sK
  repeat walk_at "w"
  refine c_set_tree_size wfK q12.r ndK ha (by rw [vK]; exact ho1) (by walk_at "d") (fun x hx => ?_) (by walk_at "d") fun H13 z r13 e13 rs => ?_
  · rw [preK] at hx
    rw [List.mem_singleton.mp hx, vK, szK]
    omega
  have hz : z = fs (sz (growK P n p a new i) a) n old := by
    funext y
    by_cases q : y = n
    · rw [q, fs_self]; exact rs.top
    · rw [fs_ne q]; exact rs.out y (by rw [preK]; simpa using q)
  rw [hz] at r13
  have wfZ : Wf (growZ P n p a new old i) rkK := wfK.wz
  have zN : (growZ P n p a new old i).N = P.N + 1 := by unfold growZ; rw [wz_N, kN]
  have pdZ : (growZ P n p a new old i).Dm p := by unfold St.Dm; rw [zN]; exact pd'
  have r13 : Rep Λ5 (growZ P n p a new old i) H13 := r13
  have m13 : Mv Λ S.N H Λ5 (growZ P n p a new old i).N H13 := by
    have := q12.m.trans e13.mv
    rw [zN]; rw [kN] at this; exact this
  repeat walk_at "w"
  refine c_joined r13 pdZ (fun c hc => ?_) ?_ (by walk_at "d") fun H14 Λ6 r14 m14 eT6 eJ6 => ?_
  · obtain ⟨c1, c2, c3, _⟩ := wfZ.kd p pdZ c hc
    exact ⟨c1, c2, c3⟩
  · have := st_len wfZ fun y hy => (wfZ.kd _ pdZ y hy).1
    have h2 := pre_len wfZ pdZ
    rw [pre_eq wfZ pdZ, List.length_cons] at h2
    omega
  rw [← eT6]
  repeat walk_at "w"
  refine c_set_places wfZ r14 (by walk_at "d") fun H15 p1 p2 r15 e15 ps => ?_
  have fdZ : (withp (growZ P n p a new old i) p1 p2).Dm (P.N + 1) := by show (growZ P n p a new old i).Dm _; unfold St.Dm; rw [zN]; exact fd
  have f15 := r15.fw _ fdZ
  rw [eJ6] at f15
  repeat walk_at "w"
  refine ⟨_, _, _, _, rfl, f15, rfl, rfl, ok_window, ?_⟩
  repeat walk_at "w"
  refine h H15 Λ6 P p new old i p1 p2 cP hi hon ho1 hn1 r15 ?_ (eT6.trans (eT5.trans (eT4.trans eT)))
  have := (m13.trans m14).trans e15.mv
  rw [zN] at this
  exact this
end
end
-- C32
section
section
variable {b : Bd} {H : AH} {X : AH → Prop} {Q : AV → AH → Prop}
/-- the deck of the law -/
structure Dk (H : AH) (D D0 : Nat) (cs : List Int) (k : Int) : Prop where
  d : H.f D = .list [.ref D0, .int k]
  c : H.f D0 = .list (iL cs)
  ne : D0 ≠ D
  l : cs.length ≤ 63
theorem c_law_draw {D D0 : Nat} {cs : List Int} {k many : Int} (dk : Dk H D D0 cs k) (h0 : 0 ≤ k) (h1 : k ≤ 1000) (hm : 0 < many) (hb : 1 ≤ b.n) (h : ∀ v, 0 ≤ v → v < many → Q (.int v) (H.set D (.list [.ref D0, .int (k + 1)]))) : CL b (.ref 308) [.ref D, .int many] H Q X := by
  refine (CA_defs (names := ["deck", "many"]) (fun _ => by with_unfolding_all rfl) (fun _ => by kernel_rfl) rfl rfl rfl rfl (by walk_at "b") (by decide) (by walk_at "d") ?_).cl
  intro sc hsc
  have hl := dk.l
  repeat walk_at "w"
  refine SB_list dk.d (by decide) (by decide) rfl ?_
  repeat walk_at "w"
  refine .inl ⟨_, _, 1, rfl, rfl, dk.d, by simp, by simp, ?_⟩
  have fd : (H.set D (.list [.ref D0, .int (k + 1)])).f D = .list [.ref D0, .int (k + 1)] := st_self
  have fc : (H.set D (.list [.ref D0, .int (k + 1)])).f D0 = .list (iL cs) := (st_ne dk.ne).trans dk.c
  refine Kn (by assumption) ?_
  show EX _ _ _ _ (H.set D (.list [.ref D0, .int (k + 1)])) _ _
  revert fd fc h
  generalize H.set D (.list [.ref D0, .int (k + 1)]) = H1
  intro h fd fc
  repeat walk_at "w"
  refine SB_list fd (by decide) (by decide) rfl ?_
  repeat walk_at "w"
  refine SB_list fd (by decide) (by decide) rfl ?_
  repeat walk_at "w"
  refine CL_len fc (by rw [iL_len]; omega) ?_
  rw [iL_len]
  repeat walk_at "w"
  refine if_d (fun hle => ?_) fun hle => ?_
  · have hi : (k + 1 - 1).toNat < cs.length := by omega
    repeat walk_at "w"
    refine SB_list fd (by decide) (by decide) rfl ?_
    repeat walk_at "w"
    refine SB_list fd (by decide) (by decide) rfl ?_
    repeat walk_at "w"
    refine SB_list (a := .int cs[(k + 1 - 1).toNat]) fc (by walk_at "d") (by walk_at "d") ?_ ?_
    · unfold iL; rw [List.getElem?_map, List.getElem?_eq_getElem hi]; rfl
    repeat walk_at "w"
    refine OP_mod hm ?_
    repeat walk_at "w"
    exact h _ (Int.emod_nonneg _ (by walk_at "d")) (Int.emod_lt_of_pos _ hm)
  · repeat walk_at "w"
    refine SB_list fd (by decide) (by decide) rfl ?_
    repeat walk_at "w"
    refine SB_list fd (by decide) (by decide) rfl ?_
    have kb : (k + 1) * (k + 1) ≤ 1001 * 1001 := Int.mul_le_mul (by walk_at "d") (by walk_at "d") (by walk_at "d") (by walk_at "d")
    have kb0 : 0 ≤ (k + 1) * (k + 1) := Int.mul_nonneg (by walk_at "d") (by walk_at "d")
    refine OP_mul (by walk_at "d") ?_
    repeat walk_at "w"
    refine OP_mul (by walk_at "d") ?_
    repeat walk_at "w"
    refine SB_list fd (by decide) (by decide) rfl ?_
    refine OP_mul (by decide) ?_
    repeat walk_at "w"
    refine SB_list fd (by decide) (by decide) rfl ?_
    repeat walk_at "w"
    refine CL_len fc (by rw [iL_len]; omega) ?_
    rw [iL_len]
    refine OP_mul (by decide) ?_
    repeat walk_at "w"
    refine OP_floordiv (by decide) (by decide) ?_
    repeat walk_at "w"
    refine OP_mod hm ?_
    repeat walk_at "w"
    exact h _ (Int.emod_nonneg _ (by walk_at "d")) (Int.emod_lt_of_pos _ hm)
end
end
-- C33
section
/-- Cn but for the count of a combination's windows -/
structure Cz (S : St) : Prop where
  leaf : ∀ x, S.Dm x → S.sort x = 0 → 3 ≤ S.w x ∧ 2 ≤ S.h x
  sum : ∀ x, S.Dm x → S.sort x ≠ 0 → ((S.kids x).map (sz S (al (S.sort x)))).sum = sz S (al (S.sort x)) x
  perp : ∀ x, S.Dm x → S.sort x ≠ 0 → ∀ c ∈ S.kids x, sz S (1 - al (S.sort x)) c = sz S (1 - al (S.sort x)) x
  big : S.w S.root ≤ 1000 ∧ S.h S.root ≤ 1000
theorem Cn.cz {S : St} (c : Cn S) : Cz S := ⟨c.leaf, c.sum, c.perp, c.big⟩
section
variable {P : St} {n p a new old : Int} {i : Nat} {rk : Int → Nat}
theorem gK_N : (growK P n p a new i).N = P.N + 1 := g3_N
theorem gK_sort : (growK P n p a new i).sort = fs P.sort (P.N + 1) 0 := g3_sort
theorem gK_kids : (growK P n p a new i).kids = fk (fk P.kids (P.N + 1) []) p ((P.kids p).take i ++ ((P.N : Int) + 1) :: (P.kids p).drop i) := by
  show fk (grow3 P n p a new).kids p _ = _
  rw [g3_kids]
theorem g3_par : (grow3 P n p a new).par = fs P.par (P.N + 1) p := by unfold grow3 grow2; rw [wz_par, wz_par]; rfl
theorem g3_root : (grow3 P n p a new).root = P.root := by unfold grow3 grow2; rw [wz_root, wz_root]; rfl
theorem gK_par : (growK P n p a new i).par = fs P.par (P.N + 1) p := g3_par
theorem gK_root : (growK P n p a new i).root = P.root := g3_root
theorem gK_buf : (growK P n p a new i).buf = fs (fs P.buf (P.N + 1) 0) (P.N + 1) (P.buf n) := by
  show fs (grow3 P n p a new).buf _ _ = _
  rw [g3_buf]
noncomputable def rkn (rk : Int → Nat) (k : Int) (v : Nat) : Int → Nat := fun x => if x = k then v else rk x
theorem rkn_self {k : Int} {v : Nat} : rkn rk k v k = v := if_pos rfl
theorem rkn_ne {k x : Int} {v : Nat} (h : x ≠ k) : rkn rk k v x = rk x := if_neg h
theorem ins_mem {l : List Int} {f x : Int} : x ∈ l.take i ++ f :: l.drop i ↔ x = f ∨ x ∈ l := by
  rw [List.mem_append, List.mem_cons]
  constructor
  · rintro (h | rfl | h)
    · exact .inr (List.mem_of_mem_take h)
    · exact .inl rfl
    · exact .inr (List.mem_of_mem_drop h)
  · rintro (rfl | h)
    · exact .inr (.inl rfl)
    · rw [← List.take_append_drop i l, List.mem_append] at h
      exact h.imp id .inr
theorem ins_perm {l : List Int} {f : Int} : (l.take i ++ f :: l.drop i).Perm (f :: l) := by
  have := List.perm_middle (a := f) (l₁ := l.take i) (l₂ := l.drop i)
  rwa [List.take_append_drop] at this
theorem wf_grow (wf : Wf P rk) (hN : P.N ≤ 12) (hn : P.Dm n) (h0 : P.sort n = 0) (hp : P.par n = p) (dp : P.Dm p) (mn : n ∈ P.kids p) : Wf (growK P n p a new i) (rkn rk (P.N + 1) (rk n)) := by
  have dm : ∀ {k : Int}, (growK P n p a new i).Dm k → P.Dm k ∨ k = P.N + 1 := fun {k} h => by
    obtain ⟨a1, b1⟩ := h
    rw [gK_N] at b1
    by_cases q : k = P.N + 1
    · exact .inr q
    · exact .inl ⟨a1, by omega⟩
  have md : ∀ {k : Int}, P.Dm k → (growK P n p a new i).Dm k ∧ k ≠ P.N + 1 := fun {k} h => ⟨⟨h.1, by have := h.2; rw [gK_N]; omega⟩, by have := h.2; omega⟩
  have fd : (growK P n p a new i).Dm (P.N + 1) := ⟨by omega, by rw [gK_N]; omega⟩
  have pf := (md dp).2
  have nf := (md hn).2
  have kf : (growK P n p a new i).kids (P.N + 1) = [] := by rw [gK_kids, fk_ne (Ne.symm pf), fk_self]
  have kp : (growK P n p a new i).kids p = (P.kids p).take i ++ ((P.N : Int) + 1) :: (P.kids p).drop i := by rw [gK_kids, fk_self]
  have ko : ∀ {k : Int}, k ≠ p → k ≠ P.N + 1 → (growK P n p a new i).kids k = P.kids k := fun h1 h2 => by rw [gK_kids, fk_ne h1, fk_ne h2]
  have hrn := (wf.kd p dp n mn).2.2.2
  refine ⟨by rw [gK_N]; omega, ?_, ?_, fun k hk => ?_, fun k hk c hc => ?_, fun k hk => ?_, fun k hk hr => ?_, fun k => ?_, fun k hk hs => ?_⟩
  · rw [gK_root]; exact (md wf.root).1
  · rw [gK_par, gK_root, fs_ne (md wf.root).2]; exact wf.rp
  · rw [gK_sort]
    rcases dm hk with hd | rfl
    · rw [fs_ne (md hd).2]
      by_cases q : k = p
      · subst q
        right
        rcases wf.so k hd with ⟨_, h⟩ | ⟨h, _⟩
        · rw [h] at mn; cases mn
        · exact ⟨h, by rw [kp]; simp⟩
      · rw [ko q (md hd).2]; exact wf.so k hd
    · left; rw [fs_self]; exact ⟨rfl, kf⟩
  · rw [gK_par, gK_sort]
    rcases dm hk with hd | rfl
    · by_cases q : k = p
      · subst q
        rw [kp, ins_mem] at hc
        rcases hc with rfl | hc
        · refine ⟨fd, fs_self, ?_, ?_⟩
          · rw [fs_self, fs_ne pf]
            intro e
            have := (lf_iff wf hd).mp e.symm
            rw [this] at mn; cases mn
          · rw [rkn_self, rkn_ne pf]; exact hrn
        · obtain ⟨c1, c2, c3, c4⟩ := wf.kd k hd c hc
          rw [fs_ne (md c1).2, fs_ne (md c1).2, fs_ne pf, rkn_ne (md c1).2, rkn_ne pf]
          exact ⟨(md c1).1, c2, c3, c4⟩
      · rw [ko q (md hd).2] at hc
        obtain ⟨c1, c2, c3, c4⟩ := wf.kd k hd c hc
        rw [fs_ne (md c1).2, fs_ne (md c1).2, fs_ne (md hd).2, rkn_ne (md c1).2, rkn_ne (md hd).2]
        exact ⟨(md c1).1, c2, c3, c4⟩
    · rw [kf] at hc; cases hc
  · rcases dm hk with hd | rfl
    · by_cases q : k = p
      · subst q
        rw [kp]
        refine (ins_perm.nodup_iff).mpr (List.nodup_cons.mpr ⟨fun h => ?_, wf.nd k hd⟩)
        exact (md (wf.kd k hd _ h).1).2 rfl
      · rw [ko q (md hd).2]; exact wf.nd k hd
    · rw [kf]; exact List.nodup_nil
  · rw [gK_root] at hr
    rw [gK_par]
    rcases dm hk with hd | rfl
    · rw [fs_ne (md hd).2]
      obtain ⟨u1, u2⟩ := wf.up k hd hr
      refine ⟨(md u1).1, ?_⟩
      by_cases q : P.par k = p
      · rw [q] at u2 ⊢
        rw [kp, ins_mem]; exact .inr u2
      · rw [ko q (md u1).2]; exact u2
    · rw [fs_self]
      exact ⟨(md dp).1, by rw [kp, ins_mem]; exact .inl rfl⟩
  · unfold rkn; split
    · exact wf.rb n
    · exact wf.rb k
  · rw [gK_sort] at hs
    rw [gK_buf]
    rcases dm hk with hd | rfl
    · rw [fs_ne (md hd).2] at hs
      rw [fs_ne (md hd).2, fs_ne (md hd).2]; exact wf.bf k hd hs
    · rw [fs_self]; exact wf.bf n hn h0
/-- the sizes after a split -/
theorem gZ_a {y : Int} (ha : a = 0 ∨ a = 1) (hn : P.Dm n) : sz (growZ P n p a new old i) a y = if y = n then old else if y = P.N + 1 then new else sz P a y := by
  have nf : n ≠ (P.N : Int) + 1 := by have := hn.2; omega
  unfold growZ
  rw [wz_sz]
  by_cases q : y = n
  · subst q; rw [fs_self, if_pos rfl]
  · rw [fs_ne q, if_neg q]
    show sz (grow3 P n p a new) a y = _
    unfold grow3
    rw [wz_sz_ne (by rcases ha with rfl | rfl <;> simp)]
    unfold grow2
    rw [wz_sz]
    by_cases q2 : y = P.N + 1
    · subst q2; rw [fs_self, if_pos rfl]
    · rw [fs_ne q2, if_neg q2]
      rcases ha with rfl | rfl
      · show fs (fs P.w (P.N + 1) 0) (P.N + 1) (P.w n) y = P.w y
        rw [fs_ne q2, fs_ne q2]
      · show fs (fs P.h (P.N + 1) 0) (P.N + 1) (P.h n) y = P.h y
        rw [fs_ne q2, fs_ne q2]
theorem gZ_b {y : Int} (ha : a = 0 ∨ a = 1) (hn : P.Dm n) : sz (growZ P n p a new old i) (1 - a) y = if y = P.N + 1 then sz P (1 - a) n else sz P (1 - a) y := by
  have nf : n ≠ (P.N : Int) + 1 := by have := hn.2; omega
  have hne : ((1 - a) = 0) ≠ (a = 0) := by rcases ha with rfl | rfl <;> simp
  have base : ∀ {y : Int}, y ≠ P.N + 1 → sz (grow2 P n p a new) (1 - a) y = sz P (1 - a) y := fun {y} q2 => by
    unfold grow2
    rw [wz_sz_ne hne]
    rcases ha with rfl | rfl
    · show fs (fs P.h (P.N + 1) 0) (P.N + 1) (P.h n) y = P.h y
      rw [fs_ne q2, fs_ne q2]
    · show fs (fs P.w (P.N + 1) 0) (P.N + 1) (P.w n) y = P.w y
      rw [fs_ne q2, fs_ne q2]
  unfold growZ
  rw [wz_sz_ne hne]
  show sz (grow3 P n p a new) (1 - a) y = _
  unfold grow3
  rw [wz_sz]
  by_cases q2 : y = P.N + 1
  · subst q2; rw [fs_self, if_pos rfl, base nf]
  · rw [fs_ne q2, if_neg q2, base q2]
end
end
-- C34
section
section
variable {P : St} {n p a new old : Int} {i : Nat} {rk : Int → Nat}
theorem gZ_N : (growZ P n p a new old i).N = P.N + 1 := by unfold growZ; rw [wz_N, gK_N]
theorem gZ_kids : (growZ P n p a new old i).kids = (growK P n p a new i).kids := by unfold growZ; rw [wz_kids]
theorem gZ_sort : (growZ P n p a new old i).sort = fs P.sort (P.N + 1) 0 := by unfold growZ; rw [wz_sort, gK_sort]
theorem gZ_root : (growZ P n p a new old i).root = P.root := by unfold growZ; rw [wz_root, gK_root]
theorem perm_sum {l k : List Int} (h : l.Perm k) : l.sum = k.sum := by
  induction h with
  | nil => rfl
  | cons x _ ih => simp only [List.sum_cons, ih]
  | swap x y l => simp only [List.sum_cons]; omega
  | trans _ _ h1 h2 => exact h1.trans h2
theorem sum_upd {f g : Int → Int} {d : Int} : ∀ {l : List Int}, l.Nodup → n ∈ l → (∀ c ∈ l, c ≠ n → f c = g c) → f n + d = g n → (l.map f).sum + d = (l.map g).sum
  | c :: l, hn, hm, h1, h2 => by
    rw [List.nodup_cons] at hn
    simp only [List.map_cons, List.sum_cons]
    by_cases q : c = n
    · subst q
      have e : l.map f = l.map g := List.map_congr_left fun y hy => h1 y (.tail _ hy) fun e => hn.1 (e ▸ hy)
      rw [e]; omega
    · have hm' : n ∈ l := (List.mem_cons.mp hm).resolve_left fun e => q e.symm
      have := sum_upd hn.2 hm' (fun y hy => h1 y (.tail _ hy)) h2
      have := h1 c (.head _) q
      omega
theorem other_ax {a c : Int} (hc : c = 0 ∨ c = 1) (ha : a = 0 ∨ a = 1) (e : ¬ c = a) : c = 1 - a := by omega
theorem cn_grow (wf : Wf P rk) (cz : Cz P) (two : ∀ x, P.Dm x → x ≠ p → P.sort x ≠ 0 → 2 ≤ (P.kids x).length) (hn : P.Dm n) (h0 : P.sort n = 0) (hp : P.par n = p) (dp : P.Dm p) (mn : n ∈ P.kids p) (ha : al (P.sort p) = a)
    (hsum : old + new = sz P a n) (ho : leastL a ≤ old) (hw : leastL a ≤ new) : Cn (growZ P n p a new old i) := by
  have ha01 : a = 0 ∨ a = 1 := ha ▸ al01
  have md : ∀ {k : Int}, P.Dm k → k ≠ P.N + 1 := fun {k} h => by have := h.2; omega
  have dm : ∀ {k : Int}, (growZ P n p a new old i).Dm k → P.Dm k ∨ k = P.N + 1 := fun {k} h => by
    obtain ⟨a1, b1⟩ := h
    rw [gZ_N] at b1
    by_cases q : k = P.N + 1
    · exact .inr q
    · exact .inl ⟨a1, by omega⟩
  have pf := md dp
  have nf := md hn
  have np : n ≠ p := fun e => by
    have := (lf_iff wf dp).mp (e ▸ h0)
    rw [this] at mn; cases mn
  have sp0 : P.sort p ≠ 0 := fun e => by
    have := (lf_iff wf dp).mp e
    rw [this] at mn; cases mn
  have kf : (growZ P n p a new old i).kids (P.N + 1) = [] := by rw [gZ_kids, gK_kids, fk_ne (Ne.symm pf), fk_self]
  have kp : (growZ P n p a new old i).kids p = (P.kids p).take i ++ ((P.N : Int) + 1) :: (P.kids p).drop i := by rw [gZ_kids, gK_kids, fk_self]
  have ko : ∀ {k : Int}, k ≠ p → k ≠ P.N + 1 → (growZ P n p a new old i).kids k = P.kids k := fun h1 h2 => by rw [gZ_kids, gK_kids, fk_ne h1, fk_ne h2]
  have za : ∀ y, sz (growZ P n p a new old i) a y = if y = n then old else if y = P.N + 1 then new else sz P a y := fun y => gZ_a ha01 hn
  have zb : ∀ y, sz (growZ P n p a new old i) (1 - a) y = if y = P.N + 1 then sz P (1 - a) n else sz P (1 - a) y := fun y => gZ_b ha01 hn
  have za' : ∀ {y}, y ≠ n → y ≠ P.N + 1 → sz (growZ P n p a new old i) a y = sz P a y := fun h1 h2 => by rw [za, if_neg h1, if_neg h2]
  have zb' : ∀ {y : Int}, y ≠ P.N + 1 → sz (growZ P n p a new old i) (1 - a) y = sz P (1 - a) y := fun h2 => by rw [zb, if_neg h2]
  -- either axis, off n and the new one
  have zc : ∀ {c y : Int}, (c = 0 ∨ c = 1) → y ≠ n → y ≠ P.N + 1 → sz (growZ P n p a new old i) c y = sz P c y := fun {c y} hc h1 h2 => by
    by_cases e : c = a
    · rw [e]; exact za' h1 h2
    · have : c = 1 - a := other_ax hc ha01 e
      rw [this]; exact zb' h2
  -- whose own is n
  have kidn : ∀ {k c : Int}, P.Dm k → k ≠ p → c ∈ P.kids k → c ≠ n := fun hk hkp hc e => hkp (((wf.kd _ hk _ hc).2.1.symm.trans (e ▸ hp)))
  have leaf_a : ∀ y, P.Dm y → P.sort y = 0 → leastL a ≤ sz P a y ∧ leastL (1 - a) ≤ sz P (1 - a) y := fun y hy hs => by
    have := cz.leaf y hy hs
    rcases ha01 with h | h
    · rw [h]; exact this
    · rw [h]; exact this.symm
  refine ⟨fun x hx hs => ?_, fun x hx hs => ?_, fun x hx hs c hc => ?_, ?_, fun x hx hs => ?_⟩
  · rw [gZ_sort] at hs
    have key : leastL a ≤ sz (growZ P n p a new old i) a x ∧ leastL (1 - a) ≤ sz (growZ P n p a new old i) (1 - a) x := by
      rw [za, zb]
      rcases dm hx with hd | rfl
      · rw [fs_ne (md hd)] at hs
        have := leaf_a x hd hs
        rw [if_neg (md hd), if_neg (md hd)]
        refine ⟨?_, this.2⟩
        split
        · exact ho
        · exact this.1
      · rw [if_neg (Ne.symm nf), if_pos rfl, if_pos rfl]
        exact ⟨hw, (leaf_a n hn h0).2⟩
    rcases ha01 with rfl | rfl
    · exact key
    · exact key.symm
  · rw [gZ_sort] at hs ⊢
    rcases dm hx with hd | rfl
    · rw [fs_ne (md hd)] at hs ⊢
      have ps := cz.sum x hd hs
      by_cases q : x = p
      · subst q
        rw [ha] at ps ⊢
        rw [kp]
        have pm := (ins_perm (i := i) (l := P.kids x) (f := (P.N : Int) + 1)).map (sz (growZ P n x a new old i) a)
        rw [perm_sum pm, List.map_cons, List.sum_cons, za' (Ne.symm np) pf]
        have hf : sz (growZ P n x a new old i) a (P.N + 1) = new := by rw [za, if_neg (Ne.symm nf), if_pos rfl]
        have hnn : sz (growZ P n x a new old i) a n = old := by rw [za, if_pos rfl]
        have := sum_upd (n := n) (f := sz (growZ P n x a new old i) a) (g := sz P a) (d := new) (wf.nd x hd) mn (fun c hc hcn => za' hcn (md (wf.kd x hd c hc).1)) (by rw [hnn]; exact hsum)
        rw [hf]; omega
      · rw [ko q (md hd)]
        have xn : x ≠ n := fun e => hs (e ▸ h0)
        rw [zc al01 xn (md hd), ← ps]
        congr 1
        exact List.map_congr_left fun c hc => zc al01 (kidn hd q hc) (md (wf.kd x hd c hc).1)
    · rw [fs_self] at hs; exact absurd rfl hs
  · rw [gZ_sort] at hs ⊢
    rcases dm hx with hd | rfl
    · rw [fs_ne (md hd)] at hs ⊢
      have xn : x ≠ n := fun e => hs (e ▸ h0)
      have a1 : 1 - al (P.sort x) = 0 ∨ 1 - al (P.sort x) = 1 := by rcases al01 (s := P.sort x) with e | e <;> omega
      by_cases q : x = p
      · subst q
        rw [ha]
        rw [kp, ins_mem] at hc
        have ps := cz.perp x hd hs
        rw [ha] at ps
        rw [zb' pf]
        rcases hc with rfl | hc
        · rw [zb, if_pos rfl]; exact ps n mn
        · rw [zb' (md (wf.kd x hd c hc).1)]; exact ps c hc
      · rw [ko q (md hd)] at hc
        rw [zc a1 xn (md hd), zc a1 (kidn hd q hc) (md (wf.kd x hd c hc).1)]
        exact cz.perp x hd hs c hc
    · rw [kf] at hc; cases hc
  · rw [gZ_root]
    have rn : P.root ≠ n := fun e => by
      have := wf.rp
      rw [e, hp] at this
      have := dp.1; omega
    have h1 := zc (c := 0) (.inl rfl) rn (md wf.root)
    have h2 := zc (c := 1) (.inr rfl) rn (md wf.root)
    exact ⟨by have := cz.big.1; show sz (growZ P n p a new old i) 0 P.root ≤ _; rw [h1]; exact this, by have := cz.big.2; show sz (growZ P n p a new old i) 1 P.root ≤ _; rw [h2]; exact this⟩
  · rw [gZ_sort] at hs
    rcases dm hx with hd | rfl
    · rw [fs_ne (md hd)] at hs
      by_cases q : x = p
      · subst q
        rw [kp, (ins_perm (i := i)).length_eq, List.length_cons]
        have := List.length_pos_iff.mpr (List.ne_nil_of_mem mn)
        omega
      · rw [ko q (md hd)]; exact two x hd q hs
    · rw [fs_self] at hs; exact absurd rfl hs
end
end
-- C35
section
section
variable {S : St} {n a : Int} {rk : Int → Nat}
theorem w_N : (wrap S n a).N = S.N + 1 := by unfold wrap repl; split <;> rfl
theorem w_sort : (wrap S n a).sort = fs S.sort (S.N + 1) (sal a) := by unfold wrap repl; split <;> rfl
theorem w_root (hn : S.Dm n) : (wrap S n a).root = if S.par n = 0 then (S.N : Int) + 1 else S.root := by
  have hg : n ≠ (S.N : Int) + 1 := by have := hn.2; omega
  have e : (wr1 S n a).par n = S.par n := fs_ne hg
  unfold wrap repl
  rw [e]
  by_cases h : S.par n = 0
  · rw [if_pos h, if_pos h]
  · rw [if_neg h, if_neg h]; rfl
theorem w_par (hn : S.Dm n) (y : Int) : (wrap S n a).par y = if y = n then (S.N : Int) + 1 else if y = (S.N : Int) + 1 then S.par n else S.par y := by
  have hg : n ≠ (S.N : Int) + 1 := by have := hn.2; omega
  have e : (wr1 S n a).par n = S.par n := fs_ne hg
  have e2 : (wrap S n a).par = fs (fs (wr1 S n a).par (S.N + 1) (S.par n)) n (S.N + 1) := by
    unfold wrap repl
    rw [e]
    split <;> rfl
  rw [e2]
  by_cases h : y = n
  · rw [h, fs_self, if_pos rfl]
  · rw [fs_ne h, if_neg h]
    by_cases h2 : y = (S.N : Int) + 1
    · rw [h2, fs_self, if_pos rfl]
    · rw [fs_ne h2, if_neg h2]
      show fs S.par (S.N + 1) (S.par n) y = _
      rw [fs_ne h2]
theorem w_kids (hn : S.Dm n) (hq : S.par n ≠ 0 → S.par n ≠ (S.N : Int) + 1) (y : Int) : (wrap S n a).kids y = if y = (S.N : Int) + 1 then [n] else if S.par n ≠ 0 ∧ y = S.par n then (S.kids (S.par n)).set ((S.kids (S.par n)).idxOf n) ((S.N : Int) + 1) else S.kids y := by
  have hg : n ≠ (S.N : Int) + 1 := by have := hn.2; omega
  have e : (wr1 S n a).par n = S.par n := fs_ne hg
  by_cases h : y = (S.N : Int) + 1
  · rw [if_pos h, h]
    unfold wrap
    exact fk_self
  · rw [if_neg h]
    have e1 : (wrap S n a).kids y = (repl (wr1 S n a) n (S.N + 1)).kids y := fk_ne h
    rw [e1]
    unfold repl
    rw [e]
    by_cases hz : S.par n = 0
    · rw [if_pos hz, if_neg (fun q => q.1 hz)]
      exact fk_ne h
    · rw [if_neg hz]
      have ek : (wr1 S n a).kids (S.par n) = S.kids (S.par n) := fk_ne (hq hz)
      show fk (wr1 S n a).kids (S.par n) _ y = _
      rw [ek]
      by_cases hy : y = S.par n
      · rw [if_pos ⟨hz, hy⟩, hy, fk_self]
      · rw [if_neg (fun q => hy q.2), fk_ne hy]
        exact fk_ne h
theorem w_buf (y : Int) (h : y ≠ (S.N : Int) + 1) : (wrap S n a).buf y = S.buf y := by
  have : (wrap S n a).buf = fs S.buf (S.N + 1) 0 := by unfold wrap repl; split <;> rfl
  rw [this, fs_ne h]
theorem w_sz (c y : Int) : sz (wrap S n a) c y = if y = (S.N : Int) + 1 then sz S c n else sz S c y := by
  have e1 : (wrap S n a).w = fs (fs S.w (S.N + 1) 0) (S.N + 1) (S.w n) := by unfold wrap repl; split <;> rfl
  have e2 : (wrap S n a).h = fs (fs S.h (S.N + 1) 0) (S.N + 1) (S.h n) := by unfold wrap repl; split <;> rfl
  unfold sz
  rw [e1, e2]
  by_cases h : y = (S.N : Int) + 1
  · rw [h, if_pos rfl, fs_self, fs_self]
  · rw [if_neg h, fs_ne h, fs_ne h, fs_ne h, fs_ne h]
theorem set_mem {l : List Int} {g x : Int} (hm : n ∈ l) (hnd : l.Nodup) : x ∈ l.set (l.idxOf n) g → x = g ∨ (x ∈ l ∧ x ≠ n) := fun h => by
  obtain ⟨j, hj⟩ := List.getElem?_of_mem h
  have hlt := List.idxOf_lt_length_of_mem hm
  by_cases e : j = l.idxOf n
  · subst e
    rw [List.getElem?_set_self hlt] at hj
    exact .inl (Option.some.inj hj).symm
  · rw [List.getElem?_set_ne (Ne.symm e)] at hj
    refine .inr ⟨List.mem_of_getElem? hj, fun q => e ?_⟩
    subst q
    exact (idx_nd hnd hj).symm
theorem mem_set1 {l : List Int} {g : Int} (hm : n ∈ l) : g ∈ l.set (l.idxOf n) g := by
  have hlt := List.idxOf_lt_length_of_mem hm
  exact List.mem_of_getElem? (List.getElem?_set_self hlt)
theorem mem_set2 {l : List Int} {g x : Int} (hnd : l.Nodup) (hx : x ∈ l) (hxn : x ≠ n) : x ∈ l.set (l.idxOf n) g := by
  obtain ⟨j, hj⟩ := List.getElem?_of_mem hx
  refine List.mem_of_getElem? (i := j) ?_
  rw [List.getElem?_set_ne]
  · exact hj
  · intro e
    rcases Nat.lt_or_ge (l.idxOf n) l.length with q | q
    · have hn' : n ∈ l := by
        by_cases hm : n ∈ l
        · exact hm
        · rw [List.idxOf_eq_length hm] at q; omega
      have h1 : l[l.idxOf n]? = some n := by rw [List.getElem?_eq_getElem q]; simp
      rw [e, hj] at h1
      exact hxn (Option.some.inj h1)
    · rw [← e, List.getElem?_eq_none q] at hj; cases hj
theorem set_perm {l : List Int} {g : Int} (hm : n ∈ l) : (l.set (l.idxOf n) g).Perm (g :: l.erase n) := by
  induction l with
  | nil => cases hm
  | cons c l ih =>
    by_cases q : c = n
    · subst q; simp
    · have hm' : n ∈ l := (List.mem_cons.mp hm).resolve_left fun e => q e.symm
      have hb : (c == n) = false := by simpa using q
      rw [List.idxOf_cons, hb, List.erase_cons, hb]
      show (c :: l.set (l.idxOf n) g).Perm _
      exact ((ih hm').cons c).trans (List.Perm.swap g c _)
end
end
-- C36
section
section
variable {S : St} {n a : Int} {rk : Int → Nat}
theorem al_sal (ha : a = 0 ∨ a = 1) : al (sal a) = a ∧ (sal a = 1 ∨ sal a = 2) := by rcases ha with rfl | rfl <;> decide
theorem wf_wrap (wf : Wf S rk) (hN : S.N ≤ 12) (hn : S.Dm n) (h0 : S.sort n = 0) (ha : a = 0 ∨ a = 1) (hneg : ¬ (S.par n ≠ 0 ∧ al (S.sort (S.par n)) = a)) (hr1 : 1 ≤ rk n) :
    Wf (wrap S n a) (rkn (rkn rk (S.N + 1) (rk n)) n (rk n - 1)) := by
  have hg : n ≠ (S.N : Int) + 1 := by have := hn.2; omega
  have hpar : S.par n ≠ 0 → S.Dm (S.par n) ∧ n ∈ S.kids (S.par n) := fun hz => wf.up n hn fun q => hz (by rw [q]; exact wf.rp)
  have hq : S.par n ≠ 0 → S.par n ≠ (S.N : Int) + 1 := fun hz => by have := (hpar hz).1.2; omega
  have K := w_kids (S := S) (a := a) hn hq
  have PR := w_par (S := S) (a := a) hn
  have dm : ∀ {k : Int}, (wrap S n a).Dm k → S.Dm k ∨ k = (S.N : Int) + 1 := fun {k} h => by
    obtain ⟨a1, b1⟩ := h
    rw [w_N] at b1
    by_cases q : k = (S.N : Int) + 1
    · exact .inr q
    · exact .inl ⟨a1, by omega⟩
  have md : ∀ {k : Int}, S.Dm k → (wrap S n a).Dm k ∧ k ≠ (S.N : Int) + 1 := fun {k} h => ⟨⟨h.1, by have := h.2; rw [w_N]; omega⟩, by have := h.2; omega⟩
  have gd : (wrap S n a).Dm ((S.N : Int) + 1) := ⟨by omega, by rw [w_N]; omega⟩
  obtain ⟨s1, s2⟩ := al_sal ha
  have kn : S.kids n = [] := (lf_iff wf hn).mp h0
  have kg : (wrap S n a).kids ((S.N : Int) + 1) = [n] := by rw [K, if_pos rfl]
  have pn0 : S.par n ≠ n := fun e => by
    by_cases hz : S.par n = 0
    · have := hn.1; omega
    · have := (hpar hz).2; rw [e, kn] at this; cases this
  have rkg : rkn (rkn rk (S.N + 1) (rk n)) n (rk n - 1) ((S.N : Int) + 1) = rk n := by rw [rkn_ne (Ne.symm hg), rkn_self]
  have rko : ∀ {k : Int}, k ≠ n → k ≠ (S.N : Int) + 1 → rkn (rkn rk (S.N + 1) (rk n)) n (rk n - 1) k = rk k := fun h1 h2 => by rw [rkn_ne h1, rkn_ne h2]
  -- an old window's child that is an old window, not n
  have old : ∀ {k c : Int}, S.Dm k → c ∈ S.kids k → c ≠ n → k ≠ n → (wrap S n a).Dm c ∧ (wrap S n a).par c = k ∧ (wrap S n a).sort c ≠ (wrap S n a).sort k ∧ rkn (rkn rk (S.N + 1) (rk n)) n (rk n - 1) c < rkn (rkn rk (S.N + 1) (rk n)) n (rk n - 1) k := fun {k c} hk hc hcn hkn => by
    obtain ⟨c1, c2, c3, c4⟩ := wf.kd k hk c hc
    refine ⟨(md c1).1, ?_, ?_, ?_⟩
    · rw [PR, if_neg hcn, if_neg (md c1).2]; exact c2
    · rw [w_sort, fs_ne (md c1).2, fs_ne (md hk).2]; exact c3
    · rw [rko hcn (md c1).2, rko hkn (md hk).2]; exact c4
  refine ⟨by rw [w_N]; omega, ?_, ?_, fun k hk => ?_, fun k hk c hc => ?_, fun k hk => ?_, fun k hk hr => ?_, fun k => ?_, fun k hk hs => ?_⟩
  · rw [w_root hn]
    split
    · exact gd
    · exact (md wf.root).1
  · rw [w_root hn, PR]
    by_cases hz : S.par n = 0
    · rw [if_pos hz, if_neg (Ne.symm hg), if_pos rfl]; exact hz
    · rw [if_neg hz, if_neg (fun e => hz (by rw [← e]; exact wf.rp)), if_neg (md wf.root).2]; exact wf.rp
  · rw [w_sort]
    rcases dm hk with hd | rfl
    · rw [fs_ne (md hd).2, K, if_neg (md hd).2]
      by_cases e : S.par n ≠ 0 ∧ k = S.par n
      · rw [if_pos e]
        obtain ⟨p1, p2⟩ := hpar e.1
        right
        rw [e.2]
        rcases wf.so _ p1 with ⟨_, h⟩ | ⟨h, _⟩
        · rw [h] at p2; cases p2
        · refine ⟨h, fun q => ?_⟩
          have h1 := congrArg List.length q
          rw [List.length_set] at h1
          have h2 := List.length_pos_iff.mpr (List.ne_nil_of_mem p2)
          rw [h1] at h2
          exact absurd h2 (Nat.lt_irrefl _)
      · rw [if_neg e]; exact wf.so k hd
    · right; rw [fs_self, kg]; exact ⟨s2, by simp⟩
  · rcases dm hk with hd | rfl
    · rw [K, if_neg (md hd).2] at hc
      by_cases e : S.par n ≠ 0 ∧ k = S.par n
      · rw [if_pos e] at hc
        obtain ⟨p1, p2⟩ := hpar e.1
        have kq := e.2
        have kn' : k ≠ n := fun q => pn0 (kq.symm.trans q)
        rcases set_mem p2 (wf.nd _ p1) hc with rfl | ⟨hc, hcn⟩
        · refine ⟨gd, ?_, ?_, ?_⟩
          · rw [PR, if_neg (Ne.symm hg), if_pos rfl]; exact kq.symm
          · rw [w_sort, fs_self, fs_ne (md hd).2]
            intro q
            refine hneg ⟨e.1, ?_⟩
            rw [← kq, ← q]; exact s1
          · rw [rkg, rko kn' (md hd).2, kq]
            exact (wf.kd _ p1 n p2).2.2.2
        · rw [← kq] at hc
          exact old hd hc hcn kn'
      · rw [if_neg e] at hc
        have hkn : k ≠ n := fun q => by rw [q, kn] at hc; cases hc
        have hcn : c ≠ n := fun q => e (by
          have := (wf.kd k hd c hc).2.1
          rw [q] at this
          exact ⟨by rw [this]; have := hd.1; omega, this.symm⟩)
        exact old hd hc hcn hkn
    · rw [kg] at hc
      rw [List.mem_singleton.mp hc]
      refine ⟨(md hn).1, by rw [PR, if_pos rfl], ?_, ?_⟩
      · rw [w_sort, fs_ne hg, fs_self, h0]; omega
      · rw [rkn_self, rkg]; omega
  · rcases dm hk with hd | rfl
    · rw [K, if_neg (md hd).2]
      by_cases e : S.par n ≠ 0 ∧ k = S.par n
      · rw [if_pos e]
        obtain ⟨p1, p2⟩ := hpar e.1
        refine ((set_perm p2).nodup_iff).mpr (List.nodup_cons.mpr ⟨fun h => ?_, (wf.nd _ p1).erase _⟩)
        exact (md (wf.kd _ p1 _ (List.mem_of_mem_erase h)).1).2 rfl
      · rw [if_neg e]; exact wf.nd k hd
    · rw [kg]; simp
  · rw [w_root hn] at hr
    rw [PR]
    rcases dm hk with hd | rfl
    · by_cases hkn : k = n
      · rw [if_pos hkn]
        exact ⟨gd, by rw [kg, hkn]; exact .head _⟩
      · rw [if_neg hkn, if_neg (md hd).2]
        have hkr : k ≠ S.root := fun q => by
          by_cases hz : S.par n = 0
          · have : n = S.root := by
              by_cases w : n = S.root
              · exact w
              · have := (wf.up n hn w).1.1; omega
            exact hkn (q.trans this.symm)
          · rw [if_neg hz] at hr; exact hr q
        obtain ⟨u1, u2⟩ := wf.up k hd hkr
        refine ⟨(md u1).1, ?_⟩
        rw [K, if_neg (md u1).2]
        by_cases e : S.par n ≠ 0 ∧ S.par k = S.par n
        · rw [if_pos e]
          obtain ⟨p1, p2⟩ := hpar e.1
          rw [e.2] at u2
          exact mem_set2 (wf.nd _ p1) u2 hkn
        · rw [if_neg e]; exact u2
    · rw [if_neg (Ne.symm hg), if_pos rfl]
      have hz : S.par n ≠ 0 := fun hz => by rw [if_pos hz] at hr; exact hr rfl
      obtain ⟨p1, p2⟩ := hpar hz
      refine ⟨(md p1).1, ?_⟩
      rw [K, if_neg (md p1).2, if_pos ⟨hz, rfl⟩]
      exact mem_set1 p2
  · unfold rkn
    split
    · have := wf.rb n; omega
    · split
      · exact wf.rb n
      · exact wf.rb k
  · rw [w_sort] at hs
    rcases dm hk with hd | rfl
    · rw [fs_ne (md hd).2] at hs
      rw [w_buf _ (md hd).2]; exact wf.bf k hd hs
    · rw [fs_self] at hs; omega
theorem cz_wrap (wf : Wf S rk) (cn : Cn S) (hn : S.Dm n) (h0 : S.sort n = 0) (ha : a = 0 ∨ a = 1) : Cz (wrap S n a) ∧ ∀ x, (wrap S n a).Dm x → x ≠ (S.N : Int) + 1 → (wrap S n a).sort x ≠ 0 → 2 ≤ ((wrap S n a).kids x).length := by
  have hg : n ≠ (S.N : Int) + 1 := by have := hn.2; omega
  have hpar : S.par n ≠ 0 → S.Dm (S.par n) ∧ n ∈ S.kids (S.par n) := fun hz => wf.up n hn fun q => hz (by rw [q]; exact wf.rp)
  have hq : S.par n ≠ 0 → S.par n ≠ (S.N : Int) + 1 := fun hz => by have := (hpar hz).1.2; omega
  have K := w_kids (S := S) (a := a) hn hq
  have Z := w_sz (S := S) (n := n) (a := a)
  have dm : ∀ {k : Int}, (wrap S n a).Dm k → S.Dm k ∨ k = (S.N : Int) + 1 := fun {k} h => by
    obtain ⟨a1, b1⟩ := h
    rw [w_N] at b1
    by_cases q : k = (S.N : Int) + 1
    · exact .inr q
    · exact .inl ⟨a1, by omega⟩
  have md : ∀ {k : Int}, S.Dm k → k ≠ (S.N : Int) + 1 := fun {k} h => by have := h.2; omega
  obtain ⟨s1, s2⟩ := al_sal ha
  have kg : (wrap S n a).kids ((S.N : Int) + 1) = [n] := by rw [K, if_pos rfl]
  have Zo : ∀ {c y : Int}, y ≠ (S.N : Int) + 1 → sz (wrap S n a) c y = sz S c y := fun h => by rw [Z, if_neg h]
  have Zg : ∀ {c : Int}, sz (wrap S n a) c ((S.N : Int) + 1) = sz S c n := fun {c} => by rw [Z, if_pos rfl]
  refine ⟨⟨fun x hx hs => ?_, fun x hx hs => ?_, fun x hx hs c hc => ?_, ?_⟩, fun x hx hxg hs => ?_⟩
  · rw [w_sort] at hs
    rcases dm hx with hd | rfl
    · rw [fs_ne (md hd)] at hs
      have := cn.leaf x hd hs
      have e1 := Zo (c := 0) (md hd)
      have e2 := Zo (c := 1) (md hd)
      exact ⟨by show 3 ≤ sz (wrap S n a) 0 x; rw [e1]; exact this.1, by show 2 ≤ sz (wrap S n a) 1 x; rw [e2]; exact this.2⟩
    · rw [fs_self] at hs; omega
  · rw [w_sort] at hs ⊢
    rcases dm hx with hd | rfl
    · rw [fs_ne (md hd)] at hs ⊢
      have ps := cn.sum x hd hs
      rw [Zo (md hd), ← ps, K, if_neg (md hd)]
      by_cases e : S.par n ≠ 0 ∧ x = S.par n
      · rw [if_pos e, ← e.2]
        obtain ⟨p1, p2⟩ := hpar e.1
        rw [← e.2] at p1 p2
        rw [perm_sum ((set_perm p2).map _), List.map_cons, List.sum_cons, Zg]
        have h2 := perm_sum ((List.perm_cons_erase p2).map (sz S (al (S.sort x))))
        rw [List.map_cons, List.sum_cons] at h2
        rw [h2]
        congr 1
        congr 1
        exact List.map_congr_left fun c hc => Zo (md (wf.kd x p1 c (List.mem_of_mem_erase hc)).1)
      · rw [if_neg e]
        congr 1
        exact List.map_congr_left fun c hc => Zo (md (wf.kd x hd c hc).1)
    · rw [fs_self, kg, Zg]
      simp only [List.map_cons, List.map_nil, List.sum_cons, List.sum_nil]
      rw [Zo hg]; omega
  · rw [w_sort] at hs ⊢
    rcases dm hx with hd | rfl
    · rw [fs_ne (md hd)] at hs ⊢
      rw [K, if_neg (md hd)] at hc
      rw [Zo (md hd)]
      by_cases e : S.par n ≠ 0 ∧ x = S.par n
      · rw [if_pos e, ← e.2] at hc
        obtain ⟨p1, p2⟩ := hpar e.1
        rw [← e.2] at p1 p2
        rcases set_mem p2 (wf.nd _ p1) hc with rfl | ⟨hc, _⟩
        · rw [Zg]; exact cn.perp x hd hs n p2
        · rw [Zo (md (wf.kd x p1 c hc).1)]; exact cn.perp x hd hs c hc
      · rw [if_neg e] at hc
        rw [Zo (md (wf.kd x hd c hc).1)]; exact cn.perp x hd hs c hc
    · rw [kg] at hc
      rw [List.mem_singleton.mp hc, Zo hg, Zg]
  · rw [w_root hn]
    have b1 : S.par n = 0 → n = S.root := fun hz => by
      by_cases w : n = S.root
      · exact w
      · have := (wf.up n hn w).1.1; omega
    by_cases hz : S.par n = 0
    · rw [if_pos hz]
      have e1 := Zg (c := 0)
      have e2 := Zg (c := 1)
      have hb := cn.big
      rw [← b1 hz] at hb
      exact ⟨by show sz (wrap S n a) 0 _ ≤ _; rw [e1]; exact hb.1, by show sz (wrap S n a) 1 _ ≤ _; rw [e2]; exact hb.2⟩
    · rw [if_neg hz]
      have e1 := Zo (c := 0) (md wf.root)
      have e2 := Zo (c := 1) (md wf.root)
      exact ⟨by show sz (wrap S n a) 0 _ ≤ _; rw [e1]; exact cn.big.1, by show sz (wrap S n a) 1 _ ≤ _; rw [e2]; exact cn.big.2⟩
  · rw [w_sort] at hs
    rcases dm hx with hd | h
    · rw [fs_ne (md hd)] at hs
      rw [K, if_neg (md hd)]
      by_cases e : S.par n ≠ 0 ∧ x = S.par n
      · rw [if_pos e, List.length_set, ← e.2]; exact cn.two x hd hs
      · rw [if_neg e]; exact cn.two x hd hs
    · exact absurd h hxg
end
end
-- C37
section
theorem Cn.wp {S : St} {p1 p2 : Int → Int} (c : Cn S) : Cn (withp S p1 p2) := ⟨c.leaf, c.sum, c.perp, c.big, c.two⟩
/-- a tree after s splits at most -/
structure Inv (s : Nat) (S : St) (rk : Int → Nat) : Prop where
  wf : Wf S rk
  lo : ∀ k, 20 ≤ rk k + s
  hi : ∀ k, rk k ≤ 20
  cn : Cn S
  N : S.N ≤ 1 + 2 * s
  d1 : S.Dm 1
  s1 : S.sort 1 = 0
section
variable {S : St} {n a : Int} {rk : Int → Nat} {s : Nat}
theorem Inv.mono (x : Inv s S rk) : Inv (s + 1) S rk := ⟨x.wf, fun k => by have := x.lo k; omega, x.hi, x.cn, by have := x.N; omega, x.d1, x.s1⟩
structure CaseF (n a : Int) (P : St) (p : Int) (rk : Int → Nat) : Prop where
  wf : Wf P rk
  dn : P.Dm n
  sn : P.sort n = 0
  pn : P.par n = p
  dp : P.Dm p
  mn : n ∈ P.kids p
  ap : al (P.sort p) = a
  cz : Cz P
  two : ∀ x, P.Dm x → x ≠ p → P.sort x ≠ 0 → 2 ≤ (P.kids x).length
theorem case_facts (x : Inv s S rk) (hs : s ≤ 5) (hn : S.Dm n) (h0 : S.sort n = 0) (ha : a = 0 ∨ a = 1) {P : St} {p : Int} (c : CaseP S n a P p) :
    ∃ rk', CaseF n a P p rk' ∧ (∀ k, 20 ≤ rk' k + (s + 1)) ∧ (∀ k, rk' k ≤ 20) ∧ P.N ≤ 1 + 2 * s + 1 ∧ P.sort 1 = 0 ∧ (∀ c, sz P c n = sz S c n) := by
  have hg : n ≠ (S.N : Int) + 1 := by have := hn.2; omega
  rcases c with ⟨rfl, rfl, hz, hal⟩ | ⟨rfl, rfl, hneg⟩
  · have hr : n ≠ P.root := fun q => hz (by rw [q]; exact x.wf.rp)
    obtain ⟨u1, u2⟩ := x.wf.up n hn hr
    exact ⟨rk, ⟨x.wf, hn, h0, rfl, u1, u2, hal, x.cn.cz, fun y hy _ hs => x.cn.two y hy hs⟩, fun k => by have := x.lo k; omega, x.hi, by have := x.N; omega, x.s1, fun _ => rfl⟩
  · have hN := x.N
    have hlo := x.lo n
    have wfw := wf_wrap x.wf (by walk_at "d") hn h0 ha hneg (by walk_at "d")
    obtain ⟨cz, two⟩ := cz_wrap x.wf x.cn hn h0 ha
    have hpar : S.par n ≠ 0 → S.Dm (S.par n) ∧ n ∈ S.kids (S.par n) := fun hz => x.wf.up n hn fun q => hz (by rw [q]; exact x.wf.rp)
    have hq : S.par n ≠ 0 → S.par n ≠ (S.N : Int) + 1 := fun hz => by have := (hpar hz).1.2; omega
    have kg : (wrap S n a).kids ((S.N : Int) + 1) = [n] := by rw [w_kids hn hq, if_pos rfl]
    have gd : (wrap S n a).Dm ((S.N : Int) + 1) := ⟨by omega, by rw [w_N]; omega⟩
    have d1 := x.d1
    refine ⟨_, ⟨wfw, ⟨hn.1, by have := hn.2; rw [w_N]; omega⟩, by rw [w_sort, fs_ne hg]; exact h0, by rw [w_par hn, if_pos rfl], gd, by rw [kg]; exact .head _, by rw [w_sort, fs_self]; exact (al_sal ha).1, cz, two⟩, fun k => ?_, fun k => ?_, by rw [w_N]; omega, ?_, fun c => by rw [w_sz, if_neg hg]⟩
    · unfold rkn
      split
      · omega
      · split
        · omega
        · have := x.lo k; omega
    · unfold rkn
      have := x.hi n
      split
      · omega
      · split
        · omega
        · exact x.hi k
    · have : (1 : Int) ≠ (S.N : Int) + 1 := by have := d1.2; omega
      rw [w_sort, fs_ne this]; exact x.s1
theorem case_go (x : Inv s S rk) (hs : s ≤ 5) (hn : S.Dm n) (h0 : S.sort n = 0) (ha : a = 0 ∨ a = 1) : ∀ P p, CaseP S n a P p → GoP n a P p := fun P p c => by
  obtain ⟨rk', f, l1, l2, hN, _, hz⟩ := case_facts x hs hn h0 ha c
  refine ⟨⟨rk', f.wf⟩, f.dn, f.sn, f.pn, f.dp, f.mn, fun new i _ => ⟨_, wf_grow f.wf (by walk_at "d") f.dn f.sn f.pn f.dp f.mn⟩, ?_⟩
  rw [hz]
  exact x.cn.le x.wf ha 40 n (by walk_at "d") hn
theorem inv_split (x : Inv s S rk) (hs : s ≤ 5) (hn : S.Dm n) (h0 : S.sort n = 0) (ha : a = 0 ∨ a = 1) {P : St} {p new old : Int} {i : Nat} {p1 p2 : Int → Int} (c : CaseP S n a P p) (hsum : old + new = sz S a n) (ho : leastL a ≤ old) (hw : leastL a ≤ new) :
    ∃ rk', Inv (s + 1) (withp (growZ P n p a new old i) p1 p2) rk' := by
  obtain ⟨rk', f, l1, l2, hN, h1, hz⟩ := case_facts x hs hn h0 ha c
  have wfK := wf_grow (i := i) (a := a) (new := new) f.wf (by walk_at "d") f.dn f.sn f.pn f.dp f.mn
  refine ⟨_, Wf.wp (Wf.wz wfK), fun k => ?_, fun k => ?_, Cn.wp (cn_grow f.wf f.cz f.two f.dn f.sn f.pn f.dp f.mn f.ap (by rw [hz]; exact hsum) ho hw), ?_, ?_, ?_⟩
  · unfold rkn
    split
    · exact l1 n
    · exact l1 k
  · unfold rkn
    split
    · exact l2 n
    · exact l2 k
  · show (growZ P n p a new old i).N ≤ _; rw [gZ_N]; omega
  · have hd := f.dn
    refine ⟨Int.le_refl _, ?_⟩
    show (1 : Int) ≤ ((growZ P n p a new old i).N : Int)
    rw [gZ_N]; omega
  · show (growZ P n p a new old i).sort 1 = 0
    rw [gZ_sort]
    have hd := f.dn
    have : (1 : Int) ≠ (P.N : Int) + 1 := by have h1 := hd.1; have h2 := hd.2; omega
    rw [fs_ne this]; exact h1
theorem inv0 {w h : Int} (hw : 3 ≤ w ∧ w ≤ 1000) (hh : 2 ≤ h ∧ h ≤ 1000) : Inv 0 (St0 w h) (fun _ => 20) := by
  have one : ∀ k : Int, (St0 w h).Dm k → k = 1 := fun k hk => by
    obtain ⟨a, c⟩ := hk
    have : ((St0 w h).N : Int) = 1 := rfl
    omega
  have d1 : (St0 w h).Dm 1 := ⟨Int.le_refl _, Int.le_refl _⟩
  refine ⟨⟨by show 1 ≤ 13; omega, d1, rfl, fun k _ => .inl ⟨rfl, rfl⟩, fun k _ c hc => (by cases hc), fun k _ => List.nodup_nil, fun k hk hr => absurd (one k hk) hr, fun _ => by omega, fun _ _ _ => rfl⟩, fun _ => by omega, fun _ => by omega,
    ⟨fun x _ _ => ⟨hw.1, hh.1⟩, fun x _ h => absurd rfl h, fun x _ h => absurd rfl h, ⟨hw.2, hh.2⟩, fun x _ h => absurd rfl h⟩, by show 1 ≤ 1; omega, d1, rfl⟩
end
end
-- C38
section
section
variable {A : St} {rk : Int → Nat}
theorem fair_uniq (wf : Wf A rk) {w h : Int → Int} (ca : Cn A) (cb : Cn (withw A w h)) (fa : ∀ y, A.Dm y → A.sort y ≠ 0 → Fair A y) (fb : ∀ y, A.Dm y → A.sort y ≠ 0 → Fair (withw A w h) y) (hw : w A.root = A.w A.root) (hh : h A.root = A.h A.root) :
    ∀ (k : Nat) (y : Int), 40 ≤ k + rk y → A.Dm y → ∀ c, c = 0 ∨ c = 1 → sz (withw A w h) c y = sz A c y := by
  have root : ∀ c, c = 0 ∨ c = 1 → sz (withw A w h) c A.root = sz A c A.root := fun c hc => by
    rcases hc with rfl | rfl
    · exact hw
    · exact hh
  have step : ∀ p, A.Dm p → (∀ c, c = 0 ∨ c = 1 → sz (withw A w h) c p = sz A c p) → ∀ y ∈ A.kids p, ∀ c, c = 0 ∨ c = 1 → sz (withw A w h) c y = sz A c y := fun p hp ih y hy c hc => by
    have h0 : A.sort p ≠ 0 := fun e => by rw [(lf_iff wf hp).mp e] at hy; cases hy
    have a01 : al (A.sort p) = 0 ∨ al (A.sort p) = 1 := al01
    by_cases e : c = al (A.sort p)
    · subst e
      have f1 : (A.kids p).map (sz A (al (A.sort p))) = sharesF (sz A (al (A.sort p)) p) (wts A (al (A.sort p)) p) (zeros A p) := fa p hp h0
      have f2 : (A.kids p).map (sz (withw A w h) (al (A.sort p))) = sharesF (sz (withw A w h) (al (A.sort p)) p) (wts A (al (A.sort p)) p) (zeros A p) := fb p hp h0
      rw [ih _ a01, ← f1] at f2
      exact List.map_inj_left.mp f2 y hy
    · have ec : c = 1 - al (A.sort p) := by rcases hc with rfl | rfl <;> rcases a01 with q | q <;> omega
      rw [ec]
      have p1 := ca.perp p hp h0 y hy
      have p2 : sz (withw A w h) (1 - al (A.sort p)) y = sz (withw A w h) (1 - al (A.sort p)) p := cb.perp p hp h0 y hy
      rw [p1, p2]
      exact ih _ (by walk_at "d")
  intro k
  induction k with
  | zero =>
    intro y hk hy
    by_cases q : y = A.root
    · rw [q]; exact root
    · have hu := wf.up y hy q
      have := (wf.kd _ hu.1 y hu.2).2.2.2
      have := wf.rb (A.par y)
      omega
  | succ k ih =>
    intro y hk hy
    by_cases q : y = A.root
    · rw [q]; exact root
    · have hu := wf.up y hy q
      have := (wf.kd _ hu.1 y hu.2).2.2.2
      exact step _ hu.1 (ih (A.par y) (by walk_at "d") hu.1) y hu.2
theorem nd_same (wf : Wf A rk) {w h p1 p2 : Int → Int} (e : ∀ y, A.Dm y → w y = A.w y ∧ h y = A.h y) : ∀ y, A.Dm y → nd (withp (withw A w h) p1 p2) y = nd A y := by
  have wf2 : Wf (withp (withw A w h) p1 p2) rk := wf.ww.wp
  refine wf.ind fun y hy ih => ?_
  rw [nd_eq wf2 hy, nd_eq wf hy]
  show (if A.sort y = 0 then AV.tup [.int y, .int (w y), .int (h y), _, _, _, _, _] else AV.tup [.int y, .int (A.sort y), .int (w y), .int (h y), .tup ((A.kids y).map (nd (withp (withw A w h) p1 p2)))]) = _
  have em : (A.kids y).map (nd (withp (withw A w h) p1 p2)) = (A.kids y).map (nd A) := List.map_congr_left ih
  rw [(e y hy).1, (e y hy).2, em]
theorem conf_same (wf : Wf A rk) {w h p1 p2 : Int → Int} (ca : Cn A) (cb : Cn (withw A w h)) (fa : ∀ y, A.Dm y → A.sort y ≠ 0 → Fair A y) (fb : ∀ y, A.Dm y → A.sort y ≠ 0 → Fair (withw A w h) y) (hw : w A.root = A.w A.root) (hh : h A.root = A.h A.root) :
    conf (withp (withw A w h) p1 p2) = conf A := by
  have u := fair_uniq wf ca cb fa fb hw hh 40
  have e : ∀ y, A.Dm y → w y = A.w y ∧ h y = A.h y := fun y hy => ⟨u y (by walk_at "d") hy 0 (.inl rfl), u y (by walk_at "d") hy 1 (.inr rfl)⟩
  unfold conf
  have e1 : nd (withp (withw A w h) p1 p2) (withp (withw A w h) p1 p2).root = nd A A.root := nd_same wf e _ wf.root
  rw [e1]
  show AV.tup [.tup [.int (w A.root), .int (h A.root)], _, _] = _
  rw [hw, hh]
theorem conf_ok (wf : Wf A rk) (hr : rk A.root ≤ 20) : AV.okd 60 (conf A) = true := by
  have h1 := okd_mono (show 2 * rk A.root + 2 ≤ 58 by omega) (nd_ok wf A.root wf.root)
  show AV.okds 59 _ = true
  refine okds_of fun a ha => ?_
  simp only [List.mem_cons, List.not_mem_nil, or_false] at ha
  rcases ha with rfl | rfl | rfl
  · rfl
  · exact okd_mono (by walk_at "d") h1
  · rfl
end
end
-- C39
section
/-- one call deeper, the frames known -/
noncomputable def Bd.dt (b : Bd) : Bd := ⟨b.n - 1, b.P, fun l => ∃ e l', l = e :: l' ∧ b.F l'⟩
theorem Bd.dt_n {b : Bd} : b.dt.n = b.n - 1 := rfl
section
variable {b : Bd} {sc : Scope} {m : Vars} {H : AH}
/-- a loop over range(n) -/
inductive Range1P (b : Bd) (sc : Scope) (body : List Stmt) (x : PySem.Str) (m : Vars) (Q : Fl → Vars → AH → Prop) (a1 : AV) (H3 : AH) : Prop
  | mk (n : Nat) : a1 = .int n → n < 2 ^ 62 → (J : Nat → Vars → AH → Prop) → J 0 m H3 →
    (∀ i m1 H4, i < n → J i m1 H4 → EX b sc body (up m1 x (.int (i : Nat))) H4 (LX (J (i + 1)) Q) NoXV) → (∀ m1 H4, J n m1 H4 → Q .next m1 H4) → Range1P b sc body x m Q a1 H3
theorem ES_for_range1 {x : PySem.Str} {px np zp pos : Pos} {e1 : Expr} {body : List Stmt} {Q : Fl → Vars → AH → Prop} {X : Vars → AH → Prop} (hx : sc.names.lookup x = some .local) (hn : sc.names.lookup ("range" : PySem.Str) = some .globalImplicit)
    (h : EV b sc e1 m H (Range1P b sc body x m Q) NoX)
    (he : ∀ env, eval (.Call (.Name "range" np) [e1] [] zp) env = (do callWith zp (← eval (.Name "range" np) env) [] (backTo zp (starEach [e1] env)) (backToKw zp (keywordEach [] env))) := by intro _; rfl)
    (hs : ∀ env, starEach [e1] env = (false, eval e1 env) :: starEach [] env := by intro _; rfl)
    (hf : ∀ env v, foldedSetIterable (.Call (.Name "range" np) [e1] [] zp) env v = pure v := by intro _ _; rfl) :
    ES b sc (.For (.Name x px) (.Call (.Name "range" np) [e1] [] zp) body [] pos) m H Q X := by
  refine ES_for (TBp_name (P := fun _ => True) hx) (IT_range1 (EV_bi hn (fun _ => by kernel_rfl) (by decide +kernel) (by decide) ⟨rfl, h.mono (fun a1 H3 z => ?_) fun _ x => x⟩) he hs) hf
  obtain ⟨n, rfl, hn, J, j0, turn, fin⟩ := z
  refine ⟨n, rfl, hn, fun _ _ => trivial, J, j0, fun i v m1 H4 e hj _ => ?_, fun m1 H4 hj => fin m1 H4 ?_⟩
  · obtain ⟨hi, rfl⟩ := rangeA_get e
    rw [Int.zero_add]
    exact (turn i m1 H4 hi hj).mono (fun fl m2 H5 z => by
      cases fl with
      | next => exact ⟨trivial, z⟩
      | ret r => exact z) fun _ _ x => x
  · have : (rangeA 0 n).length = n := by unfold rangeA; simp
    rwa [this] at hj
end
/-- the law's own state -/
structure LJ (D D0 : Nat) (cs : List Int) (s : Nat) (T : Nat) (H : AH) (Λ : La) (S : St) (rk : Int → Nat) (k : Int) : Prop where
  r : Rep Λ S H
  inv : Inv s S rk
  dk : Dk H D D0 cs k
  k0 : 0 ≤ k
  k1 : k ≤ 10 + 5 * s
  lD : D < H.n
  lD0 : D0 < H.n
  oD : Ofw Λ S.N D
  oD0 : Ofw Λ S.N D0
  T : Λ.T = T
theorem LJ.ext {D D0 : Nat} {cs : List Int} {s T : Nat} {H H' : AH} {Λ : La} {S : St} {rk : Int → Nat} {k : Int} (x : LJ D D0 cs s T H Λ S rk k) (e : Ext H H') : LJ D D0 cs s T H' Λ S rk k :=
  ⟨x.r.ext e, x.inv, ⟨(e.f _ x.lD).trans x.dk.d, (e.f _ x.lD0).trans x.dk.c, x.dk.ne, x.dk.l⟩, x.k0, x.k1, Nat.lt_of_lt_of_le x.lD e.le, Nat.lt_of_lt_of_le x.lD0 e.le, x.oD, x.oD0, x.T⟩
theorem Rep.off {Λ : La} {S : St} {H : AH} {i : Nat} {o : AO} (x : Rep Λ S H) (h : Ofw Λ S.N i) : Rep Λ S (H.set i o) :=
  ⟨x.bT, x.bW, (st_ne h.1.symm).trans x.fT, (st_ne h.2.1.symm).trans x.fW, x.bw, x.bc, x.be, x.bl,
    fun k hk => (st_ne (h.2.2 k hk).1.symm).trans (x.fw k hk), fun k hk => (st_ne (h.2.2 k hk).2.1.symm).trans (x.fc k hk), fun k hk => (st_ne (h.2.2 k hk).2.2.1.symm).trans (x.fe k hk), fun k hk => (st_ne (h.2.2 k hk).2.2.2.symm).trans (x.fl k hk), x.ij, x.ce⟩
/-- a draw turns the deck alone -/
theorem LJ.draw {D D0 : Nat} {cs : List Int} {s T : Nat} {H : AH} {Λ : La} {S : St} {rk : Int → Nat} {k : Int} (x : LJ D D0 cs s T H Λ S rk k) : Rep Λ S (H.set D (.list [.ref D0, .int (k + 1)])) ∧ Dk (H.set D (.list [.ref D0, .int (k + 1)])) D D0 cs (k + 1) :=
  ⟨x.r.off x.oD, ⟨st_self, (st_ne x.dk.ne).trans x.dk.c, x.dk.ne, x.dk.l⟩⟩
end
-- D1
section
/-- a call from the outermost caller: no frame stands, the abstract heap is empty -/
noncomputable def CT (b : Bd) (f : Value) (args : List AV) (H : AH) (Q : AV → AH → Prop) : Prop :=
  ∀ (w : World) (A : Around) (p : Program) (loose : List PySem.Str) (mg mb : PySem.Str → Option Value) (s : Shared) (α δ : Nat → Addr) (vs : List Value) (R : Result → Shared → Prop),
    H.n = 0 → b.P s.heap → b.F [] → A.handled = none → A.frames = some [] → A.depth + b.n ≤ 900 → A.units + 8 * b.n ≤ 9000 →
    (hd.heap_1 w.params).In s.heap → TopRead p loose mg mb s.heap → VRs [] s.heap H.n α vs args →
    (∀ v a s' H' α' δ', Step [] H.n H'.n α δ α' δ' s s' → VR [] s'.heap H'.n α' v a → Q a H' → R (.ok (.ret v)) s') →
    codeAny (model pg w) A (.call f ⟨vs, []⟩) R s

theorem CT_def {b : Bd} {H : AH} {Q : AV → AH → Prop} {f : Addr} {fd : FuncData} {oc : Value} {od : Option Addr} {osl : Array (Option Value)} {body : List Stmt} {names : List PySem.Str} {args : List AV}
    (hK : ∀ P, (hd.heap_1 P).lookup f = some ⟨oc, od, .func fd, osl⟩) (hcd : ∀ P, codeIn (hd.heap_1 P) fd.code fd.qualname = true)
    (hb : fd.body = .stmts body) (hg : fd.globals = mainGlobals) (hbi : fd.builtins = builtinsNs) (hclo : fd.closure = [])
    (hbind : ∀ (P : Params) (s : Shared) (vs : List Value), vs.length = args.length → (hd.heap_1 P).In s.heap → BindsTo s fd ⟨vs, []⟩ (names.zip vs))
    (hkind : ∀ x ∈ names, fd.scope.names.lookup x = some .local ∨ fd.scope.names.lookup x = some .cell)
    (hb1 : 1 ≤ b.n) (h : EX b.dt fd.scope body (bindV names args v0) H (fun fl _ H' => Q (retOf fl) H') (fun _ H' => NoX H'))
    (hco : fd.scope.isCoroutine = false := by rfl) (hgen : fd.scope.isGenerator = false := by rfl) (hk : fd.scope.kind = .function := by rfl) : CT b (.ref f) args H Q := by
  intro w A pp loose mg mb s α δ vs R hn pb fb hh hf dp un KI T r q
  have noi : ∀ {i : Nat}, ¬ i < H.n := fun h => by rw [hn] at h; exact absurd h (Nat.not_lt_zero _)
  refine (call_cellsB (fd := fd) (vals := vs) (binds := names.zip vs) (by show _ < 1000; omega) (KI _ _ (hK _)) rfl T.nolimit (codeRec_of KI (hcd _)) hb (hbind _ s vs r.length KI) hclo ?_ (fun s₁ I => ?_) hco hgen hk)
  · intro x hx
    have hx' : x.1 ∈ names := (List.of_mem_zip (a := x.1) (b := x.2) hx).1
    rcases hkind _ hx' with k | k
    · exact .inl k
    · exact .inr ⟨k, cellsFrom_some _ _ _ (.inl k)⟩
  · obtain ⟨h₁, tk, rfl, hkeep⟩ := I.done
    have ns₁ := I.toInCall.ns
    generalize henv : callEnvC fd s.heap.objs.size f = env at *
    have eL : env.locals = s.heap.objs.size := by rw [← henv]; rfl
    have eF : env.frame = some s.heap.objs.size := by rw [← henv]; rfl
    have eS : env.scope = fd.scope := by rw [← henv]; rfl
    have cab : ∀ x a, env.cells.lookup x = some a → s.heap.objs.size < a := fun x a e => eL ▸ I.above x a (mem_of_lookup e)
    have none_ge : ∀ a, s.heap.objs.size ≤ a → s.heap.get? a = none := fun a ha => none_of_le ha
    let c' : Cx := { w := w, A := A.deeper env, env := env, fs := [env], base := s.heap, p := pp, loose := loose, mg := mg, mb := mb, bad := [] }
    have ok' : c'.Ok b.dt := by
      refine ⟨pb, ⟨_, _, rfl, fb⟩, hh, ?_, ?_, ?_, by rw [eS]; exact hk, by show env.globals = _; rw [← henv]; exact hg, by show env.builtins = _; rw [← henv]; exact hbi, KI, T, fun x hx => ?_, fun x y a e1 e2 => ?_⟩
      · show A.frames.map (env :: ·) = _; rw [hf]; rfl
      · show A.depth + 1 + (b.n - 1) ≤ 900; omega
      · show A.units + 3 + 8 * (b.n - 1) ≤ 9000; omega
      · have : fd.scope.names.lookup x = some .cell := by rw [← eS]; exact hx
        have := cellsFrom_some fd.scope.names (s.heap.objs.size + 1) [] (.inl this)
        obtain ⟨a, ha⟩ := Option.isSome_iff_exists.mp this
        exact ⟨a, by show env.cells.lookup x = _; rw [← henv]; exact ha⟩
      · exact name_of_addr I.apart (mem_of_lookup e1) (mem_of_lookup e2)
    have atc : At c' { s with heap := h₁, toks := tk } (bindL env.kindOf (names.zip vs) fun _ => none) (bindC env.kindOf (names.zip vs) fun _ => none) H α δ := by
      refine ⟨⟨fun i hi => absurd hi noi, fun i j hi => absurd hi noi, fun i hi => absurd hi noi⟩, ns₁, fun a o e => hkeep a o e, none_ge _ (by show _ ≤ env.locals; rw [eL]; exact Nat.le_refl _), fun x a e => ⟨I.cell x a e, none_ge a (Nat.le_of_lt (cab x a e))⟩,
        Heap.FunFrames.cons (by rw [eS, hk]; decide) eF (eL ▸ ns₁) (none_ge _ (Nat.le_refl _)) trivial,
        fun i hi => absurd hi noi, fun i hi => absurd hi noi, fun p hp => nomatch hp⟩
    have st₀ : Step [] H.n H.n α δ α δ s { s with heap := h₁, toks := tk } := Step.more ⟨_, _, rfl⟩ hkeep
    have nm' : NmR c' h₁ (bindL env.kindOf (names.zip vs) fun _ => none) (bindC env.kindOf (names.zip vs) fun _ => none) H.n α (bindV names args v0) := by
      intro x a e
      rcases bindV_nm (kind := env.kindOf) (st₀.vrs r) (fun x hx => by unfold Env.kindOf; rw [eS]; exact hkind x hx) (fun x a e => (by cases e)) x a e with z | ⟨k, v, e1, e2⟩
      · exact .inl z
      · obtain ⟨ad, had⟩ := ok'.lk x k
        exact .inr ⟨.inl k, ad, v, had, e1, e2⟩
    have gone : ∀ (s' : Shared) (H' : AH) (α' δ' : Nat → Addr), StepX c' H.n H'.n α δ α' δ' { s with heap := h₁, toks := tk } s' → Step [] H.n H'.n α δ α' δ' s s' := fun s' H' α' δ' st =>
      ⟨st₀.sh.trans st.sh, st.gr, fun a o e => st.pr a o (hkeep a o e), fun a o e z => st.kp a o (hkeep a o e) z (by show a ≠ env.locals; rw [eL]; exact Nat.ne_of_lt (Heap.lt_size e)) (fun x y => absurd (Heap.lt_size e) (Nat.not_lt.mpr (Nat.le_of_lt (cab x a y)))),
        fun i hi hn => none_back st₀.pr (st.nw i hi hn), fun p us z t => st.tu p us z (t.keeps hkeep)⟩
    refine h c' _ _ _ α δ _ _ ok' eS ⟨[], rfl⟩ (by show env.frame = some env.locals; rw [eF, eL]) atc nm' (fun fl w s' lm' cm' m' H' α' δ' st at2 nm2 fr qq => ?_) (fun e s' lm' cm' m' H' α' δ' ex at2 nm2 x' => absurd x' id)
    have stp := gone s' H' α' δ' st
    cases fr with
    | next => exact q _ _ _ _ _ _ stp .none qq
    | ret r => exact q _ _ _ _ _ _ stp r qq
end
-- D2
section
theorem LJ.dr {D D0 : Nat} {cs : List Int} {s T : Nat} {H : AH} {Λ : La} {S : St} {rk : Int → Nat} {k : Int} (x : LJ D D0 cs s T H Λ S rk k) (h : k + 1 ≤ 10 + 5 * s) : LJ D D0 cs s T (H.set D (.list [.ref D0, .int (k + 1)])) Λ S rk (k + 1) :=
  ⟨x.draw.1, x.inv, x.draw.2, by have := x.k0; omega, h, x.lD, x.lD0, x.oD, x.oD0, x.T⟩
theorem lvs_facts {S : St} {rk : Int → Nat} {s : Nat} (x : Inv s S rk) : 0 < (lvs S S.root).length ∧ (lvs S S.root).length ≤ 13 ∧ ∀ y ∈ lvs S S.root, S.Dm y ∧ S.sort y = 0 := by
  refine ⟨List.length_pos_iff.mpr (List.ne_nil_of_mem (a := 1) ?_), Nat.le_trans (List.length_filter_le _ _) (pre_len x.wf x.wf.root), fun y hy => ?_⟩
  · unfold lvs
    rw [List.mem_filter]
    exact ⟨all_pre x.wf 40 1 (by walk_at "d") x.d1, by rw [x.s1]; rfl⟩
  · unfold lvs at hy
    rw [List.mem_filter] at hy
    exact ⟨(pre_dm x.wf _ _ (Nat.le_refl _) x.wf.root y hy.1).1, by simpa using hy.2⟩
section
variable {b : Bd} {H : AH} {X : AH → Prop}
inductive JD (D D0 : Nat) (cs : List Int) (T : Nat) (i : Nat) (m : Vars) (H : AH) : Prop
  | mk : m "deck" = some (.ref D) → m "tree" = some (.ref T) → (Λ : La) → (S : St) → (rk : Int → Nat) → (k : Int) → LJ D D0 cs i T H Λ S rk k → k ≤ 3 + 4 * (i : Int) → JD D D0 cs T i m H
set_option maxHeartbeats 8000000 in
theorem c_law {a0 : Addr} {ns : List Int} (hb : 60 ≤ b.n) (hP : ∀ h, b.P h → ∃ vs : List Value, h.IsList a0 vs.toArray ∧ IntsAre vs ns) (hlen : ns.length ≤ 63) (hF : ∀ l, b.F l → l = []) : CT b (.ref 323) [.gl (.ref a0)] H (fun a _ => a = .bool true) := by
  refine CT_def (names := ["script"]) (fun _ => by with_unfolding_all rfl) (fun _ => by kernel_rfl) rfl rfl rfl rfl (by intro P s vs e KI; exact len1 (P := fun vs => BindsTo s _ ⟨vs, []⟩ (List.zip _ vs)) (fun _ => BindsTo.of_eq rfl) vs e) (by decide) (by walk_at "d") ?_
  have hb1 : 59 ≤ b.dt.n := by rw [Bd.dt_n]; omega
  have hP1 : ∀ h, b.dt.P h → ∃ vs : List Value, h.IsList a0 vs.toArray ∧ IntsAre vs ns := hP
  have hF1 : ∀ l, b.dt.F l → ∃ e, l = [e] := fun l ⟨e, l', h1, h2⟩ => ⟨e, by rw [h1, hF _ h2]⟩
  generalize b.dt = bb at *
  generalize hsc : FuncData.scope _ = sc
  replace hsc := hsc.symm
  repeat walk_at "w"
  refine EV_comp_map (by walk_at "co") (by walk_at "k") ?_
  refine EV_upto (n := 63) (ns := ns) ?_ hP1 (by walk_at "d")
  repeat walk_at "w"
  refine ⟨rfl, ?_⟩
  repeat walk_at "w"
  refine ⟨rfl, by decide, ?_⟩
  refine ⟨_, _, rfl, al_self, Nat.lt_succ_self _, by rw [List.length_take]; omega, fun c => .int (c.natAbs : Nat), fun c hc H2 e2 => ?_, fun H2 e2 => ?_⟩
  · repeat walk_at "w"
    exact CL_abs ⟨rfl, Ext.refl⟩
  have em : (ns.take 63).map (fun c => AV.int (c.natAbs : Nat)) = iL ((ns.take 63).map fun c => ((c.natAbs : Nat) : Int)) := by unfold iL; rw [List.map_map]; rfl
  rw [em]
  have hcl : ((ns.take 63).map fun c => ((c.natAbs : Nat) : Int)).length ≤ 63 := by rw [List.length_map, List.length_take]; omega
  generalize (ns.take 63).map (fun c => ((c.natAbs : Nat) : Int)) = cs at *
  repeat walk_at "w"
  refine ⟨by simp, ?_⟩
  have dk0 : Dk ((H2.alloc (.list (iL cs))).alloc (.list [.ref H2.n, .int 0])) (H2.n + 1) H2.n cs 0 := ⟨al_self, (al_lt (Nat.lt_succ_self _)).trans al_self, by omega, hcl⟩
  have lt0 : H2.n + 1 < ((H2.alloc (.list (iL cs))).alloc (.list [.ref H2.n, .int 0])).n := Nat.lt_succ_self _
  show TA _ _ _ (.ref (H2.n + 1)) _ ((H2.alloc (.list (iL cs))).alloc (.list [.ref H2.n, .int 0])) _ _
  have ltD0 : H2.n < ((H2.alloc (.list (iL cs))).alloc (.list [.ref H2.n, .int 0])).n := Nat.lt_succ_of_lt (Nat.lt_succ_self _)
  revert dk0 lt0 ltD0
  generalize (H2.alloc (.list (iL cs))).alloc (.list [.ref H2.n, .int 0]) = H3
  generalize H2.n + 1 = D
  generalize H2.n = D0
  intro dk0 lt0 ltD0
  have dkset : ∀ {H' : AH} {k : Int}, Dk H' D D0 cs k → Dk (H'.set D (.list [.ref D0, .int (k + 1)])) D D0 cs (k + 1) := fun d => ⟨st_self, (st_ne d.ne).trans d.c, d.ne, d.l⟩
  have hDn : D0 ≠ D := dk0.ne
  repeat walk_at "w"
  refine c_law_draw dk0 (by walk_at "d") (by walk_at "d") (by walk_at "d") (by walk_at "d") fun v1 v10 v11 => ?_
  have dk1 := dkset dk0
  have lt1 : D < (H3.set D (.list [.ref D0, .int (0 + 1)])).n := lt0
  have lt1' : D0 < (H3.set D (.list [.ref D0, .int (0 + 1)])).n := ltD0
  revert dk1 lt1 lt1'
  generalize H3.set D (.list [.ref D0, .int (0 + 1)]) = H4
  intro dk1 lt1 lt1'
  repeat walk_at "w"
  refine c_law_draw dk1 (by walk_at "d") (by walk_at "d") (by walk_at "d") (by walk_at "d") fun v2 v20 v21 => ?_
  have dk2 := dkset dk1
  have lt2 : D < (H4.set D (.list [.ref D0, .int (0 + 1 + 1)])).n := lt1
  have lt2' : D0 < (H4.set D (.list [.ref D0, .int (0 + 1 + 1)])).n := lt1'
  revert dk2 lt2 lt2'
  generalize H4.set D (.list [.ref D0, .int (0 + 1 + 1)]) = H5
  intro dk2 lt2 lt2'
  repeat walk_at "w"
  refine c_WindowTree (by walk_at "d") fun H6 r6 e6 => ?_
  have j6 : LJ D D0 cs 0 H5.n H6 (La0 H5.n) (St0 (70 + v1) (50 + v2)) (fun _ => 20) (0 + 1 + 1) := by
    refine ⟨r6, inv0 (by walk_at "d") (by walk_at "d"), ⟨(e6.f _ lt2).trans dk2.d, (e6.f _ lt2').trans dk2.c, dk2.ne, dk2.l⟩, by omega, by omega, Nat.lt_of_lt_of_le lt2 e6.le, Nat.lt_of_lt_of_le lt2' e6.le, ?_, ?_, rfl⟩
    · refine ⟨by show D ≠ H5.n; omega, by show D ≠ H5.n + 1; omega, fun k _ => ⟨by show D ≠ H5.n + 2; omega, by show D ≠ H5.n + 3; omega, by show D ≠ H5.n + 4; omega, by show D ≠ H5.n + 5; omega⟩⟩
    · refine ⟨by show D0 ≠ H5.n; omega, by show D0 ≠ H5.n + 1; omega, fun k _ => ⟨by show D0 ≠ H5.n + 2; omega, by show D0 ≠ H5.n + 3; omega, by show D0 ≠ H5.n + 4; omega, by show D0 ≠ H5.n + 5; omega⟩⟩
  generalize H5.n = T at *
  walk_at "w"
  walk_at "w"
  walk_at "w"
  refine ES_for_range1 (by walk_at "k") (by walk_at "k") ?_
  repeat walk_at "w"
  refine c_law_draw j6.dk (by walk_at "d") (by walk_at "d") (by walk_at "d") (by walk_at "d") fun v3 v30 v31 => ?_
  have j7 := j6.dr (by walk_at "d")
  revert j7
  generalize H6.set D (.list [.ref D0, .int (0 + 1 + 1 + 1)]) = H7
  intro j7
  repeat walk_at "w"
  refine ⟨(1 + v3).toNat, by congr 1; omega, by omega, JD D D0 cs T, ⟨by walk_at "v", by walk_at "v", _, _, _, _, j7, by omega⟩, ?_, ?_⟩
  · rintro i m1 H8 hi ⟨m1d, m1t, Λ, S, rk, k, x, hk⟩
    have hi5 : i ≤ 5 := by omega
    have eT := x.T
    have inv := x.inv
    obtain ⟨lv1, lv2, lv3⟩ := lvs_facts inv
    rw [← eT] at m1t
    repeat walk_at "w"
    refine c_leaves inv.wf x.r (by walk_at "d") fun H9 r e9 g1 g2 f9 => ?_
    have x9 := x.ext e9
    walk_at "w"
    walk_at "w"
    walk_at "w"
    refine ES_swap (by walk_at "k") (by walk_at "k") ?_ (by intro _ _; rfl) (by walk_at "sw")
    repeat walk_at "w"
    refine CL_len f9 (by rw [iL_len]; omega) ?_
    rw [iL_len]
    repeat walk_at "w"
    have rD : r ≠ D := by have := x.lD; omega
    refine c_law_draw x9.dk x9.k0 (by have := x9.k1; omega) (by walk_at "d") (by walk_at "d") fun w1 w10 w11 => ?_
    have x10 := x9.dr (by walk_at "d")
    have f10 : (H9.set D (.list [.ref D0, .int (k + 1)])).f r = .list (iL (lvs S S.root)) := (st_ne rD).trans f9
    have g10 : r < (H9.set D (.list [.ref D0, .int (k + 1)])).n := g2
    revert x10 f10 g10
    generalize H9.set D (.list [.ref D0, .int (k + 1)]) = H10
    intro x10 f10 g10
    have hw : w1.toNat < (lvs S S.root).length := by omega
    have ym : (lvs S S.root)[w1.toNat] ∈ lvs S S.root := List.getElem_mem hw
    obtain ⟨yd, y0⟩ := lv3 _ ym
    refine SB_list (a := .int (lvs S S.root)[w1.toNat]) f10 w10 (by walk_at "d") (by unfold iL; rw [List.getElem?_map, List.getElem?_eq_getElem hw]; rfl) ?_
    generalize (lvs S S.root)[w1.toNat] = y at *
    repeat walk_at "w"
    refine ⟨by simp, ?_⟩
    have x11 := x10.ext (Ext.refl.alloc (o := .list [.int 1, .int 0]))
    have f11 : (H10.alloc (.list [.int 1, .int 0])).f H10.n = .list [.int 1, .int 0] := al_self
    have g11 : H10.n < (H10.alloc (.list [.int 1, .int 0])).n := Nat.lt_succ_self _
    have n11 : H10.n ≠ D := by have := x10.lD; omega
    revert x11 f11 g11
    generalize H10.alloc (.list [.int 1, .int 0]) = H11
    intro x11 f11 g11
    repeat walk_at "w"
    refine c_law_draw x11.dk x11.k0 (by have := x11.k1; omega) (by walk_at "d") (by walk_at "d") fun w2 w20 w21 => ?_
    have x12 := x11.dr (by walk_at "d")
    have f12 : (H11.set D (.list [.ref D0, .int (k + 1 + 1)])).f H10.n = .list [.int 1, .int 0] := (st_ne n11).trans f11
    revert x12 f12
    generalize H11.set D (.list [.ref D0, .int (k + 1 + 1)]) = H12
    intro x12 f12
    refine SB_list (a := .int (1 - w2)) f12 w20 (by walk_at "d") (by
      have : w2 = 0 ∨ w2 = 1 := by omega
      rcases this with rfl | rfl <;> rfl) ?_
    repeat walk_at "w"
    refine ⟨by simp, ?_⟩
    refine ⟨_, _, rfl, ?_⟩
    have ax : (1 - w2) = 0 ∨ (1 - w2) = 1 := by omega
    generalize 1 - w2 = a at *
    repeat walk_at "w"
    refine ⟨by simp, ?_⟩
    have x13 := x12.ext (Ext.refl.alloc (o := .list [.none, .int 4, .int (-5), .int 9]))
    have f13 : (H12.alloc (.list [.none, .int 4, .int (-5), .int 9])).f H12.n = .list [.none, .int 4, .int (-5), .int 9] := al_self
    have n13 : H12.n ≠ D := by have := x12.lD; omega
    revert x13 f13
    generalize H12.alloc (.list [.none, .int 4, .int (-5), .int 9]) = H13
    intro x13 f13
    repeat walk_at "w"
    refine c_law_draw x13.dk x13.k0 (by have := x13.k1; omega) (by walk_at "d") (by walk_at "d") fun w3 w30 w31 => ?_
    have x14 := x13.dr (by walk_at "d")
    have f14 : (H13.set D (.list [.ref D0, .int (k + 1 + 1 + 1)])).f H12.n = .list [.none, .int 4, .int (-5), .int 9] := (st_ne n13).trans f13
    revert x14 f14
    generalize H13.set D (.list [.ref D0, .int (k + 1 + 1 + 1)]) = H14
    intro x14 f14
    have sv : ∃ sv : AV, [AV.none, .int 4, .int (-5), .int 9][w3.toNat]? = some sv ∧ (sv = .none ∨ ∃ k, sv = .int k) := by
      have : w3 = 0 ∨ w3 = 1 ∨ w3 = 2 ∨ w3 = 3 := by omega
      rcases this with rfl | rfl | rfl | rfl
      · exact ⟨_, rfl, .inl rfl⟩
      · exact ⟨_, rfl, .inr ⟨_, rfl⟩⟩
      · exact ⟨_, rfl, .inr ⟨_, rfl⟩⟩
      · exact ⟨_, rfl, .inr ⟨_, rfl⟩⟩
    obtain ⟨sv, sv1, sv2⟩ := sv
    refine SB_list f14 w30 (by walk_at "d") sv1 ?_
    walk_at "w"
    walk_at "w"
    walk_at "w"
    refine ES_try hF1 (by walk_at "k") ?_
    repeat walk_at "w"
    refine c_law_draw x14.dk x14.k0 (by have := x14.k1; omega) (by walk_at "d") (by walk_at "d") fun w4 w40 w41 => ?_
    have x15 := x14.dr (by walk_at "d")
    revert x15
    generalize H14.set D (.list [.ref D0, .int (k + 1 + 1 + 1 + 1)]) = H15
    intro x15
    repeat walk_at "w"
    have hwf := inv.wf
    refine c_split (rk := rk) hwf x15.r yd y0 ax sv2 (by have := inv.N; omega) (case_go inv hi5 yd y0 ax) (by walk_at "d") (fun H' ex => ?_) fun H' Λ' P p new old ii p1 p2 cP hii hsum ho hnw r' mv' eT' => ?_
    · repeat walk_at "w"
      refine ⟨by walk_at "v", by rw [← eT]; walk_at "v", Λ, S, rk, k + 1 + 1 + 1 + 1, ?_, ?_⟩
      · have y15 := x15.ext ex
        exact ⟨y15.r, y15.inv.mono, y15.dk, y15.k0, by have := y15.k1; push_cast; omega, y15.lD, y15.lD0, y15.oD, y15.oD0, y15.T⟩
      · push_cast; omega
    · obtain ⟨rk', inv'⟩ := inv_split (p1 := p1) (p2 := p2) inv hi5 yd y0 ax cP hsum ho hnw
      repeat walk_at "w"
      refine ⟨by walk_at "v", by rw [← eT]; walk_at "v", Λ', _, rk', k + 1 + 1 + 1 + 1, ⟨r', inv', ?_, x15.k0, by have := x15.k1; push_cast; omega, Nat.lt_of_lt_of_le x15.lD mv'.le, Nat.lt_of_lt_of_le x15.lD0 mv'.le, ?_, ?_, eT'.trans eT⟩, ?_⟩
      · exact ⟨(mv'.f D x15.lD x15.oD).1 _ x15.dk.d, (mv'.f D0 x15.lD0 x15.oD0).1 _ x15.dk.c, x15.dk.ne, x15.dk.l⟩
      · have := (mv'.f D x15.lD x15.oD).2
        show Ofw Λ' (growZ P y p a new old ii).N D
        rw [gZ_N]; exact this
      · have := (mv'.f D0 x15.lD0 x15.oD0).2
        show Ofw Λ' (growZ P y p a new old ii).N D0
        rw [gZ_N]; exact this
      · push_cast; omega
  rintro m2 H8 ⟨m2d, m2t, Λ, S, rk, k, x, hk⟩
  have inv := x.inv
  obtain ⟨lv1, lv2, lv3⟩ := lvs_facts inv
  have wf := inv.wf
  rw [← x.T] at m2t
  have shownT : ∀ {S' : St} {rk' : Int → Nat} {H' : AH} {Λ' : La}, Wf S' rk' → Rep Λ' S' H' → ∀ y, S'.Dm y → S'.sort y = 0 → ∀ {bq : Bd} {Q : AV → AH → Prop}, 1 ≤ bq.n → Q (.tup [.int 1, .int 1, .int 1, .int 0]) H' → CL bq (.ref 83) [.ref (Λ'.jw y)] H' Q NoX := fun {S' rk' H' Λ'} w' r' y hy h0 {bq Q} hbq q => by
    refine c_shown (r'.fw y hy) hbq ?_
    rw [w'.bf y hy h0]; exact q
  walk_at "w"
  walk_at "w"
  refine ES_comp_map (by walk_at "co") (by walk_at "k") ?_ (by walk_at "k") (by walk_at "k")
  repeat walk_at "w"
  refine c_leaves wf x.r (by walk_at "d") fun H9 r e9 g1 g2 f9 => ?_
  refine ⟨_, _, rfl, f9, g2, by omega, fun y => .tup [.int y, .tup [.int 1, .int 1, .int 1, .int 0]], fun y hy H10 e10 => ?_, fun H10 e10 => ?_⟩
  · obtain ⟨yd, y0⟩ := lv3 y hy
    have r10 := x.r.ext (e9.trans e10)
    repeat walk_at "w"
    refine EV_method0 ?_
    repeat walk_at "w"
    refine ⟨_, _, _, _, rfl, r10.fT, rfl, rfl, ok_tree, ?_⟩
    repeat walk_at "w"
    refine SB_dict r10.fW (wl_get yd) ?_
    refine ⟨_, gm_shown (r10.fw y yd) rfl, ?_⟩
    refine shownT wf r10 y yd y0 (by walk_at "d") ?_
    repeat walk_at "w"
    exact ⟨by simp, rfl, Ext.refl⟩
  have rK : Rep Λ S (H10.alloc (.list ((lvs S S.root).map fun y => .tup [.int y, .tup [.int 1, .int 1, .int 1, .int 0]]))) := (x.r.ext (e9.trans e10)).alloc
  have fK : (H10.alloc (.list ((lvs S S.root).map fun y => .tup [.int y, .tup [.int 1, .int 1, .int 1, .int 0]]))).f H10.n = .list ((lvs S S.root).map fun y => .tup [.int y, .tup [.int 1, .int 1, .int 1, .int 0]]) := al_self
  have lK : H10.n < (H10.alloc (.list ((lvs S S.root).map fun y => .tup [.int y, .tup [.int 1, .int 1, .int 1, .int 0]]))).n := Nat.lt_succ_self _
  revert rK fK lK
  generalize H10.alloc (.list ((lvs S S.root).map fun y => .tup [.int y, .tup [.int 1, .int 1, .int 1, .int 0]])) = H11
  generalize H10.n = jK
  intro rK fK lK
  repeat walk_at "w"
  refine ⟨_, _, _, _, rfl, rK.fT, rfl, rfl, ok_tree, ?_⟩
  repeat walk_at "w"
  refine ⟨_, _, _, _, rfl, rK.fT, rfl, rfl, ok_tree, ?_⟩
  refine SB_dict rK.fW (wl_get wf.root) ?_
  repeat walk_at "w"
  refine ⟨_, _, _, _, rfl, rK.fw _ wf.root, rfl, rfl, ok_window, ?_⟩
  repeat walk_at "w"
  refine ⟨_, _, _, _, rfl, rK.fw _ wf.root, rfl, rfl, ok_window, ?_⟩
  repeat walk_at "w"
  refine ⟨by simp, ?_⟩
  repeat walk_at "w"
  refine ⟨_, _, _, _, rfl, rK.fT, rfl, rfl, ok_tree, ?_⟩
  repeat walk_at "w"
  refine c_balance wf rK inv.cn (by walk_at "d") fun H12 w' h' p1 p2 r12 e12 cn' rw' rh' fr' ps' => ?_
  have wfA : Wf (withp (withw S w' h') p1 p2) rk := wf.ww.wp
  have cnA : Cn (withp (withw S w' h') p1 p2) := cn'.wp
  have frA : ∀ y, (withp (withw S w' h') p1 p2).Dm y → (withp (withw S w' h') p1 p2).sort y ≠ 0 → Fair (withp (withw S w' h') p1 p2) y := fun y hy hs => fr' y (all_pre wf 40 y (by walk_at "d") hy) hs
  have psA : Ps (withp (withw S w' h') p1 p2) (withp (withw S w' h') p1 p2).l (withp (withw S w' h') p1 p2).t := ⟨ps'.top, ps'.kid⟩
  have rtA : (withp (withw S w' h') p1 p2).root = S.root := rfl
  have fK12 := e12.list lK fK
  have szA : (withp (withw S w' h') p1 p2).w S.root = S.w S.root ∧ (withp (withw S w' h') p1 p2).h S.root = S.h S.root := ⟨rw', rh'⟩
  have lvA : lvs (withp (withw S w' h') p1 p2) S.root = lvs S S.root := rfl
  have d1A : (withp (withw S w' h') p1 p2).Dm 1 := inv.d1
  have s1A : (withp (withw S w' h') p1 p2).sort 1 = 0 := inv.s1
  have bfA : (withp (withw S w' h') p1 p2).root = S.root := rfl
  have lv3A : ∀ y ∈ lvs S S.root, (withp (withw S w' h') p1 p2).Dm y ∧ (withp (withw S w' h') p1 p2).sort y = 0 := lv3
  generalize withp (withw S w' h') p1 p2 = A at *
  repeat walk_at "w"
  refine c_configuration wfA r12 (by walk_at "d") fun H13 e13 => ?_
  repeat walk_at "w"
  have r13 := r12.ext e13
  have hiR := inv.hi A.root
  repeat walk_at "w"
  refine ET_val ?_
  repeat walk_at "w"
  refine ⟨_, _, _, _, rfl, r13.fT, rfl, rfl, ok_tree, ?_⟩
  repeat walk_at "w"
  refine c_law_is_fair wfA cnA frA A.root wfA.root r13 (by walk_at "d") fun H14 e14 => ?_
  refine ⟨true, rfl, ?_⟩
  refine if_n (fun q => by cases q) fun _ => ?_
  repeat walk_at "w"
  refine c_tree_error wfA (r13.ext e14) cnA psA ⟨d1A, s1A⟩ (by walk_at "d") fun H15 e15 => ?_
  repeat walk_at "w"
  refine OP_isnot (t := true) rfl ⟨_, rfl, ?_⟩
  refine if_b (fun q => by cases q) fun _ => ?_
  repeat walk_at "w"
  refine SB_tup (l := [.tup [.int (A.w A.root), .int (A.h A.root)], nd A A.root, .int 1]) (by decide) (by decide) rfl ?_
  repeat walk_at "w"
  rw [bfA, szA.1, szA.2]
  refine OP_ned (RD.val rfl) (RD.val rfl) ⟨_, rfl, ?_⟩
  rw [SeqAt.eqv_refl _ rfl]
  refine if_n (fun q => by cases q) fun _ => ?_
  repeat walk_at "w"
  refine if_b (fun q => by cases q) fun _ => ?_
  have r15 := (r13.ext e14).ext e15
  repeat walk_at "w"
  refine ⟨_, _, _, _, rfl, r15.fT, rfl, rfl, ok_tree, ?_⟩
  repeat walk_at "w"
  refine c_balance wfA r15 cnA (by walk_at "d") fun H16 w2' h2' q1 q2 r16 e16 cn2 rw2 rh2 fr2 ps2 => ?_
  have hconf := conf_same (p1 := q1) (p2 := q2) wfA cnA cn2 frA (fun y hy hs => fr2 y (all_pre wfA 40 y (by walk_at "d") hy) hs) rw2 rh2
  have wfB : Wf (withp (withw A w2' h2') q1 q2) rk := wfA.ww.wp
  have cok := conf_ok wfA (by walk_at "d")
  have lK12 : jK < H12.n := Nat.lt_of_lt_of_le lK e12.le
  have e1215 := (e13.trans e14).trans e15
  have fK15 := (e1215.f _ lK12).trans fK12
  have lK15 : jK < H15.n := Nat.lt_of_lt_of_le lK12 e1215.le
  have fK16 := e16.list lK15 fK15
  have lK16 : jK < H16.n := Nat.lt_of_lt_of_le lK15 e16.le
  repeat walk_at "w"
  refine EV_and2 ?_
  repeat walk_at "w"
  refine c_configuration wfB r16 (by walk_at "d") fun H17 e17 => ?_
  rw [hconf]
  repeat walk_at "w"
  refine OP_eqd (RD.val cok) (RD.val cok) ?_
  rw [SeqAt.eqv_refl _ (okd_lay cok).1]
  refine ⟨true, rfl, ?_⟩
  rw [if_pos rfl]
  have r17 := r16.ext e17
  have fK17 := (e17.f _ lK16).trans fK16
  have lK17 : jK < H17.n := Nat.lt_of_lt_of_le lK16 e17.le
  have lvB : lvs (withp (withw A w2' h2') q1 q2) (withp (withw A w2' h2') q1 q2).root = lvs S S.root := by rw [← lvA, ← bfA]; rfl
  walk_at "w"
  refine EV_comp_map (by walk_at "co") (by walk_at "k") ?_
  repeat walk_at "w"
  refine c_leaves wfB r17 (by walk_at "d") fun H18 r' e18 k1 k2 f18 => ?_
  rw [lvB] at f18
  refine ⟨_, _, rfl, f18, k2, by omega, fun y => .tup [.int y, .tup [.int 1, .int 1, .int 1, .int 0]], fun y hy H19 e19 => ?_, fun H19 e19 => ?_⟩
  · obtain ⟨yd, y0⟩ := lv3A y hy
    have r19 := r17.ext (e18.trans e19)
    repeat walk_at "w"
    refine EV_method0 ?_
    repeat walk_at "w"
    refine ⟨_, _, _, _, rfl, r19.fT, rfl, rfl, ok_tree, ?_⟩
    repeat walk_at "w"
    refine SB_dict r19.fW (wl_get yd) ?_
    refine ⟨_, gm_shown (r19.fw y yd) rfl, ?_⟩
    refine shownT wfB r19 y yd y0 (by walk_at "d") ?_
    repeat walk_at "w"
    exact ⟨by simp, rfl, Ext.refl⟩
  have fK19 := ((e18.trans e19).f _ lK17).trans fK17
  have lK19 : jK < H19.n := Nat.lt_of_lt_of_le lK17 (e18.trans e19).le
  have okK : AV.okds 60 ((lvs S S.root).map fun y => AV.tup [.int y, .tup [.int 1, .int 1, .int 1, .int 0]]) = true := okds_of fun a ha => by
    obtain ⟨y, _, rfl⟩ := List.mem_map.mp ha; rfl
  repeat walk_at "w"
  refine OP_eqd (RD.list al_self okK) (RD.list ((al_lt lK19).trans fK19) okK) ?_
  rw [SeqAt.eqv_refl _ (by rw [PyData.canLay0]; exact (okds_lay okK).1)]
  repeat walk_at "w"
  rfl
end
end
-- D3
section
set_option maxHeartbeats 4000000 in
theorem top_done {w : World} {cl : PySem.Str → Option Addr} {mean : ExcName → Option Value} {s₁ : Shared} {p : Program} {loose : List PySem.Str} {mg mb : PySem.Str → Option Value} {a0 : Addr} {vs : List Value} {ns : List Int}
    (KX : (hd.heap_1 w.params).In s₁.heap) (T : TopRead p loose mg mb s₁.heap) (hL : s₁.heap.IsList a0 vs.toArray) (hI : IntsAre vs ns) (hlen : ¬ ((63 : Nat) : Int) < (ns.length : Int)) (hg : s₁.gens = #[]) :
    codeAny (model PySem.Challenge.rw_np0063_01.row.prog w) callerA (.call (.ref 323) ⟨[.ref a0], []⟩) (GoodW PySem.Challenge.rw_np0063_01.row.claim cl mean [ofPy (PyData.list (ns.map PyData.int))] s₁) s₁ := by
  refine c_law (b := ⟨60, fun h => ∃ vs : List Value, h.IsList a0 vs.toArray ∧ IntsAre vs ns, fun l => l = []⟩) (H := ⟨0, fun _ => .list []⟩) (Nat.le_refl _) (fun _ h => h) (by omega) (fun _ h => h)
    w callerA p loose mg mb s₁ (fun _ => 0) (fun _ => 0) [.ref a0] _ rfl ⟨vs, hL, hI⟩ rfl rfl rfl (by show callerA.depth + 60 ≤ 900; decide) (by show callerA.units + 8 * 60 ≤ 9000; decide) KX T (.cons (.gl _) .nil) ?_
  intro v a s' H' α' δ' st r e
  subst e
  cases r
  obtain ⟨h', tk, es⟩ := st.sh
  have kp := fun b o e => st.kp b o e (fun i hi => absurd hi (Nat.not_lt_zero i))
  refine ⟨.inl ⟨_, .bool true, [], rfl, fun cls => ?_, .bool true, ?_, fun _ => ⟨.nil, nofun⟩⟩, kp, by rw [es], by rw [es]; exact hg⟩
  · rfl
  · exact postW_of (by first | rfl | wrow_shape) (by wtm_val) (by str_meet; first | done | w_fin)
end
end Mine
open PySem PySem.W PyProof.Rows
set_option maxHeartbeats 8000000 in
theorem PySem.Challenge.cw_np0063_01_holds : PySem.Challenge.rw_np0063_01.Holds := by
  w_on
  refine holds_law Mine.said fun said => ?_
  refine holds_open (q := Mine.view) (loose := []) (Xt := fun s => xlAt Mine.view [] s && recOk (RowW.records (PySem.Challenge.rw_np0063_01.row.toRowW)) s) (XP := XL Mine.view []) (Yf := Hook.obs Mine.hook) (Ya := Hook.val Mine.hook) (YP := Hook.says Mine.hook) (N := 4070) Mine.left (Hook.of Mine.hook) (Hook.keeps Mine.hook) (fun s e => xl_of s (Bool.and_eq_true_iff.mp e).1) XL.keeps (by rfl) (by rfl) (by rfl) (fun s e => recFacts_of (Bool.and_eq_true_iff.mp e).2) (by rfl) (by first | assumption | decide +kernel) (by decide +kernel) ⟨rfl, rfl, rfl, rfl, rfl, by decide +kernel⟩ ?hw ?hc
  (case hw => w_witness2)
  intro w s₀ s₁ mg mb G Y fa o pm cd doc dV kV ho hd hcd hD hmg hg args vals as hpre hlay hrd hwl hlo
  have KX : (Mine.hd.heap_1 w.params).In s₁.heap := kIn_of Y
  refine Ground.open G ?_
  intro T B D TE TW
  wrow_args hpre hlay hrd hwl hlo
  x_fa T KX hmg
  exact enter_call (codeAny_mono (Mine.top_done KX (topRead_of T) (by assumption) (by assumption) (by assumption) hg) fun _ _ g => GoodW.toG g)
