import PyProof.Rows.All
import Wide.All
import OpenK.AllK
import Wide.FinOn
import Lean
import PySem.Challenge.RW_og0251_01
set_option Elab.async false
local macro_rules | `(tactic| walk_at $s:str) => `(tactic| k_extra $s)
local macro_rules | `(tactic| k_room) => `(tactic| k_extra "k_room")
local macro_rules | `(tactic| k_enter) => `(tactic| k_extra "k_enter")
local macro_rules | `(tactic| k_all) => `(tactic| k_extra "k_all")
local macro_rules | `(tactic| kst_facts) => `(tactic| k_extra "kst_facts")

section
open PySem PySem.W PySem.Calls PyProof.Rows
set_option maxRecDepth 100000
set_option maxHeartbeats 8000000
namespace Mine
/-- a statement of the program's top -/
noncomputable def stAt (i : Nat) : Stmt := PySem.Challenge.pw_og0251_01.main.body.getD i (.Pass ⟨0, 0, 0, 0⟩)
noncomputable def inCls (s : Stmt) (j : Nat) : Stmt := match s with
  | .ClassDef _ _ _ b _ _ _ _ _ _ _ => b.getD j (.Pass ⟨0, 0, 0, 0⟩)
  | _ => s
noncomputable def parts (s : Stmt) : Arguments × List Stmt × Scope := match s with
  | .FunctionDef _ a b _ _ _ c _ _ _ => (a, b, c)
  | _ => (⟨[], [], none, [], [], none, []⟩, [], ⟨.module, [], false, false, []⟩)
/-- the statements that the view keeps -/
noncomputable def view : Program := by
  refine (?f :
    ∀ (s0 : Stmt), stAt 0 = s0 →
    ∀ (s2 : Stmt), stAt 2 = s2 →
    ∀ (s3 : Stmt), stAt 3 = s3 →
    ∀ (s5 : Stmt), stAt 5 = s5 →
    ∀ (s6 : Stmt), stAt 6 = s6 →
    ∀ (s7 : Stmt), stAt 7 = s7 →
    ∀ (s8 : Stmt), stAt 8 = s8 →
    ∀ (s9 : Stmt), stAt 9 = s9 →
    ∀ (s10 : Stmt), stAt 10 = s10 →
    ∀ (s11 : Stmt), stAt 11 = s11 →
    ∀ (s12 : Stmt), stAt 12 = s12 →
    ∀ (s14 : Stmt), stAt 14 = s14 →
    ∀ (s15 : Stmt), stAt 15 = s15 →
    ∀ (s16 : Stmt), stAt 16 = s16 →
    ∀ (s17 : Stmt), stAt 17 = s17 →
    ∀ (s18 : Stmt), stAt 18 = s18 →
    ∀ (s19 : Stmt), stAt 19 = s19 →
    ∀ (s20 : Stmt), stAt 20 = s20 →
    ∀ (s21 : Stmt), stAt 21 = s21 →
    ∀ (s22 : Stmt), stAt 22 = s22 →
    ∀ (s23 : Stmt), stAt 23 = s23 →
    ∀ (s24 : Stmt), stAt 24 = s24 →
    ∀ (s25 : Stmt), stAt 25 = s25 →
    ∀ (s26 : Stmt), stAt 26 = s26 →
    ∀ (s28 : Stmt), stAt 28 = s28 →
    ∀ (s29 : Stmt), stAt 29 = s29 →
    ∀ (s30 : Stmt), stAt 30 = s30 →
    ∀ (s31 : Stmt), stAt 31 = s31 →
    ∀ (s32 : Stmt), stAt 32 = s32 →
    ∀ (s33 : Stmt), stAt 33 = s33 →
    ∀ (s34 : Stmt), stAt 34 = s34 →
    ∀ (s36 : Stmt), stAt 36 = s36 →
    ∀ (s37 : Stmt), stAt 37 = s37 →
    ∀ (s38 : Stmt), stAt 38 = s38 →
    ∀ (s39 : Stmt), stAt 39 = s39 →
    ∀ (s40 : Stmt), stAt 40 = s40 →
    ∀ (s41 : Stmt), stAt 41 = s41 →
    ∀ (s42 : Stmt), stAt 42 = s42 →
    ∀ (s43 : Stmt), stAt 43 = s43 →
    ∀ (s44 : Stmt), stAt 44 = s44 →
    ∀ (s45 : Stmt), stAt 45 = s45 →
    Program) _ (by (conv => lhs; whnf) <;> exact rfl) _ (by (conv => lhs; whnf) <;> exact rfl) _ (by (conv => lhs; whnf) <;> exact rfl) _ (by (conv => lhs; whnf) <;> exact rfl) _ (by (conv => lhs; whnf) <;> exact rfl) _ (by (conv => lhs; whnf) <;> exact rfl) _ (by (conv => lhs; whnf) <;> exact rfl) _ (by (conv => lhs; whnf) <;> exact rfl) _ (by (conv => lhs; whnf) <;> exact rfl) _ (by (conv => lhs; whnf) <;> exact rfl) _ (by (conv => lhs; whnf) <;> exact rfl) _ (by (conv => lhs; whnf) <;> exact rfl) _ (by (conv => lhs; whnf) <;> exact rfl) _ (by (conv => lhs; whnf) <;> exact rfl) _ (by (conv => lhs; whnf) <;> exact rfl) _ (by (conv => lhs; whnf) <;> exact rfl) _ (by (conv => lhs; whnf) <;> exact rfl) _ (by (conv => lhs; whnf) <;> exact rfl) _ (by (conv => lhs; whnf) <;> exact rfl) _ (by (conv => lhs; whnf) <;> exact rfl) _ (by (conv => lhs; whnf) <;> exact rfl) _ (by (conv => lhs; whnf) <;> exact rfl) _ (by (conv => lhs; whnf) <;> exact rfl) _ (by (conv => lhs; whnf) <;> exact rfl) _ (by (conv => lhs; whnf) <;> exact rfl) _ (by (conv => lhs; whnf) <;> exact rfl) _ (by (conv => lhs; whnf) <;> exact rfl) _ (by (conv => lhs; whnf) <;> exact rfl) _ (by (conv => lhs; whnf) <;> exact rfl) _ (by (conv => lhs; whnf) <;> exact rfl) _ (by (conv => lhs; whnf) <;> exact rfl) _ (by (conv => lhs; whnf) <;> exact rfl) _ (by (conv => lhs; whnf) <;> exact rfl) _ (by (conv => lhs; whnf) <;> exact rfl) _ (by (conv => lhs; whnf) <;> exact rfl) _ (by (conv => lhs; whnf) <;> exact rfl) _ (by (conv => lhs; whnf) <;> exact rfl) _ (by (conv => lhs; whnf) <;> exact rfl) _ (by (conv => lhs; whnf) <;> exact rfl) _ (by (conv => lhs; whnf) <;> exact rfl) _ (by (conv => lhs; whnf) <;> exact rfl)
  case f => exact fun s0 _ s2 _ s3 _ s5 _ s6 _ s7 _ s8 _ s9 _ s10 _ s11 _ s12 _ s14 _ s15 _ s16 _ s17 _ s18 _ s19 _ s20 _ s21 _ s22 _ s23 _ s24 _ s25 _ s26 _ s28 _ s29 _ s30 _ s31 _ s32 _ s33 _ s34 _ s36 _ s37 _ s38 _ s39 _ s40 _ s41 _ s42 _ s43 _ s44 _ s45 _ => { PySem.Challenge.pw_og0251_01 with main := { PySem.Challenge.pw_og0251_01.main with body := s0 :: s2 :: s3 :: s5 :: s6 :: s7 :: s8 :: s9 :: s10 :: s11 :: s12 :: s14 :: s15 :: s16 :: s17 :: s18 :: s19 :: s20 :: s21 :: s22 :: s23 :: s24 :: s25 :: s26 :: s28 :: s29 :: s30 :: s31 :: s32 :: s33 :: s34 :: s36 :: s37 :: s38 :: s39 :: s40 :: s41 :: s42 :: s43 :: s44 :: s45 :: [] } }
/-- the objects that the top leaves; their trees come out of the row -/
noncomputable def heapK : Params → Frag := by
  intro P
  refine (?f :
    ∀ (a0 : Arguments) (b0 : List Stmt) (s0 : Scope), parts (stAt 0) = (a0, b0, s0) →
    ∀ (a1 : Arguments) (b1 : List Stmt) (s1 : Scope), parts (inCls (stAt 2) 0) = (a1, b1, s1) →
    ∀ (a2 : Arguments) (b2 : List Stmt) (s2 : Scope), parts (stAt 9) = (a2, b2, s2) →
    ∀ (a3 : Arguments) (b3 : List Stmt) (s3 : Scope), parts (inCls (stAt 10) 0) = (a3, b3, s3) →
    ∀ (a4 : Arguments) (b4 : List Stmt) (s4 : Scope), parts (inCls (stAt 10) 1) = (a4, b4, s4) →
    ∀ (a5 : Arguments) (b5 : List Stmt) (s5 : Scope), parts (inCls (stAt 10) 2) = (a5, b5, s5) →
    ∀ (a6 : Arguments) (b6 : List Stmt) (s6 : Scope), parts (inCls (stAt 10) 3) = (a6, b6, s6) →
    ∀ (a7 : Arguments) (b7 : List Stmt) (s7 : Scope), parts (inCls (stAt 10) 4) = (a7, b7, s7) →
    ∀ (a8 : Arguments) (b8 : List Stmt) (s8 : Scope), parts (inCls (stAt 10) 5) = (a8, b8, s8) →
    ∀ (a9 : Arguments) (b9 : List Stmt) (s9 : Scope), parts (inCls (stAt 10) 6) = (a9, b9, s9) →
    ∀ (a10 : Arguments) (b10 : List Stmt) (s10 : Scope), parts (inCls (stAt 10) 7) = (a10, b10, s10) →
    ∀ (a11 : Arguments) (b11 : List Stmt) (s11 : Scope), parts (stAt 11) = (a11, b11, s11) →
    ∀ (a12 : Arguments) (b12 : List Stmt) (s12 : Scope), parts (stAt 12) = (a12, b12, s12) →
    ∀ (a13 : Arguments) (b13 : List Stmt) (s13 : Scope), parts (inCls (stAt 24) 0) = (a13, b13, s13) →
    ∀ (a14 : Arguments) (b14 : List Stmt) (s14 : Scope), parts (inCls (stAt 24) 1) = (a14, b14, s14) →
    ∀ (a15 : Arguments) (b15 : List Stmt) (s15 : Scope), parts (inCls (stAt 24) 2) = (a15, b15, s15) →
    ∀ (a16 : Arguments) (b16 : List Stmt) (s16 : Scope), parts (stAt 25) = (a16, b16, s16) →
    ∀ (a17 : Arguments) (b17 : List Stmt) (s17 : Scope), parts (stAt 26) = (a17, b17, s17) →
    ∀ (a18 : Arguments) (b18 : List Stmt) (s18 : Scope), parts (stAt 27) = (a18, b18, s18) →
    ∀ (a19 : Arguments) (b19 : List Stmt) (s19 : Scope), parts (stAt 28) = (a19, b19, s19) →
    ∀ (a20 : Arguments) (b20 : List Stmt) (s20 : Scope), parts (stAt 29) = (a20, b20, s20) →
    ∀ (a21 : Arguments) (b21 : List Stmt) (s21 : Scope), parts (stAt 30) = (a21, b21, s21) →
    ∀ (a22 : Arguments) (b22 : List Stmt) (s22 : Scope), parts (stAt 31) = (a22, b22, s22) →
    ∀ (a23 : Arguments) (b23 : List Stmt) (s23 : Scope), parts (stAt 32) = (a23, b23, s23) →
    ∀ (a24 : Arguments) (b24 : List Stmt) (s24 : Scope), parts (stAt 33) = (a24, b24, s24) →
    ∀ (a25 : Arguments) (b25 : List Stmt) (s25 : Scope), parts (stAt 34) = (a25, b25, s25) →
    ∀ (a26 : Arguments) (b26 : List Stmt) (s26 : Scope), parts (stAt 36) = (a26, b26, s26) →
    ∀ (a27 : Arguments) (b27 : List Stmt) (s27 : Scope), parts (stAt 37) = (a27, b27, s27) →
    ∀ (a28 : Arguments) (b28 : List Stmt) (s28 : Scope), parts (stAt 38) = (a28, b28, s28) →
    ∀ (a29 : Arguments) (b29 : List Stmt) (s29 : Scope), parts (stAt 39) = (a29, b29, s29) →
    ∀ (a30 : Arguments) (b30 : List Stmt) (s30 : Scope), parts (stAt 40) = (a30, b30, s30) →
    ∀ (a31 : Arguments) (b31 : List Stmt) (s31 : Scope), parts (stAt 41) = (a31, b31, s31) →
    ∀ (a32 : Arguments) (b32 : List Stmt) (s32 : Scope), parts (stAt 42) = (a32, b32, s32) →
    ∀ (a33 : Arguments) (b33 : List Stmt) (s33 : Scope), parts (stAt 43) = (a33, b33, s33) →
    ∀ (a34 : Arguments) (b34 : List Stmt) (s34 : Scope), parts (stAt 44) = (a34, b34, s34) →
    ∀ (a35 : Arguments) (b35 : List Stmt) (s35 : Scope), parts (stAt 45) = (a35, b35, s35) →
    Frag) _ _ _ (by (conv => lhs; whnf) <;> exact rfl) _ _ _ (by (conv => lhs; whnf) <;> exact rfl) _ _ _ (by (conv => lhs; whnf) <;> exact rfl) _ _ _ (by (conv => lhs; whnf) <;> exact rfl) _ _ _ (by (conv => lhs; whnf) <;> exact rfl) _ _ _ (by (conv => lhs; whnf) <;> exact rfl) _ _ _ (by (conv => lhs; whnf) <;> exact rfl) _ _ _ (by (conv => lhs; whnf) <;> exact rfl) _ _ _ (by (conv => lhs; whnf) <;> exact rfl) _ _ _ (by (conv => lhs; whnf) <;> exact rfl) _ _ _ (by (conv => lhs; whnf) <;> exact rfl) _ _ _ (by (conv => lhs; whnf) <;> exact rfl) _ _ _ (by (conv => lhs; whnf) <;> exact rfl) _ _ _ (by (conv => lhs; whnf) <;> exact rfl) _ _ _ (by (conv => lhs; whnf) <;> exact rfl) _ _ _ (by (conv => lhs; whnf) <;> exact rfl) _ _ _ (by (conv => lhs; whnf) <;> exact rfl) _ _ _ (by (conv => lhs; whnf) <;> exact rfl) _ _ _ (by (conv => lhs; whnf) <;> exact rfl) _ _ _ (by (conv => lhs; whnf) <;> exact rfl) _ _ _ (by (conv => lhs; whnf) <;> exact rfl) _ _ _ (by (conv => lhs; whnf) <;> exact rfl) _ _ _ (by (conv => lhs; whnf) <;> exact rfl) _ _ _ (by (conv => lhs; whnf) <;> exact rfl) _ _ _ (by (conv => lhs; whnf) <;> exact rfl) _ _ _ (by (conv => lhs; whnf) <;> exact rfl) _ _ _ (by (conv => lhs; whnf) <;> exact rfl) _ _ _ (by (conv => lhs; whnf) <;> exact rfl) _ _ _ (by (conv => lhs; whnf) <;> exact rfl) _ _ _ (by (conv => lhs; whnf) <;> exact rfl) _ _ _ (by (conv => lhs; whnf) <;> exact rfl) _ _ _ (by (conv => lhs; whnf) <;> exact rfl) _ _ _ (by (conv => lhs; whnf) <;> exact rfl) _ _ _ (by (conv => lhs; whnf) <;> exact rfl) _ _ _ (by (conv => lhs; whnf) <;> exact rfl) _ _ _ (by (conv => lhs; whnf) <;> exact rfl)
  case f => exact fun a0 b0 s0 _ a1 b1 s1 _ a2 b2 s2 _ a3 b3 s3 _ a4 b4 s4 _ a5 b5 s5 _ a6 b6 s6 _ a7 b7 s7 _ a8 b8 s8 _ a9 b9 s9 _ a10 b10 s10 _ a11 b11 s11 _ a12 b12 s12 _ a13 b13 s13 _ a14 b14 s14 _ a15 b15 s15 _ a16 b16 s16 _ a17 b17 s17 _ a18 b18 s18 _ a19 b19 s19 _ a20 b20 s20 _ a21 b21 s21 _ a22 b22 s22 _ a23 b23 s23 _ a24 b24 s24 _ a25 b25 s25 _ a26 b26 s26 _ a27 b27 s27 _ a28 b28 s28 _ a29 b29 s29 _ a30 b30 s30 _ a31 b31 s31 _ a32 b32 s32 _ a33 b33 s33 _ a34 b34 s34 _ a35 b35 s35 _ =>
    (nat_lit 2, { cls := .none, dict := (none : Option Nat), data := .dict #[⟨PyData.keyHash P (Str.ofString "type.__subclasses__.Exception.0"), .str (Str.ofString "type.__subclasses__.Exception.0") (221 : Nat), .int 39 (0 : Nat)⟩, ⟨PyData.keyHash P (Str.ofString "type.__subclasses__.Exception.n"), .str (Str.ofString "type.__subclasses__.Exception.n") (222 : Nat), .int 1 (0 : Nat)⟩] 2, slots := #[] }) ::
    (nat_lit 3, { cls := .type "dict", dict := (none : Option Nat), data := .dict (List.toArray (⟨PyData.keyHash P (Str.ofString "__name__"), .str (Str.ofString "__name__") (165 : Nat), .str (Str.ofString "law_og0251_01") (674 : Nat)⟩ :: ⟨PyData.keyHash P (Str.ofString "__doc__"), .str (Str.ofString "__doc__") (166 : Nat), .none⟩ :: ⟨PyData.keyHash P (Str.ofString "__package__"), .str (Str.ofString "__package__") (167 : Nat), .none⟩ :: ⟨PyData.keyHash P (Str.ofString "__loader__"), .str (Str.ofString "__loader__") (168 : Nat), .builtin "__main__.__loader__#\x6fpaque"⟩ :: ⟨PyData.keyHash P (Str.ofString "__spec__"), .str (Str.ofString "__spec__") (169 : Nat), .none⟩ :: ⟨PyData.keyHash P (Str.ofString "__annotations__"), .str (Str.ofString "__annotations__") (170 : Nat), .ref (6 : Nat)⟩ :: ⟨PyData.keyHash P (Str.ofString "__builtins__"), .str (Str.ofString "__builtins__") (171 : Nat), .ref (4 : Nat)⟩ :: ⟨PyData.keyHash P (Str.ofString "__file__"), .str (Str.ofString "__file__") (173 : Nat), .str (Str.ofString "/claim/cut.py") (172 : Nat)⟩ :: ⟨PyData.keyHash P (Str.ofString "__cached__"), .str (Str.ofString "__cached__") (174 : Nat), .none⟩ :: ⟨PyData.keyHash P (Str.ofString "_wall"), .str (Str.ofString "_wall") (193 : Nat), .ref (21 : Nat)⟩ :: ⟨PyData.keyHash P (Str.ofString "TermError"), .str (Str.ofString "TermError") (224 : Nat), .ref (39 : Nat)⟩ :: ⟨PyData.keyHash P (Str.ofString "BadKey"), .str (Str.ofString "BadKey") (240 : Nat), .ref (52 : Nat)⟩ :: ⟨PyData.keyHash P (Str.ofString "SIGN_ILL"), .str (Str.ofString "SIGN_ILL") (244 : Nat), .int 65533 (243 : Nat)⟩ :: ⟨PyData.keyHash P (Str.ofString "SIGN_TRAIL"), .str (Str.ofString "SIGN_TRAIL") (246 : Nat), .int 128 (245 : Nat)⟩ :: ⟨PyData.keyHash P (Str.ofString "SIGN_MASK"), .str (Str.ofString "SIGN_MASK") (248 : Nat), .int 63 (247 : Nat)⟩ :: ⟨PyData.keyHash P (Str.ofString "SIGN_LAST"), .str (Str.ofString "SIGN_LAST") (250 : Nat), .int 1114111 (249 : Nat)⟩ :: ⟨PyData.keyHash P (Str.ofString "sign_lead"), .str (Str.ofString "sign_lead") (257 : Nat), .ref (61 : Nat)⟩ :: ⟨PyData.keyHash P (Str.ofString "SignReader"), .str (Str.ofString "SignReader") (350 : Nat), .ref (128 : Nat)⟩ :: ⟨PyData.keyHash P (Str.ofString "is_sign"), .str (Str.ofString "is_sign") (357 : Nat), .ref (139 : Nat)⟩ :: ⟨PyData.keyHash P (Str.ofString "utf8_octets"), .str (Str.ofString "utf8_octets") (365 : Nat), .ref (146 : Nat)⟩ :: ⟨PyData.keyHash P (Str.ofString "SHIFT"), .str (Str.ofString "SHIFT") (369 : Nat), .int 1 (368 : Nat)⟩ :: ⟨PyData.keyHash P (Str.ofString "META"), .str (Str.ofString "META") (371 : Nat), .int 2 (370 : Nat)⟩ :: ⟨PyData.keyHash P (Str.ofString "CONTROL"), .str (Str.ofString "CONTROL") (373 : Nat), .int 4 (372 : Nat)⟩ :: ⟨PyData.keyHash P (Str.ofString "KEY_MODIFIERS"), .str (Str.ofString "KEY_MODIFIERS") (377 : Nat), .ref (150 : Nat)⟩ :: ⟨PyData.keyHash P (Str.ofString "KEY_PRESSED"), .str (Str.ofString "KEY_PRESSED") (379 : Nat), .int 1 (378 : Nat)⟩ :: ⟨PyData.keyHash P (Str.ofString "KEY_LETTERS"), .str (Str.ofString "KEY_LETTERS") (400 : Nat), .ref (161 : Nat)⟩ :: ⟨PyData.keyHash P (Str.ofString "KEY_NUMBERS"), .str (Str.ofString "KEY_NUMBERS") (441 : Nat), .ref (182 : Nat)⟩ :: ⟨PyData.keyHash P (Str.ofString "KEY_CODES"), .str (Str.ofString "KEY_CODES") (450 : Nat), .ref (187 : Nat)⟩ :: ⟨PyData.keyHash P (Str.ofString "KEY_PAD"), .str (Str.ofString "KEY_PAD") (523 : Nat), .ref (206 : Nat)⟩ :: ⟨PyData.keyHash P (Str.ofString "KEY_ALIASES"), .str (Str.ofString "KEY_ALIASES") (536 : Nat), .ref (213 : Nat)⟩ :: ⟨PyData.keyHash P (Str.ofString "Key"), .str (Str.ofString "Key") (587 : Nat), .ref (245 : Nat)⟩ :: ⟨PyData.keyHash P (Str.ofString "key_is_capital"), .str (Str.ofString "key_is_capital") (594 : Nat), .ref (256 : Nat)⟩ :: ⟨PyData.keyHash P (Str.ofString "key_is_small"), .str (Str.ofString "key_is_small") (601 : Nat), .ref (263 : Nat)⟩ :: ⟨PyData.keyHash P (Str.ofString "key_settled"), .str (Str.ofString "key_settled") (611 : Nat), .ref (271 : Nat)⟩ :: ⟨PyData.keyHash P (Str.ofString "key_lower"), .str (Str.ofString "key_lower") (617 : Nat), .ref (276 : Nat)⟩ :: ⟨PyData.keyHash P (Str.ofString "key_names"), .str (Str.ofString "key_names") (623 : Nat), .ref (281 : Nat)⟩ :: ⟨PyData.keyHash P (Str.ofString "key_named"), .str (Str.ofString "key_named") (633 : Nat), .ref (288 : Nat)⟩ :: ⟨PyData.keyHash P (Str.ofString "key_one_sign"), .str (Str.ofString "key_one_sign") (641 : Nat), .ref (295 : Nat)⟩ :: ⟨PyData.keyHash P (Str.ofString "key_split"), .str (Str.ofString "key_split") (652 : Nat), .ref (302 : Nat)⟩ :: ⟨PyData.keyHash P (Str.ofString "read_key"), .str (Str.ofString "read_key") (663 : Nat), .ref (309 : Nat)⟩ :: ⟨PyData.keyHash P (Str.ofString "key_word"), .str (Str.ofString "key_word") (673 : Nat), .ref (316 : Nat)⟩ :: ⟨PyData.keyHash P (Str.ofString "_law_names"), .str (Str.ofString "_law_names") (681 : Nat), .ref (321 : Nat)⟩ :: ⟨PyData.keyHash P (Str.ofString "_law_sign_octets"), .str (Str.ofString "_law_sign_octets") (688 : Nat), .ref (328 : Nat)⟩ :: ⟨PyData.keyHash P (Str.ofString "_law_turned"), .str (Str.ofString "_law_turned") (699 : Nat), .ref (335 : Nat)⟩ :: ⟨PyData.keyHash P (Str.ofString "_law_held"), .str (Str.ofString "_law_held") (712 : Nat), .ref (342 : Nat)⟩ :: ⟨PyData.keyHash P (Str.ofString "_law_settled"), .str (Str.ofString "_law_settled") (722 : Nat), .ref (349 : Nat)⟩ :: ⟨PyData.keyHash P (Str.ofString "_law_word"), .str (Str.ofString "_law_word") (732 : Nat), .ref (356 : Nat)⟩ :: ⟨PyData.keyHash P (Str.ofString "_law_drawn"), .str (Str.ofString "_law_drawn") (746 : Nat), .ref (363 : Nat)⟩ :: ⟨PyData.keyHash P (Str.ofString "_law_is_refused"), .str (Str.ofString "_law_is_refused") (755 : Nat), .ref (370 : Nat)⟩ :: ⟨PyData.keyHash P (Str.ofString "_law_right"), .str (Str.ofString "_law_right") (765 : Nat), .ref (377 : Nat)⟩ :: ⟨PyData.keyHash P (Str.ofString "law"), .str (Str.ofString "law") (771 : Nat), .ref (382 : Nat)⟩ :: [])) 51, slots := #[] }) ::
    (nat_lit 15, { cls := .type "tuple", dict := (none : Option Nat), data := .seq #[] 0, slots := #[] }) ::
    (nat_lit 17, { cls := .type "tuple", dict := (none : Option Nat), data := .seq #[.str (Str.ofString "k") (190 : Nat)] 0, slots := #[] }) ::
    (nat_lit 18, { cls := .type "tuple", dict := (none : Option Nat), data := .seq #[] 0, slots := #[] }) ::
    (nat_lit 20, { cls := .type "code", dict := (none : Option Nat), data := .fields #[.str (Str.ofString "_wall") (187 : Nat), .str (Str.ofString "_wall") (188 : Nat), .str (Str.ofString "/claim/cut.py") (189 : Nat), .int 1 (0 : Nat), .int 1 (0 : Nat), .int 0 (0 : Nat), .int 0 (0 : Nat), .int 3 (0 : Nat), .ref (15 : Nat), .bool true, .int 181 (0 : Nat), .ref (16 : Nat), .none, .ref (17 : Nat), .ref (18 : Nat), .ref (19 : Nat), .int 191 (0 : Nat), .int 1 (0 : Nat), .str (Str.ofString "/claim/cut.py") (192 : Nat)], slots := #[] }) ::
    (nat_lit 21, { cls := .type "function", dict := (none : Option Nat), data := .func { name := (Str.ofString "_wall"), qualname := (Str.ofString "_wall"), params := a0, body := .stmts b0, scope := s0, globals := (3 : Nat), closure := ([] : List (Str × Nat)), defaults := .none, kwdefaults := .none, doc := .none, pyModule := .str (Str.ofString "__main__") (164 : Nat), annotations := (none : Option Nat), code := .ref (20 : Nat), closureTuple := .none, builtins := (0 : Nat) }, slots := #[] }) ::
    (nat_lit 22, { cls := .type "tuple", dict := (none : Option Nat), data := .seq #[.type "Exception"] 0, slots := #[] }) ::
    (nat_lit 29, { cls := .type "tuple", dict := (none : Option Nat), data := .seq #[.none] 0, slots := #[] }) ::
    (nat_lit 30, { cls := .type "tuple", dict := (none : Option Nat), data := .seq #[] 0, slots := #[] }) ::
    (nat_lit 32, { cls := .type "tuple", dict := (none : Option Nat), data := .seq #[.str (Str.ofString "self") (211 : Nat), .str (Str.ofString "told") (212 : Nat)] 0, slots := #[] }) ::
    (nat_lit 33, { cls := .type "tuple", dict := (none : Option Nat), data := .seq #[] 0, slots := #[] }) ::
    (nat_lit 35, { cls := .type "code", dict := (none : Option Nat), data := .fields #[.str (Str.ofString "__init__") (208 : Nat), .str (Str.ofString "TermError.__init__") (209 : Nat), .str (Str.ofString "/claim/cut.py") (210 : Nat), .int 7 (0 : Nat), .int 2 (0 : Nat), .int 0 (0 : Nat), .int 0 (0 : Nat), .int 3 (0 : Nat), .ref (30 : Nat), .bool true, .int 181 (0 : Nat), .ref (31 : Nat), .none, .ref (32 : Nat), .ref (33 : Nat), .ref (34 : Nat), .int 213 (0 : Nat), .int 7 (0 : Nat), .str (Str.ofString "/claim/cut.py") (214 : Nat)], slots := #[] }) ::
    (nat_lit 36, { cls := .type "function", dict := (none : Option Nat), data := .func { name := (Str.ofString "__init__"), qualname := (Str.ofString "TermError.__init__"), params := a1, body := .stmts b1, scope := s1, globals := (3 : Nat), closure := ([] : List (Str × Nat)), defaults := .ref (29 : Nat), kwdefaults := .none, doc := .none, pyModule := .str (Str.ofString "termcore.base") (194 : Nat), annotations := (none : Option Nat), code := .ref (35 : Nat), closureTuple := .none, builtins := (0 : Nat) }, slots := #[] }) ::
    (nat_lit 37, { cls := .type "tuple", dict := (none : Option Nat), data := .seq #[.str (Str.ofString "told") (216 : Nat)] 0, slots := #[] }) ::
    (nat_lit 38, { cls := .type "dict", dict := (none : Option Nat), data := .dict #[⟨PyData.keyHash P (Str.ofString "__module__"), .str (Str.ofString "__module__") (203 : Nat), .str (Str.ofString "termcore.base") (194 : Nat)⟩, ⟨PyData.keyHash P (Str.ofString "__firstlineno__"), .str (Str.ofString "__firstlineno__") (207 : Nat), .int 5 (206 : Nat)⟩, ⟨PyData.keyHash P (Str.ofString "__init__"), .str (Str.ofString "__init__") (215 : Nat), .ref (36 : Nat)⟩, ⟨PyData.keyHash P (Str.ofString "__static_attributes__"), .str (Str.ofString "__static_attributes__") (217 : Nat), .ref (37 : Nat)⟩, ⟨PyData.keyHash P (Str.ofString "__weakref__"), .str (Str.ofString "__weakref__") (219 : Nat), .ref (40 : Nat)⟩, ⟨PyData.keyHash P (Str.ofString "__doc__"), .str (Str.ofString "__doc__") (220 : Nat), .none⟩] 3, slots := #[] }) ::
    (nat_lit 39, { cls := .type "type", dict := (none : Option Nat), data := .cls { name := (Str.ofString "TermError"), bases := [.type "Exception"], mro := [.ref (39 : Nat), .type "Exception", .type "BaseException", .type "object"], ns := (38 : Nat), qualname := (Str.ofString "TermError"), hasDict := true, slotNames := [], subclasses := [.ref (52 : Nat)], abstract := false, collection := none, hasDel := false }, slots := #[some (.ref (22 : Nat)), none, some (.str (Str.ofString "TermError") (196 : Nat)), some (.str (Str.ofString "TermError") (204 : Nat)), some (.builtin "Exception.__new__"), some (.bool true)] }) ::
    (nat_lit 40, { cls := .type "getset_descriptor", dict := (none : Option Nat), data := .fields #[.str (Str.ofString "__weakref__") (218 : Nat), .ref (39 : Nat), .builtin "ExceptionGroup.__weakref__", .none], slots := #[] }) ::
    (nat_lit 43, { cls := .type "tuple", dict := (none : Option Nat), data := .seq #[.ref (39 : Nat)] 0, slots := #[] }) ::
    (nat_lit 50, { cls := .type "tuple", dict := (none : Option Nat), data := .seq #[] 0, slots := #[] }) ::
    (nat_lit 51, { cls := .type "dict", dict := (none : Option Nat), data := .dict #[⟨PyData.keyHash P (Str.ofString "__module__"), .str (Str.ofString "__module__") (232 : Nat), .str (Str.ofString "termcore.base") (194 : Nat)⟩, ⟨PyData.keyHash P (Str.ofString "__firstlineno__"), .str (Str.ofString "__firstlineno__") (236 : Nat), .int 9 (235 : Nat)⟩, ⟨PyData.keyHash P (Str.ofString "__static_attributes__"), .str (Str.ofString "__static_attributes__") (237 : Nat), .ref (50 : Nat)⟩, ⟨PyData.keyHash P (Str.ofString "__doc__"), .str (Str.ofString "__doc__") (238 : Nat), .none⟩] 2, slots := #[] }) ::
    (nat_lit 52, { cls := .type "type", dict := (none : Option Nat), data := .cls { name := (Str.ofString "BadKey"), bases := [.ref (39 : Nat)], mro := [.ref (52 : Nat), .ref (39 : Nat), .type "Exception", .type "BaseException", .type "object"], ns := (51 : Nat), qualname := (Str.ofString "BadKey"), hasDict := true, slotNames := [], subclasses := [], abstract := false, collection := none, hasDel := false }, slots := #[some (.ref (43 : Nat)), none, some (.str (Str.ofString "BadKey") (225 : Nat)), some (.str (Str.ofString "BadKey") (233 : Nat)), some (.builtin "Exception.__new__"), some (.bool true)] }) ::
    (nat_lit 55, { cls := .type "tuple", dict := (none : Option Nat), data := .seq #[] 0, slots := #[] }) ::
    (nat_lit 57, { cls := .type "tuple", dict := (none : Option Nat), data := .seq #[.str (Str.ofString "octet") (254 : Nat)] 0, slots := #[] }) ::
    (nat_lit 58, { cls := .type "tuple", dict := (none : Option Nat), data := .seq #[] 0, slots := #[] }) ::
    (nat_lit 60, { cls := .type "code", dict := (none : Option Nat), data := .fields #[.str (Str.ofString "sign_lead") (251 : Nat), .str (Str.ofString "sign_lead") (252 : Nat), .str (Str.ofString "/claim/cut.py") (253 : Nat), .int 16 (0 : Nat), .int 1 (0 : Nat), .int 0 (0 : Nat), .int 0 (0 : Nat), .int 3 (0 : Nat), .ref (55 : Nat), .bool true, .int 181 (0 : Nat), .ref (56 : Nat), .none, .ref (57 : Nat), .ref (58 : Nat), .ref (59 : Nat), .int 255 (0 : Nat), .int 16 (0 : Nat), .str (Str.ofString "/claim/cut.py") (256 : Nat)], slots := #[] }) ::
    (nat_lit 61, { cls := .type "function", dict := (none : Option Nat), data := .func { name := (Str.ofString "sign_lead"), qualname := (Str.ofString "sign_lead"), params := a2, body := .stmts b2, scope := s2, globals := (3 : Nat), closure := ([] : List (Str × Nat)), defaults := .none, kwdefaults := .none, doc := .none, pyModule := .str (Str.ofString "termcore.utf8in") (241 : Nat), annotations := (none : Option Nat), code := .ref (60 : Nat), closureTuple := .none, builtins := (0 : Nat) }, slots := #[] }) ::
    (nat_lit 69, { cls := .type "tuple", dict := (none : Option Nat), data := .seq #[.bool true] 0, slots := #[] }) ::
    (nat_lit 70, { cls := .type "tuple", dict := (none : Option Nat), data := .seq #[] 0, slots := #[] }) ::
    (nat_lit 72, { cls := .type "tuple", dict := (none : Option Nat), data := .seq #[.str (Str.ofString "self") (273 : Nat), .str (Str.ofString "is_utf8") (274 : Nat)] 0, slots := #[] }) ::
    (nat_lit 73, { cls := .type "tuple", dict := (none : Option Nat), data := .seq #[] 0, slots := #[] }) ::
    (nat_lit 75, { cls := .type "code", dict := (none : Option Nat), data := .fields #[.str (Str.ofString "__init__") (270 : Nat), .str (Str.ofString "SignReader.__init__") (271 : Nat), .str (Str.ofString "/claim/cut.py") (272 : Nat), .int 26 (0 : Nat), .int 2 (0 : Nat), .int 0 (0 : Nat), .int 0 (0 : Nat), .int 3 (0 : Nat), .ref (70 : Nat), .bool true, .int 181 (0 : Nat), .ref (71 : Nat), .none, .ref (72 : Nat), .ref (73 : Nat), .ref (74 : Nat), .int 275 (0 : Nat), .int 26 (0 : Nat), .str (Str.ofString "/claim/cut.py") (276 : Nat)], slots := #[] }) ::
    (nat_lit 76, { cls := .type "function", dict := (none : Option Nat), data := .func { name := (Str.ofString "__init__"), qualname := (Str.ofString "SignReader.__init__"), params := a3, body := .stmts b3, scope := s3, globals := (3 : Nat), closure := ([] : List (Str × Nat)), defaults := .ref (69 : Nat), kwdefaults := .none, doc := .none, pyModule := .str (Str.ofString "termcore.utf8in") (241 : Nat), annotations := (none : Option Nat), code := .ref (75 : Nat), closureTuple := .none, builtins := (0 : Nat) }, slots := #[] }) ::
    (nat_lit 77, { cls := .type "tuple", dict := (none : Option Nat), data := .seq #[] 0, slots := #[] }) ::
    (nat_lit 79, { cls := .type "tuple", dict := (none : Option Nat), data := .seq #[.str (Str.ofString "self") (281 : Nat), .str (Str.ofString "octets") (282 : Nat), .str (Str.ofString "found") (283 : Nat), .str (Str.ofString "octet") (284 : Nat)] 0, slots := #[] }) ::
    (nat_lit 80, { cls := .type "tuple", dict := (none : Option Nat), data := .seq #[] 0, slots := #[] }) ::
    (nat_lit 82, { cls := .type "code", dict := (none : Option Nat), data := .fields #[.str (Str.ofString "feed") (278 : Nat), .str (Str.ofString "SignReader.feed") (279 : Nat), .str (Str.ofString "/claim/cut.py") (280 : Nat), .int 33 (0 : Nat), .int 2 (0 : Nat), .int 0 (0 : Nat), .int 0 (0 : Nat), .int 3 (0 : Nat), .ref (77 : Nat), .bool true, .int 181 (0 : Nat), .ref (78 : Nat), .none, .ref (79 : Nat), .ref (80 : Nat), .ref (81 : Nat), .int 285 (0 : Nat), .int 33 (0 : Nat), .str (Str.ofString "/claim/cut.py") (286 : Nat)], slots := #[] }) ::
    (nat_lit 83, { cls := .type "function", dict := (none : Option Nat), data := .func { name := (Str.ofString "feed"), qualname := (Str.ofString "SignReader.feed"), params := a4, body := .stmts b4, scope := s4, globals := (3 : Nat), closure := ([] : List (Str × Nat)), defaults := .none, kwdefaults := .none, doc := .none, pyModule := .str (Str.ofString "termcore.utf8in") (241 : Nat), annotations := (none : Option Nat), code := .ref (82 : Nat), closureTuple := .none, builtins := (0 : Nat) }, slots := #[] }) ::
    (nat_lit 84, { cls := .type "tuple", dict := (none : Option Nat), data := .seq #[] 0, slots := #[] }) ::
    (nat_lit 86, { cls := .type "tuple", dict := (none : Option Nat), data := .seq #[.str (Str.ofString "self") (291 : Nat), .str (Str.ofString "octet") (292 : Nat), .str (Str.ofString "found") (293 : Nat), .str (Str.ofString "lead") (294 : Nat)] 0, slots := #[] }) ::
    (nat_lit 87, { cls := .type "tuple", dict := (none : Option Nat), data := .seq #[] 0, slots := #[] }) ::
    (nat_lit 89, { cls := .type "code", dict := (none : Option Nat), data := .fields #[.str (Str.ofString "begin") (288 : Nat), .str (Str.ofString "SignReader.begin") (289 : Nat), .str (Str.ofString "/claim/cut.py") (290 : Nat), .int 46 (0 : Nat), .int 3 (0 : Nat), .int 0 (0 : Nat), .int 0 (0 : Nat), .int 3 (0 : Nat), .ref (84 : Nat), .bool true, .int 181 (0 : Nat), .ref (85 : Nat), .none, .ref (86 : Nat), .ref (87 : Nat), .ref (88 : Nat), .int 295 (0 : Nat), .int 46 (0 : Nat), .str (Str.ofString "/claim/cut.py") (296 : Nat)], slots := #[] }) ::
    (nat_lit 90, { cls := .type "function", dict := (none : Option Nat), data := .func { name := (Str.ofString "begin"), qualname := (Str.ofString "SignReader.begin"), params := a5, body := .stmts b5, scope := s5, globals := (3 : Nat), closure := ([] : List (Str × Nat)), defaults := .none, kwdefaults := .none, doc := .none, pyModule := .str (Str.ofString "termcore.utf8in") (241 : Nat), annotations := (none : Option Nat), code := .ref (89 : Nat), closureTuple := .none, builtins := (0 : Nat) }, slots := #[] }) ::
    (nat_lit 91, { cls := .type "tuple", dict := (none : Option Nat), data := .seq #[] 0, slots := #[] }) ::
    (nat_lit 93, { cls := .type "tuple", dict := (none : Option Nat), data := .seq #[.str (Str.ofString "self") (301 : Nat), .str (Str.ofString "octet") (302 : Nat), .str (Str.ofString "found") (303 : Nat)] 0, slots := #[] }) ::
    (nat_lit 94, { cls := .type "tuple", dict := (none : Option Nat), data := .seq #[] 0, slots := #[] }) ::
    (nat_lit 96, { cls := .type "code", dict := (none : Option Nat), data := .fields #[.str (Str.ofString "go_on") (298 : Nat), .str (Str.ofString "SignReader.go_on") (299 : Nat), .str (Str.ofString "/claim/cut.py") (300 : Nat), .int 54 (0 : Nat), .int 3 (0 : Nat), .int 0 (0 : Nat), .int 0 (0 : Nat), .int 3 (0 : Nat), .ref (91 : Nat), .bool true, .int 181 (0 : Nat), .ref (92 : Nat), .none, .ref (93 : Nat), .ref (94 : Nat), .ref (95 : Nat), .int 304 (0 : Nat), .int 54 (0 : Nat), .str (Str.ofString "/claim/cut.py") (305 : Nat)], slots := #[] }) ::
    (nat_lit 97, { cls := .type "function", dict := (none : Option Nat), data := .func { name := (Str.ofString "go_on"), qualname := (Str.ofString "SignReader.go_on"), params := a6, body := .stmts b6, scope := s6, globals := (3 : Nat), closure := ([] : List (Str × Nat)), defaults := .none, kwdefaults := .none, doc := .none, pyModule := .str (Str.ofString "termcore.utf8in") (241 : Nat), annotations := (none : Option Nat), code := .ref (96 : Nat), closureTuple := .none, builtins := (0 : Nat) }, slots := #[] }) ::
    (nat_lit 98, { cls := .type "tuple", dict := (none : Option Nat), data := .seq #[] 0, slots := #[] }) ::
    (nat_lit 100, { cls := .type "tuple", dict := (none : Option Nat), data := .seq #[.str (Str.ofString "self") (310 : Nat), .str (Str.ofString "found") (311 : Nat)] 0, slots := #[] }) ::
    (nat_lit 101, { cls := .type "tuple", dict := (none : Option Nat), data := .seq #[] 0, slots := #[] }) ::
    (nat_lit 103, { cls := .type "code", dict := (none : Option Nat), data := .fields #[.str (Str.ofString "rest") (307 : Nat), .str (Str.ofString "SignReader.rest") (308 : Nat), .str (Str.ofString "/claim/cut.py") (309 : Nat), .int 61 (0 : Nat), .int 1 (0 : Nat), .int 0 (0 : Nat), .int 0 (0 : Nat), .int 3 (0 : Nat), .ref (98 : Nat), .bool true, .int 181 (0 : Nat), .ref (99 : Nat), .none, .ref (100 : Nat), .ref (101 : Nat), .ref (102 : Nat), .int 312 (0 : Nat), .int 61 (0 : Nat), .str (Str.ofString "/claim/cut.py") (313 : Nat)], slots := #[] }) ::
    (nat_lit 104, { cls := .type "function", dict := (none : Option Nat), data := .func { name := (Str.ofString "rest"), qualname := (Str.ofString "SignReader.rest"), params := a7, body := .stmts b7, scope := s7, globals := (3 : Nat), closure := ([] : List (Str × Nat)), defaults := .none, kwdefaults := .none, doc := .none, pyModule := .str (Str.ofString "termcore.utf8in") (241 : Nat), annotations := (none : Option Nat), code := .ref (103 : Nat), closureTuple := .none, builtins := (0 : Nat) }, slots := #[] }) ::
    (nat_lit 105, { cls := .type "tuple", dict := (none : Option Nat), data := .seq #[] 0, slots := #[] }) ::
    (nat_lit 107, { cls := .type "tuple", dict := (none : Option Nat), data := .seq #[.str (Str.ofString "self") (318 : Nat)] 0, slots := #[] }) ::
    (nat_lit 108, { cls := .type "tuple", dict := (none : Option Nat), data := .seq #[] 0, slots := #[] }) ::
    (nat_lit 110, { cls := .type "code", dict := (none : Option Nat), data := .fields #[.str (Str.ofString "is_empty") (315 : Nat), .str (Str.ofString "SignReader.is_empty") (316 : Nat), .str (Str.ofString "/claim/cut.py") (317 : Nat), .int 66 (0 : Nat), .int 1 (0 : Nat), .int 0 (0 : Nat), .int 0 (0 : Nat), .int 3 (0 : Nat), .ref (105 : Nat), .bool true, .int 181 (0 : Nat), .ref (106 : Nat), .none, .ref (107 : Nat), .ref (108 : Nat), .ref (109 : Nat), .int 319 (0 : Nat), .int 66 (0 : Nat), .str (Str.ofString "/claim/cut.py") (320 : Nat)], slots := #[] }) ::
    (nat_lit 111, { cls := .type "function", dict := (none : Option Nat), data := .func { name := (Str.ofString "is_empty"), qualname := (Str.ofString "SignReader.is_empty"), params := a8, body := .stmts b8, scope := s8, globals := (3 : Nat), closure := ([] : List (Str × Nat)), defaults := .none, kwdefaults := .none, doc := .none, pyModule := .str (Str.ofString "termcore.utf8in") (241 : Nat), annotations := (none : Option Nat), code := .ref (110 : Nat), closureTuple := .none, builtins := (0 : Nat) }, slots := #[] }) ::
    (nat_lit 112, { cls := .type "tuple", dict := (none : Option Nat), data := .seq #[] 0, slots := #[] }) ::
    (nat_lit 114, { cls := .type "tuple", dict := (none : Option Nat), data := .seq #[.str (Str.ofString "self") (325 : Nat), .str (Str.ofString "is_utf8") (326 : Nat)] 0, slots := #[] }) ::
    (nat_lit 115, { cls := .type "tuple", dict := (none : Option Nat), data := .seq #[] 0, slots := #[] }) ::
    (nat_lit 117, { cls := .type "code", dict := (none : Option Nat), data := .fields #[.str (Str.ofString "switch") (322 : Nat), .str (Str.ofString "SignReader.switch") (323 : Nat), .str (Str.ofString "/claim/cut.py") (324 : Nat), .int 69 (0 : Nat), .int 2 (0 : Nat), .int 0 (0 : Nat), .int 0 (0 : Nat), .int 3 (0 : Nat), .ref (112 : Nat), .bool true, .int 181 (0 : Nat), .ref (113 : Nat), .none, .ref (114 : Nat), .ref (115 : Nat), .ref (116 : Nat), .int 327 (0 : Nat), .int 69 (0 : Nat), .str (Str.ofString "/claim/cut.py") (328 : Nat)], slots := #[] }) ::
    (nat_lit 118, { cls := .type "function", dict := (none : Option Nat), data := .func { name := (Str.ofString "switch"), qualname := (Str.ofString "SignReader.switch"), params := a9, body := .stmts b9, scope := s9, globals := (3 : Nat), closure := ([] : List (Str × Nat)), defaults := .none, kwdefaults := .none, doc := .none, pyModule := .str (Str.ofString "termcore.utf8in") (241 : Nat), annotations := (none : Option Nat), code := .ref (117 : Nat), closureTuple := .none, builtins := (0 : Nat) }, slots := #[] }) ::
    (nat_lit 119, { cls := .type "tuple", dict := (none : Option Nat), data := .seq #[] 0, slots := #[] }) ::
    (nat_lit 121, { cls := .type "tuple", dict := (none : Option Nat), data := .seq #[.str (Str.ofString "self") (333 : Nat), .str (Str.ofString "other") (334 : Nat)] 0, slots := #[] }) ::
    (nat_lit 122, { cls := .type "tuple", dict := (none : Option Nat), data := .seq #[] 0, slots := #[] }) ::
    (nat_lit 124, { cls := .type "code", dict := (none : Option Nat), data := .fields #[.str (Str.ofString "same_as") (330 : Nat), .str (Str.ofString "SignReader.same_as") (331 : Nat), .str (Str.ofString "/claim/cut.py") (332 : Nat), .int 72 (0 : Nat), .int 2 (0 : Nat), .int 0 (0 : Nat), .int 0 (0 : Nat), .int 3 (0 : Nat), .ref (119 : Nat), .bool true, .int 181 (0 : Nat), .ref (120 : Nat), .none, .ref (121 : Nat), .ref (122 : Nat), .ref (123 : Nat), .int 335 (0 : Nat), .int 72 (0 : Nat), .str (Str.ofString "/claim/cut.py") (336 : Nat)], slots := #[] }) ::
    (nat_lit 125, { cls := .type "function", dict := (none : Option Nat), data := .func { name := (Str.ofString "same_as"), qualname := (Str.ofString "SignReader.same_as"), params := a10, body := .stmts b10, scope := s10, globals := (3 : Nat), closure := ([] : List (Str × Nat)), defaults := .none, kwdefaults := .none, doc := .none, pyModule := .str (Str.ofString "termcore.utf8in") (241 : Nat), annotations := (none : Option Nat), code := .ref (124 : Nat), closureTuple := .none, builtins := (0 : Nat) }, slots := #[] }) ::
    (nat_lit 126, { cls := .type "tuple", dict := (none : Option Nat), data := .seq #[.str (Str.ofString "code") (338 : Nat), .str (Str.ofString "high") (339 : Nat), .str (Str.ofString "is_utf8") (340 : Nat), .str (Str.ofString "left") (341 : Nat), .str (Str.ofString "low") (342 : Nat)] 0, slots := #[] }) ::
    (nat_lit 127, { cls := .type "dict", dict := (none : Option Nat), data := .dict #[⟨PyData.keyHash P (Str.ofString "__module__"), .str (Str.ofString "__module__") (265 : Nat), .str (Str.ofString "termcore.utf8in") (241 : Nat)⟩, ⟨PyData.keyHash P (Str.ofString "__firstlineno__"), .str (Str.ofString "__firstlineno__") (269 : Nat), .int 24 (268 : Nat)⟩, ⟨PyData.keyHash P (Str.ofString "__init__"), .str (Str.ofString "__init__") (277 : Nat), .ref (76 : Nat)⟩, ⟨PyData.keyHash P (Str.ofString "feed"), .str (Str.ofString "feed") (287 : Nat), .ref (83 : Nat)⟩, ⟨PyData.keyHash P (Str.ofString "begin"), .str (Str.ofString "begin") (297 : Nat), .ref (90 : Nat)⟩, ⟨PyData.keyHash P (Str.ofString "go_on"), .str (Str.ofString "go_on") (306 : Nat), .ref (97 : Nat)⟩, ⟨PyData.keyHash P (Str.ofString "rest"), .str (Str.ofString "rest") (314 : Nat), .ref (104 : Nat)⟩, ⟨PyData.keyHash P (Str.ofString "is_empty"), .str (Str.ofString "is_empty") (321 : Nat), .ref (111 : Nat)⟩, ⟨PyData.keyHash P (Str.ofString "switch"), .str (Str.ofString "switch") (329 : Nat), .ref (118 : Nat)⟩, ⟨PyData.keyHash P (Str.ofString "same_as"), .str (Str.ofString "same_as") (337 : Nat), .ref (125 : Nat)⟩, ⟨PyData.keyHash P (Str.ofString "__static_attributes__"), .str (Str.ofString "__static_attributes__") (343 : Nat), .ref (126 : Nat)⟩, ⟨PyData.keyHash P (Str.ofString "__dict__"), .str (Str.ofString "__dict__") (345 : Nat), .ref (129 : Nat)⟩, ⟨PyData.keyHash P (Str.ofString "__weakref__"), .str (Str.ofString "__weakref__") (347 : Nat), .ref (130 : Nat)⟩, ⟨PyData.keyHash P (Str.ofString "__doc__"), .str (Str.ofString "__doc__") (348 : Nat), .none⟩] 4, slots := #[] }) ::
    (nat_lit 128, { cls := .type "type", dict := (none : Option Nat), data := .cls { name := (Str.ofString "SignReader"), bases := [.type "object"], mro := [.ref (128 : Nat), .type "object"], ns := (127 : Nat), qualname := (Str.ofString "SignReader"), hasDict := true, slotNames := [], subclasses := [], abstract := false, collection := none, hasDel := false }, slots := #[none, none, some (.str (Str.ofString "SignReader") (258 : Nat)), some (.str (Str.ofString "SignReader") (266 : Nat)), some (.builtin "object.__new__"), some (.bool true)] }) ::
    (nat_lit 129, { cls := .type "getset_descriptor", dict := (none : Option Nat), data := .fields #[.str (Str.ofString "__dict__") (344 : Nat), .ref (128 : Nat), .builtin "function.__dict__", .builtin "function.__dict__#set"], slots := #[] }) ::
    (nat_lit 130, { cls := .type "getset_descriptor", dict := (none : Option Nat), data := .fields #[.str (Str.ofString "__weakref__") (346 : Nat), .ref (128 : Nat), .builtin "ExceptionGroup.__weakref__", .none], slots := #[] }) ::
    (nat_lit 133, { cls := .type "tuple", dict := (none : Option Nat), data := .seq #[] 0, slots := #[] }) ::
    (nat_lit 135, { cls := .type "tuple", dict := (none : Option Nat), data := .seq #[.str (Str.ofString "code") (354 : Nat)] 0, slots := #[] }) ::
    (nat_lit 136, { cls := .type "tuple", dict := (none : Option Nat), data := .seq #[] 0, slots := #[] }) ::
    (nat_lit 138, { cls := .type "code", dict := (none : Option Nat), data := .fields #[.str (Str.ofString "is_sign") (351 : Nat), .str (Str.ofString "is_sign") (352 : Nat), .str (Str.ofString "/claim/cut.py") (353 : Nat), .int 74 (0 : Nat), .int 1 (0 : Nat), .int 0 (0 : Nat), .int 0 (0 : Nat), .int 3 (0 : Nat), .ref (133 : Nat), .bool true, .int 181 (0 : Nat), .ref (134 : Nat), .none, .ref (135 : Nat), .ref (136 : Nat), .ref (137 : Nat), .int 355 (0 : Nat), .int 74 (0 : Nat), .str (Str.ofString "/claim/cut.py") (356 : Nat)], slots := #[] }) ::
    (nat_lit 139, { cls := .type "function", dict := (none : Option Nat), data := .func { name := (Str.ofString "is_sign"), qualname := (Str.ofString "is_sign"), params := a11, body := .stmts b11, scope := s11, globals := (3 : Nat), closure := ([] : List (Str × Nat)), defaults := .none, kwdefaults := .none, doc := .none, pyModule := .str (Str.ofString "termcore.utf8in") (241 : Nat), annotations := (none : Option Nat), code := .ref (138 : Nat), closureTuple := .none, builtins := (0 : Nat) }, slots := #[] }) ::
    (nat_lit 140, { cls := .type "tuple", dict := (none : Option Nat), data := .seq #[] 0, slots := #[] }) ::
    (nat_lit 142, { cls := .type "tuple", dict := (none : Option Nat), data := .seq #[.str (Str.ofString "code") (361 : Nat), .str (Str.ofString "last") (362 : Nat)] 0, slots := #[] }) ::
    (nat_lit 143, { cls := .type "tuple", dict := (none : Option Nat), data := .seq #[] 0, slots := #[] }) ::
    (nat_lit 145, { cls := .type "code", dict := (none : Option Nat), data := .fields #[.str (Str.ofString "utf8_octets") (358 : Nat), .str (Str.ofString "utf8_octets") (359 : Nat), .str (Str.ofString "/claim/cut.py") (360 : Nat), .int 76 (0 : Nat), .int 1 (0 : Nat), .int 0 (0 : Nat), .int 0 (0 : Nat), .int 3 (0 : Nat), .ref (140 : Nat), .bool true, .int 181 (0 : Nat), .ref (141 : Nat), .none, .ref (142 : Nat), .ref (143 : Nat), .ref (144 : Nat), .int 363 (0 : Nat), .int 76 (0 : Nat), .str (Str.ofString "/claim/cut.py") (364 : Nat)], slots := #[] }) ::
    (nat_lit 146, { cls := .type "function", dict := (none : Option Nat), data := .func { name := (Str.ofString "utf8_octets"), qualname := (Str.ofString "utf8_octets"), params := a12, body := .stmts b12, scope := s12, globals := (3 : Nat), closure := ([] : List (Str × Nat)), defaults := .none, kwdefaults := .none, doc := .none, pyModule := .str (Str.ofString "termcore.utf8in") (241 : Nat), annotations := (none : Option Nat), code := .ref (145 : Nat), closureTuple := .none, builtins := (0 : Nat) }, slots := #[] }) ::
    (nat_lit 147, { cls := .type "tuple", dict := (none : Option Nat), data := .seq #[.int 67 (374 : Nat), .int 4 (372 : Nat)] 0, slots := #[] }) ::
    (nat_lit 148, { cls := .type "tuple", dict := (none : Option Nat), data := .seq #[.int 77 (375 : Nat), .int 2 (370 : Nat)] 0, slots := #[] }) ::
    (nat_lit 149, { cls := .type "tuple", dict := (none : Option Nat), data := .seq #[.int 83 (376 : Nat), .int 1 (368 : Nat)] 0, slots := #[] }) ::
    (nat_lit 150, { cls := .type "tuple", dict := (none : Option Nat), data := .seq #[.ref (147 : Nat), .ref (148 : Nat), .ref (149 : Nat)] 0, slots := #[] }) ::
    (nat_lit 151, { cls := .type "tuple", dict := (none : Option Nat), data := .seq #[.bytes #[85, 112] (380 : Nat), .int 65 (381 : Nat)] 0, slots := #[] }) ::
    (nat_lit 152, { cls := .type "tuple", dict := (none : Option Nat), data := .seq #[.bytes #[68, 111, 119, 110] (382 : Nat), .int 66 (383 : Nat)] 0, slots := #[] }) ::
    (nat_lit 153, { cls := .type "tuple", dict := (none : Option Nat), data := .seq #[.bytes #[82, 105, 103, 104, 116] (384 : Nat), .int 67 (385 : Nat)] 0, slots := #[] }) ::
    (nat_lit 154, { cls := .type "tuple", dict := (none : Option Nat), data := .seq #[.bytes #[76, 101, 102, 116] (386 : Nat), .int 68 (387 : Nat)] 0, slots := #[] }) ::
    (nat_lit 155, { cls := .type "tuple", dict := (none : Option Nat), data := .seq #[.bytes #[69, 110, 100] (388 : Nat), .int 70 (389 : Nat)] 0, slots := #[] }) ::
    (nat_lit 156, { cls := .type "tuple", dict := (none : Option Nat), data := .seq #[.bytes #[72, 111, 109, 101] (390 : Nat), .int 72 (391 : Nat)] 0, slots := #[] }) ::
    (nat_lit 157, { cls := .type "tuple", dict := (none : Option Nat), data := .seq #[.bytes #[70, 49] (392 : Nat), .int 80 (393 : Nat)] 0, slots := #[] }) ::
    (nat_lit 158, { cls := .type "tuple", dict := (none : Option Nat), data := .seq #[.bytes #[70, 50] (394 : Nat), .int 81 (395 : Nat)] 0, slots := #[] }) ::
    (nat_lit 159, { cls := .type "tuple", dict := (none : Option Nat), data := .seq #[.bytes #[70, 51] (396 : Nat), .int 82 (397 : Nat)] 0, slots := #[] }) ::
    (nat_lit 160, { cls := .type "tuple", dict := (none : Option Nat), data := .seq #[.bytes #[70, 52] (398 : Nat), .int 83 (399 : Nat)] 0, slots := #[] }) ::
    (nat_lit 161, { cls := .type "tuple", dict := (none : Option Nat), data := .seq #[.ref (151 : Nat), .ref (152 : Nat), .ref (153 : Nat), .ref (154 : Nat), .ref (155 : Nat), .ref (156 : Nat), .ref (157 : Nat), .ref (158 : Nat), .ref (159 : Nat), .ref (160 : Nat)] 0, slots := #[] }) ::
    (nat_lit 162, { cls := .type "tuple", dict := (none : Option Nat), data := .seq #[.bytes #[73, 110, 115, 101, 114, 116] (401 : Nat), .int 2 (402 : Nat)] 0, slots := #[] }) ::
    (nat_lit 163, { cls := .type "tuple", dict := (none : Option Nat), data := .seq #[.bytes #[68, 101, 108, 101, 116, 101] (403 : Nat), .int 3 (404 : Nat)] 0, slots := #[] }) ::
    (nat_lit 164, { cls := .type "tuple", dict := (none : Option Nat), data := .seq #[.bytes #[80, 97, 103, 101, 85, 112] (405 : Nat), .int 5 (406 : Nat)] 0, slots := #[] }) ::
    (nat_lit 165, { cls := .type "tuple", dict := (none : Option Nat), data := .seq #[.bytes #[80, 97, 103, 101, 68, 111, 119, 110] (407 : Nat), .int 6 (408 : Nat)] 0, slots := #[] }) ::
    (nat_lit 166, { cls := .type "tuple", dict := (none : Option Nat), data := .seq #[.bytes #[70, 53] (409 : Nat), .int 15 (410 : Nat)] 0, slots := #[] }) ::
    (nat_lit 167, { cls := .type "tuple", dict := (none : Option Nat), data := .seq #[.bytes #[70, 54] (411 : Nat), .int 17 (412 : Nat)] 0, slots := #[] }) ::
    (nat_lit 168, { cls := .type "tuple", dict := (none : Option Nat), data := .seq #[.bytes #[70, 55] (413 : Nat), .int 18 (414 : Nat)] 0, slots := #[] }) ::
    (nat_lit 169, { cls := .type "tuple", dict := (none : Option Nat), data := .seq #[.bytes #[70, 56] (415 : Nat), .int 19 (416 : Nat)] 0, slots := #[] }) ::
    (nat_lit 170, { cls := .type "tuple", dict := (none : Option Nat), data := .seq #[.bytes #[70, 57] (417 : Nat), .int 20 (418 : Nat)] 0, slots := #[] }) ::
    (nat_lit 171, { cls := .type "tuple", dict := (none : Option Nat), data := .seq #[.bytes #[70, 49, 48] (419 : Nat), .int 21 (420 : Nat)] 0, slots := #[] }) ::
    (nat_lit 172, { cls := .type "tuple", dict := (none : Option Nat), data := .seq #[.bytes #[70, 49, 49] (421 : Nat), .int 23 (422 : Nat)] 0, slots := #[] }) ::
    (nat_lit 173, { cls := .type "tuple", dict := (none : Option Nat), data := .seq #[.bytes #[70, 49, 50] (423 : Nat), .int 24 (424 : Nat)] 0, slots := #[] }) ::
    (nat_lit 174, { cls := .type "tuple", dict := (none : Option Nat), data := .seq #[.bytes #[70, 49, 51] (425 : Nat), .int 25 (426 : Nat)] 0, slots := #[] }) ::
    (nat_lit 175, { cls := .type "tuple", dict := (none : Option Nat), data := .seq #[.bytes #[70, 49, 52] (427 : Nat), .int 26 (428 : Nat)] 0, slots := #[] }) ::
    (nat_lit 176, { cls := .type "tuple", dict := (none : Option Nat), data := .seq #[.bytes #[70, 49, 53] (429 : Nat), .int 28 (430 : Nat)] 0, slots := #[] }) ::
    (nat_lit 177, { cls := .type "tuple", dict := (none : Option Nat), data := .seq #[.bytes #[70, 49, 54] (431 : Nat), .int 29 (432 : Nat)] 0, slots := #[] }) ::
    (nat_lit 178, { cls := .type "tuple", dict := (none : Option Nat), data := .seq #[.bytes #[70, 49, 55] (433 : Nat), .int 31 (434 : Nat)] 0, slots := #[] }) ::
    (nat_lit 179, { cls := .type "tuple", dict := (none : Option Nat), data := .seq #[.bytes #[70, 49, 56] (435 : Nat), .int 32 (436 : Nat)] 0, slots := #[] }) ::
    (nat_lit 180, { cls := .type "tuple", dict := (none : Option Nat), data := .seq #[.bytes #[70, 49, 57] (437 : Nat), .int 33 (438 : Nat)] 0, slots := #[] }) ::
    (nat_lit 181, { cls := .type "tuple", dict := (none : Option Nat), data := .seq #[.bytes #[70, 50, 48] (439 : Nat), .int 34 (440 : Nat)] 0, slots := #[] }) ::
    (nat_lit 182, { cls := .type "tuple", dict := (none : Option Nat), data := .seq (List.toArray (.ref (162 : Nat) :: .ref (163 : Nat) :: .ref (164 : Nat) :: .ref (165 : Nat) :: .ref (166 : Nat) :: .ref (167 : Nat) :: .ref (168 : Nat) :: .ref (169 : Nat) :: .ref (170 : Nat) :: .ref (171 : Nat) :: .ref (172 : Nat) :: .ref (173 : Nat) :: .ref (174 : Nat) :: .ref (175 : Nat) :: .ref (176 : Nat) :: .ref (177 : Nat) :: .ref (178 : Nat) :: .ref (179 : Nat) :: .ref (180 : Nat) :: .ref (181 : Nat) :: [])) 0, slots := #[] }) ::
    (nat_lit 183, { cls := .type "tuple", dict := (none : Option Nat), data := .seq #[.bytes #[84, 97, 98] (442 : Nat), .int 9 (443 : Nat)] 0, slots := #[] }) ::
    (nat_lit 184, { cls := .type "tuple", dict := (none : Option Nat), data := .seq #[.bytes #[69, 110, 116, 101, 114] (444 : Nat), .int 13 (445 : Nat)] 0, slots := #[] }) ::
    (nat_lit 185, { cls := .type "tuple", dict := (none : Option Nat), data := .seq #[.bytes #[69, 115, 99, 97, 112, 101] (446 : Nat), .int 27 (447 : Nat)] 0, slots := #[] }) ::
    (nat_lit 186, { cls := .type "tuple", dict := (none : Option Nat), data := .seq #[.bytes #[66, 83, 112, 97, 99, 101] (448 : Nat), .int 127 (449 : Nat)] 0, slots := #[] }) ::
    (nat_lit 187, { cls := .type "tuple", dict := (none : Option Nat), data := .seq #[.ref (183 : Nat), .ref (184 : Nat), .ref (185 : Nat), .ref (186 : Nat)] 0, slots := #[] }) ::
    (nat_lit 188, { cls := .type "tuple", dict := (none : Option Nat), data := .seq #[.bytes #[75, 80, 48] (451 : Nat), .int 112 (452 : Nat), .int 48 (453 : Nat), .int 57399 (454 : Nat)] 0, slots := #[] }) ::
    (nat_lit 189, { cls := .type "tuple", dict := (none : Option Nat), data := .seq #[.bytes #[75, 80, 49] (455 : Nat), .int 113 (456 : Nat), .int 49 (457 : Nat), .int 57400 (458 : Nat)] 0, slots := #[] }) ::
    (nat_lit 190, { cls := .type "tuple", dict := (none : Option Nat), data := .seq #[.bytes #[75, 80, 50] (459 : Nat), .int 114 (460 : Nat), .int 50 (461 : Nat), .int 57401 (462 : Nat)] 0, slots := #[] }) ::
    (nat_lit 191, { cls := .type "tuple", dict := (none : Option Nat), data := .seq #[.bytes #[75, 80, 51] (463 : Nat), .int 115 (464 : Nat), .int 51 (465 : Nat), .int 57402 (466 : Nat)] 0, slots := #[] }) ::
    (nat_lit 192, { cls := .type "tuple", dict := (none : Option Nat), data := .seq #[.bytes #[75, 80, 52] (467 : Nat), .int 116 (468 : Nat), .int 52 (469 : Nat), .int 57403 (470 : Nat)] 0, slots := #[] }) ::
    (nat_lit 193, { cls := .type "tuple", dict := (none : Option Nat), data := .seq #[.bytes #[75, 80, 53] (471 : Nat), .int 117 (472 : Nat), .int 53 (473 : Nat), .int 57404 (474 : Nat)] 0, slots := #[] }) ::
    (nat_lit 194, { cls := .type "tuple", dict := (none : Option Nat), data := .seq #[.bytes #[75, 80, 54] (475 : Nat), .int 118 (476 : Nat), .int 54 (477 : Nat), .int 57405 (478 : Nat)] 0, slots := #[] }) ::
    (nat_lit 195, { cls := .type "tuple", dict := (none : Option Nat), data := .seq #[.bytes #[75, 80, 55] (479 : Nat), .int 119 (480 : Nat), .int 55 (481 : Nat), .int 57406 (482 : Nat)] 0, slots := #[] }) ::
    (nat_lit 196, { cls := .type "tuple", dict := (none : Option Nat), data := .seq #[.bytes #[75, 80, 56] (483 : Nat), .int 120 (484 : Nat), .int 56 (485 : Nat), .int 57407 (486 : Nat)] 0, slots := #[] }) ::
    (nat_lit 197, { cls := .type "tuple", dict := (none : Option Nat), data := .seq #[.bytes #[75, 80, 57] (487 : Nat), .int 121 (488 : Nat), .int 57 (489 : Nat), .int 57408 (490 : Nat)] 0, slots := #[] }) ::
    (nat_lit 198, { cls := .type "tuple", dict := (none : Option Nat), data := .seq #[.bytes #[75, 80, 46] (491 : Nat), .int 110 (492 : Nat), .int 46 (493 : Nat), .int 57409 (494 : Nat)] 0, slots := #[] }) ::
    (nat_lit 199, { cls := .type "tuple", dict := (none : Option Nat), data := .seq #[.bytes #[75, 80, 47] (495 : Nat), .int 111 (496 : Nat), .int 47 (497 : Nat), .int 57410 (498 : Nat)] 0, slots := #[] }) ::
    (nat_lit 200, { cls := .type "tuple", dict := (none : Option Nat), data := .seq #[.bytes #[75, 80, 42] (499 : Nat), .int 106 (500 : Nat), .int 42 (501 : Nat), .int 57411 (502 : Nat)] 0, slots := #[] }) ::
    (nat_lit 201, { cls := .type "tuple", dict := (none : Option Nat), data := .seq #[.bytes #[75, 80, 45] (503 : Nat), .int 109 (504 : Nat), .int 45 (505 : Nat), .int 57412 (506 : Nat)] 0, slots := #[] }) ::
    (nat_lit 202, { cls := .type "tuple", dict := (none : Option Nat), data := .seq #[.bytes #[75, 80, 43] (507 : Nat), .int 107 (508 : Nat), .int 43 (509 : Nat), .int 57413 (510 : Nat)] 0, slots := #[] }) ::
    (nat_lit 203, { cls := .type "tuple", dict := (none : Option Nat), data := .seq #[.bytes #[75, 80, 69, 110, 116, 101, 114] (511 : Nat), .int 77 (512 : Nat), .int 13 (513 : Nat), .int 57414 (514 : Nat)] 0, slots := #[] }) ::
    (nat_lit 204, { cls := .type "tuple", dict := (none : Option Nat), data := .seq #[.bytes #[75, 80, 61] (515 : Nat), .int 88 (516 : Nat), .int 61 (517 : Nat), .int 57415 (518 : Nat)] 0, slots := #[] }) ::
    (nat_lit 205, { cls := .type "tuple", dict := (none : Option Nat), data := .seq #[.bytes #[75, 80, 44] (519 : Nat), .int 108 (520 : Nat), .int 44 (521 : Nat), .int 57416 (522 : Nat)] 0, slots := #[] }) ::
    (nat_lit 206, { cls := .type "tuple", dict := (none : Option Nat), data := .seq #[.ref (188 : Nat), .ref (189 : Nat), .ref (190 : Nat), .ref (191 : Nat), .ref (192 : Nat), .ref (193 : Nat), .ref (194 : Nat), .ref (195 : Nat), .ref (196 : Nat), .ref (197 : Nat), .ref (198 : Nat), .ref (199 : Nat), .ref (200 : Nat), .ref (201 : Nat), .ref (202 : Nat), .ref (203 : Nat), .ref (204 : Nat), .ref (205 : Nat)] 0, slots := #[] }) ::
    (nat_lit 207, { cls := .type "tuple", dict := (none : Option Nat), data := .seq #[.bytes #[105, 99] (524 : Nat), .bytes #[73, 110, 115, 101, 114, 116] (525 : Nat)] 0, slots := #[] }) ::
    (nat_lit 208, { cls := .type "tuple", dict := (none : Option Nat), data := .seq #[.bytes #[100, 99] (526 : Nat), .bytes #[68, 101, 108, 101, 116, 101] (527 : Nat)] 0, slots := #[] }) ::
    (nat_lit 209, { cls := .type "tuple", dict := (none : Option Nat), data := .seq #[.bytes #[112, 112, 97, 103, 101] (528 : Nat), .bytes #[80, 97, 103, 101, 85, 112] (529 : Nat)] 0, slots := #[] }) ::
    (nat_lit 210, { cls := .type "tuple", dict := (none : Option Nat), data := .seq #[.bytes #[112, 103, 117, 112] (530 : Nat), .bytes #[80, 97, 103, 101, 85, 112] (531 : Nat)] 0, slots := #[] }) ::
    (nat_lit 211, { cls := .type "tuple", dict := (none : Option Nat), data := .seq #[.bytes #[110, 112, 97, 103, 101] (532 : Nat), .bytes #[80, 97, 103, 101, 68, 111, 119, 110] (533 : Nat)] 0, slots := #[] }) ::
    (nat_lit 212, { cls := .type "tuple", dict := (none : Option Nat), data := .seq #[.bytes #[112, 103, 100, 110] (534 : Nat), .bytes #[80, 97, 103, 101, 68, 111, 119, 110] (535 : Nat)] 0, slots := #[] }) ::
    (nat_lit 213, { cls := .type "tuple", dict := (none : Option Nat), data := .seq #[.ref (207 : Nat), .ref (208 : Nat), .ref (209 : Nat), .ref (210 : Nat), .ref (211 : Nat), .ref (212 : Nat)] 0, slots := #[] }) ::
    (nat_lit 221, { cls := .type "tuple", dict := (none : Option Nat), data := .seq #[.int 0 (549 : Nat), .int 1 (378 : Nat)] 0, slots := #[] }) ::
    (nat_lit 222, { cls := .type "tuple", dict := (none : Option Nat), data := .seq #[] 0, slots := #[] }) ::
    (nat_lit 224, { cls := .type "tuple", dict := (none : Option Nat), data := .seq #[.str (Str.ofString "self") (553 : Nat), .str (Str.ofString "name") (554 : Nat), .str (Str.ofString "code") (555 : Nat), .str (Str.ofString "held") (556 : Nat), .str (Str.ofString "event") (557 : Nat)] 0, slots := #[] }) ::
    (nat_lit 225, { cls := .type "tuple", dict := (none : Option Nat), data := .seq #[] 0, slots := #[] }) ::
    (nat_lit 227, { cls := .type "code", dict := (none : Option Nat), data := .fields #[.str (Str.ofString "__init__") (550 : Nat), .str (Str.ofString "Key.__init__") (551 : Nat), .str (Str.ofString "/claim/cut.py") (552 : Nat), .int 100 (0 : Nat), .int 5 (0 : Nat), .int 0 (0 : Nat), .int 0 (0 : Nat), .int 3 (0 : Nat), .ref (222 : Nat), .bool true, .int 181 (0 : Nat), .ref (223 : Nat), .none, .ref (224 : Nat), .ref (225 : Nat), .ref (226 : Nat), .int 558 (0 : Nat), .int 100 (0 : Nat), .str (Str.ofString "/claim/cut.py") (559 : Nat)], slots := #[] }) ::
    (nat_lit 228, { cls := .type "function", dict := (none : Option Nat), data := .func { name := (Str.ofString "__init__"), qualname := (Str.ofString "Key.__init__"), params := a13, body := .stmts b13, scope := s13, globals := (3 : Nat), closure := ([] : List (Str × Nat)), defaults := .ref (221 : Nat), kwdefaults := .none, doc := .none, pyModule := .str (Str.ofString "termcore.keyboard") (366 : Nat), annotations := (none : Option Nat), code := .ref (227 : Nat), closureTuple := .none, builtins := (0 : Nat) }, slots := #[] }) ::
    (nat_lit 229, { cls := .type "tuple", dict := (none : Option Nat), data := .seq #[] 0, slots := #[] }) ::
    (nat_lit 231, { cls := .type "tuple", dict := (none : Option Nat), data := .seq #[.str (Str.ofString "self") (564 : Nat), .str (Str.ofString "more") (565 : Nat)] 0, slots := #[] }) ::
    (nat_lit 232, { cls := .type "tuple", dict := (none : Option Nat), data := .seq #[] 0, slots := #[] }) ::
    (nat_lit 234, { cls := .type "code", dict := (none : Option Nat), data := .fields #[.str (Str.ofString "with_held") (561 : Nat), .str (Str.ofString "Key.with_held") (562 : Nat), .str (Str.ofString "/claim/cut.py") (563 : Nat), .int 106 (0 : Nat), .int 2 (0 : Nat), .int 0 (0 : Nat), .int 0 (0 : Nat), .int 3 (0 : Nat), .ref (229 : Nat), .bool true, .int 181 (0 : Nat), .ref (230 : Nat), .none, .ref (231 : Nat), .ref (232 : Nat), .ref (233 : Nat), .int 566 (0 : Nat), .int 106 (0 : Nat), .str (Str.ofString "/claim/cut.py") (567 : Nat)], slots := #[] }) ::
    (nat_lit 235, { cls := .type "function", dict := (none : Option Nat), data := .func { name := (Str.ofString "with_held"), qualname := (Str.ofString "Key.with_held"), params := a14, body := .stmts b14, scope := s14, globals := (3 : Nat), closure := ([] : List (Str × Nat)), defaults := .none, kwdefaults := .none, doc := .none, pyModule := .str (Str.ofString "termcore.keyboard") (366 : Nat), annotations := (none : Option Nat), code := .ref (234 : Nat), closureTuple := .none, builtins := (0 : Nat) }, slots := #[] }) ::
    (nat_lit 236, { cls := .type "tuple", dict := (none : Option Nat), data := .seq #[] 0, slots := #[] }) ::
    (nat_lit 238, { cls := .type "tuple", dict := (none : Option Nat), data := .seq #[.str (Str.ofString "self") (572 : Nat)] 0, slots := #[] }) ::
    (nat_lit 239, { cls := .type "tuple", dict := (none : Option Nat), data := .seq #[] 0, slots := #[] }) ::
    (nat_lit 241, { cls := .type "code", dict := (none : Option Nat), data := .fields #[.str (Str.ofString "told") (569 : Nat), .str (Str.ofString "Key.told") (570 : Nat), .str (Str.ofString "/claim/cut.py") (571 : Nat), .int 109 (0 : Nat), .int 1 (0 : Nat), .int 0 (0 : Nat), .int 0 (0 : Nat), .int 3 (0 : Nat), .ref (236 : Nat), .bool true, .int 181 (0 : Nat), .ref (237 : Nat), .none, .ref (238 : Nat), .ref (239 : Nat), .ref (240 : Nat), .int 573 (0 : Nat), .int 109 (0 : Nat), .str (Str.ofString "/claim/cut.py") (574 : Nat)], slots := #[] }) ::
    (nat_lit 242, { cls := .type "function", dict := (none : Option Nat), data := .func { name := (Str.ofString "told"), qualname := (Str.ofString "Key.told"), params := a15, body := .stmts b15, scope := s15, globals := (3 : Nat), closure := ([] : List (Str × Nat)), defaults := .none, kwdefaults := .none, doc := .none, pyModule := .str (Str.ofString "termcore.keyboard") (366 : Nat), annotations := (none : Option Nat), code := .ref (241 : Nat), closureTuple := .none, builtins := (0 : Nat) }, slots := #[] }) ::
    (nat_lit 243, { cls := .type "tuple", dict := (none : Option Nat), data := .seq #[.str (Str.ofString "code") (576 : Nat), .str (Str.ofString "event") (577 : Nat), .str (Str.ofString "held") (578 : Nat), .str (Str.ofString "name") (579 : Nat)] 0, slots := #[] }) ::
    (nat_lit 244, { cls := .type "dict", dict := (none : Option Nat), data := .dict #[⟨PyData.keyHash P (Str.ofString "__module__"), .str (Str.ofString "__module__") (544 : Nat), .str (Str.ofString "termcore.keyboard") (366 : Nat)⟩, ⟨PyData.keyHash P (Str.ofString "__firstlineno__"), .str (Str.ofString "__firstlineno__") (548 : Nat), .int 98 (547 : Nat)⟩, ⟨PyData.keyHash P (Str.ofString "__init__"), .str (Str.ofString "__init__") (560 : Nat), .ref (228 : Nat)⟩, ⟨PyData.keyHash P (Str.ofString "with_held"), .str (Str.ofString "with_held") (568 : Nat), .ref (235 : Nat)⟩, ⟨PyData.keyHash P (Str.ofString "told"), .str (Str.ofString "told") (575 : Nat), .ref (242 : Nat)⟩, ⟨PyData.keyHash P (Str.ofString "__static_attributes__"), .str (Str.ofString "__static_attributes__") (580 : Nat), .ref (243 : Nat)⟩, ⟨PyData.keyHash P (Str.ofString "__dict__"), .str (Str.ofString "__dict__") (582 : Nat), .ref (246 : Nat)⟩, ⟨PyData.keyHash P (Str.ofString "__weakref__"), .str (Str.ofString "__weakref__") (584 : Nat), .ref (247 : Nat)⟩, ⟨PyData.keyHash P (Str.ofString "__doc__"), .str (Str.ofString "__doc__") (585 : Nat), .none⟩] 4, slots := #[] }) ::
    (nat_lit 245, { cls := .type "type", dict := (none : Option Nat), data := .cls { name := (Str.ofString "Key"), bases := [.type "object"], mro := [.ref (245 : Nat), .type "object"], ns := (244 : Nat), qualname := (Str.ofString "Key"), hasDict := true, slotNames := [], subclasses := [], abstract := false, collection := none, hasDel := false }, slots := #[none, none, some (.str (Str.ofString "Key") (537 : Nat)), some (.str (Str.ofString "Key") (545 : Nat)), some (.builtin "object.__new__"), some (.bool true)] }) ::
    (nat_lit 246, { cls := .type "getset_descriptor", dict := (none : Option Nat), data := .fields #[.str (Str.ofString "__dict__") (581 : Nat), .ref (245 : Nat), .builtin "function.__dict__", .builtin "function.__dict__#set"], slots := #[] }) ::
    (nat_lit 247, { cls := .type "getset_descriptor", dict := (none : Option Nat), data := .fields #[.str (Str.ofString "__weakref__") (583 : Nat), .ref (245 : Nat), .builtin "ExceptionGroup.__weakref__", .none], slots := #[] }) ::
    (nat_lit 250, { cls := .type "tuple", dict := (none : Option Nat), data := .seq #[] 0, slots := #[] }) ::
    (nat_lit 252, { cls := .type "tuple", dict := (none : Option Nat), data := .seq #[.str (Str.ofString "code") (591 : Nat)] 0, slots := #[] }) ::
    (nat_lit 253, { cls := .type "tuple", dict := (none : Option Nat), data := .seq #[] 0, slots := #[] }) ::
    (nat_lit 255, { cls := .type "code", dict := (none : Option Nat), data := .fields #[.str (Str.ofString "key_is_capital") (588 : Nat), .str (Str.ofString "key_is_capital") (589 : Nat), .str (Str.ofString "/claim/cut.py") (590 : Nat), .int 111 (0 : Nat), .int 1 (0 : Nat), .int 0 (0 : Nat), .int 0 (0 : Nat), .int 3 (0 : Nat), .ref (250 : Nat), .bool true, .int 181 (0 : Nat), .ref (251 : Nat), .none, .ref (252 : Nat), .ref (253 : Nat), .ref (254 : Nat), .int 592 (0 : Nat), .int 111 (0 : Nat), .str (Str.ofString "/claim/cut.py") (593 : Nat)], slots := #[] }) ::
    (nat_lit 256, { cls := .type "function", dict := (none : Option Nat), data := .func { name := (Str.ofString "key_is_capital"), qualname := (Str.ofString "key_is_capital"), params := a16, body := .stmts b16, scope := s16, globals := (3 : Nat), closure := ([] : List (Str × Nat)), defaults := .none, kwdefaults := .none, doc := .none, pyModule := .str (Str.ofString "termcore.keyboard") (366 : Nat), annotations := (none : Option Nat), code := .ref (255 : Nat), closureTuple := .none, builtins := (0 : Nat) }, slots := #[] }) ::
    (nat_lit 257, { cls := .type "tuple", dict := (none : Option Nat), data := .seq #[] 0, slots := #[] }) ::
    (nat_lit 259, { cls := .type "tuple", dict := (none : Option Nat), data := .seq #[.str (Str.ofString "code") (598 : Nat)] 0, slots := #[] }) ::
    (nat_lit 260, { cls := .type "tuple", dict := (none : Option Nat), data := .seq #[] 0, slots := #[] }) ::
    (nat_lit 262, { cls := .type "code", dict := (none : Option Nat), data := .fields #[.str (Str.ofString "key_is_small") (595 : Nat), .str (Str.ofString "key_is_small") (596 : Nat), .str (Str.ofString "/claim/cut.py") (597 : Nat), .int 113 (0 : Nat), .int 1 (0 : Nat), .int 0 (0 : Nat), .int 0 (0 : Nat), .int 3 (0 : Nat), .ref (257 : Nat), .bool true, .int 181 (0 : Nat), .ref (258 : Nat), .none, .ref (259 : Nat), .ref (260 : Nat), .ref (261 : Nat), .int 599 (0 : Nat), .int 113 (0 : Nat), .str (Str.ofString "/claim/cut.py") (600 : Nat)], slots := #[] }) ::
    (nat_lit 263, { cls := .type "function", dict := (none : Option Nat), data := .func { name := (Str.ofString "key_is_small"), qualname := (Str.ofString "key_is_small"), params := a17, body := .stmts b17, scope := s17, globals := (3 : Nat), closure := ([] : List (Str × Nat)), defaults := .none, kwdefaults := .none, doc := .none, pyModule := .str (Str.ofString "termcore.keyboard") (366 : Nat), annotations := (none : Option Nat), code := .ref (262 : Nat), closureTuple := .none, builtins := (0 : Nat) }, slots := #[] }) ::
    (nat_lit 264, { cls := .type "tuple", dict := (none : Option Nat), data := .seq #[.int 1 (378 : Nat)] 0, slots := #[] }) ::
    (nat_lit 265, { cls := .type "tuple", dict := (none : Option Nat), data := .seq #[] 0, slots := #[] }) ::
    (nat_lit 267, { cls := .type "tuple", dict := (none : Option Nat), data := .seq #[.str (Str.ofString "name") (605 : Nat), .str (Str.ofString "code") (606 : Nat), .str (Str.ofString "held") (607 : Nat), .str (Str.ofString "event") (608 : Nat)] 0, slots := #[] }) ::
    (nat_lit 268, { cls := .type "tuple", dict := (none : Option Nat), data := .seq #[] 0, slots := #[] }) ::
    (nat_lit 270, { cls := .type "code", dict := (none : Option Nat), data := .fields #[.str (Str.ofString "key_settled") (602 : Nat), .str (Str.ofString "key_settled") (603 : Nat), .str (Str.ofString "/claim/cut.py") (604 : Nat), .int 115 (0 : Nat), .int 4 (0 : Nat), .int 0 (0 : Nat), .int 0 (0 : Nat), .int 3 (0 : Nat), .ref (265 : Nat), .bool true, .int 181 (0 : Nat), .ref (266 : Nat), .none, .ref (267 : Nat), .ref (268 : Nat), .ref (269 : Nat), .int 609 (0 : Nat), .int 115 (0 : Nat), .str (Str.ofString "/claim/cut.py") (610 : Nat)], slots := #[] }) ::
    (nat_lit 271, { cls := .type "function", dict := (none : Option Nat), data := .func { name := (Str.ofString "key_settled"), qualname := (Str.ofString "key_settled"), params := a18, body := .stmts b18, scope := s18, globals := (3 : Nat), closure := ([] : List (Str × Nat)), defaults := .ref (264 : Nat), kwdefaults := .none, doc := .none, pyModule := .str (Str.ofString "termcore.keyboard") (366 : Nat), annotations := (none : Option Nat), code := .ref (270 : Nat), closureTuple := .none, builtins := (0 : Nat) }, slots := #[] }) ::
    (nat_lit 272, { cls := .type "tuple", dict := (none : Option Nat), data := .seq #[] 0, slots := #[] }) ::
    (nat_lit 275, { cls := .type "code", dict := (none : Option Nat), data := .fields #[.str (Str.ofString "key_lower") (612 : Nat), .str (Str.ofString "key_lower") (613 : Nat), .str (Str.ofString "/claim/cut.py") (614 : Nat), .int 124 (0 : Nat), .int 1 (0 : Nat), .int 0 (0 : Nat), .int 0 (0 : Nat), .int 3 (0 : Nat), .ref (272 : Nat), .bool true, .int 181 (0 : Nat), .ref (273 : Nat), .none, .none, .none, .ref (274 : Nat), .int 615 (0 : Nat), .int 124 (0 : Nat), .str (Str.ofString "/claim/cut.py") (616 : Nat)], slots := #[] }) ::
    (nat_lit 276, { cls := .type "function", dict := (none : Option Nat), data := .func { name := (Str.ofString "key_lower"), qualname := (Str.ofString "key_lower"), params := a19, body := .stmts b19, scope := s19, globals := (3 : Nat), closure := ([] : List (Str × Nat)), defaults := .none, kwdefaults := .none, doc := .none, pyModule := .str (Str.ofString "termcore.keyboard") (366 : Nat), annotations := (none : Option Nat), code := .ref (275 : Nat), closureTuple := .none, builtins := (0 : Nat) }, slots := #[] }) ::
    (nat_lit 277, { cls := .type "tuple", dict := (none : Option Nat), data := .seq #[] 0, slots := #[] }) ::
    (nat_lit 280, { cls := .type "code", dict := (none : Option Nat), data := .fields #[.str (Str.ofString "key_names") (618 : Nat), .str (Str.ofString "key_names") (619 : Nat), .str (Str.ofString "/claim/cut.py") (620 : Nat), .int 126 (0 : Nat), .int 0 (0 : Nat), .int 0 (0 : Nat), .int 0 (0 : Nat), .int 3 (0 : Nat), .ref (277 : Nat), .bool true, .int 181 (0 : Nat), .ref (278 : Nat), .none, .none, .none, .ref (279 : Nat), .int 621 (0 : Nat), .int 126 (0 : Nat), .str (Str.ofString "/claim/cut.py") (622 : Nat)], slots := #[] }) ::
    (nat_lit 281, { cls := .type "function", dict := (none : Option Nat), data := .func { name := (Str.ofString "key_names"), qualname := (Str.ofString "key_names"), params := a20, body := .stmts b20, scope := s20, globals := (3 : Nat), closure := ([] : List (Str × Nat)), defaults := .none, kwdefaults := .none, doc := .none, pyModule := .str (Str.ofString "termcore.keyboard") (366 : Nat), annotations := (none : Option Nat), code := .ref (280 : Nat), closureTuple := .none, builtins := (0 : Nat) }, slots := #[] }) ::
    (nat_lit 282, { cls := .type "tuple", dict := (none : Option Nat), data := .seq #[] 0, slots := #[] }) ::
    (nat_lit 284, { cls := .type "tuple", dict := (none : Option Nat), data := .seq #[.str (Str.ofString "octets") (627 : Nat), .str (Str.ofString "small") (628 : Nat), .str (Str.ofString "\x61lias") (629 : Nat), .str (Str.ofString "name") (630 : Nat)] 0, slots := #[] }) ::
    (nat_lit 285, { cls := .type "tuple", dict := (none : Option Nat), data := .seq #[] 0, slots := #[] }) ::
    (nat_lit 287, { cls := .type "code", dict := (none : Option Nat), data := .fields #[.str (Str.ofString "key_named") (624 : Nat), .str (Str.ofString "key_named") (625 : Nat), .str (Str.ofString "/claim/cut.py") (626 : Nat), .int 129 (0 : Nat), .int 1 (0 : Nat), .int 0 (0 : Nat), .int 0 (0 : Nat), .int 3 (0 : Nat), .ref (282 : Nat), .bool true, .int 181 (0 : Nat), .ref (283 : Nat), .none, .ref (284 : Nat), .ref (285 : Nat), .ref (286 : Nat), .int 631 (0 : Nat), .int 129 (0 : Nat), .str (Str.ofString "/claim/cut.py") (632 : Nat)], slots := #[] }) ::
    (nat_lit 288, { cls := .type "function", dict := (none : Option Nat), data := .func { name := (Str.ofString "key_named"), qualname := (Str.ofString "key_named"), params := a21, body := .stmts b21, scope := s21, globals := (3 : Nat), closure := ([] : List (Str × Nat)), defaults := .none, kwdefaults := .none, doc := .none, pyModule := .str (Str.ofString "termcore.keyboard") (366 : Nat), annotations := (none : Option Nat), code := .ref (287 : Nat), closureTuple := .none, builtins := (0 : Nat) }, slots := #[] }) ::
    (nat_lit 289, { cls := .type "tuple", dict := (none : Option Nat), data := .seq #[] 0, slots := #[] }) ::
    (nat_lit 291, { cls := .type "tuple", dict := (none : Option Nat), data := .seq #[.str (Str.ofString "octets") (637 : Nat), .str (Str.ofString "codes") (638 : Nat)] 0, slots := #[] }) ::
    (nat_lit 292, { cls := .type "tuple", dict := (none : Option Nat), data := .seq #[] 0, slots := #[] }) ::
    (nat_lit 294, { cls := .type "code", dict := (none : Option Nat), data := .fields #[.str (Str.ofString "key_one_sign") (634 : Nat), .str (Str.ofString "key_one_sign") (635 : Nat), .str (Str.ofString "/claim/cut.py") (636 : Nat), .int 138 (0 : Nat), .int 1 (0 : Nat), .int 0 (0 : Nat), .int 0 (0 : Nat), .int 3 (0 : Nat), .ref (289 : Nat), .bool true, .int 181 (0 : Nat), .ref (290 : Nat), .none, .ref (291 : Nat), .ref (292 : Nat), .ref (293 : Nat), .int 639 (0 : Nat), .int 138 (0 : Nat), .str (Str.ofString "/claim/cut.py") (640 : Nat)], slots := #[] }) ::
    (nat_lit 295, { cls := .type "function", dict := (none : Option Nat), data := .func { name := (Str.ofString "key_one_sign"), qualname := (Str.ofString "key_one_sign"), params := a22, body := .stmts b22, scope := s22, globals := (3 : Nat), closure := ([] : List (Str × Nat)), defaults := .none, kwdefaults := .none, doc := .none, pyModule := .str (Str.ofString "termcore.keyboard") (366 : Nat), annotations := (none : Option Nat), code := .ref (294 : Nat), closureTuple := .none, builtins := (0 : Nat) }, slots := #[] }) ::
    (nat_lit 296, { cls := .type "tuple", dict := (none : Option Nat), data := .seq #[] 0, slots := #[] }) ::
    (nat_lit 298, { cls := .type "tuple", dict := (none : Option Nat), data := .seq #[.str (Str.ofString "octets") (645 : Nat), .str (Str.ofString "held") (646 : Nat), .str (Str.ofString "is_ahead") (647 : Nat), .str (Str.ofString "sign") (648 : Nat), .str (Str.ofString "bit") (649 : Nat)] 0, slots := #[] }) ::
    (nat_lit 299, { cls := .type "tuple", dict := (none : Option Nat), data := .seq #[] 0, slots := #[] }) ::
    (nat_lit 301, { cls := .type "code", dict := (none : Option Nat), data := .fields #[.str (Str.ofString "key_split") (642 : Nat), .str (Str.ofString "key_split") (643 : Nat), .str (Str.ofString "/claim/cut.py") (644 : Nat), .int 143 (0 : Nat), .int 1 (0 : Nat), .int 0 (0 : Nat), .int 0 (0 : Nat), .int 3 (0 : Nat), .ref (296 : Nat), .bool true, .int 181 (0 : Nat), .ref (297 : Nat), .none, .ref (298 : Nat), .ref (299 : Nat), .ref (300 : Nat), .int 650 (0 : Nat), .int 143 (0 : Nat), .str (Str.ofString "/claim/cut.py") (651 : Nat)], slots := #[] }) ::
    (nat_lit 302, { cls := .type "function", dict := (none : Option Nat), data := .func { name := (Str.ofString "key_split"), qualname := (Str.ofString "key_split"), params := a23, body := .stmts b23, scope := s23, globals := (3 : Nat), closure := ([] : List (Str × Nat)), defaults := .none, kwdefaults := .none, doc := .none, pyModule := .str (Str.ofString "termcore.keyboard") (366 : Nat), annotations := (none : Option Nat), code := .ref (301 : Nat), closureTuple := .none, builtins := (0 : Nat) }, slots := #[] }) ::
    (nat_lit 303, { cls := .type "tuple", dict := (none : Option Nat), data := .seq #[] 0, slots := #[] }) ::
    (nat_lit 305, { cls := .type "tuple", dict := (none : Option Nat), data := .seq #[.str (Str.ofString "octets") (656 : Nat), .str (Str.ofString "held") (657 : Nat), .str (Str.ofString "rest") (658 : Nat), .str (Str.ofString "code") (659 : Nat), .str (Str.ofString "name") (660 : Nat)] 0, slots := #[] }) ::
    (nat_lit 306, { cls := .type "tuple", dict := (none : Option Nat), data := .seq #[] 0, slots := #[] }) ::
    (nat_lit 308, { cls := .type "code", dict := (none : Option Nat), data := .fields #[.str (Str.ofString "read_key") (653 : Nat), .str (Str.ofString "read_key") (654 : Nat), .str (Str.ofString "/claim/cut.py") (655 : Nat), .int 157 (0 : Nat), .int 1 (0 : Nat), .int 0 (0 : Nat), .int 0 (0 : Nat), .int 3 (0 : Nat), .ref (303 : Nat), .bool true, .int 181 (0 : Nat), .ref (304 : Nat), .none, .ref (305 : Nat), .ref (306 : Nat), .ref (307 : Nat), .int 661 (0 : Nat), .int 157 (0 : Nat), .str (Str.ofString "/claim/cut.py") (662 : Nat)], slots := #[] }) ::
    (nat_lit 309, { cls := .type "function", dict := (none : Option Nat), data := .func { name := (Str.ofString "read_key"), qualname := (Str.ofString "read_key"), params := a24, body := .stmts b24, scope := s24, globals := (3 : Nat), closure := ([] : List (Str × Nat)), defaults := .none, kwdefaults := .none, doc := .none, pyModule := .str (Str.ofString "termcore.keyboard") (366 : Nat), annotations := (none : Option Nat), code := .ref (308 : Nat), closureTuple := .none, builtins := (0 : Nat) }, slots := #[] }) ::
    (nat_lit 310, { cls := .type "tuple", dict := (none : Option Nat), data := .seq #[] 0, slots := #[] }) ::
    (nat_lit 312, { cls := .type "tuple", dict := (none : Option Nat), data := .seq #[.str (Str.ofString "key") (667 : Nat), .str (Str.ofString "found") (668 : Nat), .str (Str.ofString "sign") (669 : Nat), .str (Str.ofString "bit") (670 : Nat)] 0, slots := #[] }) ::
    (nat_lit 313, { cls := .type "tuple", dict := (none : Option Nat), data := .seq #[] 0, slots := #[] }) ::
    (nat_lit 315, { cls := .type "code", dict := (none : Option Nat), data := .fields #[.str (Str.ofString "key_word") (664 : Nat), .str (Str.ofString "key_word") (665 : Nat), .str (Str.ofString "/claim/cut.py") (666 : Nat), .int 168 (0 : Nat), .int 1 (0 : Nat), .int 0 (0 : Nat), .int 0 (0 : Nat), .int 3 (0 : Nat), .ref (310 : Nat), .bool true, .int 181 (0 : Nat), .ref (311 : Nat), .none, .ref (312 : Nat), .ref (313 : Nat), .ref (314 : Nat), .int 671 (0 : Nat), .int 168 (0 : Nat), .str (Str.ofString "/claim/cut.py") (672 : Nat)], slots := #[] }) ::
    (nat_lit 316, { cls := .type "function", dict := (none : Option Nat), data := .func { name := (Str.ofString "key_word"), qualname := (Str.ofString "key_word"), params := a25, body := .stmts b25, scope := s25, globals := (3 : Nat), closure := ([] : List (Str × Nat)), defaults := .none, kwdefaults := .none, doc := .none, pyModule := .str (Str.ofString "termcore.keyboard") (366 : Nat), annotations := (none : Option Nat), code := .ref (315 : Nat), closureTuple := .none, builtins := (0 : Nat) }, slots := #[] }) ::
    (nat_lit 317, { cls := .type "tuple", dict := (none : Option Nat), data := .seq #[] 0, slots := #[] }) ::
    (nat_lit 320, { cls := .type "code", dict := (none : Option Nat), data := .fields #[.str (Str.ofString "_law_names") (676 : Nat), .str (Str.ofString "_law_names") (677 : Nat), .str (Str.ofString "/claim/cut.py") (678 : Nat), .int 177 (0 : Nat), .int 0 (0 : Nat), .int 0 (0 : Nat), .int 0 (0 : Nat), .int 3 (0 : Nat), .ref (317 : Nat), .bool true, .int 181 (0 : Nat), .ref (318 : Nat), .none, .none, .none, .ref (319 : Nat), .int 679 (0 : Nat), .int 177 (0 : Nat), .str (Str.ofString "/claim/cut.py") (680 : Nat)], slots := #[] }) ::
    (nat_lit 321, { cls := .type "function", dict := (none : Option Nat), data := .func { name := (Str.ofString "_law_names"), qualname := (Str.ofString "_law_names"), params := a26, body := .stmts b26, scope := s26, globals := (3 : Nat), closure := ([] : List (Str × Nat)), defaults := .none, kwdefaults := .none, doc := .none, pyModule := .str (Str.ofString "law_og0251_01") (674 : Nat), annotations := (none : Option Nat), code := .ref (320 : Nat), closureTuple := .none, builtins := (0 : Nat) }, slots := #[] }) ::
    (nat_lit 322, { cls := .type "tuple", dict := (none : Option Nat), data := .seq #[] 0, slots := #[] }) ::
    (nat_lit 324, { cls := .type "tuple", dict := (none : Option Nat), data := .seq #[.str (Str.ofString "code") (685 : Nat)] 0, slots := #[] }) ::
    (nat_lit 325, { cls := .type "tuple", dict := (none : Option Nat), data := .seq #[] 0, slots := #[] }) ::
    (nat_lit 327, { cls := .type "code", dict := (none : Option Nat), data := .fields #[.str (Str.ofString "_law_sign_octets") (682 : Nat), .str (Str.ofString "_law_sign_octets") (683 : Nat), .str (Str.ofString "/claim/cut.py") (684 : Nat), .int 182 (0 : Nat), .int 1 (0 : Nat), .int 0 (0 : Nat), .int 0 (0 : Nat), .int 3 (0 : Nat), .ref (322 : Nat), .bool true, .int 181 (0 : Nat), .ref (323 : Nat), .none, .ref (324 : Nat), .ref (325 : Nat), .ref (326 : Nat), .int 686 (0 : Nat), .int 182 (0 : Nat), .str (Str.ofString "/claim/cut.py") (687 : Nat)], slots := #[] }) ::
    (nat_lit 328, { cls := .type "function", dict := (none : Option Nat), data := .func { name := (Str.ofString "_law_sign_octets"), qualname := (Str.ofString "_law_sign_octets"), params := a27, body := .stmts b27, scope := s27, globals := (3 : Nat), closure := ([] : List (Str × Nat)), defaults := .none, kwdefaults := .none, doc := .none, pyModule := .str (Str.ofString "law_og0251_01") (674 : Nat), annotations := (none : Option Nat), code := .ref (327 : Nat), closureTuple := .none, builtins := (0 : Nat) }, slots := #[] }) ::
    (nat_lit 329, { cls := .type "tuple", dict := (none : Option Nat), data := .seq #[] 0, slots := #[] }) ::
    (nat_lit 331, { cls := .type "tuple", dict := (none : Option Nat), data := .seq #[.str (Str.ofString "octets") (692 : Nat), .str (Str.ofString "how") (693 : Nat), .str (Str.ofString "found") (694 : Nat), .str (Str.ofString "k") (695 : Nat), .str (Str.ofString "octet") (696 : Nat)] 0, slots := #[] }) ::
    (nat_lit 332, { cls := .type "tuple", dict := (none : Option Nat), data := .seq #[] 0, slots := #[] }) ::
    (nat_lit 334, { cls := .type "code", dict := (none : Option Nat), data := .fields #[.str (Str.ofString "_law_turned") (689 : Nat), .str (Str.ofString "_law_turned") (690 : Nat), .str (Str.ofString "/claim/cut.py") (691 : Nat), .int 190 (0 : Nat), .int 2 (0 : Nat), .int 0 (0 : Nat), .int 0 (0 : Nat), .int 3 (0 : Nat), .ref (329 : Nat), .bool true, .int 181 (0 : Nat), .ref (330 : Nat), .none, .ref (331 : Nat), .ref (332 : Nat), .ref (333 : Nat), .int 697 (0 : Nat), .int 190 (0 : Nat), .str (Str.ofString "/claim/cut.py") (698 : Nat)], slots := #[] }) ::
    (nat_lit 335, { cls := .type "function", dict := (none : Option Nat), data := .func { name := (Str.ofString "_law_turned"), qualname := (Str.ofString "_law_turned"), params := a28, body := .stmts b28, scope := s28, globals := (3 : Nat), closure := ([] : List (Str × Nat)), defaults := .none, kwdefaults := .none, doc := .none, pyModule := .str (Str.ofString "law_og0251_01") (674 : Nat), annotations := (none : Option Nat), code := .ref (334 : Nat), closureTuple := .none, builtins := (0 : Nat) }, slots := #[] }) ::
    (nat_lit 336, { cls := .type "tuple", dict := (none : Option Nat), data := .seq #[] 0, slots := #[] }) ::
    (nat_lit 338, { cls := .type "tuple", dict := (none : Option Nat), data := .seq #[.str (Str.ofString "cell") (703 : Nat), .str (Str.ofString "some") (704 : Nat), .str (Str.ofString "number") (705 : Nat), .str (Str.ofString "octets") (706 : Nat), .str (Str.ofString "k") (707 : Nat), .str (Str.ofString "value") (708 : Nat), .str (Str.ofString "word") (709 : Nat)] 0, slots := #[] }) ::
    (nat_lit 339, { cls := .type "tuple", dict := (none : Option Nat), data := .seq #[] 0, slots := #[] }) ::
    (nat_lit 341, { cls := .type "code", dict := (none : Option Nat), data := .fields #[.str (Str.ofString "_law_held") (700 : Nat), .str (Str.ofString "_law_held") (701 : Nat), .str (Str.ofString "/claim/cut.py") (702 : Nat), .int 199 (0 : Nat), .int 1 (0 : Nat), .int 0 (0 : Nat), .int 0 (0 : Nat), .int 3 (0 : Nat), .ref (336 : Nat), .bool true, .int 181 (0 : Nat), .ref (337 : Nat), .none, .ref (338 : Nat), .ref (339 : Nat), .ref (340 : Nat), .int 710 (0 : Nat), .int 199 (0 : Nat), .str (Str.ofString "/claim/cut.py") (711 : Nat)], slots := #[] }) ::
    (nat_lit 342, { cls := .type "function", dict := (none : Option Nat), data := .func { name := (Str.ofString "_law_held"), qualname := (Str.ofString "_law_held"), params := a29, body := .stmts b29, scope := s29, globals := (3 : Nat), closure := ([] : List (Str × Nat)), defaults := .none, kwdefaults := .none, doc := .none, pyModule := .str (Str.ofString "law_og0251_01") (674 : Nat), annotations := (none : Option Nat), code := .ref (341 : Nat), closureTuple := .none, builtins := (0 : Nat) }, slots := #[] }) ::
    (nat_lit 343, { cls := .type "tuple", dict := (none : Option Nat), data := .seq #[] 0, slots := #[] }) ::
    (nat_lit 345, { cls := .type "tuple", dict := (none : Option Nat), data := .seq #[.str (Str.ofString "name") (716 : Nat), .str (Str.ofString "code") (717 : Nat), .str (Str.ofString "held") (718 : Nat), .str (Str.ofString "is_letter") (719 : Nat)] 0, slots := #[] }) ::
    (nat_lit 346, { cls := .type "tuple", dict := (none : Option Nat), data := .seq #[] 0, slots := #[] }) ::
    (nat_lit 348, { cls := .type "code", dict := (none : Option Nat), data := .fields #[.str (Str.ofString "_law_settled") (713 : Nat), .str (Str.ofString "_law_settled") (714 : Nat), .str (Str.ofString "/claim/cut.py") (715 : Nat), .int 205 (0 : Nat), .int 3 (0 : Nat), .int 0 (0 : Nat), .int 0 (0 : Nat), .int 3 (0 : Nat), .ref (343 : Nat), .bool true, .int 181 (0 : Nat), .ref (344 : Nat), .none, .ref (345 : Nat), .ref (346 : Nat), .ref (347 : Nat), .int 720 (0 : Nat), .int 205 (0 : Nat), .str (Str.ofString "/claim/cut.py") (721 : Nat)], slots := #[] }) ::
    (nat_lit 349, { cls := .type "function", dict := (none : Option Nat), data := .func { name := (Str.ofString "_law_settled"), qualname := (Str.ofString "_law_settled"), params := a30, body := .stmts b30, scope := s30, globals := (3 : Nat), closure := ([] : List (Str × Nat)), defaults := .none, kwdefaults := .none, doc := .none, pyModule := .str (Str.ofString "law_og0251_01") (674 : Nat), annotations := (none : Option Nat), code := .ref (348 : Nat), closureTuple := .none, builtins := (0 : Nat) }, slots := #[] }) ::
    (nat_lit 350, { cls := .type "tuple", dict := (none : Option Nat), data := .seq #[] 0, slots := #[] }) ::
    (nat_lit 352, { cls := .type "tuple", dict := (none : Option Nat), data := .seq #[.str (Str.ofString "key") (726 : Nat), .str (Str.ofString "name") (727 : Nat), .str (Str.ofString "code") (728 : Nat), .str (Str.ofString "held") (729 : Nat)] 0, slots := #[] }) ::
    (nat_lit 353, { cls := .type "tuple", dict := (none : Option Nat), data := .seq #[] 0, slots := #[] }) ::
    (nat_lit 355, { cls := .type "code", dict := (none : Option Nat), data := .fields #[.str (Str.ofString "_law_word") (723 : Nat), .str (Str.ofString "_law_word") (724 : Nat), .str (Str.ofString "/claim/cut.py") (725 : Nat), .int 212 (0 : Nat), .int 1 (0 : Nat), .int 0 (0 : Nat), .int 0 (0 : Nat), .int 3 (0 : Nat), .ref (350 : Nat), .bool true, .int 181 (0 : Nat), .ref (351 : Nat), .none, .ref (352 : Nat), .ref (353 : Nat), .ref (354 : Nat), .int 730 (0 : Nat), .int 212 (0 : Nat), .str (Str.ofString "/claim/cut.py") (731 : Nat)], slots := #[] }) ::
    (nat_lit 356, { cls := .type "function", dict := (none : Option Nat), data := .func { name := (Str.ofString "_law_word"), qualname := (Str.ofString "_law_word"), params := a31, body := .stmts b31, scope := s31, globals := (3 : Nat), closure := ([] : List (Str × Nat)), defaults := .none, kwdefaults := .none, doc := .none, pyModule := .str (Str.ofString "law_og0251_01") (674 : Nat), annotations := (none : Option Nat), code := .ref (355 : Nat), closureTuple := .none, builtins := (0 : Nat) }, slots := #[] }) ::
    (nat_lit 357, { cls := .type "tuple", dict := (none : Option Nat), data := .seq #[] 0, slots := #[] }) ::
    (nat_lit 359, { cls := .type "tuple", dict := (none : Option Nat), data := .seq #[.str (Str.ofString "cells") (736 : Nat), .str (Str.ofString "way") (737 : Nat), .str (Str.ofString "rest") (738 : Nat), .str (Str.ofString "held") (739 : Nat), .str (Str.ofString "ahead") (740 : Nat), .str (Str.ofString "word") (741 : Nat), .str (Str.ofString "name") (742 : Nat), .str (Str.ofString "code") (743 : Nat)] 0, slots := #[] }) ::
    (nat_lit 360, { cls := .type "tuple", dict := (none : Option Nat), data := .seq #[] 0, slots := #[] }) ::
    (nat_lit 362, { cls := .type "code", dict := (none : Option Nat), data := .fields #[.str (Str.ofString "_law_drawn") (733 : Nat), .str (Str.ofString "_law_drawn") (734 : Nat), .str (Str.ofString "/claim/cut.py") (735 : Nat), .int 217 (0 : Nat), .int 1 (0 : Nat), .int 0 (0 : Nat), .int 0 (0 : Nat), .int 3 (0 : Nat), .ref (357 : Nat), .bool true, .int 181 (0 : Nat), .ref (358 : Nat), .none, .ref (359 : Nat), .ref (360 : Nat), .ref (361 : Nat), .int 744 (0 : Nat), .int 217 (0 : Nat), .str (Str.ofString "/claim/cut.py") (745 : Nat)], slots := #[] }) ::
    (nat_lit 363, { cls := .type "function", dict := (none : Option Nat), data := .func { name := (Str.ofString "_law_drawn"), qualname := (Str.ofString "_law_drawn"), params := a32, body := .stmts b32, scope := s32, globals := (3 : Nat), closure := ([] : List (Str × Nat)), defaults := .none, kwdefaults := .none, doc := .none, pyModule := .str (Str.ofString "law_og0251_01") (674 : Nat), annotations := (none : Option Nat), code := .ref (362 : Nat), closureTuple := .none, builtins := (0 : Nat) }, slots := #[] }) ::
    (nat_lit 364, { cls := .type "tuple", dict := (none : Option Nat), data := .seq #[] 0, slots := #[] }) ::
    (nat_lit 366, { cls := .type "tuple", dict := (none : Option Nat), data := .seq #[.str (Str.ofString "word") (750 : Nat), .str (Str.ofString "told") (751 : Nat), .str (Str.ofString "e") (752 : Nat)] 0, slots := #[] }) ::
    (nat_lit 367, { cls := .type "tuple", dict := (none : Option Nat), data := .seq #[] 0, slots := #[] }) ::
    (nat_lit 369, { cls := .type "code", dict := (none : Option Nat), data := .fields #[.str (Str.ofString "_law_is_refused") (747 : Nat), .str (Str.ofString "_law_is_refused") (748 : Nat), .str (Str.ofString "/claim/cut.py") (749 : Nat), .int 235 (0 : Nat), .int 1 (0 : Nat), .int 0 (0 : Nat), .int 0 (0 : Nat), .int 3 (0 : Nat), .ref (364 : Nat), .bool true, .int 181 (0 : Nat), .ref (365 : Nat), .none, .ref (366 : Nat), .ref (367 : Nat), .ref (368 : Nat), .int 753 (0 : Nat), .int 235 (0 : Nat), .str (Str.ofString "/claim/cut.py") (754 : Nat)], slots := #[] }) ::
    (nat_lit 370, { cls := .type "function", dict := (none : Option Nat), data := .func { name := (Str.ofString "_law_is_refused"), qualname := (Str.ofString "_law_is_refused"), params := a33, body := .stmts b33, scope := s33, globals := (3 : Nat), closure := ([] : List (Str × Nat)), defaults := .none, kwdefaults := .none, doc := .none, pyModule := .str (Str.ofString "law_og0251_01") (674 : Nat), annotations := (none : Option Nat), code := .ref (369 : Nat), closureTuple := .none, builtins := (0 : Nat) }, slots := #[] }) ::
    (nat_lit 371, { cls := .type "tuple", dict := (none : Option Nat), data := .seq #[] 0, slots := #[] }) ::
    (nat_lit 373, { cls := .type "tuple", dict := (none : Option Nat), data := .seq #[.str (Str.ofString "word") (759 : Nat), .str (Str.ofString "due") (760 : Nat), .str (Str.ofString "key") (761 : Nat), .str (Str.ofString "other") (762 : Nat)] 0, slots := #[] }) ::
    (nat_lit 374, { cls := .type "tuple", dict := (none : Option Nat), data := .seq #[] 0, slots := #[] }) ::
    (nat_lit 376, { cls := .type "code", dict := (none : Option Nat), data := .fields #[.str (Str.ofString "_law_right") (756 : Nat), .str (Str.ofString "_law_right") (757 : Nat), .str (Str.ofString "/claim/cut.py") (758 : Nat), .int 242 (0 : Nat), .int 2 (0 : Nat), .int 0 (0 : Nat), .int 0 (0 : Nat), .int 3 (0 : Nat), .ref (371 : Nat), .bool true, .int 181 (0 : Nat), .ref (372 : Nat), .none, .ref (373 : Nat), .ref (374 : Nat), .ref (375 : Nat), .int 763 (0 : Nat), .int 242 (0 : Nat), .str (Str.ofString "/claim/cut.py") (764 : Nat)], slots := #[] }) ::
    (nat_lit 377, { cls := .type "function", dict := (none : Option Nat), data := .func { name := (Str.ofString "_law_right"), qualname := (Str.ofString "_law_right"), params := a34, body := .stmts b34, scope := s34, globals := (3 : Nat), closure := ([] : List (Str × Nat)), defaults := .none, kwdefaults := .none, doc := .none, pyModule := .str (Str.ofString "law_og0251_01") (674 : Nat), annotations := (none : Option Nat), code := .ref (376 : Nat), closureTuple := .none, builtins := (0 : Nat) }, slots := #[] }) ::
    (nat_lit 378, { cls := .type "tuple", dict := (none : Option Nat), data := .seq #[] 0, slots := #[] }) ::
    (nat_lit 381, { cls := .type "code", dict := (none : Option Nat), data := .fields #[.str (Str.ofString "law") (766 : Nat), .str (Str.ofString "law") (767 : Nat), .str (Str.ofString "/claim/cut.py") (768 : Nat), .int 248 (0 : Nat), .int 1 (0 : Nat), .int 0 (0 : Nat), .int 0 (0 : Nat), .int 3 (0 : Nat), .ref (378 : Nat), .bool true, .int 181 (0 : Nat), .ref (379 : Nat), .none, .none, .none, .ref (380 : Nat), .int 769 (0 : Nat), .int 248 (0 : Nat), .str (Str.ofString "/claim/cut.py") (770 : Nat)], slots := #[] }) ::
    (nat_lit 382, { cls := .type "function", dict := (none : Option Nat), data := .func { name := (Str.ofString "law"), qualname := (Str.ofString "law"), params := a35, body := .stmts b35, scope := s35, globals := (3 : Nat), closure := ([] : List (Str × Nat)), defaults := .none, kwdefaults := .none, doc := .none, pyModule := .str (Str.ofString "law_og0251_01") (674 : Nat), annotations := (none : Option Nat), code := .ref (381 : Nat), closureTuple := .none, builtins := (0 : Nat) }, slots := #[] }) :: []
noncomputable def asK : List Nat := nat_lit 2 :: nat_lit 3 :: nat_lit 15 :: nat_lit 17 :: nat_lit 18 :: nat_lit 20 :: nat_lit 21 :: nat_lit 22 :: nat_lit 29 :: nat_lit 30 :: nat_lit 32 :: nat_lit 33 :: nat_lit 35 :: nat_lit 36 :: nat_lit 37 :: nat_lit 38 :: nat_lit 39 :: nat_lit 40 :: nat_lit 43 :: nat_lit 50 :: nat_lit 51 :: nat_lit 52 :: nat_lit 55 :: nat_lit 57 :: nat_lit 58 :: nat_lit 60 :: nat_lit 61 :: nat_lit 69 :: nat_lit 70 :: nat_lit 72 :: nat_lit 73 :: nat_lit 75 :: nat_lit 76 :: nat_lit 77 :: nat_lit 79 :: nat_lit 80 :: nat_lit 82 :: nat_lit 83 :: nat_lit 84 :: nat_lit 86 :: nat_lit 87 :: nat_lit 89 :: nat_lit 90 :: nat_lit 91 :: nat_lit 93 :: nat_lit 94 :: nat_lit 96 :: nat_lit 97 :: nat_lit 98 :: nat_lit 100 :: nat_lit 101 :: nat_lit 103 :: nat_lit 104 :: nat_lit 105 :: nat_lit 107 :: nat_lit 108 :: nat_lit 110 :: nat_lit 111 :: nat_lit 112 :: nat_lit 114 :: nat_lit 115 :: nat_lit 117 :: nat_lit 118 :: nat_lit 119 :: nat_lit 121 :: nat_lit 122 :: nat_lit 124 :: nat_lit 125 :: nat_lit 126 :: nat_lit 127 :: nat_lit 128 :: nat_lit 129 :: nat_lit 130 :: nat_lit 133 :: nat_lit 135 :: nat_lit 136 :: nat_lit 138 :: nat_lit 139 :: nat_lit 140 :: nat_lit 142 :: nat_lit 143 :: nat_lit 145 :: nat_lit 146 :: nat_lit 147 :: nat_lit 148 :: nat_lit 149 :: nat_lit 150 :: nat_lit 151 :: nat_lit 152 :: nat_lit 153 :: nat_lit 154 :: nat_lit 155 :: nat_lit 156 :: nat_lit 157 :: nat_lit 158 :: nat_lit 159 :: nat_lit 160 :: nat_lit 161 :: nat_lit 162 :: nat_lit 163 :: nat_lit 164 :: nat_lit 165 :: nat_lit 166 :: nat_lit 167 :: nat_lit 168 :: nat_lit 169 :: nat_lit 170 :: nat_lit 171 :: nat_lit 172 :: nat_lit 173 :: nat_lit 174 :: nat_lit 175 :: nat_lit 176 :: nat_lit 177 :: nat_lit 178 :: nat_lit 179 :: nat_lit 180 :: nat_lit 181 :: nat_lit 182 :: nat_lit 183 :: nat_lit 184 :: nat_lit 185 :: nat_lit 186 :: nat_lit 187 :: nat_lit 188 :: nat_lit 189 :: nat_lit 190 :: nat_lit 191 :: nat_lit 192 :: nat_lit 193 :: nat_lit 194 :: nat_lit 195 :: nat_lit 196 :: nat_lit 197 :: nat_lit 198 :: nat_lit 199 :: nat_lit 200 :: nat_lit 201 :: nat_lit 202 :: nat_lit 203 :: nat_lit 204 :: nat_lit 205 :: nat_lit 206 :: nat_lit 207 :: nat_lit 208 :: nat_lit 209 :: nat_lit 210 :: nat_lit 211 :: nat_lit 212 :: nat_lit 213 :: nat_lit 221 :: nat_lit 222 :: nat_lit 224 :: nat_lit 225 :: nat_lit 227 :: nat_lit 228 :: nat_lit 229 :: nat_lit 231 :: nat_lit 232 :: nat_lit 234 :: nat_lit 235 :: nat_lit 236 :: nat_lit 238 :: nat_lit 239 :: nat_lit 241 :: nat_lit 242 :: nat_lit 243 :: nat_lit 244 :: nat_lit 245 :: nat_lit 246 :: nat_lit 247 :: nat_lit 250 :: nat_lit 252 :: nat_lit 253 :: nat_lit 255 :: nat_lit 256 :: nat_lit 257 :: nat_lit 259 :: nat_lit 260 :: nat_lit 262 :: nat_lit 263 :: nat_lit 264 :: nat_lit 265 :: nat_lit 267 :: nat_lit 268 :: nat_lit 270 :: nat_lit 271 :: nat_lit 272 :: nat_lit 275 :: nat_lit 276 :: nat_lit 277 :: nat_lit 280 :: nat_lit 281 :: nat_lit 282 :: nat_lit 284 :: nat_lit 285 :: nat_lit 287 :: nat_lit 288 :: nat_lit 289 :: nat_lit 291 :: nat_lit 292 :: nat_lit 294 :: nat_lit 295 :: nat_lit 296 :: nat_lit 298 :: nat_lit 299 :: nat_lit 301 :: nat_lit 302 :: nat_lit 303 :: nat_lit 305 :: nat_lit 306 :: nat_lit 308 :: nat_lit 309 :: nat_lit 310 :: nat_lit 312 :: nat_lit 313 :: nat_lit 315 :: nat_lit 316 :: nat_lit 317 :: nat_lit 320 :: nat_lit 321 :: nat_lit 322 :: nat_lit 324 :: nat_lit 325 :: nat_lit 327 :: nat_lit 328 :: nat_lit 329 :: nat_lit 331 :: nat_lit 332 :: nat_lit 334 :: nat_lit 335 :: nat_lit 336 :: nat_lit 338 :: nat_lit 339 :: nat_lit 341 :: nat_lit 342 :: nat_lit 343 :: nat_lit 345 :: nat_lit 346 :: nat_lit 348 :: nat_lit 349 :: nat_lit 350 :: nat_lit 352 :: nat_lit 353 :: nat_lit 355 :: nat_lit 356 :: nat_lit 357 :: nat_lit 359 :: nat_lit 360 :: nat_lit 362 :: nat_lit 363 :: nat_lit 364 :: nat_lit 366 :: nat_lit 367 :: nat_lit 369 :: nat_lit 370 :: nat_lit 371 :: nat_lit 373 :: nat_lit 374 :: nat_lit 376 :: nat_lit 377 :: nat_lit 378 :: nat_lit 381 :: nat_lit 382 :: []
abbrev PR : Program := Challenge.rw_og0251_01.row.prog
abbrev rowW : RowW := OpenRow.toRowW Challenge.rw_og0251_01.row
abbrev looseN : List Str := [Str.ofString "TermError", Str.ofString "KEY_MODIFIERS", Str.ofString "Key", Str.ofString "key_settled"]
abbrev lvN : List (Str × WData) := [(Str.ofString "KEY_MODIFIERS", .tuple [.tuple [.int 67, .int 4], .tuple [.int 77, .int 2], .tuple [.int 83, .int 1]])]
theorem asK_eq : ∀ P, asK = (heapK P).map (·.1) := fun _ => by kernel_rfl
noncomputable abbrev HK : Hook := kHook heapK asK asK_eq
theorem look_1 : (sreFenced PR.main && ((moduleNames PR.main.body).isEmpty || lookedIntoSs (moduleNames PR.main.body) PR.main.body)) = true := by kernel_rfl
theorem look_2 : namesResolve PR = true := by kernel_rfl
theorem look_3 : (PR.boundNames.all fun n => !worldNames.contains n) = true := by kernel_rfl
theorem look_4 : noRoadLSs { strict := false, foot := none, bare := (["vars", "dir", "locals"] : List Str).filter (readsOut PR PR.main.body) } PR.main.body = true := by kernel_rfl
theorem look_5 : (namesMeet PR PR.main.body fun _ n => attrL n) = true := by kernel_rfl
theorem look_open : looksOpen PR = true := by
  unfold looksOpen
  exact look_both (look_both (look_both (look_both look_1 look_2) look_3) look_4) look_5
theorem look_part : OpenRow.partSaid Challenge.rw_og0251_01.row = true := by
  unfold OpenRow.partSaid
  exact look_both (look_both (look_both (look_both (look_both (look_both (look_both (look_both (look_both (look_both (look_both (look_both (look_both look_open (by kernel_rfl)) (by kernel_rfl)) (by kernel_rfl)) (by kernel_rfl)) (by kernel_rfl)) (by kernel_rfl)) (by kernel_rfl)) (by kernel_rfl)) (by kernel_rfl)) (by kernel_rfl)) (by kernel_rfl)) (by kernel_rfl)) (by kernel_rfl)
theorem look_row : OpenRow.wellSaid Challenge.rw_og0251_01.row = true := by
  unfold OpenRow.wellSaid
  exact look_both (look_both look_part (by kernel_rfl)) (by kernel_rfl)
theorem well : OpenLaw.wellSaid Challenge.rw_og0251_01 = true := by
  unfold OpenLaw.wellSaid
  exact look_both (look_both (look_both (look_both (look_both (look_both (look_both (look_both (look_both (look_both (look_both (look_both (look_both (look_both (look_both (look_both (look_both (look_both look_row (by kernel_rfl)) (by kernel_rfl)) (by kernel_rfl)) (by kernel_rfl)) (by kernel_rfl)) (by kernel_rfl)) (by kernel_rfl)) (by kernel_rfl)) (by kernel_rfl)) (by kernel_rfl)) (by kernel_rfl)) (by kernel_rfl)) (by kernel_rfl)) (by kernel_rfl)) (by kernel_rfl)) (by kernel_rfl)) (by kernel_rfl)) (by kernel_rfl)
/-- every object that the top leaves -/
noncomputable def objsL : Params → List Obj := by
  intro P
  refine (?f :
    ∀ (a0 : Arguments) (b0 : List Stmt) (s0 : Scope), parts (stAt 0) = (a0, b0, s0) →
    ∀ (a1 : Arguments) (b1 : List Stmt) (s1 : Scope), parts (inCls (stAt 2) 0) = (a1, b1, s1) →
    ∀ (a2 : Arguments) (b2 : List Stmt) (s2 : Scope), parts (stAt 9) = (a2, b2, s2) →
    ∀ (a3 : Arguments) (b3 : List Stmt) (s3 : Scope), parts (inCls (stAt 10) 0) = (a3, b3, s3) →
    ∀ (a4 : Arguments) (b4 : List Stmt) (s4 : Scope), parts (inCls (stAt 10) 1) = (a4, b4, s4) →
    ∀ (a5 : Arguments) (b5 : List Stmt) (s5 : Scope), parts (inCls (stAt 10) 2) = (a5, b5, s5) →
    ∀ (a6 : Arguments) (b6 : List Stmt) (s6 : Scope), parts (inCls (stAt 10) 3) = (a6, b6, s6) →
    ∀ (a7 : Arguments) (b7 : List Stmt) (s7 : Scope), parts (inCls (stAt 10) 4) = (a7, b7, s7) →
    ∀ (a8 : Arguments) (b8 : List Stmt) (s8 : Scope), parts (inCls (stAt 10) 5) = (a8, b8, s8) →
    ∀ (a9 : Arguments) (b9 : List Stmt) (s9 : Scope), parts (inCls (stAt 10) 6) = (a9, b9, s9) →
    ∀ (a10 : Arguments) (b10 : List Stmt) (s10 : Scope), parts (inCls (stAt 10) 7) = (a10, b10, s10) →
    ∀ (a11 : Arguments) (b11 : List Stmt) (s11 : Scope), parts (stAt 11) = (a11, b11, s11) →
    ∀ (a12 : Arguments) (b12 : List Stmt) (s12 : Scope), parts (stAt 12) = (a12, b12, s12) →
    ∀ (a13 : Arguments) (b13 : List Stmt) (s13 : Scope), parts (inCls (stAt 24) 0) = (a13, b13, s13) →
    ∀ (a14 : Arguments) (b14 : List Stmt) (s14 : Scope), parts (inCls (stAt 24) 1) = (a14, b14, s14) →
    ∀ (a15 : Arguments) (b15 : List Stmt) (s15 : Scope), parts (inCls (stAt 24) 2) = (a15, b15, s15) →
    ∀ (a16 : Arguments) (b16 : List Stmt) (s16 : Scope), parts (stAt 25) = (a16, b16, s16) →
    ∀ (a17 : Arguments) (b17 : List Stmt) (s17 : Scope), parts (stAt 26) = (a17, b17, s17) →
    ∀ (a18 : Arguments) (b18 : List Stmt) (s18 : Scope), parts (stAt 27) = (a18, b18, s18) →
    ∀ (a19 : Arguments) (b19 : List Stmt) (s19 : Scope), parts (stAt 28) = (a19, b19, s19) →
    ∀ (a20 : Arguments) (b20 : List Stmt) (s20 : Scope), parts (stAt 29) = (a20, b20, s20) →
    ∀ (a21 : Arguments) (b21 : List Stmt) (s21 : Scope), parts (stAt 30) = (a21, b21, s21) →
    ∀ (a22 : Arguments) (b22 : List Stmt) (s22 : Scope), parts (stAt 31) = (a22, b22, s22) →
    ∀ (a23 : Arguments) (b23 : List Stmt) (s23 : Scope), parts (stAt 32) = (a23, b23, s23) →
    ∀ (a24 : Arguments) (b24 : List Stmt) (s24 : Scope), parts (stAt 33) = (a24, b24, s24) →
    ∀ (a25 : Arguments) (b25 : List Stmt) (s25 : Scope), parts (stAt 34) = (a25, b25, s25) →
    ∀ (a26 : Arguments) (b26 : List Stmt) (s26 : Scope), parts (stAt 36) = (a26, b26, s26) →
    ∀ (a27 : Arguments) (b27 : List Stmt) (s27 : Scope), parts (stAt 37) = (a27, b27, s27) →
    ∀ (a28 : Arguments) (b28 : List Stmt) (s28 : Scope), parts (stAt 38) = (a28, b28, s28) →
    ∀ (a29 : Arguments) (b29 : List Stmt) (s29 : Scope), parts (stAt 39) = (a29, b29, s29) →
    ∀ (a30 : Arguments) (b30 : List Stmt) (s30 : Scope), parts (stAt 40) = (a30, b30, s30) →
    ∀ (a31 : Arguments) (b31 : List Stmt) (s31 : Scope), parts (stAt 41) = (a31, b31, s31) →
    ∀ (a32 : Arguments) (b32 : List Stmt) (s32 : Scope), parts (stAt 42) = (a32, b32, s32) →
    ∀ (a33 : Arguments) (b33 : List Stmt) (s33 : Scope), parts (stAt 43) = (a33, b33, s33) →
    ∀ (a34 : Arguments) (b34 : List Stmt) (s34 : Scope), parts (stAt 44) = (a34, b34, s34) →
    ∀ (a35 : Arguments) (b35 : List Stmt) (s35 : Scope), parts (stAt 45) = (a35, b35, s35) →
    List Obj) _ _ _ (by (conv => lhs; whnf) <;> exact rfl) _ _ _ (by (conv => lhs; whnf) <;> exact rfl) _ _ _ (by (conv => lhs; whnf) <;> exact rfl) _ _ _ (by (conv => lhs; whnf) <;> exact rfl) _ _ _ (by (conv => lhs; whnf) <;> exact rfl) _ _ _ (by (conv => lhs; whnf) <;> exact rfl) _ _ _ (by (conv => lhs; whnf) <;> exact rfl) _ _ _ (by (conv => lhs; whnf) <;> exact rfl) _ _ _ (by (conv => lhs; whnf) <;> exact rfl) _ _ _ (by (conv => lhs; whnf) <;> exact rfl) _ _ _ (by (conv => lhs; whnf) <;> exact rfl) _ _ _ (by (conv => lhs; whnf) <;> exact rfl) _ _ _ (by (conv => lhs; whnf) <;> exact rfl) _ _ _ (by (conv => lhs; whnf) <;> exact rfl) _ _ _ (by (conv => lhs; whnf) <;> exact rfl) _ _ _ (by (conv => lhs; whnf) <;> exact rfl) _ _ _ (by (conv => lhs; whnf) <;> exact rfl) _ _ _ (by (conv => lhs; whnf) <;> exact rfl) _ _ _ (by (conv => lhs; whnf) <;> exact rfl) _ _ _ (by (conv => lhs; whnf) <;> exact rfl) _ _ _ (by (conv => lhs; whnf) <;> exact rfl) _ _ _ (by (conv => lhs; whnf) <;> exact rfl) _ _ _ (by (conv => lhs; whnf) <;> exact rfl) _ _ _ (by (conv => lhs; whnf) <;> exact rfl) _ _ _ (by (conv => lhs; whnf) <;> exact rfl) _ _ _ (by (conv => lhs; whnf) <;> exact rfl) _ _ _ (by (conv => lhs; whnf) <;> exact rfl) _ _ _ (by (conv => lhs; whnf) <;> exact rfl) _ _ _ (by (conv => lhs; whnf) <;> exact rfl) _ _ _ (by (conv => lhs; whnf) <;> exact rfl) _ _ _ (by (conv => lhs; whnf) <;> exact rfl) _ _ _ (by (conv => lhs; whnf) <;> exact rfl) _ _ _ (by (conv => lhs; whnf) <;> exact rfl) _ _ _ (by (conv => lhs; whnf) <;> exact rfl) _ _ _ (by (conv => lhs; whnf) <;> exact rfl) _ _ _ (by (conv => lhs; whnf) <;> exact rfl)
  case f => exact fun a0 b0 s0 _ a1 b1 s1 _ a2 b2 s2 _ a3 b3 s3 _ a4 b4 s4 _ a5 b5 s5 _ a6 b6 s6 _ a7 b7 s7 _ a8 b8 s8 _ a9 b9 s9 _ a10 b10 s10 _ a11 b11 s11 _ a12 b12 s12 _ a13 b13 s13 _ a14 b14 s14 _ a15 b15 s15 _ a16 b16 s16 _ a17 b17 s17 _ a18 b18 s18 _ a19 b19 s19 _ a20 b20 s20 _ a21 b21 s21 _ a22 b22 s22 _ a23 b23 s23 _ a24 b24 s24 _ a25 b25 s25 _ a26 b26 s26 _ a27 b27 s27 _ a28 b28 s28 _ a29 b29 s29 _ a30 b30 s30 _ a31 b31 s31 _ a32 b32 s32 _ a33 b33 s33 _ a34 b34 s34 _ a35 b35 s35 _ =>
    boot_o_0 P ::
    boot_o_1 P ::
    { cls := .none, dict := (none : Option Nat), data := .dict #[⟨PyData.keyHash P (Str.ofString "type.__subclasses__.Exception.0"), .str (Str.ofString "type.__subclasses__.Exception.0") (221 : Nat), .int 39 (0 : Nat)⟩, ⟨PyData.keyHash P (Str.ofString "type.__subclasses__.Exception.n"), .str (Str.ofString "type.__subclasses__.Exception.n") (222 : Nat), .int 1 (0 : Nat)⟩] 2, slots := #[] } ::
    { cls := .type "dict", dict := (none : Option Nat), data := .dict (List.toArray (⟨PyData.keyHash P (Str.ofString "__name__"), .str (Str.ofString "__name__") (165 : Nat), .str (Str.ofString "law_og0251_01") (674 : Nat)⟩ :: ⟨PyData.keyHash P (Str.ofString "__doc__"), .str (Str.ofString "__doc__") (166 : Nat), .none⟩ :: ⟨PyData.keyHash P (Str.ofString "__package__"), .str (Str.ofString "__package__") (167 : Nat), .none⟩ :: ⟨PyData.keyHash P (Str.ofString "__loader__"), .str (Str.ofString "__loader__") (168 : Nat), .builtin "__main__.__loader__#\x6fpaque"⟩ :: ⟨PyData.keyHash P (Str.ofString "__spec__"), .str (Str.ofString "__spec__") (169 : Nat), .none⟩ :: ⟨PyData.keyHash P (Str.ofString "__annotations__"), .str (Str.ofString "__annotations__") (170 : Nat), .ref (6 : Nat)⟩ :: ⟨PyData.keyHash P (Str.ofString "__builtins__"), .str (Str.ofString "__builtins__") (171 : Nat), .ref (4 : Nat)⟩ :: ⟨PyData.keyHash P (Str.ofString "__file__"), .str (Str.ofString "__file__") (173 : Nat), .str (Str.ofString "/claim/cut.py") (172 : Nat)⟩ :: ⟨PyData.keyHash P (Str.ofString "__cached__"), .str (Str.ofString "__cached__") (174 : Nat), .none⟩ :: ⟨PyData.keyHash P (Str.ofString "_wall"), .str (Str.ofString "_wall") (193 : Nat), .ref (21 : Nat)⟩ :: ⟨PyData.keyHash P (Str.ofString "TermError"), .str (Str.ofString "TermError") (224 : Nat), .ref (39 : Nat)⟩ :: ⟨PyData.keyHash P (Str.ofString "BadKey"), .str (Str.ofString "BadKey") (240 : Nat), .ref (52 : Nat)⟩ :: ⟨PyData.keyHash P (Str.ofString "SIGN_ILL"), .str (Str.ofString "SIGN_ILL") (244 : Nat), .int 65533 (243 : Nat)⟩ :: ⟨PyData.keyHash P (Str.ofString "SIGN_TRAIL"), .str (Str.ofString "SIGN_TRAIL") (246 : Nat), .int 128 (245 : Nat)⟩ :: ⟨PyData.keyHash P (Str.ofString "SIGN_MASK"), .str (Str.ofString "SIGN_MASK") (248 : Nat), .int 63 (247 : Nat)⟩ :: ⟨PyData.keyHash P (Str.ofString "SIGN_LAST"), .str (Str.ofString "SIGN_LAST") (250 : Nat), .int 1114111 (249 : Nat)⟩ :: ⟨PyData.keyHash P (Str.ofString "sign_lead"), .str (Str.ofString "sign_lead") (257 : Nat), .ref (61 : Nat)⟩ :: ⟨PyData.keyHash P (Str.ofString "SignReader"), .str (Str.ofString "SignReader") (350 : Nat), .ref (128 : Nat)⟩ :: ⟨PyData.keyHash P (Str.ofString "is_sign"), .str (Str.ofString "is_sign") (357 : Nat), .ref (139 : Nat)⟩ :: ⟨PyData.keyHash P (Str.ofString "utf8_octets"), .str (Str.ofString "utf8_octets") (365 : Nat), .ref (146 : Nat)⟩ :: ⟨PyData.keyHash P (Str.ofString "SHIFT"), .str (Str.ofString "SHIFT") (369 : Nat), .int 1 (368 : Nat)⟩ :: ⟨PyData.keyHash P (Str.ofString "META"), .str (Str.ofString "META") (371 : Nat), .int 2 (370 : Nat)⟩ :: ⟨PyData.keyHash P (Str.ofString "CONTROL"), .str (Str.ofString "CONTROL") (373 : Nat), .int 4 (372 : Nat)⟩ :: ⟨PyData.keyHash P (Str.ofString "KEY_MODIFIERS"), .str (Str.ofString "KEY_MODIFIERS") (377 : Nat), .ref (150 : Nat)⟩ :: ⟨PyData.keyHash P (Str.ofString "KEY_PRESSED"), .str (Str.ofString "KEY_PRESSED") (379 : Nat), .int 1 (378 : Nat)⟩ :: ⟨PyData.keyHash P (Str.ofString "KEY_LETTERS"), .str (Str.ofString "KEY_LETTERS") (400 : Nat), .ref (161 : Nat)⟩ :: ⟨PyData.keyHash P (Str.ofString "KEY_NUMBERS"), .str (Str.ofString "KEY_NUMBERS") (441 : Nat), .ref (182 : Nat)⟩ :: ⟨PyData.keyHash P (Str.ofString "KEY_CODES"), .str (Str.ofString "KEY_CODES") (450 : Nat), .ref (187 : Nat)⟩ :: ⟨PyData.keyHash P (Str.ofString "KEY_PAD"), .str (Str.ofString "KEY_PAD") (523 : Nat), .ref (206 : Nat)⟩ :: ⟨PyData.keyHash P (Str.ofString "KEY_ALIASES"), .str (Str.ofString "KEY_ALIASES") (536 : Nat), .ref (213 : Nat)⟩ :: ⟨PyData.keyHash P (Str.ofString "Key"), .str (Str.ofString "Key") (587 : Nat), .ref (245 : Nat)⟩ :: ⟨PyData.keyHash P (Str.ofString "key_is_capital"), .str (Str.ofString "key_is_capital") (594 : Nat), .ref (256 : Nat)⟩ :: ⟨PyData.keyHash P (Str.ofString "key_is_small"), .str (Str.ofString "key_is_small") (601 : Nat), .ref (263 : Nat)⟩ :: ⟨PyData.keyHash P (Str.ofString "key_settled"), .str (Str.ofString "key_settled") (611 : Nat), .ref (271 : Nat)⟩ :: ⟨PyData.keyHash P (Str.ofString "key_lower"), .str (Str.ofString "key_lower") (617 : Nat), .ref (276 : Nat)⟩ :: ⟨PyData.keyHash P (Str.ofString "key_names"), .str (Str.ofString "key_names") (623 : Nat), .ref (281 : Nat)⟩ :: ⟨PyData.keyHash P (Str.ofString "key_named"), .str (Str.ofString "key_named") (633 : Nat), .ref (288 : Nat)⟩ :: ⟨PyData.keyHash P (Str.ofString "key_one_sign"), .str (Str.ofString "key_one_sign") (641 : Nat), .ref (295 : Nat)⟩ :: ⟨PyData.keyHash P (Str.ofString "key_split"), .str (Str.ofString "key_split") (652 : Nat), .ref (302 : Nat)⟩ :: ⟨PyData.keyHash P (Str.ofString "read_key"), .str (Str.ofString "read_key") (663 : Nat), .ref (309 : Nat)⟩ :: ⟨PyData.keyHash P (Str.ofString "key_word"), .str (Str.ofString "key_word") (673 : Nat), .ref (316 : Nat)⟩ :: ⟨PyData.keyHash P (Str.ofString "_law_names"), .str (Str.ofString "_law_names") (681 : Nat), .ref (321 : Nat)⟩ :: ⟨PyData.keyHash P (Str.ofString "_law_sign_octets"), .str (Str.ofString "_law_sign_octets") (688 : Nat), .ref (328 : Nat)⟩ :: ⟨PyData.keyHash P (Str.ofString "_law_turned"), .str (Str.ofString "_law_turned") (699 : Nat), .ref (335 : Nat)⟩ :: ⟨PyData.keyHash P (Str.ofString "_law_held"), .str (Str.ofString "_law_held") (712 : Nat), .ref (342 : Nat)⟩ :: ⟨PyData.keyHash P (Str.ofString "_law_settled"), .str (Str.ofString "_law_settled") (722 : Nat), .ref (349 : Nat)⟩ :: ⟨PyData.keyHash P (Str.ofString "_law_word"), .str (Str.ofString "_law_word") (732 : Nat), .ref (356 : Nat)⟩ :: ⟨PyData.keyHash P (Str.ofString "_law_drawn"), .str (Str.ofString "_law_drawn") (746 : Nat), .ref (363 : Nat)⟩ :: ⟨PyData.keyHash P (Str.ofString "_law_is_refused"), .str (Str.ofString "_law_is_refused") (755 : Nat), .ref (370 : Nat)⟩ :: ⟨PyData.keyHash P (Str.ofString "_law_right"), .str (Str.ofString "_law_right") (765 : Nat), .ref (377 : Nat)⟩ :: ⟨PyData.keyHash P (Str.ofString "law"), .str (Str.ofString "law") (771 : Nat), .ref (382 : Nat)⟩ :: [])) 51, slots := #[] } ::
    boot_o_4 P ::
    boot_o_5 P ::
    boot_o_6 P ::
    boot_o_7 P ::
    boot_o_8 P ::
    boot_o_9 P ::
    boot_o_10 P ::
    { cls := .type "tuple", dict := (none : Option Nat), data := .seq #[] 0, slots := #[] } ::
    { cls := .none, dict := (none : Option Nat), data := .fields (List.toArray (.int 1 (0 : Nat) :: .int 0 (0 : Nat) :: .ref (20 : Nat) :: .int 5 (0 : Nat) :: .int 0 (0 : Nat) :: .ref (27 : Nat) :: .int 9 (0 : Nat) :: .int 0 (0 : Nat) :: .ref (48 : Nat) :: .int 16 (0 : Nat) :: .int 0 (0 : Nat) :: .ref (60 : Nat) :: .int 24 (0 : Nat) :: .int 0 (0 : Nat) :: .ref (67 : Nat) :: .int 74 (0 : Nat) :: .int 0 (0 : Nat) :: .ref (138 : Nat) :: .int 76 (0 : Nat) :: .int 0 (0 : Nat) :: .ref (145 : Nat) :: .int 98 (0 : Nat) :: .int 0 (0 : Nat) :: .ref (219 : Nat) :: .int 111 (0 : Nat) :: .int 0 (0 : Nat) :: .ref (255 : Nat) :: .int 113 (0 : Nat) :: .int 0 (0 : Nat) :: .ref (262 : Nat) :: .int 115 (0 : Nat) :: .int 0 (0 : Nat) :: .ref (270 : Nat) :: .int 124 (0 : Nat) :: .int 0 (0 : Nat) :: .ref (275 : Nat) :: .int 126 (0 : Nat) :: .int 0 (0 : Nat) :: .ref (280 : Nat) :: .int 129 (0 : Nat) :: .int 0 (0 : Nat) :: .ref (287 : Nat) :: .int 138 (0 : Nat) :: .int 0 (0 : Nat) :: .ref (294 : Nat) :: .int 143 (0 : Nat) :: .int 0 (0 : Nat) :: .ref (301 : Nat) :: .int 157 (0 : Nat) :: .int 0 (0 : Nat) :: .ref (308 : Nat) :: .int 168 (0 : Nat) :: .int 0 (0 : Nat) :: .ref (315 : Nat) :: .int 177 (0 : Nat) :: .int 0 (0 : Nat) :: .ref (320 : Nat) :: .int 182 (0 : Nat) :: .int 0 (0 : Nat) :: .ref (327 : Nat) :: .int 190 (0 : Nat) :: .int 0 (0 : Nat) :: .ref (334 : Nat) :: .int 199 (0 : Nat) :: .int 0 (0 : Nat) :: .ref (341 : Nat) :: .int 205 (0 : Nat) :: .int 0 (0 : Nat) :: .ref (348 : Nat) :: .int 212 (0 : Nat) :: .int 0 (0 : Nat) :: .ref (355 : Nat) :: .int 217 (0 : Nat) :: .int 0 (0 : Nat) :: .ref (362 : Nat) :: .int 235 (0 : Nat) :: .int 0 (0 : Nat) :: .ref (369 : Nat) :: .int 242 (0 : Nat) :: .int 0 (0 : Nat) :: .ref (376 : Nat) :: .int 248 (0 : Nat) :: .int 0 (0 : Nat) :: .ref (381 : Nat) :: [])), slots := #[] } ::
    { cls := .type "code", dict := (none : Option Nat), data := .fields #[.str (Str.ofString "<module>") (182 : Nat), .str (Str.ofString "<module>") (183 : Nat), .str (Str.ofString "/claim/cut.py") (184 : Nat), .int 1 (0 : Nat), .int 0 (0 : Nat), .int 0 (0 : Nat), .int 0 (0 : Nat), .int 0 (0 : Nat), .ref (11 : Nat), .bool false, .int 181 (0 : Nat), .ref (12 : Nat), .none, .none, .none, .none, .int 185 (0 : Nat), .int 1 (0 : Nat), .str (Str.ofString "/claim/cut.py") (186 : Nat)], slots := #[] } ::
    { cls := .type "frame", dict := (none : Option Nat), data := .plain, slots := #[some (.ref (13 : Nat)), some (.ref (3 : Nat)), some (.ref (3 : Nat)), none, some (.str (Str.ofString "__main__") (164 : Nat)), none, some (.ref (0 : Nat))] } ::
    { cls := .type "tuple", dict := (none : Option Nat), data := .seq #[] 0, slots := #[] } ::
    { cls := .none, dict := (none : Option Nat), data := .fields #[], slots := #[] } ::
    { cls := .type "tuple", dict := (none : Option Nat), data := .seq #[.str (Str.ofString "k") (190 : Nat)] 0, slots := #[] } ::
    { cls := .type "tuple", dict := (none : Option Nat), data := .seq #[] 0, slots := #[] } ::
    { cls := .none, dict := (none : Option Nat), data := .func { name := (Str.ofString "_wall"), qualname := (Str.ofString "_wall"), params := a0, body := .stmts b0, scope := s0, globals := (0 : Nat), closure := ([] : List (Str × Nat)), defaults := .none, kwdefaults := .none, doc := .none, pyModule := .none, annotations := (none : Option Nat), code := .none, closureTuple := .none, builtins := (0 : Nat) }, slots := #[] } ::
    { cls := .type "code", dict := (none : Option Nat), data := .fields #[.str (Str.ofString "_wall") (187 : Nat), .str (Str.ofString "_wall") (188 : Nat), .str (Str.ofString "/claim/cut.py") (189 : Nat), .int 1 (0 : Nat), .int 1 (0 : Nat), .int 0 (0 : Nat), .int 0 (0 : Nat), .int 3 (0 : Nat), .ref (15 : Nat), .bool true, .int 181 (0 : Nat), .ref (16 : Nat), .none, .ref (17 : Nat), .ref (18 : Nat), .ref (19 : Nat), .int 191 (0 : Nat), .int 1 (0 : Nat), .str (Str.ofString "/claim/cut.py") (192 : Nat)], slots := #[] } ::
    { cls := .type "function", dict := (none : Option Nat), data := .func { name := (Str.ofString "_wall"), qualname := (Str.ofString "_wall"), params := a0, body := .stmts b0, scope := s0, globals := (3 : Nat), closure := ([] : List (Str × Nat)), defaults := .none, kwdefaults := .none, doc := .none, pyModule := .str (Str.ofString "__main__") (164 : Nat), annotations := (none : Option Nat), code := .ref (20 : Nat), closureTuple := .none, builtins := (0 : Nat) }, slots := #[] } ::
    { cls := .type "tuple", dict := (none : Option Nat), data := .seq #[.type "Exception"] 0, slots := #[] } ::
    { cls := .type "builtin_function_or_method", dict := (none : Option Nat), data := .fields #[.builtin "type.__prepare__", .type "type"], slots := #[] } ::
    { cls := .type "dict", dict := (none : Option Nat), data := .dict #[⟨PyData.keyHash P (Str.ofString "__module__"), .str (Str.ofString "__module__") (203 : Nat), .str (Str.ofString "termcore.base") (194 : Nat)⟩, ⟨PyData.keyHash P (Str.ofString "__qualname__"), .str (Str.ofString "__qualname__") (205 : Nat), .str (Str.ofString "TermError") (204 : Nat)⟩, ⟨PyData.keyHash P (Str.ofString "__firstlineno__"), .str (Str.ofString "__firstlineno__") (207 : Nat), .int 5 (206 : Nat)⟩, ⟨PyData.keyHash P (Str.ofString "__init__"), .str (Str.ofString "__init__") (215 : Nat), .ref (36 : Nat)⟩, ⟨PyData.keyHash P (Str.ofString "__static_attributes__"), .str (Str.ofString "__static_attributes__") (217 : Nat), .ref (37 : Nat)⟩] 5, slots := #[] } ::
    { cls := .type "tuple", dict := (none : Option Nat), data := .seq #[] 0, slots := #[] } ::
    { cls := .none, dict := (none : Option Nat), data := .fields #[.int 7 (0 : Nat), .int 4 (0 : Nat), .ref (35 : Nat)], slots := #[] } ::
    { cls := .type "code", dict := (none : Option Nat), data := .fields #[.str (Str.ofString "TermError") (198 : Nat), .str (Str.ofString "TermError") (199 : Nat), .str (Str.ofString "/claim/cut.py") (200 : Nat), .int 5 (0 : Nat), .int 0 (0 : Nat), .int 0 (0 : Nat), .int 0 (0 : Nat), .int 0 (0 : Nat), .ref (25 : Nat), .bool false, .int 181 (0 : Nat), .ref (26 : Nat), .none, .none, .none, .none, .int 201 (0 : Nat), .int 5 (0 : Nat), .str (Str.ofString "/claim/cut.py") (202 : Nat)], slots := #[] } ::
    { cls := .type "frame", dict := (none : Option Nat), data := .plain, slots := #[some (.ref (27 : Nat)), some (.ref (3 : Nat)), some (.ref (24 : Nat)), none, some (.str (Str.ofString "termcore.base") (194 : Nat)), none, some (.ref (0 : Nat))] } ::
    { cls := .type "tuple", dict := (none : Option Nat), data := .seq #[.none] 0, slots := #[] } ::
    { cls := .type "tuple", dict := (none : Option Nat), data := .seq #[] 0, slots := #[] } ::
    { cls := .none, dict := (none : Option Nat), data := .fields #[], slots := #[] } ::
    { cls := .type "tuple", dict := (none : Option Nat), data := .seq #[.str (Str.ofString "self") (211 : Nat), .str (Str.ofString "told") (212 : Nat)] 0, slots := #[] } ::
    { cls := .type "tuple", dict := (none : Option Nat), data := .seq #[] 0, slots := #[] } ::
    { cls := .none, dict := (none : Option Nat), data := .func { name := (Str.ofString "__init__"), qualname := (Str.ofString "TermError.__init__"), params := a1, body := .stmts b1, scope := s1, globals := (0 : Nat), closure := ([] : List (Str × Nat)), defaults := .none, kwdefaults := .none, doc := .none, pyModule := .none, annotations := (none : Option Nat), code := .none, closureTuple := .none, builtins := (0 : Nat) }, slots := #[] } ::
    { cls := .type "code", dict := (none : Option Nat), data := .fields #[.str (Str.ofString "__init__") (208 : Nat), .str (Str.ofString "TermError.__init__") (209 : Nat), .str (Str.ofString "/claim/cut.py") (210 : Nat), .int 7 (0 : Nat), .int 2 (0 : Nat), .int 0 (0 : Nat), .int 0 (0 : Nat), .int 3 (0 : Nat), .ref (30 : Nat), .bool true, .int 181 (0 : Nat), .ref (31 : Nat), .none, .ref (32 : Nat), .ref (33 : Nat), .ref (34 : Nat), .int 213 (0 : Nat), .int 7 (0 : Nat), .str (Str.ofString "/claim/cut.py") (214 : Nat)], slots := #[] } ::
    { cls := .type "function", dict := (none : Option Nat), data := .func { name := (Str.ofString "__init__"), qualname := (Str.ofString "TermError.__init__"), params := a1, body := .stmts b1, scope := s1, globals := (3 : Nat), closure := ([] : List (Str × Nat)), defaults := .ref (29 : Nat), kwdefaults := .none, doc := .none, pyModule := .str (Str.ofString "termcore.base") (194 : Nat), annotations := (none : Option Nat), code := .ref (35 : Nat), closureTuple := .none, builtins := (0 : Nat) }, slots := #[] } ::
    { cls := .type "tuple", dict := (none : Option Nat), data := .seq #[.str (Str.ofString "told") (216 : Nat)] 0, slots := #[] } ::
    { cls := .type "dict", dict := (none : Option Nat), data := .dict #[⟨PyData.keyHash P (Str.ofString "__module__"), .str (Str.ofString "__module__") (203 : Nat), .str (Str.ofString "termcore.base") (194 : Nat)⟩, ⟨PyData.keyHash P (Str.ofString "__firstlineno__"), .str (Str.ofString "__firstlineno__") (207 : Nat), .int 5 (206 : Nat)⟩, ⟨PyData.keyHash P (Str.ofString "__init__"), .str (Str.ofString "__init__") (215 : Nat), .ref (36 : Nat)⟩, ⟨PyData.keyHash P (Str.ofString "__static_attributes__"), .str (Str.ofString "__static_attributes__") (217 : Nat), .ref (37 : Nat)⟩, ⟨PyData.keyHash P (Str.ofString "__weakref__"), .str (Str.ofString "__weakref__") (219 : Nat), .ref (40 : Nat)⟩, ⟨PyData.keyHash P (Str.ofString "__doc__"), .str (Str.ofString "__doc__") (220 : Nat), .none⟩] 3, slots := #[] } ::
    { cls := .type "type", dict := (none : Option Nat), data := .cls { name := (Str.ofString "TermError"), bases := [.type "Exception"], mro := [.ref (39 : Nat), .type "Exception", .type "BaseException", .type "object"], ns := (38 : Nat), qualname := (Str.ofString "TermError"), hasDict := true, slotNames := [], subclasses := [.ref (52 : Nat)], abstract := false, collection := none, hasDel := false }, slots := #[some (.ref (22 : Nat)), none, some (.str (Str.ofString "TermError") (196 : Nat)), some (.str (Str.ofString "TermError") (204 : Nat)), some (.builtin "Exception.__new__"), some (.bool true)] } ::
    { cls := .type "getset_descriptor", dict := (none : Option Nat), data := .fields #[.str (Str.ofString "__weakref__") (218 : Nat), .ref (39 : Nat), .builtin "ExceptionGroup.__weakref__", .none], slots := #[] } ::
    { cls := .type "super", dict := (none : Option Nat), data := .fields #[.ref (39 : Nat), .ref (39 : Nat), .ref (39 : Nat)], slots := #[] } ::
    { cls := .type "builtin_function_or_method", dict := (none : Option Nat), data := .fields #[.builtin "object.__init_subclass__", .ref (39 : Nat)], slots := #[] } ::
    { cls := .type "tuple", dict := (none : Option Nat), data := .seq #[.ref (39 : Nat)] 0, slots := #[] } ::
    { cls := .type "builtin_function_or_method", dict := (none : Option Nat), data := .fields #[.builtin "type.__prepare__", .type "type"], slots := #[] } ::
    { cls := .type "dict", dict := (none : Option Nat), data := .dict #[⟨PyData.keyHash P (Str.ofString "__module__"), .str (Str.ofString "__module__") (232 : Nat), .str (Str.ofString "termcore.base") (194 : Nat)⟩, ⟨PyData.keyHash P (Str.ofString "__qualname__"), .str (Str.ofString "__qualname__") (234 : Nat), .str (Str.ofString "BadKey") (233 : Nat)⟩, ⟨PyData.keyHash P (Str.ofString "__firstlineno__"), .str (Str.ofString "__firstlineno__") (236 : Nat), .int 9 (235 : Nat)⟩, ⟨PyData.keyHash P (Str.ofString "__static_attributes__"), .str (Str.ofString "__static_attributes__") (237 : Nat), .ref (50 : Nat)⟩] 4, slots := #[] } ::
    { cls := .type "tuple", dict := (none : Option Nat), data := .seq #[] 0, slots := #[] } ::
    { cls := .none, dict := (none : Option Nat), data := .fields #[], slots := #[] } ::
    { cls := .type "code", dict := (none : Option Nat), data := .fields #[.str (Str.ofString "BadKey") (227 : Nat), .str (Str.ofString "BadKey") (228 : Nat), .str (Str.ofString "/claim/cut.py") (229 : Nat), .int 9 (0 : Nat), .int 0 (0 : Nat), .int 0 (0 : Nat), .int 0 (0 : Nat), .int 0 (0 : Nat), .ref (46 : Nat), .bool false, .int 181 (0 : Nat), .ref (47 : Nat), .none, .none, .none, .none, .int 230 (0 : Nat), .int 9 (0 : Nat), .str (Str.ofString "/claim/cut.py") (231 : Nat)], slots := #[] } ::
    { cls := .type "frame", dict := (none : Option Nat), data := .plain, slots := #[some (.ref (48 : Nat)), some (.ref (3 : Nat)), some (.ref (45 : Nat)), none, some (.str (Str.ofString "termcore.base") (194 : Nat)), none, some (.ref (0 : Nat))] } ::
    { cls := .type "tuple", dict := (none : Option Nat), data := .seq #[] 0, slots := #[] } ::
    { cls := .type "dict", dict := (none : Option Nat), data := .dict #[⟨PyData.keyHash P (Str.ofString "__module__"), .str (Str.ofString "__module__") (232 : Nat), .str (Str.ofString "termcore.base") (194 : Nat)⟩, ⟨PyData.keyHash P (Str.ofString "__firstlineno__"), .str (Str.ofString "__firstlineno__") (236 : Nat), .int 9 (235 : Nat)⟩, ⟨PyData.keyHash P (Str.ofString "__static_attributes__"), .str (Str.ofString "__static_attributes__") (237 : Nat), .ref (50 : Nat)⟩, ⟨PyData.keyHash P (Str.ofString "__doc__"), .str (Str.ofString "__doc__") (238 : Nat), .none⟩] 2, slots := #[] } ::
    { cls := .type "type", dict := (none : Option Nat), data := .cls { name := (Str.ofString "BadKey"), bases := [.ref (39 : Nat)], mro := [.ref (52 : Nat), .ref (39 : Nat), .type "Exception", .type "BaseException", .type "object"], ns := (51 : Nat), qualname := (Str.ofString "BadKey"), hasDict := true, slotNames := [], subclasses := [], abstract := false, collection := none, hasDel := false }, slots := #[some (.ref (43 : Nat)), none, some (.str (Str.ofString "BadKey") (225 : Nat)), some (.str (Str.ofString "BadKey") (233 : Nat)), some (.builtin "Exception.__new__"), some (.bool true)] } ::
    { cls := .type "super", dict := (none : Option Nat), data := .fields #[.ref (52 : Nat), .ref (52 : Nat), .ref (52 : Nat)], slots := #[] } ::
    { cls := .type "builtin_function_or_method", dict := (none : Option Nat), data := .fields #[.builtin "object.__init_subclass__", .ref (52 : Nat)], slots := #[] } ::
    { cls := .type "tuple", dict := (none : Option Nat), data := .seq #[] 0, slots := #[] } ::
    { cls := .none, dict := (none : Option Nat), data := .fields #[], slots := #[] } ::
    { cls := .type "tuple", dict := (none : Option Nat), data := .seq #[.str (Str.ofString "octet") (254 : Nat)] 0, slots := #[] } ::
    { cls := .type "tuple", dict := (none : Option Nat), data := .seq #[] 0, slots := #[] } ::
    { cls := .none, dict := (none : Option Nat), data := .func { name := (Str.ofString "sign_lead"), qualname := (Str.ofString "sign_lead"), params := a2, body := .stmts b2, scope := s2, globals := (0 : Nat), closure := ([] : List (Str × Nat)), defaults := .none, kwdefaults := .none, doc := .none, pyModule := .none, annotations := (none : Option Nat), code := .none, closureTuple := .none, builtins := (0 : Nat) }, slots := #[] } ::
    { cls := .type "code", dict := (none : Option Nat), data := .fields #[.str (Str.ofString "sign_lead") (251 : Nat), .str (Str.ofString "sign_lead") (252 : Nat), .str (Str.ofString "/claim/cut.py") (253 : Nat), .int 16 (0 : Nat), .int 1 (0 : Nat), .int 0 (0 : Nat), .int 0 (0 : Nat), .int 3 (0 : Nat), .ref (55 : Nat), .bool true, .int 181 (0 : Nat), .ref (56 : Nat), .none, .ref (57 : Nat), .ref (58 : Nat), .ref (59 : Nat), .int 255 (0 : Nat), .int 16 (0 : Nat), .str (Str.ofString "/claim/cut.py") (256 : Nat)], slots := #[] } ::
    { cls := .type "function", dict := (none : Option Nat), data := .func { name := (Str.ofString "sign_lead"), qualname := (Str.ofString "sign_lead"), params := a2, body := .stmts b2, scope := s2, globals := (3 : Nat), closure := ([] : List (Str × Nat)), defaults := .none, kwdefaults := .none, doc := .none, pyModule := .str (Str.ofString "termcore.utf8in") (241 : Nat), annotations := (none : Option Nat), code := .ref (60 : Nat), closureTuple := .none, builtins := (0 : Nat) }, slots := #[] } ::
    { cls := .type "tuple", dict := (none : Option Nat), data := .seq #[] 0, slots := #[] } ::
    { cls := .type "builtin_function_or_method", dict := (none : Option Nat), data := .fields #[.builtin "type.__prepare__", .type "type"], slots := #[] } ::
    { cls := .type "dict", dict := (none : Option Nat), data := .dict #[⟨PyData.keyHash P (Str.ofString "__module__"), .str (Str.ofString "__module__") (265 : Nat), .str (Str.ofString "termcore.utf8in") (241 : Nat)⟩, ⟨PyData.keyHash P (Str.ofString "__qualname__"), .str (Str.ofString "__qualname__") (267 : Nat), .str (Str.ofString "SignReader") (266 : Nat)⟩, ⟨PyData.keyHash P (Str.ofString "__firstlineno__"), .str (Str.ofString "__firstlineno__") (269 : Nat), .int 24 (268 : Nat)⟩, ⟨PyData.keyHash P (Str.ofString "__init__"), .str (Str.ofString "__init__") (277 : Nat), .ref (76 : Nat)⟩, ⟨PyData.keyHash P (Str.ofString "feed"), .str (Str.ofString "feed") (287 : Nat), .ref (83 : Nat)⟩, ⟨PyData.keyHash P (Str.ofString "begin"), .str (Str.ofString "begin") (297 : Nat), .ref (90 : Nat)⟩, ⟨PyData.keyHash P (Str.ofString "go_on"), .str (Str.ofString "go_on") (306 : Nat), .ref (97 : Nat)⟩, ⟨PyData.keyHash P (Str.ofString "rest"), .str (Str.ofString "rest") (314 : Nat), .ref (104 : Nat)⟩, ⟨PyData.keyHash P (Str.ofString "is_empty"), .str (Str.ofString "is_empty") (321 : Nat), .ref (111 : Nat)⟩, ⟨PyData.keyHash P (Str.ofString "switch"), .str (Str.ofString "switch") (329 : Nat), .ref (118 : Nat)⟩, ⟨PyData.keyHash P (Str.ofString "same_as"), .str (Str.ofString "same_as") (337 : Nat), .ref (125 : Nat)⟩, ⟨PyData.keyHash P (Str.ofString "__static_attributes__"), .str (Str.ofString "__static_attributes__") (343 : Nat), .ref (126 : Nat)⟩] 12, slots := #[] } ::
    { cls := .type "tuple", dict := (none : Option Nat), data := .seq #[] 0, slots := #[] } ::
    { cls := .none, dict := (none : Option Nat), data := .fields (List.toArray (.int 26 (0 : Nat) :: .int 4 (0 : Nat) :: .ref (75 : Nat) :: .int 33 (0 : Nat) :: .int 4 (0 : Nat) :: .ref (82 : Nat) :: .int 46 (0 : Nat) :: .int 4 (0 : Nat) :: .ref (89 : Nat) :: .int 54 (0 : Nat) :: .int 4 (0 : Nat) :: .ref (96 : Nat) :: .int 61 (0 : Nat) :: .int 4 (0 : Nat) :: .ref (103 : Nat) :: .int 66 (0 : Nat) :: .int 4 (0 : Nat) :: .ref (110 : Nat) :: .int 69 (0 : Nat) :: .int 4 (0 : Nat) :: .ref (117 : Nat) :: .int 72 (0 : Nat) :: .int 4 (0 : Nat) :: .ref (124 : Nat) :: [])), slots := #[] } ::
    { cls := .type "code", dict := (none : Option Nat), data := .fields #[.str (Str.ofString "SignReader") (260 : Nat), .str (Str.ofString "SignReader") (261 : Nat), .str (Str.ofString "/claim/cut.py") (262 : Nat), .int 24 (0 : Nat), .int 0 (0 : Nat), .int 0 (0 : Nat), .int 0 (0 : Nat), .int 0 (0 : Nat), .ref (65 : Nat), .bool false, .int 181 (0 : Nat), .ref (66 : Nat), .none, .none, .none, .none, .int 263 (0 : Nat), .int 24 (0 : Nat), .str (Str.ofString "/claim/cut.py") (264 : Nat)], slots := #[] } ::
    { cls := .type "frame", dict := (none : Option Nat), data := .plain, slots := #[some (.ref (67 : Nat)), some (.ref (3 : Nat)), some (.ref (64 : Nat)), none, some (.str (Str.ofString "termcore.utf8in") (241 : Nat)), none, some (.ref (0 : Nat))] } ::
    { cls := .type "tuple", dict := (none : Option Nat), data := .seq #[.bool true] 0, slots := #[] } ::
    { cls := .type "tuple", dict := (none : Option Nat), data := .seq #[] 0, slots := #[] } ::
    { cls := .none, dict := (none : Option Nat), data := .fields #[], slots := #[] } ::
    { cls := .type "tuple", dict := (none : Option Nat), data := .seq #[.str (Str.ofString "self") (273 : Nat), .str (Str.ofString "is_utf8") (274 : Nat)] 0, slots := #[] } ::
    { cls := .type "tuple", dict := (none : Option Nat), data := .seq #[] 0, slots := #[] } ::
    { cls := .none, dict := (none : Option Nat), data := .func { name := (Str.ofString "__init__"), qualname := (Str.ofString "SignReader.__init__"), params := a3, body := .stmts b3, scope := s3, globals := (0 : Nat), closure := ([] : List (Str × Nat)), defaults := .none, kwdefaults := .none, doc := .none, pyModule := .none, annotations := (none : Option Nat), code := .none, closureTuple := .none, builtins := (0 : Nat) }, slots := #[] } ::
    { cls := .type "code", dict := (none : Option Nat), data := .fields #[.str (Str.ofString "__init__") (270 : Nat), .str (Str.ofString "SignReader.__init__") (271 : Nat), .str (Str.ofString "/claim/cut.py") (272 : Nat), .int 26 (0 : Nat), .int 2 (0 : Nat), .int 0 (0 : Nat), .int 0 (0 : Nat), .int 3 (0 : Nat), .ref (70 : Nat), .bool true, .int 181 (0 : Nat), .ref (71 : Nat), .none, .ref (72 : Nat), .ref (73 : Nat), .ref (74 : Nat), .int 275 (0 : Nat), .int 26 (0 : Nat), .str (Str.ofString "/claim/cut.py") (276 : Nat)], slots := #[] } ::
    { cls := .type "function", dict := (none : Option Nat), data := .func { name := (Str.ofString "__init__"), qualname := (Str.ofString "SignReader.__init__"), params := a3, body := .stmts b3, scope := s3, globals := (3 : Nat), closure := ([] : List (Str × Nat)), defaults := .ref (69 : Nat), kwdefaults := .none, doc := .none, pyModule := .str (Str.ofString "termcore.utf8in") (241 : Nat), annotations := (none : Option Nat), code := .ref (75 : Nat), closureTuple := .none, builtins := (0 : Nat) }, slots := #[] } ::
    { cls := .type "tuple", dict := (none : Option Nat), data := .seq #[] 0, slots := #[] } ::
    { cls := .none, dict := (none : Option Nat), data := .fields #[], slots := #[] } ::
    { cls := .type "tuple", dict := (none : Option Nat), data := .seq #[.str (Str.ofString "self") (281 : Nat), .str (Str.ofString "octets") (282 : Nat), .str (Str.ofString "found") (283 : Nat), .str (Str.ofString "octet") (284 : Nat)] 0, slots := #[] } ::
    { cls := .type "tuple", dict := (none : Option Nat), data := .seq #[] 0, slots := #[] } ::
    { cls := .none, dict := (none : Option Nat), data := .func { name := (Str.ofString "feed"), qualname := (Str.ofString "SignReader.feed"), params := a4, body := .stmts b4, scope := s4, globals := (0 : Nat), closure := ([] : List (Str × Nat)), defaults := .none, kwdefaults := .none, doc := .none, pyModule := .none, annotations := (none : Option Nat), code := .none, closureTuple := .none, builtins := (0 : Nat) }, slots := #[] } ::
    { cls := .type "code", dict := (none : Option Nat), data := .fields #[.str (Str.ofString "feed") (278 : Nat), .str (Str.ofString "SignReader.feed") (279 : Nat), .str (Str.ofString "/claim/cut.py") (280 : Nat), .int 33 (0 : Nat), .int 2 (0 : Nat), .int 0 (0 : Nat), .int 0 (0 : Nat), .int 3 (0 : Nat), .ref (77 : Nat), .bool true, .int 181 (0 : Nat), .ref (78 : Nat), .none, .ref (79 : Nat), .ref (80 : Nat), .ref (81 : Nat), .int 285 (0 : Nat), .int 33 (0 : Nat), .str (Str.ofString "/claim/cut.py") (286 : Nat)], slots := #[] } ::
    { cls := .type "function", dict := (none : Option Nat), data := .func { name := (Str.ofString "feed"), qualname := (Str.ofString "SignReader.feed"), params := a4, body := .stmts b4, scope := s4, globals := (3 : Nat), closure := ([] : List (Str × Nat)), defaults := .none, kwdefaults := .none, doc := .none, pyModule := .str (Str.ofString "termcore.utf8in") (241 : Nat), annotations := (none : Option Nat), code := .ref (82 : Nat), closureTuple := .none, builtins := (0 : Nat) }, slots := #[] } ::
    { cls := .type "tuple", dict := (none : Option Nat), data := .seq #[] 0, slots := #[] } ::
    { cls := .none, dict := (none : Option Nat), data := .fields #[], slots := #[] } ::
    { cls := .type "tuple", dict := (none : Option Nat), data := .seq #[.str (Str.ofString "self") (291 : Nat), .str (Str.ofString "octet") (292 : Nat), .str (Str.ofString "found") (293 : Nat), .str (Str.ofString "lead") (294 : Nat)] 0, slots := #[] } ::
    { cls := .type "tuple", dict := (none : Option Nat), data := .seq #[] 0, slots := #[] } ::
    { cls := .none, dict := (none : Option Nat), data := .func { name := (Str.ofString "begin"), qualname := (Str.ofString "SignReader.begin"), params := a5, body := .stmts b5, scope := s5, globals := (0 : Nat), closure := ([] : List (Str × Nat)), defaults := .none, kwdefaults := .none, doc := .none, pyModule := .none, annotations := (none : Option Nat), code := .none, closureTuple := .none, builtins := (0 : Nat) }, slots := #[] } ::
    { cls := .type "code", dict := (none : Option Nat), data := .fields #[.str (Str.ofString "begin") (288 : Nat), .str (Str.ofString "SignReader.begin") (289 : Nat), .str (Str.ofString "/claim/cut.py") (290 : Nat), .int 46 (0 : Nat), .int 3 (0 : Nat), .int 0 (0 : Nat), .int 0 (0 : Nat), .int 3 (0 : Nat), .ref (84 : Nat), .bool true, .int 181 (0 : Nat), .ref (85 : Nat), .none, .ref (86 : Nat), .ref (87 : Nat), .ref (88 : Nat), .int 295 (0 : Nat), .int 46 (0 : Nat), .str (Str.ofString "/claim/cut.py") (296 : Nat)], slots := #[] } ::
    { cls := .type "function", dict := (none : Option Nat), data := .func { name := (Str.ofString "begin"), qualname := (Str.ofString "SignReader.begin"), params := a5, body := .stmts b5, scope := s5, globals := (3 : Nat), closure := ([] : List (Str × Nat)), defaults := .none, kwdefaults := .none, doc := .none, pyModule := .str (Str.ofString "termcore.utf8in") (241 : Nat), annotations := (none : Option Nat), code := .ref (89 : Nat), closureTuple := .none, builtins := (0 : Nat) }, slots := #[] } ::
    { cls := .type "tuple", dict := (none : Option Nat), data := .seq #[] 0, slots := #[] } ::
    { cls := .none, dict := (none : Option Nat), data := .fields #[], slots := #[] } ::
    { cls := .type "tuple", dict := (none : Option Nat), data := .seq #[.str (Str.ofString "self") (301 : Nat), .str (Str.ofString "octet") (302 : Nat), .str (Str.ofString "found") (303 : Nat)] 0, slots := #[] } ::
    { cls := .type "tuple", dict := (none : Option Nat), data := .seq #[] 0, slots := #[] } ::
    { cls := .none, dict := (none : Option Nat), data := .func { name := (Str.ofString "go_on"), qualname := (Str.ofString "SignReader.go_on"), params := a6, body := .stmts b6, scope := s6, globals := (0 : Nat), closure := ([] : List (Str × Nat)), defaults := .none, kwdefaults := .none, doc := .none, pyModule := .none, annotations := (none : Option Nat), code := .none, closureTuple := .none, builtins := (0 : Nat) }, slots := #[] } ::
    { cls := .type "code", dict := (none : Option Nat), data := .fields #[.str (Str.ofString "go_on") (298 : Nat), .str (Str.ofString "SignReader.go_on") (299 : Nat), .str (Str.ofString "/claim/cut.py") (300 : Nat), .int 54 (0 : Nat), .int 3 (0 : Nat), .int 0 (0 : Nat), .int 0 (0 : Nat), .int 3 (0 : Nat), .ref (91 : Nat), .bool true, .int 181 (0 : Nat), .ref (92 : Nat), .none, .ref (93 : Nat), .ref (94 : Nat), .ref (95 : Nat), .int 304 (0 : Nat), .int 54 (0 : Nat), .str (Str.ofString "/claim/cut.py") (305 : Nat)], slots := #[] } ::
    { cls := .type "function", dict := (none : Option Nat), data := .func { name := (Str.ofString "go_on"), qualname := (Str.ofString "SignReader.go_on"), params := a6, body := .stmts b6, scope := s6, globals := (3 : Nat), closure := ([] : List (Str × Nat)), defaults := .none, kwdefaults := .none, doc := .none, pyModule := .str (Str.ofString "termcore.utf8in") (241 : Nat), annotations := (none : Option Nat), code := .ref (96 : Nat), closureTuple := .none, builtins := (0 : Nat) }, slots := #[] } ::
    { cls := .type "tuple", dict := (none : Option Nat), data := .seq #[] 0, slots := #[] } ::
    { cls := .none, dict := (none : Option Nat), data := .fields #[], slots := #[] } ::
    { cls := .type "tuple", dict := (none : Option Nat), data := .seq #[.str (Str.ofString "self") (310 : Nat), .str (Str.ofString "found") (311 : Nat)] 0, slots := #[] } ::
    { cls := .type "tuple", dict := (none : Option Nat), data := .seq #[] 0, slots := #[] } ::
    { cls := .none, dict := (none : Option Nat), data := .func { name := (Str.ofString "rest"), qualname := (Str.ofString "SignReader.rest"), params := a7, body := .stmts b7, scope := s7, globals := (0 : Nat), closure := ([] : List (Str × Nat)), defaults := .none, kwdefaults := .none, doc := .none, pyModule := .none, annotations := (none : Option Nat), code := .none, closureTuple := .none, builtins := (0 : Nat) }, slots := #[] } ::
    { cls := .type "code", dict := (none : Option Nat), data := .fields #[.str (Str.ofString "rest") (307 : Nat), .str (Str.ofString "SignReader.rest") (308 : Nat), .str (Str.ofString "/claim/cut.py") (309 : Nat), .int 61 (0 : Nat), .int 1 (0 : Nat), .int 0 (0 : Nat), .int 0 (0 : Nat), .int 3 (0 : Nat), .ref (98 : Nat), .bool true, .int 181 (0 : Nat), .ref (99 : Nat), .none, .ref (100 : Nat), .ref (101 : Nat), .ref (102 : Nat), .int 312 (0 : Nat), .int 61 (0 : Nat), .str (Str.ofString "/claim/cut.py") (313 : Nat)], slots := #[] } ::
    { cls := .type "function", dict := (none : Option Nat), data := .func { name := (Str.ofString "rest"), qualname := (Str.ofString "SignReader.rest"), params := a7, body := .stmts b7, scope := s7, globals := (3 : Nat), closure := ([] : List (Str × Nat)), defaults := .none, kwdefaults := .none, doc := .none, pyModule := .str (Str.ofString "termcore.utf8in") (241 : Nat), annotations := (none : Option Nat), code := .ref (103 : Nat), closureTuple := .none, builtins := (0 : Nat) }, slots := #[] } ::
    { cls := .type "tuple", dict := (none : Option Nat), data := .seq #[] 0, slots := #[] } ::
    { cls := .none, dict := (none : Option Nat), data := .fields #[], slots := #[] } ::
    { cls := .type "tuple", dict := (none : Option Nat), data := .seq #[.str (Str.ofString "self") (318 : Nat)] 0, slots := #[] } ::
    { cls := .type "tuple", dict := (none : Option Nat), data := .seq #[] 0, slots := #[] } ::
    { cls := .none, dict := (none : Option Nat), data := .func { name := (Str.ofString "is_empty"), qualname := (Str.ofString "SignReader.is_empty"), params := a8, body := .stmts b8, scope := s8, globals := (0 : Nat), closure := ([] : List (Str × Nat)), defaults := .none, kwdefaults := .none, doc := .none, pyModule := .none, annotations := (none : Option Nat), code := .none, closureTuple := .none, builtins := (0 : Nat) }, slots := #[] } ::
    { cls := .type "code", dict := (none : Option Nat), data := .fields #[.str (Str.ofString "is_empty") (315 : Nat), .str (Str.ofString "SignReader.is_empty") (316 : Nat), .str (Str.ofString "/claim/cut.py") (317 : Nat), .int 66 (0 : Nat), .int 1 (0 : Nat), .int 0 (0 : Nat), .int 0 (0 : Nat), .int 3 (0 : Nat), .ref (105 : Nat), .bool true, .int 181 (0 : Nat), .ref (106 : Nat), .none, .ref (107 : Nat), .ref (108 : Nat), .ref (109 : Nat), .int 319 (0 : Nat), .int 66 (0 : Nat), .str (Str.ofString "/claim/cut.py") (320 : Nat)], slots := #[] } ::
    { cls := .type "function", dict := (none : Option Nat), data := .func { name := (Str.ofString "is_empty"), qualname := (Str.ofString "SignReader.is_empty"), params := a8, body := .stmts b8, scope := s8, globals := (3 : Nat), closure := ([] : List (Str × Nat)), defaults := .none, kwdefaults := .none, doc := .none, pyModule := .str (Str.ofString "termcore.utf8in") (241 : Nat), annotations := (none : Option Nat), code := .ref (110 : Nat), closureTuple := .none, builtins := (0 : Nat) }, slots := #[] } ::
    { cls := .type "tuple", dict := (none : Option Nat), data := .seq #[] 0, slots := #[] } ::
    { cls := .none, dict := (none : Option Nat), data := .fields #[], slots := #[] } ::
    { cls := .type "tuple", dict := (none : Option Nat), data := .seq #[.str (Str.ofString "self") (325 : Nat), .str (Str.ofString "is_utf8") (326 : Nat)] 0, slots := #[] } ::
    { cls := .type "tuple", dict := (none : Option Nat), data := .seq #[] 0, slots := #[] } ::
    { cls := .none, dict := (none : Option Nat), data := .func { name := (Str.ofString "switch"), qualname := (Str.ofString "SignReader.switch"), params := a9, body := .stmts b9, scope := s9, globals := (0 : Nat), closure := ([] : List (Str × Nat)), defaults := .none, kwdefaults := .none, doc := .none, pyModule := .none, annotations := (none : Option Nat), code := .none, closureTuple := .none, builtins := (0 : Nat) }, slots := #[] } ::
    { cls := .type "code", dict := (none : Option Nat), data := .fields #[.str (Str.ofString "switch") (322 : Nat), .str (Str.ofString "SignReader.switch") (323 : Nat), .str (Str.ofString "/claim/cut.py") (324 : Nat), .int 69 (0 : Nat), .int 2 (0 : Nat), .int 0 (0 : Nat), .int 0 (0 : Nat), .int 3 (0 : Nat), .ref (112 : Nat), .bool true, .int 181 (0 : Nat), .ref (113 : Nat), .none, .ref (114 : Nat), .ref (115 : Nat), .ref (116 : Nat), .int 327 (0 : Nat), .int 69 (0 : Nat), .str (Str.ofString "/claim/cut.py") (328 : Nat)], slots := #[] } ::
    { cls := .type "function", dict := (none : Option Nat), data := .func { name := (Str.ofString "switch"), qualname := (Str.ofString "SignReader.switch"), params := a9, body := .stmts b9, scope := s9, globals := (3 : Nat), closure := ([] : List (Str × Nat)), defaults := .none, kwdefaults := .none, doc := .none, pyModule := .str (Str.ofString "termcore.utf8in") (241 : Nat), annotations := (none : Option Nat), code := .ref (117 : Nat), closureTuple := .none, builtins := (0 : Nat) }, slots := #[] } ::
    { cls := .type "tuple", dict := (none : Option Nat), data := .seq #[] 0, slots := #[] } ::
    { cls := .none, dict := (none : Option Nat), data := .fields #[], slots := #[] } ::
    { cls := .type "tuple", dict := (none : Option Nat), data := .seq #[.str (Str.ofString "self") (333 : Nat), .str (Str.ofString "other") (334 : Nat)] 0, slots := #[] } ::
    { cls := .type "tuple", dict := (none : Option Nat), data := .seq #[] 0, slots := #[] } ::
    { cls := .none, dict := (none : Option Nat), data := .func { name := (Str.ofString "same_as"), qualname := (Str.ofString "SignReader.same_as"), params := a10, body := .stmts b10, scope := s10, globals := (0 : Nat), closure := ([] : List (Str × Nat)), defaults := .none, kwdefaults := .none, doc := .none, pyModule := .none, annotations := (none : Option Nat), code := .none, closureTuple := .none, builtins := (0 : Nat) }, slots := #[] } ::
    { cls := .type "code", dict := (none : Option Nat), data := .fields #[.str (Str.ofString "same_as") (330 : Nat), .str (Str.ofString "SignReader.same_as") (331 : Nat), .str (Str.ofString "/claim/cut.py") (332 : Nat), .int 72 (0 : Nat), .int 2 (0 : Nat), .int 0 (0 : Nat), .int 0 (0 : Nat), .int 3 (0 : Nat), .ref (119 : Nat), .bool true, .int 181 (0 : Nat), .ref (120 : Nat), .none, .ref (121 : Nat), .ref (122 : Nat), .ref (123 : Nat), .int 335 (0 : Nat), .int 72 (0 : Nat), .str (Str.ofString "/claim/cut.py") (336 : Nat)], slots := #[] } ::
    { cls := .type "function", dict := (none : Option Nat), data := .func { name := (Str.ofString "same_as"), qualname := (Str.ofString "SignReader.same_as"), params := a10, body := .stmts b10, scope := s10, globals := (3 : Nat), closure := ([] : List (Str × Nat)), defaults := .none, kwdefaults := .none, doc := .none, pyModule := .str (Str.ofString "termcore.utf8in") (241 : Nat), annotations := (none : Option Nat), code := .ref (124 : Nat), closureTuple := .none, builtins := (0 : Nat) }, slots := #[] } ::
    { cls := .type "tuple", dict := (none : Option Nat), data := .seq #[.str (Str.ofString "code") (338 : Nat), .str (Str.ofString "high") (339 : Nat), .str (Str.ofString "is_utf8") (340 : Nat), .str (Str.ofString "left") (341 : Nat), .str (Str.ofString "low") (342 : Nat)] 0, slots := #[] } ::
    { cls := .type "dict", dict := (none : Option Nat), data := .dict #[⟨PyData.keyHash P (Str.ofString "__module__"), .str (Str.ofString "__module__") (265 : Nat), .str (Str.ofString "termcore.utf8in") (241 : Nat)⟩, ⟨PyData.keyHash P (Str.ofString "__firstlineno__"), .str (Str.ofString "__firstlineno__") (269 : Nat), .int 24 (268 : Nat)⟩, ⟨PyData.keyHash P (Str.ofString "__init__"), .str (Str.ofString "__init__") (277 : Nat), .ref (76 : Nat)⟩, ⟨PyData.keyHash P (Str.ofString "feed"), .str (Str.ofString "feed") (287 : Nat), .ref (83 : Nat)⟩, ⟨PyData.keyHash P (Str.ofString "begin"), .str (Str.ofString "begin") (297 : Nat), .ref (90 : Nat)⟩, ⟨PyData.keyHash P (Str.ofString "go_on"), .str (Str.ofString "go_on") (306 : Nat), .ref (97 : Nat)⟩, ⟨PyData.keyHash P (Str.ofString "rest"), .str (Str.ofString "rest") (314 : Nat), .ref (104 : Nat)⟩, ⟨PyData.keyHash P (Str.ofString "is_empty"), .str (Str.ofString "is_empty") (321 : Nat), .ref (111 : Nat)⟩, ⟨PyData.keyHash P (Str.ofString "switch"), .str (Str.ofString "switch") (329 : Nat), .ref (118 : Nat)⟩, ⟨PyData.keyHash P (Str.ofString "same_as"), .str (Str.ofString "same_as") (337 : Nat), .ref (125 : Nat)⟩, ⟨PyData.keyHash P (Str.ofString "__static_attributes__"), .str (Str.ofString "__static_attributes__") (343 : Nat), .ref (126 : Nat)⟩, ⟨PyData.keyHash P (Str.ofString "__dict__"), .str (Str.ofString "__dict__") (345 : Nat), .ref (129 : Nat)⟩, ⟨PyData.keyHash P (Str.ofString "__weakref__"), .str (Str.ofString "__weakref__") (347 : Nat), .ref (130 : Nat)⟩, ⟨PyData.keyHash P (Str.ofString "__doc__"), .str (Str.ofString "__doc__") (348 : Nat), .none⟩] 4, slots := #[] } ::
    { cls := .type "type", dict := (none : Option Nat), data := .cls { name := (Str.ofString "SignReader"), bases := [.type "object"], mro := [.ref (128 : Nat), .type "object"], ns := (127 : Nat), qualname := (Str.ofString "SignReader"), hasDict := true, slotNames := [], subclasses := [], abstract := false, collection := none, hasDel := false }, slots := #[none, none, some (.str (Str.ofString "SignReader") (258 : Nat)), some (.str (Str.ofString "SignReader") (266 : Nat)), some (.builtin "object.__new__"), some (.bool true)] } ::
    { cls := .type "getset_descriptor", dict := (none : Option Nat), data := .fields #[.str (Str.ofString "__dict__") (344 : Nat), .ref (128 : Nat), .builtin "function.__dict__", .builtin "function.__dict__#set"], slots := #[] } ::
    { cls := .type "getset_descriptor", dict := (none : Option Nat), data := .fields #[.str (Str.ofString "__weakref__") (346 : Nat), .ref (128 : Nat), .builtin "ExceptionGroup.__weakref__", .none], slots := #[] } ::
    { cls := .type "super", dict := (none : Option Nat), data := .fields #[.ref (128 : Nat), .ref (128 : Nat), .ref (128 : Nat)], slots := #[] } ::
    { cls := .type "builtin_function_or_method", dict := (none : Option Nat), data := .fields #[.builtin "object.__init_subclass__", .ref (128 : Nat)], slots := #[] } ::
    { cls := .type "tuple", dict := (none : Option Nat), data := .seq #[] 0, slots := #[] } ::
    { cls := .none, dict := (none : Option Nat), data := .fields #[], slots := #[] } ::
    { cls := .type "tuple", dict := (none : Option Nat), data := .seq #[.str (Str.ofString "code") (354 : Nat)] 0, slots := #[] } ::
    { cls := .type "tuple", dict := (none : Option Nat), data := .seq #[] 0, slots := #[] } ::
    { cls := .none, dict := (none : Option Nat), data := .func { name := (Str.ofString "is_sign"), qualname := (Str.ofString "is_sign"), params := a11, body := .stmts b11, scope := s11, globals := (0 : Nat), closure := ([] : List (Str × Nat)), defaults := .none, kwdefaults := .none, doc := .none, pyModule := .none, annotations := (none : Option Nat), code := .none, closureTuple := .none, builtins := (0 : Nat) }, slots := #[] } ::
    { cls := .type "code", dict := (none : Option Nat), data := .fields #[.str (Str.ofString "is_sign") (351 : Nat), .str (Str.ofString "is_sign") (352 : Nat), .str (Str.ofString "/claim/cut.py") (353 : Nat), .int 74 (0 : Nat), .int 1 (0 : Nat), .int 0 (0 : Nat), .int 0 (0 : Nat), .int 3 (0 : Nat), .ref (133 : Nat), .bool true, .int 181 (0 : Nat), .ref (134 : Nat), .none, .ref (135 : Nat), .ref (136 : Nat), .ref (137 : Nat), .int 355 (0 : Nat), .int 74 (0 : Nat), .str (Str.ofString "/claim/cut.py") (356 : Nat)], slots := #[] } ::
    { cls := .type "function", dict := (none : Option Nat), data := .func { name := (Str.ofString "is_sign"), qualname := (Str.ofString "is_sign"), params := a11, body := .stmts b11, scope := s11, globals := (3 : Nat), closure := ([] : List (Str × Nat)), defaults := .none, kwdefaults := .none, doc := .none, pyModule := .str (Str.ofString "termcore.utf8in") (241 : Nat), annotations := (none : Option Nat), code := .ref (138 : Nat), closureTuple := .none, builtins := (0 : Nat) }, slots := #[] } ::
    { cls := .type "tuple", dict := (none : Option Nat), data := .seq #[] 0, slots := #[] } ::
    { cls := .none, dict := (none : Option Nat), data := .fields #[], slots := #[] } ::
    { cls := .type "tuple", dict := (none : Option Nat), data := .seq #[.str (Str.ofString "code") (361 : Nat), .str (Str.ofString "last") (362 : Nat)] 0, slots := #[] } ::
    { cls := .type "tuple", dict := (none : Option Nat), data := .seq #[] 0, slots := #[] } ::
    { cls := .none, dict := (none : Option Nat), data := .func { name := (Str.ofString "utf8_octets"), qualname := (Str.ofString "utf8_octets"), params := a12, body := .stmts b12, scope := s12, globals := (0 : Nat), closure := ([] : List (Str × Nat)), defaults := .none, kwdefaults := .none, doc := .none, pyModule := .none, annotations := (none : Option Nat), code := .none, closureTuple := .none, builtins := (0 : Nat) }, slots := #[] } ::
    { cls := .type "code", dict := (none : Option Nat), data := .fields #[.str (Str.ofString "utf8_octets") (358 : Nat), .str (Str.ofString "utf8_octets") (359 : Nat), .str (Str.ofString "/claim/cut.py") (360 : Nat), .int 76 (0 : Nat), .int 1 (0 : Nat), .int 0 (0 : Nat), .int 0 (0 : Nat), .int 3 (0 : Nat), .ref (140 : Nat), .bool true, .int 181 (0 : Nat), .ref (141 : Nat), .none, .ref (142 : Nat), .ref (143 : Nat), .ref (144 : Nat), .int 363 (0 : Nat), .int 76 (0 : Nat), .str (Str.ofString "/claim/cut.py") (364 : Nat)], slots := #[] } ::
    { cls := .type "function", dict := (none : Option Nat), data := .func { name := (Str.ofString "utf8_octets"), qualname := (Str.ofString "utf8_octets"), params := a12, body := .stmts b12, scope := s12, globals := (3 : Nat), closure := ([] : List (Str × Nat)), defaults := .none, kwdefaults := .none, doc := .none, pyModule := .str (Str.ofString "termcore.utf8in") (241 : Nat), annotations := (none : Option Nat), code := .ref (145 : Nat), closureTuple := .none, builtins := (0 : Nat) }, slots := #[] } ::
    { cls := .type "tuple", dict := (none : Option Nat), data := .seq #[.int 67 (374 : Nat), .int 4 (372 : Nat)] 0, slots := #[] } ::
    { cls := .type "tuple", dict := (none : Option Nat), data := .seq #[.int 77 (375 : Nat), .int 2 (370 : Nat)] 0, slots := #[] } ::
    { cls := .type "tuple", dict := (none : Option Nat), data := .seq #[.int 83 (376 : Nat), .int 1 (368 : Nat)] 0, slots := #[] } ::
    { cls := .type "tuple", dict := (none : Option Nat), data := .seq #[.ref (147 : Nat), .ref (148 : Nat), .ref (149 : Nat)] 0, slots := #[] } ::
    { cls := .type "tuple", dict := (none : Option Nat), data := .seq #[.bytes #[85, 112] (380 : Nat), .int 65 (381 : Nat)] 0, slots := #[] } ::
    { cls := .type "tuple", dict := (none : Option Nat), data := .seq #[.bytes #[68, 111, 119, 110] (382 : Nat), .int 66 (383 : Nat)] 0, slots := #[] } ::
    { cls := .type "tuple", dict := (none : Option Nat), data := .seq #[.bytes #[82, 105, 103, 104, 116] (384 : Nat), .int 67 (385 : Nat)] 0, slots := #[] } ::
    { cls := .type "tuple", dict := (none : Option Nat), data := .seq #[.bytes #[76, 101, 102, 116] (386 : Nat), .int 68 (387 : Nat)] 0, slots := #[] } ::
    { cls := .type "tuple", dict := (none : Option Nat), data := .seq #[.bytes #[69, 110, 100] (388 : Nat), .int 70 (389 : Nat)] 0, slots := #[] } ::
    { cls := .type "tuple", dict := (none : Option Nat), data := .seq #[.bytes #[72, 111, 109, 101] (390 : Nat), .int 72 (391 : Nat)] 0, slots := #[] } ::
    { cls := .type "tuple", dict := (none : Option Nat), data := .seq #[.bytes #[70, 49] (392 : Nat), .int 80 (393 : Nat)] 0, slots := #[] } ::
    { cls := .type "tuple", dict := (none : Option Nat), data := .seq #[.bytes #[70, 50] (394 : Nat), .int 81 (395 : Nat)] 0, slots := #[] } ::
    { cls := .type "tuple", dict := (none : Option Nat), data := .seq #[.bytes #[70, 51] (396 : Nat), .int 82 (397 : Nat)] 0, slots := #[] } ::
    { cls := .type "tuple", dict := (none : Option Nat), data := .seq #[.bytes #[70, 52] (398 : Nat), .int 83 (399 : Nat)] 0, slots := #[] } ::
    { cls := .type "tuple", dict := (none : Option Nat), data := .seq #[.ref (151 : Nat), .ref (152 : Nat), .ref (153 : Nat), .ref (154 : Nat), .ref (155 : Nat), .ref (156 : Nat), .ref (157 : Nat), .ref (158 : Nat), .ref (159 : Nat), .ref (160 : Nat)] 0, slots := #[] } ::
    { cls := .type "tuple", dict := (none : Option Nat), data := .seq #[.bytes #[73, 110, 115, 101, 114, 116] (401 : Nat), .int 2 (402 : Nat)] 0, slots := #[] } ::
    { cls := .type "tuple", dict := (none : Option Nat), data := .seq #[.bytes #[68, 101, 108, 101, 116, 101] (403 : Nat), .int 3 (404 : Nat)] 0, slots := #[] } ::
    { cls := .type "tuple", dict := (none : Option Nat), data := .seq #[.bytes #[80, 97, 103, 101, 85, 112] (405 : Nat), .int 5 (406 : Nat)] 0, slots := #[] } ::
    { cls := .type "tuple", dict := (none : Option Nat), data := .seq #[.bytes #[80, 97, 103, 101, 68, 111, 119, 110] (407 : Nat), .int 6 (408 : Nat)] 0, slots := #[] } ::
    { cls := .type "tuple", dict := (none : Option Nat), data := .seq #[.bytes #[70, 53] (409 : Nat), .int 15 (410 : Nat)] 0, slots := #[] } ::
    { cls := .type "tuple", dict := (none : Option Nat), data := .seq #[.bytes #[70, 54] (411 : Nat), .int 17 (412 : Nat)] 0, slots := #[] } ::
    { cls := .type "tuple", dict := (none : Option Nat), data := .seq #[.bytes #[70, 55] (413 : Nat), .int 18 (414 : Nat)] 0, slots := #[] } ::
    { cls := .type "tuple", dict := (none : Option Nat), data := .seq #[.bytes #[70, 56] (415 : Nat), .int 19 (416 : Nat)] 0, slots := #[] } ::
    { cls := .type "tuple", dict := (none : Option Nat), data := .seq #[.bytes #[70, 57] (417 : Nat), .int 20 (418 : Nat)] 0, slots := #[] } ::
    { cls := .type "tuple", dict := (none : Option Nat), data := .seq #[.bytes #[70, 49, 48] (419 : Nat), .int 21 (420 : Nat)] 0, slots := #[] } ::
    { cls := .type "tuple", dict := (none : Option Nat), data := .seq #[.bytes #[70, 49, 49] (421 : Nat), .int 23 (422 : Nat)] 0, slots := #[] } ::
    { cls := .type "tuple", dict := (none : Option Nat), data := .seq #[.bytes #[70, 49, 50] (423 : Nat), .int 24 (424 : Nat)] 0, slots := #[] } ::
    { cls := .type "tuple", dict := (none : Option Nat), data := .seq #[.bytes #[70, 49, 51] (425 : Nat), .int 25 (426 : Nat)] 0, slots := #[] } ::
    { cls := .type "tuple", dict := (none : Option Nat), data := .seq #[.bytes #[70, 49, 52] (427 : Nat), .int 26 (428 : Nat)] 0, slots := #[] } ::
    { cls := .type "tuple", dict := (none : Option Nat), data := .seq #[.bytes #[70, 49, 53] (429 : Nat), .int 28 (430 : Nat)] 0, slots := #[] } ::
    { cls := .type "tuple", dict := (none : Option Nat), data := .seq #[.bytes #[70, 49, 54] (431 : Nat), .int 29 (432 : Nat)] 0, slots := #[] } ::
    { cls := .type "tuple", dict := (none : Option Nat), data := .seq #[.bytes #[70, 49, 55] (433 : Nat), .int 31 (434 : Nat)] 0, slots := #[] } ::
    { cls := .type "tuple", dict := (none : Option Nat), data := .seq #[.bytes #[70, 49, 56] (435 : Nat), .int 32 (436 : Nat)] 0, slots := #[] } ::
    { cls := .type "tuple", dict := (none : Option Nat), data := .seq #[.bytes #[70, 49, 57] (437 : Nat), .int 33 (438 : Nat)] 0, slots := #[] } ::
    { cls := .type "tuple", dict := (none : Option Nat), data := .seq #[.bytes #[70, 50, 48] (439 : Nat), .int 34 (440 : Nat)] 0, slots := #[] } ::
    { cls := .type "tuple", dict := (none : Option Nat), data := .seq (List.toArray (.ref (162 : Nat) :: .ref (163 : Nat) :: .ref (164 : Nat) :: .ref (165 : Nat) :: .ref (166 : Nat) :: .ref (167 : Nat) :: .ref (168 : Nat) :: .ref (169 : Nat) :: .ref (170 : Nat) :: .ref (171 : Nat) :: .ref (172 : Nat) :: .ref (173 : Nat) :: .ref (174 : Nat) :: .ref (175 : Nat) :: .ref (176 : Nat) :: .ref (177 : Nat) :: .ref (178 : Nat) :: .ref (179 : Nat) :: .ref (180 : Nat) :: .ref (181 : Nat) :: [])) 0, slots := #[] } ::
    { cls := .type "tuple", dict := (none : Option Nat), data := .seq #[.bytes #[84, 97, 98] (442 : Nat), .int 9 (443 : Nat)] 0, slots := #[] } ::
    { cls := .type "tuple", dict := (none : Option Nat), data := .seq #[.bytes #[69, 110, 116, 101, 114] (444 : Nat), .int 13 (445 : Nat)] 0, slots := #[] } ::
    { cls := .type "tuple", dict := (none : Option Nat), data := .seq #[.bytes #[69, 115, 99, 97, 112, 101] (446 : Nat), .int 27 (447 : Nat)] 0, slots := #[] } ::
    { cls := .type "tuple", dict := (none : Option Nat), data := .seq #[.bytes #[66, 83, 112, 97, 99, 101] (448 : Nat), .int 127 (449 : Nat)] 0, slots := #[] } ::
    { cls := .type "tuple", dict := (none : Option Nat), data := .seq #[.ref (183 : Nat), .ref (184 : Nat), .ref (185 : Nat), .ref (186 : Nat)] 0, slots := #[] } ::
    { cls := .type "tuple", dict := (none : Option Nat), data := .seq #[.bytes #[75, 80, 48] (451 : Nat), .int 112 (452 : Nat), .int 48 (453 : Nat), .int 57399 (454 : Nat)] 0, slots := #[] } ::
    { cls := .type "tuple", dict := (none : Option Nat), data := .seq #[.bytes #[75, 80, 49] (455 : Nat), .int 113 (456 : Nat), .int 49 (457 : Nat), .int 57400 (458 : Nat)] 0, slots := #[] } ::
    { cls := .type "tuple", dict := (none : Option Nat), data := .seq #[.bytes #[75, 80, 50] (459 : Nat), .int 114 (460 : Nat), .int 50 (461 : Nat), .int 57401 (462 : Nat)] 0, slots := #[] } ::
    { cls := .type "tuple", dict := (none : Option Nat), data := .seq #[.bytes #[75, 80, 51] (463 : Nat), .int 115 (464 : Nat), .int 51 (465 : Nat), .int 57402 (466 : Nat)] 0, slots := #[] } ::
    { cls := .type "tuple", dict := (none : Option Nat), data := .seq #[.bytes #[75, 80, 52] (467 : Nat), .int 116 (468 : Nat), .int 52 (469 : Nat), .int 57403 (470 : Nat)] 0, slots := #[] } ::
    { cls := .type "tuple", dict := (none : Option Nat), data := .seq #[.bytes #[75, 80, 53] (471 : Nat), .int 117 (472 : Nat), .int 53 (473 : Nat), .int 57404 (474 : Nat)] 0, slots := #[] } ::
    { cls := .type "tuple", dict := (none : Option Nat), data := .seq #[.bytes #[75, 80, 54] (475 : Nat), .int 118 (476 : Nat), .int 54 (477 : Nat), .int 57405 (478 : Nat)] 0, slots := #[] } ::
    { cls := .type "tuple", dict := (none : Option Nat), data := .seq #[.bytes #[75, 80, 55] (479 : Nat), .int 119 (480 : Nat), .int 55 (481 : Nat), .int 57406 (482 : Nat)] 0, slots := #[] } ::
    { cls := .type "tuple", dict := (none : Option Nat), data := .seq #[.bytes #[75, 80, 56] (483 : Nat), .int 120 (484 : Nat), .int 56 (485 : Nat), .int 57407 (486 : Nat)] 0, slots := #[] } ::
    { cls := .type "tuple", dict := (none : Option Nat), data := .seq #[.bytes #[75, 80, 57] (487 : Nat), .int 121 (488 : Nat), .int 57 (489 : Nat), .int 57408 (490 : Nat)] 0, slots := #[] } ::
    { cls := .type "tuple", dict := (none : Option Nat), data := .seq #[.bytes #[75, 80, 46] (491 : Nat), .int 110 (492 : Nat), .int 46 (493 : Nat), .int 57409 (494 : Nat)] 0, slots := #[] } ::
    { cls := .type "tuple", dict := (none : Option Nat), data := .seq #[.bytes #[75, 80, 47] (495 : Nat), .int 111 (496 : Nat), .int 47 (497 : Nat), .int 57410 (498 : Nat)] 0, slots := #[] } ::
    { cls := .type "tuple", dict := (none : Option Nat), data := .seq #[.bytes #[75, 80, 42] (499 : Nat), .int 106 (500 : Nat), .int 42 (501 : Nat), .int 57411 (502 : Nat)] 0, slots := #[] } ::
    { cls := .type "tuple", dict := (none : Option Nat), data := .seq #[.bytes #[75, 80, 45] (503 : Nat), .int 109 (504 : Nat), .int 45 (505 : Nat), .int 57412 (506 : Nat)] 0, slots := #[] } ::
    { cls := .type "tuple", dict := (none : Option Nat), data := .seq #[.bytes #[75, 80, 43] (507 : Nat), .int 107 (508 : Nat), .int 43 (509 : Nat), .int 57413 (510 : Nat)] 0, slots := #[] } ::
    { cls := .type "tuple", dict := (none : Option Nat), data := .seq #[.bytes #[75, 80, 69, 110, 116, 101, 114] (511 : Nat), .int 77 (512 : Nat), .int 13 (513 : Nat), .int 57414 (514 : Nat)] 0, slots := #[] } ::
    { cls := .type "tuple", dict := (none : Option Nat), data := .seq #[.bytes #[75, 80, 61] (515 : Nat), .int 88 (516 : Nat), .int 61 (517 : Nat), .int 57415 (518 : Nat)] 0, slots := #[] } ::
    { cls := .type "tuple", dict := (none : Option Nat), data := .seq #[.bytes #[75, 80, 44] (519 : Nat), .int 108 (520 : Nat), .int 44 (521 : Nat), .int 57416 (522 : Nat)] 0, slots := #[] } ::
    { cls := .type "tuple", dict := (none : Option Nat), data := .seq #[.ref (188 : Nat), .ref (189 : Nat), .ref (190 : Nat), .ref (191 : Nat), .ref (192 : Nat), .ref (193 : Nat), .ref (194 : Nat), .ref (195 : Nat), .ref (196 : Nat), .ref (197 : Nat), .ref (198 : Nat), .ref (199 : Nat), .ref (200 : Nat), .ref (201 : Nat), .ref (202 : Nat), .ref (203 : Nat), .ref (204 : Nat), .ref (205 : Nat)] 0, slots := #[] } ::
    { cls := .type "tuple", dict := (none : Option Nat), data := .seq #[.bytes #[105, 99] (524 : Nat), .bytes #[73, 110, 115, 101, 114, 116] (525 : Nat)] 0, slots := #[] } ::
    { cls := .type "tuple", dict := (none : Option Nat), data := .seq #[.bytes #[100, 99] (526 : Nat), .bytes #[68, 101, 108, 101, 116, 101] (527 : Nat)] 0, slots := #[] } ::
    { cls := .type "tuple", dict := (none : Option Nat), data := .seq #[.bytes #[112, 112, 97, 103, 101] (528 : Nat), .bytes #[80, 97, 103, 101, 85, 112] (529 : Nat)] 0, slots := #[] } ::
    { cls := .type "tuple", dict := (none : Option Nat), data := .seq #[.bytes #[112, 103, 117, 112] (530 : Nat), .bytes #[80, 97, 103, 101, 85, 112] (531 : Nat)] 0, slots := #[] } ::
    { cls := .type "tuple", dict := (none : Option Nat), data := .seq #[.bytes #[110, 112, 97, 103, 101] (532 : Nat), .bytes #[80, 97, 103, 101, 68, 111, 119, 110] (533 : Nat)] 0, slots := #[] } ::
    { cls := .type "tuple", dict := (none : Option Nat), data := .seq #[.bytes #[112, 103, 100, 110] (534 : Nat), .bytes #[80, 97, 103, 101, 68, 111, 119, 110] (535 : Nat)] 0, slots := #[] } ::
    { cls := .type "tuple", dict := (none : Option Nat), data := .seq #[.ref (207 : Nat), .ref (208 : Nat), .ref (209 : Nat), .ref (210 : Nat), .ref (211 : Nat), .ref (212 : Nat)] 0, slots := #[] } ::
    { cls := .type "tuple", dict := (none : Option Nat), data := .seq #[] 0, slots := #[] } ::
    { cls := .type "builtin_function_or_method", dict := (none : Option Nat), data := .fields #[.builtin "type.__prepare__", .type "type"], slots := #[] } ::
    { cls := .type "dict", dict := (none : Option Nat), data := .dict #[⟨PyData.keyHash P (Str.ofString "__module__"), .str (Str.ofString "__module__") (544 : Nat), .str (Str.ofString "termcore.keyboard") (366 : Nat)⟩, ⟨PyData.keyHash P (Str.ofString "__qualname__"), .str (Str.ofString "__qualname__") (546 : Nat), .str (Str.ofString "Key") (545 : Nat)⟩, ⟨PyData.keyHash P (Str.ofString "__firstlineno__"), .str (Str.ofString "__firstlineno__") (548 : Nat), .int 98 (547 : Nat)⟩, ⟨PyData.keyHash P (Str.ofString "__init__"), .str (Str.ofString "__init__") (560 : Nat), .ref (228 : Nat)⟩, ⟨PyData.keyHash P (Str.ofString "with_held"), .str (Str.ofString "with_held") (568 : Nat), .ref (235 : Nat)⟩, ⟨PyData.keyHash P (Str.ofString "told"), .str (Str.ofString "told") (575 : Nat), .ref (242 : Nat)⟩, ⟨PyData.keyHash P (Str.ofString "__static_attributes__"), .str (Str.ofString "__static_attributes__") (580 : Nat), .ref (243 : Nat)⟩] 7, slots := #[] } ::
    { cls := .type "tuple", dict := (none : Option Nat), data := .seq #[] 0, slots := #[] } ::
    { cls := .none, dict := (none : Option Nat), data := .fields #[.int 100 (0 : Nat), .int 4 (0 : Nat), .ref (227 : Nat), .int 106 (0 : Nat), .int 4 (0 : Nat), .ref (234 : Nat), .int 109 (0 : Nat), .int 4 (0 : Nat), .ref (241 : Nat)], slots := #[] } ::
    { cls := .type "code", dict := (none : Option Nat), data := .fields #[.str (Str.ofString "Key") (539 : Nat), .str (Str.ofString "Key") (540 : Nat), .str (Str.ofString "/claim/cut.py") (541 : Nat), .int 98 (0 : Nat), .int 0 (0 : Nat), .int 0 (0 : Nat), .int 0 (0 : Nat), .int 0 (0 : Nat), .ref (217 : Nat), .bool false, .int 181 (0 : Nat), .ref (218 : Nat), .none, .none, .none, .none, .int 542 (0 : Nat), .int 98 (0 : Nat), .str (Str.ofString "/claim/cut.py") (543 : Nat)], slots := #[] } ::
    { cls := .type "frame", dict := (none : Option Nat), data := .plain, slots := #[some (.ref (219 : Nat)), some (.ref (3 : Nat)), some (.ref (216 : Nat)), none, some (.str (Str.ofString "termcore.keyboard") (366 : Nat)), none, some (.ref (0 : Nat))] } ::
    { cls := .type "tuple", dict := (none : Option Nat), data := .seq #[.int 0 (549 : Nat), .int 1 (378 : Nat)] 0, slots := #[] } ::
    { cls := .type "tuple", dict := (none : Option Nat), data := .seq #[] 0, slots := #[] } ::
    { cls := .none, dict := (none : Option Nat), data := .fields #[], slots := #[] } ::
    { cls := .type "tuple", dict := (none : Option Nat), data := .seq #[.str (Str.ofString "self") (553 : Nat), .str (Str.ofString "name") (554 : Nat), .str (Str.ofString "code") (555 : Nat), .str (Str.ofString "held") (556 : Nat), .str (Str.ofString "event") (557 : Nat)] 0, slots := #[] } ::
    { cls := .type "tuple", dict := (none : Option Nat), data := .seq #[] 0, slots := #[] } ::
    { cls := .none, dict := (none : Option Nat), data := .func { name := (Str.ofString "__init__"), qualname := (Str.ofString "Key.__init__"), params := a13, body := .stmts b13, scope := s13, globals := (0 : Nat), closure := ([] : List (Str × Nat)), defaults := .none, kwdefaults := .none, doc := .none, pyModule := .none, annotations := (none : Option Nat), code := .none, closureTuple := .none, builtins := (0 : Nat) }, slots := #[] } ::
    { cls := .type "code", dict := (none : Option Nat), data := .fields #[.str (Str.ofString "__init__") (550 : Nat), .str (Str.ofString "Key.__init__") (551 : Nat), .str (Str.ofString "/claim/cut.py") (552 : Nat), .int 100 (0 : Nat), .int 5 (0 : Nat), .int 0 (0 : Nat), .int 0 (0 : Nat), .int 3 (0 : Nat), .ref (222 : Nat), .bool true, .int 181 (0 : Nat), .ref (223 : Nat), .none, .ref (224 : Nat), .ref (225 : Nat), .ref (226 : Nat), .int 558 (0 : Nat), .int 100 (0 : Nat), .str (Str.ofString "/claim/cut.py") (559 : Nat)], slots := #[] } ::
    { cls := .type "function", dict := (none : Option Nat), data := .func { name := (Str.ofString "__init__"), qualname := (Str.ofString "Key.__init__"), params := a13, body := .stmts b13, scope := s13, globals := (3 : Nat), closure := ([] : List (Str × Nat)), defaults := .ref (221 : Nat), kwdefaults := .none, doc := .none, pyModule := .str (Str.ofString "termcore.keyboard") (366 : Nat), annotations := (none : Option Nat), code := .ref (227 : Nat), closureTuple := .none, builtins := (0 : Nat) }, slots := #[] } ::
    { cls := .type "tuple", dict := (none : Option Nat), data := .seq #[] 0, slots := #[] } ::
    { cls := .none, dict := (none : Option Nat), data := .fields #[], slots := #[] } ::
    { cls := .type "tuple", dict := (none : Option Nat), data := .seq #[.str (Str.ofString "self") (564 : Nat), .str (Str.ofString "more") (565 : Nat)] 0, slots := #[] } ::
    { cls := .type "tuple", dict := (none : Option Nat), data := .seq #[] 0, slots := #[] } ::
    { cls := .none, dict := (none : Option Nat), data := .func { name := (Str.ofString "with_held"), qualname := (Str.ofString "Key.with_held"), params := a14, body := .stmts b14, scope := s14, globals := (0 : Nat), closure := ([] : List (Str × Nat)), defaults := .none, kwdefaults := .none, doc := .none, pyModule := .none, annotations := (none : Option Nat), code := .none, closureTuple := .none, builtins := (0 : Nat) }, slots := #[] } ::
    { cls := .type "code", dict := (none : Option Nat), data := .fields #[.str (Str.ofString "with_held") (561 : Nat), .str (Str.ofString "Key.with_held") (562 : Nat), .str (Str.ofString "/claim/cut.py") (563 : Nat), .int 106 (0 : Nat), .int 2 (0 : Nat), .int 0 (0 : Nat), .int 0 (0 : Nat), .int 3 (0 : Nat), .ref (229 : Nat), .bool true, .int 181 (0 : Nat), .ref (230 : Nat), .none, .ref (231 : Nat), .ref (232 : Nat), .ref (233 : Nat), .int 566 (0 : Nat), .int 106 (0 : Nat), .str (Str.ofString "/claim/cut.py") (567 : Nat)], slots := #[] } ::
    { cls := .type "function", dict := (none : Option Nat), data := .func { name := (Str.ofString "with_held"), qualname := (Str.ofString "Key.with_held"), params := a14, body := .stmts b14, scope := s14, globals := (3 : Nat), closure := ([] : List (Str × Nat)), defaults := .none, kwdefaults := .none, doc := .none, pyModule := .str (Str.ofString "termcore.keyboard") (366 : Nat), annotations := (none : Option Nat), code := .ref (234 : Nat), closureTuple := .none, builtins := (0 : Nat) }, slots := #[] } ::
    { cls := .type "tuple", dict := (none : Option Nat), data := .seq #[] 0, slots := #[] } ::
    { cls := .none, dict := (none : Option Nat), data := .fields #[], slots := #[] } ::
    { cls := .type "tuple", dict := (none : Option Nat), data := .seq #[.str (Str.ofString "self") (572 : Nat)] 0, slots := #[] } ::
    { cls := .type "tuple", dict := (none : Option Nat), data := .seq #[] 0, slots := #[] } ::
    { cls := .none, dict := (none : Option Nat), data := .func { name := (Str.ofString "told"), qualname := (Str.ofString "Key.told"), params := a15, body := .stmts b15, scope := s15, globals := (0 : Nat), closure := ([] : List (Str × Nat)), defaults := .none, kwdefaults := .none, doc := .none, pyModule := .none, annotations := (none : Option Nat), code := .none, closureTuple := .none, builtins := (0 : Nat) }, slots := #[] } ::
    { cls := .type "code", dict := (none : Option Nat), data := .fields #[.str (Str.ofString "told") (569 : Nat), .str (Str.ofString "Key.told") (570 : Nat), .str (Str.ofString "/claim/cut.py") (571 : Nat), .int 109 (0 : Nat), .int 1 (0 : Nat), .int 0 (0 : Nat), .int 0 (0 : Nat), .int 3 (0 : Nat), .ref (236 : Nat), .bool true, .int 181 (0 : Nat), .ref (237 : Nat), .none, .ref (238 : Nat), .ref (239 : Nat), .ref (240 : Nat), .int 573 (0 : Nat), .int 109 (0 : Nat), .str (Str.ofString "/claim/cut.py") (574 : Nat)], slots := #[] } ::
    { cls := .type "function", dict := (none : Option Nat), data := .func { name := (Str.ofString "told"), qualname := (Str.ofString "Key.told"), params := a15, body := .stmts b15, scope := s15, globals := (3 : Nat), closure := ([] : List (Str × Nat)), defaults := .none, kwdefaults := .none, doc := .none, pyModule := .str (Str.ofString "termcore.keyboard") (366 : Nat), annotations := (none : Option Nat), code := .ref (241 : Nat), closureTuple := .none, builtins := (0 : Nat) }, slots := #[] } ::
    { cls := .type "tuple", dict := (none : Option Nat), data := .seq #[.str (Str.ofString "code") (576 : Nat), .str (Str.ofString "event") (577 : Nat), .str (Str.ofString "held") (578 : Nat), .str (Str.ofString "name") (579 : Nat)] 0, slots := #[] } ::
    { cls := .type "dict", dict := (none : Option Nat), data := .dict #[⟨PyData.keyHash P (Str.ofString "__module__"), .str (Str.ofString "__module__") (544 : Nat), .str (Str.ofString "termcore.keyboard") (366 : Nat)⟩, ⟨PyData.keyHash P (Str.ofString "__firstlineno__"), .str (Str.ofString "__firstlineno__") (548 : Nat), .int 98 (547 : Nat)⟩, ⟨PyData.keyHash P (Str.ofString "__init__"), .str (Str.ofString "__init__") (560 : Nat), .ref (228 : Nat)⟩, ⟨PyData.keyHash P (Str.ofString "with_held"), .str (Str.ofString "with_held") (568 : Nat), .ref (235 : Nat)⟩, ⟨PyData.keyHash P (Str.ofString "told"), .str (Str.ofString "told") (575 : Nat), .ref (242 : Nat)⟩, ⟨PyData.keyHash P (Str.ofString "__static_attributes__"), .str (Str.ofString "__static_attributes__") (580 : Nat), .ref (243 : Nat)⟩, ⟨PyData.keyHash P (Str.ofString "__dict__"), .str (Str.ofString "__dict__") (582 : Nat), .ref (246 : Nat)⟩, ⟨PyData.keyHash P (Str.ofString "__weakref__"), .str (Str.ofString "__weakref__") (584 : Nat), .ref (247 : Nat)⟩, ⟨PyData.keyHash P (Str.ofString "__doc__"), .str (Str.ofString "__doc__") (585 : Nat), .none⟩] 4, slots := #[] } ::
    { cls := .type "type", dict := (none : Option Nat), data := .cls { name := (Str.ofString "Key"), bases := [.type "object"], mro := [.ref (245 : Nat), .type "object"], ns := (244 : Nat), qualname := (Str.ofString "Key"), hasDict := true, slotNames := [], subclasses := [], abstract := false, collection := none, hasDel := false }, slots := #[none, none, some (.str (Str.ofString "Key") (537 : Nat)), some (.str (Str.ofString "Key") (545 : Nat)), some (.builtin "object.__new__"), some (.bool true)] } ::
    { cls := .type "getset_descriptor", dict := (none : Option Nat), data := .fields #[.str (Str.ofString "__dict__") (581 : Nat), .ref (245 : Nat), .builtin "function.__dict__", .builtin "function.__dict__#set"], slots := #[] } ::
    { cls := .type "getset_descriptor", dict := (none : Option Nat), data := .fields #[.str (Str.ofString "__weakref__") (583 : Nat), .ref (245 : Nat), .builtin "ExceptionGroup.__weakref__", .none], slots := #[] } ::
    { cls := .type "super", dict := (none : Option Nat), data := .fields #[.ref (245 : Nat), .ref (245 : Nat), .ref (245 : Nat)], slots := #[] } ::
    { cls := .type "builtin_function_or_method", dict := (none : Option Nat), data := .fields #[.builtin "object.__init_subclass__", .ref (245 : Nat)], slots := #[] } ::
    { cls := .type "tuple", dict := (none : Option Nat), data := .seq #[] 0, slots := #[] } ::
    { cls := .none, dict := (none : Option Nat), data := .fields #[], slots := #[] } ::
    { cls := .type "tuple", dict := (none : Option Nat), data := .seq #[.str (Str.ofString "code") (591 : Nat)] 0, slots := #[] } ::
    { cls := .type "tuple", dict := (none : Option Nat), data := .seq #[] 0, slots := #[] } ::
    { cls := .none, dict := (none : Option Nat), data := .func { name := (Str.ofString "key_is_capital"), qualname := (Str.ofString "key_is_capital"), params := a16, body := .stmts b16, scope := s16, globals := (0 : Nat), closure := ([] : List (Str × Nat)), defaults := .none, kwdefaults := .none, doc := .none, pyModule := .none, annotations := (none : Option Nat), code := .none, closureTuple := .none, builtins := (0 : Nat) }, slots := #[] } ::
    { cls := .type "code", dict := (none : Option Nat), data := .fields #[.str (Str.ofString "key_is_capital") (588 : Nat), .str (Str.ofString "key_is_capital") (589 : Nat), .str (Str.ofString "/claim/cut.py") (590 : Nat), .int 111 (0 : Nat), .int 1 (0 : Nat), .int 0 (0 : Nat), .int 0 (0 : Nat), .int 3 (0 : Nat), .ref (250 : Nat), .bool true, .int 181 (0 : Nat), .ref (251 : Nat), .none, .ref (252 : Nat), .ref (253 : Nat), .ref (254 : Nat), .int 592 (0 : Nat), .int 111 (0 : Nat), .str (Str.ofString "/claim/cut.py") (593 : Nat)], slots := #[] } ::
    { cls := .type "function", dict := (none : Option Nat), data := .func { name := (Str.ofString "key_is_capital"), qualname := (Str.ofString "key_is_capital"), params := a16, body := .stmts b16, scope := s16, globals := (3 : Nat), closure := ([] : List (Str × Nat)), defaults := .none, kwdefaults := .none, doc := .none, pyModule := .str (Str.ofString "termcore.keyboard") (366 : Nat), annotations := (none : Option Nat), code := .ref (255 : Nat), closureTuple := .none, builtins := (0 : Nat) }, slots := #[] } ::
    { cls := .type "tuple", dict := (none : Option Nat), data := .seq #[] 0, slots := #[] } ::
    { cls := .none, dict := (none : Option Nat), data := .fields #[], slots := #[] } ::
    { cls := .type "tuple", dict := (none : Option Nat), data := .seq #[.str (Str.ofString "code") (598 : Nat)] 0, slots := #[] } ::
    { cls := .type "tuple", dict := (none : Option Nat), data := .seq #[] 0, slots := #[] } ::
    { cls := .none, dict := (none : Option Nat), data := .func { name := (Str.ofString "key_is_small"), qualname := (Str.ofString "key_is_small"), params := a17, body := .stmts b17, scope := s17, globals := (0 : Nat), closure := ([] : List (Str × Nat)), defaults := .none, kwdefaults := .none, doc := .none, pyModule := .none, annotations := (none : Option Nat), code := .none, closureTuple := .none, builtins := (0 : Nat) }, slots := #[] } ::
    { cls := .type "code", dict := (none : Option Nat), data := .fields #[.str (Str.ofString "key_is_small") (595 : Nat), .str (Str.ofString "key_is_small") (596 : Nat), .str (Str.ofString "/claim/cut.py") (597 : Nat), .int 113 (0 : Nat), .int 1 (0 : Nat), .int 0 (0 : Nat), .int 0 (0 : Nat), .int 3 (0 : Nat), .ref (257 : Nat), .bool true, .int 181 (0 : Nat), .ref (258 : Nat), .none, .ref (259 : Nat), .ref (260 : Nat), .ref (261 : Nat), .int 599 (0 : Nat), .int 113 (0 : Nat), .str (Str.ofString "/claim/cut.py") (600 : Nat)], slots := #[] } ::
    { cls := .type "function", dict := (none : Option Nat), data := .func { name := (Str.ofString "key_is_small"), qualname := (Str.ofString "key_is_small"), params := a17, body := .stmts b17, scope := s17, globals := (3 : Nat), closure := ([] : List (Str × Nat)), defaults := .none, kwdefaults := .none, doc := .none, pyModule := .str (Str.ofString "termcore.keyboard") (366 : Nat), annotations := (none : Option Nat), code := .ref (262 : Nat), closureTuple := .none, builtins := (0 : Nat) }, slots := #[] } ::
    { cls := .type "tuple", dict := (none : Option Nat), data := .seq #[.int 1 (378 : Nat)] 0, slots := #[] } ::
    { cls := .type "tuple", dict := (none : Option Nat), data := .seq #[] 0, slots := #[] } ::
    { cls := .none, dict := (none : Option Nat), data := .fields #[], slots := #[] } ::
    { cls := .type "tuple", dict := (none : Option Nat), data := .seq #[.str (Str.ofString "name") (605 : Nat), .str (Str.ofString "code") (606 : Nat), .str (Str.ofString "held") (607 : Nat), .str (Str.ofString "event") (608 : Nat)] 0, slots := #[] } ::
    { cls := .type "tuple", dict := (none : Option Nat), data := .seq #[] 0, slots := #[] } ::
    { cls := .none, dict := (none : Option Nat), data := .func { name := (Str.ofString "key_settled"), qualname := (Str.ofString "key_settled"), params := a18, body := .stmts b18, scope := s18, globals := (0 : Nat), closure := ([] : List (Str × Nat)), defaults := .none, kwdefaults := .none, doc := .none, pyModule := .none, annotations := (none : Option Nat), code := .none, closureTuple := .none, builtins := (0 : Nat) }, slots := #[] } ::
    { cls := .type "code", dict := (none : Option Nat), data := .fields #[.str (Str.ofString "key_settled") (602 : Nat), .str (Str.ofString "key_settled") (603 : Nat), .str (Str.ofString "/claim/cut.py") (604 : Nat), .int 115 (0 : Nat), .int 4 (0 : Nat), .int 0 (0 : Nat), .int 0 (0 : Nat), .int 3 (0 : Nat), .ref (265 : Nat), .bool true, .int 181 (0 : Nat), .ref (266 : Nat), .none, .ref (267 : Nat), .ref (268 : Nat), .ref (269 : Nat), .int 609 (0 : Nat), .int 115 (0 : Nat), .str (Str.ofString "/claim/cut.py") (610 : Nat)], slots := #[] } ::
    { cls := .type "function", dict := (none : Option Nat), data := .func { name := (Str.ofString "key_settled"), qualname := (Str.ofString "key_settled"), params := a18, body := .stmts b18, scope := s18, globals := (3 : Nat), closure := ([] : List (Str × Nat)), defaults := .ref (264 : Nat), kwdefaults := .none, doc := .none, pyModule := .str (Str.ofString "termcore.keyboard") (366 : Nat), annotations := (none : Option Nat), code := .ref (270 : Nat), closureTuple := .none, builtins := (0 : Nat) }, slots := #[] } ::
    { cls := .type "tuple", dict := (none : Option Nat), data := .seq #[] 0, slots := #[] } ::
    { cls := .none, dict := (none : Option Nat), data := .fields #[], slots := #[] } ::
    { cls := .none, dict := (none : Option Nat), data := .func { name := (Str.ofString "key_lower"), qualname := (Str.ofString "key_lower"), params := a19, body := .stmts b19, scope := s19, globals := (0 : Nat), closure := ([] : List (Str × Nat)), defaults := .none, kwdefaults := .none, doc := .none, pyModule := .none, annotations := (none : Option Nat), code := .none, closureTuple := .none, builtins := (0 : Nat) }, slots := #[] } ::
    { cls := .type "code", dict := (none : Option Nat), data := .fields #[.str (Str.ofString "key_lower") (612 : Nat), .str (Str.ofString "key_lower") (613 : Nat), .str (Str.ofString "/claim/cut.py") (614 : Nat), .int 124 (0 : Nat), .int 1 (0 : Nat), .int 0 (0 : Nat), .int 0 (0 : Nat), .int 3 (0 : Nat), .ref (272 : Nat), .bool true, .int 181 (0 : Nat), .ref (273 : Nat), .none, .none, .none, .ref (274 : Nat), .int 615 (0 : Nat), .int 124 (0 : Nat), .str (Str.ofString "/claim/cut.py") (616 : Nat)], slots := #[] } ::
    { cls := .type "function", dict := (none : Option Nat), data := .func { name := (Str.ofString "key_lower"), qualname := (Str.ofString "key_lower"), params := a19, body := .stmts b19, scope := s19, globals := (3 : Nat), closure := ([] : List (Str × Nat)), defaults := .none, kwdefaults := .none, doc := .none, pyModule := .str (Str.ofString "termcore.keyboard") (366 : Nat), annotations := (none : Option Nat), code := .ref (275 : Nat), closureTuple := .none, builtins := (0 : Nat) }, slots := #[] } ::
    { cls := .type "tuple", dict := (none : Option Nat), data := .seq #[] 0, slots := #[] } ::
    { cls := .none, dict := (none : Option Nat), data := .fields #[], slots := #[] } ::
    { cls := .none, dict := (none : Option Nat), data := .func { name := (Str.ofString "key_names"), qualname := (Str.ofString "key_names"), params := a20, body := .stmts b20, scope := s20, globals := (0 : Nat), closure := ([] : List (Str × Nat)), defaults := .none, kwdefaults := .none, doc := .none, pyModule := .none, annotations := (none : Option Nat), code := .none, closureTuple := .none, builtins := (0 : Nat) }, slots := #[] } ::
    { cls := .type "code", dict := (none : Option Nat), data := .fields #[.str (Str.ofString "key_names") (618 : Nat), .str (Str.ofString "key_names") (619 : Nat), .str (Str.ofString "/claim/cut.py") (620 : Nat), .int 126 (0 : Nat), .int 0 (0 : Nat), .int 0 (0 : Nat), .int 0 (0 : Nat), .int 3 (0 : Nat), .ref (277 : Nat), .bool true, .int 181 (0 : Nat), .ref (278 : Nat), .none, .none, .none, .ref (279 : Nat), .int 621 (0 : Nat), .int 126 (0 : Nat), .str (Str.ofString "/claim/cut.py") (622 : Nat)], slots := #[] } ::
    { cls := .type "function", dict := (none : Option Nat), data := .func { name := (Str.ofString "key_names"), qualname := (Str.ofString "key_names"), params := a20, body := .stmts b20, scope := s20, globals := (3 : Nat), closure := ([] : List (Str × Nat)), defaults := .none, kwdefaults := .none, doc := .none, pyModule := .str (Str.ofString "termcore.keyboard") (366 : Nat), annotations := (none : Option Nat), code := .ref (280 : Nat), closureTuple := .none, builtins := (0 : Nat) }, slots := #[] } ::
    { cls := .type "tuple", dict := (none : Option Nat), data := .seq #[] 0, slots := #[] } ::
    { cls := .none, dict := (none : Option Nat), data := .fields #[], slots := #[] } ::
    { cls := .type "tuple", dict := (none : Option Nat), data := .seq #[.str (Str.ofString "octets") (627 : Nat), .str (Str.ofString "small") (628 : Nat), .str (Str.ofString "\x61lias") (629 : Nat), .str (Str.ofString "name") (630 : Nat)] 0, slots := #[] } ::
    { cls := .type "tuple", dict := (none : Option Nat), data := .seq #[] 0, slots := #[] } ::
    { cls := .none, dict := (none : Option Nat), data := .func { name := (Str.ofString "key_named"), qualname := (Str.ofString "key_named"), params := a21, body := .stmts b21, scope := s21, globals := (0 : Nat), closure := ([] : List (Str × Nat)), defaults := .none, kwdefaults := .none, doc := .none, pyModule := .none, annotations := (none : Option Nat), code := .none, closureTuple := .none, builtins := (0 : Nat) }, slots := #[] } ::
    { cls := .type "code", dict := (none : Option Nat), data := .fields #[.str (Str.ofString "key_named") (624 : Nat), .str (Str.ofString "key_named") (625 : Nat), .str (Str.ofString "/claim/cut.py") (626 : Nat), .int 129 (0 : Nat), .int 1 (0 : Nat), .int 0 (0 : Nat), .int 0 (0 : Nat), .int 3 (0 : Nat), .ref (282 : Nat), .bool true, .int 181 (0 : Nat), .ref (283 : Nat), .none, .ref (284 : Nat), .ref (285 : Nat), .ref (286 : Nat), .int 631 (0 : Nat), .int 129 (0 : Nat), .str (Str.ofString "/claim/cut.py") (632 : Nat)], slots := #[] } ::
    { cls := .type "function", dict := (none : Option Nat), data := .func { name := (Str.ofString "key_named"), qualname := (Str.ofString "key_named"), params := a21, body := .stmts b21, scope := s21, globals := (3 : Nat), closure := ([] : List (Str × Nat)), defaults := .none, kwdefaults := .none, doc := .none, pyModule := .str (Str.ofString "termcore.keyboard") (366 : Nat), annotations := (none : Option Nat), code := .ref (287 : Nat), closureTuple := .none, builtins := (0 : Nat) }, slots := #[] } ::
    { cls := .type "tuple", dict := (none : Option Nat), data := .seq #[] 0, slots := #[] } ::
    { cls := .none, dict := (none : Option Nat), data := .fields #[], slots := #[] } ::
    { cls := .type "tuple", dict := (none : Option Nat), data := .seq #[.str (Str.ofString "octets") (637 : Nat), .str (Str.ofString "codes") (638 : Nat)] 0, slots := #[] } ::
    { cls := .type "tuple", dict := (none : Option Nat), data := .seq #[] 0, slots := #[] } ::
    { cls := .none, dict := (none : Option Nat), data := .func { name := (Str.ofString "key_one_sign"), qualname := (Str.ofString "key_one_sign"), params := a22, body := .stmts b22, scope := s22, globals := (0 : Nat), closure := ([] : List (Str × Nat)), defaults := .none, kwdefaults := .none, doc := .none, pyModule := .none, annotations := (none : Option Nat), code := .none, closureTuple := .none, builtins := (0 : Nat) }, slots := #[] } ::
    { cls := .type "code", dict := (none : Option Nat), data := .fields #[.str (Str.ofString "key_one_sign") (634 : Nat), .str (Str.ofString "key_one_sign") (635 : Nat), .str (Str.ofString "/claim/cut.py") (636 : Nat), .int 138 (0 : Nat), .int 1 (0 : Nat), .int 0 (0 : Nat), .int 0 (0 : Nat), .int 3 (0 : Nat), .ref (289 : Nat), .bool true, .int 181 (0 : Nat), .ref (290 : Nat), .none, .ref (291 : Nat), .ref (292 : Nat), .ref (293 : Nat), .int 639 (0 : Nat), .int 138 (0 : Nat), .str (Str.ofString "/claim/cut.py") (640 : Nat)], slots := #[] } ::
    { cls := .type "function", dict := (none : Option Nat), data := .func { name := (Str.ofString "key_one_sign"), qualname := (Str.ofString "key_one_sign"), params := a22, body := .stmts b22, scope := s22, globals := (3 : Nat), closure := ([] : List (Str × Nat)), defaults := .none, kwdefaults := .none, doc := .none, pyModule := .str (Str.ofString "termcore.keyboard") (366 : Nat), annotations := (none : Option Nat), code := .ref (294 : Nat), closureTuple := .none, builtins := (0 : Nat) }, slots := #[] } ::
    { cls := .type "tuple", dict := (none : Option Nat), data := .seq #[] 0, slots := #[] } ::
    { cls := .none, dict := (none : Option Nat), data := .fields #[], slots := #[] } ::
    { cls := .type "tuple", dict := (none : Option Nat), data := .seq #[.str (Str.ofString "octets") (645 : Nat), .str (Str.ofString "held") (646 : Nat), .str (Str.ofString "is_ahead") (647 : Nat), .str (Str.ofString "sign") (648 : Nat), .str (Str.ofString "bit") (649 : Nat)] 0, slots := #[] } ::
    { cls := .type "tuple", dict := (none : Option Nat), data := .seq #[] 0, slots := #[] } ::
    { cls := .none, dict := (none : Option Nat), data := .func { name := (Str.ofString "key_split"), qualname := (Str.ofString "key_split"), params := a23, body := .stmts b23, scope := s23, globals := (0 : Nat), closure := ([] : List (Str × Nat)), defaults := .none, kwdefaults := .none, doc := .none, pyModule := .none, annotations := (none : Option Nat), code := .none, closureTuple := .none, builtins := (0 : Nat) }, slots := #[] } ::
    { cls := .type "code", dict := (none : Option Nat), data := .fields #[.str (Str.ofString "key_split") (642 : Nat), .str (Str.ofString "key_split") (643 : Nat), .str (Str.ofString "/claim/cut.py") (644 : Nat), .int 143 (0 : Nat), .int 1 (0 : Nat), .int 0 (0 : Nat), .int 0 (0 : Nat), .int 3 (0 : Nat), .ref (296 : Nat), .bool true, .int 181 (0 : Nat), .ref (297 : Nat), .none, .ref (298 : Nat), .ref (299 : Nat), .ref (300 : Nat), .int 650 (0 : Nat), .int 143 (0 : Nat), .str (Str.ofString "/claim/cut.py") (651 : Nat)], slots := #[] } ::
    { cls := .type "function", dict := (none : Option Nat), data := .func { name := (Str.ofString "key_split"), qualname := (Str.ofString "key_split"), params := a23, body := .stmts b23, scope := s23, globals := (3 : Nat), closure := ([] : List (Str × Nat)), defaults := .none, kwdefaults := .none, doc := .none, pyModule := .str (Str.ofString "termcore.keyboard") (366 : Nat), annotations := (none : Option Nat), code := .ref (301 : Nat), closureTuple := .none, builtins := (0 : Nat) }, slots := #[] } ::
    { cls := .type "tuple", dict := (none : Option Nat), data := .seq #[] 0, slots := #[] } ::
    { cls := .none, dict := (none : Option Nat), data := .fields #[], slots := #[] } ::
    { cls := .type "tuple", dict := (none : Option Nat), data := .seq #[.str (Str.ofString "octets") (656 : Nat), .str (Str.ofString "held") (657 : Nat), .str (Str.ofString "rest") (658 : Nat), .str (Str.ofString "code") (659 : Nat), .str (Str.ofString "name") (660 : Nat)] 0, slots := #[] } ::
    { cls := .type "tuple", dict := (none : Option Nat), data := .seq #[] 0, slots := #[] } ::
    { cls := .none, dict := (none : Option Nat), data := .func { name := (Str.ofString "read_key"), qualname := (Str.ofString "read_key"), params := a24, body := .stmts b24, scope := s24, globals := (0 : Nat), closure := ([] : List (Str × Nat)), defaults := .none, kwdefaults := .none, doc := .none, pyModule := .none, annotations := (none : Option Nat), code := .none, closureTuple := .none, builtins := (0 : Nat) }, slots := #[] } ::
    { cls := .type "code", dict := (none : Option Nat), data := .fields #[.str (Str.ofString "read_key") (653 : Nat), .str (Str.ofString "read_key") (654 : Nat), .str (Str.ofString "/claim/cut.py") (655 : Nat), .int 157 (0 : Nat), .int 1 (0 : Nat), .int 0 (0 : Nat), .int 0 (0 : Nat), .int 3 (0 : Nat), .ref (303 : Nat), .bool true, .int 181 (0 : Nat), .ref (304 : Nat), .none, .ref (305 : Nat), .ref (306 : Nat), .ref (307 : Nat), .int 661 (0 : Nat), .int 157 (0 : Nat), .str (Str.ofString "/claim/cut.py") (662 : Nat)], slots := #[] } ::
    { cls := .type "function", dict := (none : Option Nat), data := .func { name := (Str.ofString "read_key"), qualname := (Str.ofString "read_key"), params := a24, body := .stmts b24, scope := s24, globals := (3 : Nat), closure := ([] : List (Str × Nat)), defaults := .none, kwdefaults := .none, doc := .none, pyModule := .str (Str.ofString "termcore.keyboard") (366 : Nat), annotations := (none : Option Nat), code := .ref (308 : Nat), closureTuple := .none, builtins := (0 : Nat) }, slots := #[] } ::
    { cls := .type "tuple", dict := (none : Option Nat), data := .seq #[] 0, slots := #[] } ::
    { cls := .none, dict := (none : Option Nat), data := .fields #[], slots := #[] } ::
    { cls := .type "tuple", dict := (none : Option Nat), data := .seq #[.str (Str.ofString "key") (667 : Nat), .str (Str.ofString "found") (668 : Nat), .str (Str.ofString "sign") (669 : Nat), .str (Str.ofString "bit") (670 : Nat)] 0, slots := #[] } ::
    { cls := .type "tuple", dict := (none : Option Nat), data := .seq #[] 0, slots := #[] } ::
    { cls := .none, dict := (none : Option Nat), data := .func { name := (Str.ofString "key_word"), qualname := (Str.ofString "key_word"), params := a25, body := .stmts b25, scope := s25, globals := (0 : Nat), closure := ([] : List (Str × Nat)), defaults := .none, kwdefaults := .none, doc := .none, pyModule := .none, annotations := (none : Option Nat), code := .none, closureTuple := .none, builtins := (0 : Nat) }, slots := #[] } ::
    { cls := .type "code", dict := (none : Option Nat), data := .fields #[.str (Str.ofString "key_word") (664 : Nat), .str (Str.ofString "key_word") (665 : Nat), .str (Str.ofString "/claim/cut.py") (666 : Nat), .int 168 (0 : Nat), .int 1 (0 : Nat), .int 0 (0 : Nat), .int 0 (0 : Nat), .int 3 (0 : Nat), .ref (310 : Nat), .bool true, .int 181 (0 : Nat), .ref (311 : Nat), .none, .ref (312 : Nat), .ref (313 : Nat), .ref (314 : Nat), .int 671 (0 : Nat), .int 168 (0 : Nat), .str (Str.ofString "/claim/cut.py") (672 : Nat)], slots := #[] } ::
    { cls := .type "function", dict := (none : Option Nat), data := .func { name := (Str.ofString "key_word"), qualname := (Str.ofString "key_word"), params := a25, body := .stmts b25, scope := s25, globals := (3 : Nat), closure := ([] : List (Str × Nat)), defaults := .none, kwdefaults := .none, doc := .none, pyModule := .str (Str.ofString "termcore.keyboard") (366 : Nat), annotations := (none : Option Nat), code := .ref (315 : Nat), closureTuple := .none, builtins := (0 : Nat) }, slots := #[] } ::
    { cls := .type "tuple", dict := (none : Option Nat), data := .seq #[] 0, slots := #[] } ::
    { cls := .none, dict := (none : Option Nat), data := .fields #[], slots := #[] } ::
    { cls := .none, dict := (none : Option Nat), data := .func { name := (Str.ofString "_law_names"), qualname := (Str.ofString "_law_names"), params := a26, body := .stmts b26, scope := s26, globals := (0 : Nat), closure := ([] : List (Str × Nat)), defaults := .none, kwdefaults := .none, doc := .none, pyModule := .none, annotations := (none : Option Nat), code := .none, closureTuple := .none, builtins := (0 : Nat) }, slots := #[] } ::
    { cls := .type "code", dict := (none : Option Nat), data := .fields #[.str (Str.ofString "_law_names") (676 : Nat), .str (Str.ofString "_law_names") (677 : Nat), .str (Str.ofString "/claim/cut.py") (678 : Nat), .int 177 (0 : Nat), .int 0 (0 : Nat), .int 0 (0 : Nat), .int 0 (0 : Nat), .int 3 (0 : Nat), .ref (317 : Nat), .bool true, .int 181 (0 : Nat), .ref (318 : Nat), .none, .none, .none, .ref (319 : Nat), .int 679 (0 : Nat), .int 177 (0 : Nat), .str (Str.ofString "/claim/cut.py") (680 : Nat)], slots := #[] } ::
    { cls := .type "function", dict := (none : Option Nat), data := .func { name := (Str.ofString "_law_names"), qualname := (Str.ofString "_law_names"), params := a26, body := .stmts b26, scope := s26, globals := (3 : Nat), closure := ([] : List (Str × Nat)), defaults := .none, kwdefaults := .none, doc := .none, pyModule := .str (Str.ofString "law_og0251_01") (674 : Nat), annotations := (none : Option Nat), code := .ref (320 : Nat), closureTuple := .none, builtins := (0 : Nat) }, slots := #[] } ::
    { cls := .type "tuple", dict := (none : Option Nat), data := .seq #[] 0, slots := #[] } ::
    { cls := .none, dict := (none : Option Nat), data := .fields #[], slots := #[] } ::
    { cls := .type "tuple", dict := (none : Option Nat), data := .seq #[.str (Str.ofString "code") (685 : Nat)] 0, slots := #[] } ::
    { cls := .type "tuple", dict := (none : Option Nat), data := .seq #[] 0, slots := #[] } ::
    { cls := .none, dict := (none : Option Nat), data := .func { name := (Str.ofString "_law_sign_octets"), qualname := (Str.ofString "_law_sign_octets"), params := a27, body := .stmts b27, scope := s27, globals := (0 : Nat), closure := ([] : List (Str × Nat)), defaults := .none, kwdefaults := .none, doc := .none, pyModule := .none, annotations := (none : Option Nat), code := .none, closureTuple := .none, builtins := (0 : Nat) }, slots := #[] } ::
    { cls := .type "code", dict := (none : Option Nat), data := .fields #[.str (Str.ofString "_law_sign_octets") (682 : Nat), .str (Str.ofString "_law_sign_octets") (683 : Nat), .str (Str.ofString "/claim/cut.py") (684 : Nat), .int 182 (0 : Nat), .int 1 (0 : Nat), .int 0 (0 : Nat), .int 0 (0 : Nat), .int 3 (0 : Nat), .ref (322 : Nat), .bool true, .int 181 (0 : Nat), .ref (323 : Nat), .none, .ref (324 : Nat), .ref (325 : Nat), .ref (326 : Nat), .int 686 (0 : Nat), .int 182 (0 : Nat), .str (Str.ofString "/claim/cut.py") (687 : Nat)], slots := #[] } ::
    { cls := .type "function", dict := (none : Option Nat), data := .func { name := (Str.ofString "_law_sign_octets"), qualname := (Str.ofString "_law_sign_octets"), params := a27, body := .stmts b27, scope := s27, globals := (3 : Nat), closure := ([] : List (Str × Nat)), defaults := .none, kwdefaults := .none, doc := .none, pyModule := .str (Str.ofString "law_og0251_01") (674 : Nat), annotations := (none : Option Nat), code := .ref (327 : Nat), closureTuple := .none, builtins := (0 : Nat) }, slots := #[] } ::
    { cls := .type "tuple", dict := (none : Option Nat), data := .seq #[] 0, slots := #[] } ::
    { cls := .none, dict := (none : Option Nat), data := .fields #[], slots := #[] } ::
    { cls := .type "tuple", dict := (none : Option Nat), data := .seq #[.str (Str.ofString "octets") (692 : Nat), .str (Str.ofString "how") (693 : Nat), .str (Str.ofString "found") (694 : Nat), .str (Str.ofString "k") (695 : Nat), .str (Str.ofString "octet") (696 : Nat)] 0, slots := #[] } ::
    { cls := .type "tuple", dict := (none : Option Nat), data := .seq #[] 0, slots := #[] } ::
    { cls := .none, dict := (none : Option Nat), data := .func { name := (Str.ofString "_law_turned"), qualname := (Str.ofString "_law_turned"), params := a28, body := .stmts b28, scope := s28, globals := (0 : Nat), closure := ([] : List (Str × Nat)), defaults := .none, kwdefaults := .none, doc := .none, pyModule := .none, annotations := (none : Option Nat), code := .none, closureTuple := .none, builtins := (0 : Nat) }, slots := #[] } ::
    { cls := .type "code", dict := (none : Option Nat), data := .fields #[.str (Str.ofString "_law_turned") (689 : Nat), .str (Str.ofString "_law_turned") (690 : Nat), .str (Str.ofString "/claim/cut.py") (691 : Nat), .int 190 (0 : Nat), .int 2 (0 : Nat), .int 0 (0 : Nat), .int 0 (0 : Nat), .int 3 (0 : Nat), .ref (329 : Nat), .bool true, .int 181 (0 : Nat), .ref (330 : Nat), .none, .ref (331 : Nat), .ref (332 : Nat), .ref (333 : Nat), .int 697 (0 : Nat), .int 190 (0 : Nat), .str (Str.ofString "/claim/cut.py") (698 : Nat)], slots := #[] } ::
    { cls := .type "function", dict := (none : Option Nat), data := .func { name := (Str.ofString "_law_turned"), qualname := (Str.ofString "_law_turned"), params := a28, body := .stmts b28, scope := s28, globals := (3 : Nat), closure := ([] : List (Str × Nat)), defaults := .none, kwdefaults := .none, doc := .none, pyModule := .str (Str.ofString "law_og0251_01") (674 : Nat), annotations := (none : Option Nat), code := .ref (334 : Nat), closureTuple := .none, builtins := (0 : Nat) }, slots := #[] } ::
    { cls := .type "tuple", dict := (none : Option Nat), data := .seq #[] 0, slots := #[] } ::
    { cls := .none, dict := (none : Option Nat), data := .fields #[], slots := #[] } ::
    { cls := .type "tuple", dict := (none : Option Nat), data := .seq #[.str (Str.ofString "cell") (703 : Nat), .str (Str.ofString "some") (704 : Nat), .str (Str.ofString "number") (705 : Nat), .str (Str.ofString "octets") (706 : Nat), .str (Str.ofString "k") (707 : Nat), .str (Str.ofString "value") (708 : Nat), .str (Str.ofString "word") (709 : Nat)] 0, slots := #[] } ::
    { cls := .type "tuple", dict := (none : Option Nat), data := .seq #[] 0, slots := #[] } ::
    { cls := .none, dict := (none : Option Nat), data := .func { name := (Str.ofString "_law_held"), qualname := (Str.ofString "_law_held"), params := a29, body := .stmts b29, scope := s29, globals := (0 : Nat), closure := ([] : List (Str × Nat)), defaults := .none, kwdefaults := .none, doc := .none, pyModule := .none, annotations := (none : Option Nat), code := .none, closureTuple := .none, builtins := (0 : Nat) }, slots := #[] } ::
    { cls := .type "code", dict := (none : Option Nat), data := .fields #[.str (Str.ofString "_law_held") (700 : Nat), .str (Str.ofString "_law_held") (701 : Nat), .str (Str.ofString "/claim/cut.py") (702 : Nat), .int 199 (0 : Nat), .int 1 (0 : Nat), .int 0 (0 : Nat), .int 0 (0 : Nat), .int 3 (0 : Nat), .ref (336 : Nat), .bool true, .int 181 (0 : Nat), .ref (337 : Nat), .none, .ref (338 : Nat), .ref (339 : Nat), .ref (340 : Nat), .int 710 (0 : Nat), .int 199 (0 : Nat), .str (Str.ofString "/claim/cut.py") (711 : Nat)], slots := #[] } ::
    { cls := .type "function", dict := (none : Option Nat), data := .func { name := (Str.ofString "_law_held"), qualname := (Str.ofString "_law_held"), params := a29, body := .stmts b29, scope := s29, globals := (3 : Nat), closure := ([] : List (Str × Nat)), defaults := .none, kwdefaults := .none, doc := .none, pyModule := .str (Str.ofString "law_og0251_01") (674 : Nat), annotations := (none : Option Nat), code := .ref (341 : Nat), closureTuple := .none, builtins := (0 : Nat) }, slots := #[] } ::
    { cls := .type "tuple", dict := (none : Option Nat), data := .seq #[] 0, slots := #[] } ::
    { cls := .none, dict := (none : Option Nat), data := .fields #[], slots := #[] } ::
    { cls := .type "tuple", dict := (none : Option Nat), data := .seq #[.str (Str.ofString "name") (716 : Nat), .str (Str.ofString "code") (717 : Nat), .str (Str.ofString "held") (718 : Nat), .str (Str.ofString "is_letter") (719 : Nat)] 0, slots := #[] } ::
    { cls := .type "tuple", dict := (none : Option Nat), data := .seq #[] 0, slots := #[] } ::
    { cls := .none, dict := (none : Option Nat), data := .func { name := (Str.ofString "_law_settled"), qualname := (Str.ofString "_law_settled"), params := a30, body := .stmts b30, scope := s30, globals := (0 : Nat), closure := ([] : List (Str × Nat)), defaults := .none, kwdefaults := .none, doc := .none, pyModule := .none, annotations := (none : Option Nat), code := .none, closureTuple := .none, builtins := (0 : Nat) }, slots := #[] } ::
    { cls := .type "code", dict := (none : Option Nat), data := .fields #[.str (Str.ofString "_law_settled") (713 : Nat), .str (Str.ofString "_law_settled") (714 : Nat), .str (Str.ofString "/claim/cut.py") (715 : Nat), .int 205 (0 : Nat), .int 3 (0 : Nat), .int 0 (0 : Nat), .int 0 (0 : Nat), .int 3 (0 : Nat), .ref (343 : Nat), .bool true, .int 181 (0 : Nat), .ref (344 : Nat), .none, .ref (345 : Nat), .ref (346 : Nat), .ref (347 : Nat), .int 720 (0 : Nat), .int 205 (0 : Nat), .str (Str.ofString "/claim/cut.py") (721 : Nat)], slots := #[] } ::
    { cls := .type "function", dict := (none : Option Nat), data := .func { name := (Str.ofString "_law_settled"), qualname := (Str.ofString "_law_settled"), params := a30, body := .stmts b30, scope := s30, globals := (3 : Nat), closure := ([] : List (Str × Nat)), defaults := .none, kwdefaults := .none, doc := .none, pyModule := .str (Str.ofString "law_og0251_01") (674 : Nat), annotations := (none : Option Nat), code := .ref (348 : Nat), closureTuple := .none, builtins := (0 : Nat) }, slots := #[] } ::
    { cls := .type "tuple", dict := (none : Option Nat), data := .seq #[] 0, slots := #[] } ::
    { cls := .none, dict := (none : Option Nat), data := .fields #[], slots := #[] } ::
    { cls := .type "tuple", dict := (none : Option Nat), data := .seq #[.str (Str.ofString "key") (726 : Nat), .str (Str.ofString "name") (727 : Nat), .str (Str.ofString "code") (728 : Nat), .str (Str.ofString "held") (729 : Nat)] 0, slots := #[] } ::
    { cls := .type "tuple", dict := (none : Option Nat), data := .seq #[] 0, slots := #[] } ::
    { cls := .none, dict := (none : Option Nat), data := .func { name := (Str.ofString "_law_word"), qualname := (Str.ofString "_law_word"), params := a31, body := .stmts b31, scope := s31, globals := (0 : Nat), closure := ([] : List (Str × Nat)), defaults := .none, kwdefaults := .none, doc := .none, pyModule := .none, annotations := (none : Option Nat), code := .none, closureTuple := .none, builtins := (0 : Nat) }, slots := #[] } ::
    { cls := .type "code", dict := (none : Option Nat), data := .fields #[.str (Str.ofString "_law_word") (723 : Nat), .str (Str.ofString "_law_word") (724 : Nat), .str (Str.ofString "/claim/cut.py") (725 : Nat), .int 212 (0 : Nat), .int 1 (0 : Nat), .int 0 (0 : Nat), .int 0 (0 : Nat), .int 3 (0 : Nat), .ref (350 : Nat), .bool true, .int 181 (0 : Nat), .ref (351 : Nat), .none, .ref (352 : Nat), .ref (353 : Nat), .ref (354 : Nat), .int 730 (0 : Nat), .int 212 (0 : Nat), .str (Str.ofString "/claim/cut.py") (731 : Nat)], slots := #[] } ::
    { cls := .type "function", dict := (none : Option Nat), data := .func { name := (Str.ofString "_law_word"), qualname := (Str.ofString "_law_word"), params := a31, body := .stmts b31, scope := s31, globals := (3 : Nat), closure := ([] : List (Str × Nat)), defaults := .none, kwdefaults := .none, doc := .none, pyModule := .str (Str.ofString "law_og0251_01") (674 : Nat), annotations := (none : Option Nat), code := .ref (355 : Nat), closureTuple := .none, builtins := (0 : Nat) }, slots := #[] } ::
    { cls := .type "tuple", dict := (none : Option Nat), data := .seq #[] 0, slots := #[] } ::
    { cls := .none, dict := (none : Option Nat), data := .fields #[], slots := #[] } ::
    { cls := .type "tuple", dict := (none : Option Nat), data := .seq #[.str (Str.ofString "cells") (736 : Nat), .str (Str.ofString "way") (737 : Nat), .str (Str.ofString "rest") (738 : Nat), .str (Str.ofString "held") (739 : Nat), .str (Str.ofString "ahead") (740 : Nat), .str (Str.ofString "word") (741 : Nat), .str (Str.ofString "name") (742 : Nat), .str (Str.ofString "code") (743 : Nat)] 0, slots := #[] } ::
    { cls := .type "tuple", dict := (none : Option Nat), data := .seq #[] 0, slots := #[] } ::
    { cls := .none, dict := (none : Option Nat), data := .func { name := (Str.ofString "_law_drawn"), qualname := (Str.ofString "_law_drawn"), params := a32, body := .stmts b32, scope := s32, globals := (0 : Nat), closure := ([] : List (Str × Nat)), defaults := .none, kwdefaults := .none, doc := .none, pyModule := .none, annotations := (none : Option Nat), code := .none, closureTuple := .none, builtins := (0 : Nat) }, slots := #[] } ::
    { cls := .type "code", dict := (none : Option Nat), data := .fields #[.str (Str.ofString "_law_drawn") (733 : Nat), .str (Str.ofString "_law_drawn") (734 : Nat), .str (Str.ofString "/claim/cut.py") (735 : Nat), .int 217 (0 : Nat), .int 1 (0 : Nat), .int 0 (0 : Nat), .int 0 (0 : Nat), .int 3 (0 : Nat), .ref (357 : Nat), .bool true, .int 181 (0 : Nat), .ref (358 : Nat), .none, .ref (359 : Nat), .ref (360 : Nat), .ref (361 : Nat), .int 744 (0 : Nat), .int 217 (0 : Nat), .str (Str.ofString "/claim/cut.py") (745 : Nat)], slots := #[] } ::
    { cls := .type "function", dict := (none : Option Nat), data := .func { name := (Str.ofString "_law_drawn"), qualname := (Str.ofString "_law_drawn"), params := a32, body := .stmts b32, scope := s32, globals := (3 : Nat), closure := ([] : List (Str × Nat)), defaults := .none, kwdefaults := .none, doc := .none, pyModule := .str (Str.ofString "law_og0251_01") (674 : Nat), annotations := (none : Option Nat), code := .ref (362 : Nat), closureTuple := .none, builtins := (0 : Nat) }, slots := #[] } ::
    { cls := .type "tuple", dict := (none : Option Nat), data := .seq #[] 0, slots := #[] } ::
    { cls := .none, dict := (none : Option Nat), data := .fields #[], slots := #[] } ::
    { cls := .type "tuple", dict := (none : Option Nat), data := .seq #[.str (Str.ofString "word") (750 : Nat), .str (Str.ofString "told") (751 : Nat), .str (Str.ofString "e") (752 : Nat)] 0, slots := #[] } ::
    { cls := .type "tuple", dict := (none : Option Nat), data := .seq #[] 0, slots := #[] } ::
    { cls := .none, dict := (none : Option Nat), data := .func { name := (Str.ofString "_law_is_refused"), qualname := (Str.ofString "_law_is_refused"), params := a33, body := .stmts b33, scope := s33, globals := (0 : Nat), closure := ([] : List (Str × Nat)), defaults := .none, kwdefaults := .none, doc := .none, pyModule := .none, annotations := (none : Option Nat), code := .none, closureTuple := .none, builtins := (0 : Nat) }, slots := #[] } ::
    { cls := .type "code", dict := (none : Option Nat), data := .fields #[.str (Str.ofString "_law_is_refused") (747 : Nat), .str (Str.ofString "_law_is_refused") (748 : Nat), .str (Str.ofString "/claim/cut.py") (749 : Nat), .int 235 (0 : Nat), .int 1 (0 : Nat), .int 0 (0 : Nat), .int 0 (0 : Nat), .int 3 (0 : Nat), .ref (364 : Nat), .bool true, .int 181 (0 : Nat), .ref (365 : Nat), .none, .ref (366 : Nat), .ref (367 : Nat), .ref (368 : Nat), .int 753 (0 : Nat), .int 235 (0 : Nat), .str (Str.ofString "/claim/cut.py") (754 : Nat)], slots := #[] } ::
    { cls := .type "function", dict := (none : Option Nat), data := .func { name := (Str.ofString "_law_is_refused"), qualname := (Str.ofString "_law_is_refused"), params := a33, body := .stmts b33, scope := s33, globals := (3 : Nat), closure := ([] : List (Str × Nat)), defaults := .none, kwdefaults := .none, doc := .none, pyModule := .str (Str.ofString "law_og0251_01") (674 : Nat), annotations := (none : Option Nat), code := .ref (369 : Nat), closureTuple := .none, builtins := (0 : Nat) }, slots := #[] } ::
    { cls := .type "tuple", dict := (none : Option Nat), data := .seq #[] 0, slots := #[] } ::
    { cls := .none, dict := (none : Option Nat), data := .fields #[], slots := #[] } ::
    { cls := .type "tuple", dict := (none : Option Nat), data := .seq #[.str (Str.ofString "word") (759 : Nat), .str (Str.ofString "due") (760 : Nat), .str (Str.ofString "key") (761 : Nat), .str (Str.ofString "other") (762 : Nat)] 0, slots := #[] } ::
    { cls := .type "tuple", dict := (none : Option Nat), data := .seq #[] 0, slots := #[] } ::
    { cls := .none, dict := (none : Option Nat), data := .func { name := (Str.ofString "_law_right"), qualname := (Str.ofString "_law_right"), params := a34, body := .stmts b34, scope := s34, globals := (0 : Nat), closure := ([] : List (Str × Nat)), defaults := .none, kwdefaults := .none, doc := .none, pyModule := .none, annotations := (none : Option Nat), code := .none, closureTuple := .none, builtins := (0 : Nat) }, slots := #[] } ::
    { cls := .type "code", dict := (none : Option Nat), data := .fields #[.str (Str.ofString "_law_right") (756 : Nat), .str (Str.ofString "_law_right") (757 : Nat), .str (Str.ofString "/claim/cut.py") (758 : Nat), .int 242 (0 : Nat), .int 2 (0 : Nat), .int 0 (0 : Nat), .int 0 (0 : Nat), .int 3 (0 : Nat), .ref (371 : Nat), .bool true, .int 181 (0 : Nat), .ref (372 : Nat), .none, .ref (373 : Nat), .ref (374 : Nat), .ref (375 : Nat), .int 763 (0 : Nat), .int 242 (0 : Nat), .str (Str.ofString "/claim/cut.py") (764 : Nat)], slots := #[] } ::
    { cls := .type "function", dict := (none : Option Nat), data := .func { name := (Str.ofString "_law_right"), qualname := (Str.ofString "_law_right"), params := a34, body := .stmts b34, scope := s34, globals := (3 : Nat), closure := ([] : List (Str × Nat)), defaults := .none, kwdefaults := .none, doc := .none, pyModule := .str (Str.ofString "law_og0251_01") (674 : Nat), annotations := (none : Option Nat), code := .ref (376 : Nat), closureTuple := .none, builtins := (0 : Nat) }, slots := #[] } ::
    { cls := .type "tuple", dict := (none : Option Nat), data := .seq #[] 0, slots := #[] } ::
    { cls := .none, dict := (none : Option Nat), data := .fields #[], slots := #[] } ::
    { cls := .none, dict := (none : Option Nat), data := .func { name := (Str.ofString "law"), qualname := (Str.ofString "law"), params := a35, body := .stmts b35, scope := s35, globals := (0 : Nat), closure := ([] : List (Str × Nat)), defaults := .none, kwdefaults := .none, doc := .none, pyModule := .none, annotations := (none : Option Nat), code := .none, closureTuple := .none, builtins := (0 : Nat) }, slots := #[] } ::
    { cls := .type "code", dict := (none : Option Nat), data := .fields #[.str (Str.ofString "law") (766 : Nat), .str (Str.ofString "law") (767 : Nat), .str (Str.ofString "/claim/cut.py") (768 : Nat), .int 248 (0 : Nat), .int 1 (0 : Nat), .int 0 (0 : Nat), .int 0 (0 : Nat), .int 3 (0 : Nat), .ref (378 : Nat), .bool true, .int 181 (0 : Nat), .ref (379 : Nat), .none, .none, .none, .ref (380 : Nat), .int 769 (0 : Nat), .int 248 (0 : Nat), .str (Str.ofString "/claim/cut.py") (770 : Nat)], slots := #[] } ::
    { cls := .type "function", dict := (none : Option Nat), data := .func { name := (Str.ofString "law"), qualname := (Str.ofString "law"), params := a35, body := .stmts b35, scope := s35, globals := (3 : Nat), closure := ([] : List (Str × Nat)), defaults := .none, kwdefaults := .none, doc := .none, pyModule := .str (Str.ofString "law_og0251_01") (674 : Nat), annotations := (none : Option Nat), code := .ref (381 : Nat), closureTuple := .none, builtins := (0 : Nat) }, slots := #[] } ::
    []
noncomputable def heapL (P : Params) : Heap := ⟨⟨objsL P⟩, {}⟩
theorem top_open : ∀ w : World, (fencedOpening treeTable PR w 4884).map (fun s => (s.heap, s.gens, s.drawn, s.toks)) = some (boot_heap w.params, Array.mk [], boot_drawn, boot_toks) :=
  boot_open (p := PR) (by kernel_rfl) (by kernel_rfl) (fun s => by kernel_rfl)
theorem top_size : ∀ w : World, ((boot_heap w.params).isNs mainGlobals && (Array.mk [] : Array GenState).size == 0, (boot_heap w.params).objs.size, (boot_heap w.params).nsMap mainGlobals "__annotations__") = (true, 11, some (.ref 6)) := fun w => by kernel_rfl
noncomputable def heapA (P : Params) : Heap := ⟨⟨List.set (List.set (List.set (List.take 15 (objsL P)) 2 (boot_o_2 P)) 3 (boot_o_3 P)) 12 ({ cls := .none, dict := (none : Option Nat), data := .fields #[], slots := #[] })⟩, {}⟩
noncomputable def heap10 (P : Params) : Heap := ⟨⟨List.set (List.set (List.take 62 (objsL P)) 3 ({ cls := .type "dict", dict := (none : Option Nat), data := .dict #[⟨PyData.keyHash P (Str.ofString "__name__"), .str (Str.ofString "__name__") (165 : Nat), .str (Str.ofString "termcore.utf8in") (241 : Nat)⟩, ⟨PyData.keyHash P (Str.ofString "__doc__"), .str (Str.ofString "__doc__") (166 : Nat), .none⟩, ⟨PyData.keyHash P (Str.ofString "__package__"), .str (Str.ofString "__package__") (167 : Nat), .none⟩, ⟨PyData.keyHash P (Str.ofString "__loader__"), .str (Str.ofString "__loader__") (168 : Nat), .builtin "__main__.__loader__#\x6fpaque"⟩, ⟨PyData.keyHash P (Str.ofString "__spec__"), .str (Str.ofString "__spec__") (169 : Nat), .none⟩, ⟨PyData.keyHash P (Str.ofString "__annotations__"), .str (Str.ofString "__annotations__") (170 : Nat), .ref (6 : Nat)⟩, ⟨PyData.keyHash P (Str.ofString "__builtins__"), .str (Str.ofString "__builtins__") (171 : Nat), .ref (4 : Nat)⟩, ⟨PyData.keyHash P (Str.ofString "__file__"), .str (Str.ofString "__file__") (173 : Nat), .str (Str.ofString "/claim/cut.py") (172 : Nat)⟩, ⟨PyData.keyHash P (Str.ofString "__cached__"), .str (Str.ofString "__cached__") (174 : Nat), .none⟩, ⟨PyData.keyHash P (Str.ofString "_wall"), .str (Str.ofString "_wall") (193 : Nat), .ref (21 : Nat)⟩, ⟨PyData.keyHash P (Str.ofString "TermError"), .str (Str.ofString "TermError") (224 : Nat), .ref (39 : Nat)⟩, ⟨PyData.keyHash P (Str.ofString "BadKey"), .str (Str.ofString "BadKey") (240 : Nat), .ref (52 : Nat)⟩, ⟨PyData.keyHash P (Str.ofString "SIGN_ILL"), .str (Str.ofString "SIGN_ILL") (244 : Nat), .int 65533 (243 : Nat)⟩, ⟨PyData.keyHash P (Str.ofString "SIGN_TRAIL"), .str (Str.ofString "SIGN_TRAIL") (246 : Nat), .int 128 (245 : Nat)⟩, ⟨PyData.keyHash P (Str.ofString "SIGN_MASK"), .str (Str.ofString "SIGN_MASK") (248 : Nat), .int 63 (247 : Nat)⟩, ⟨PyData.keyHash P (Str.ofString "SIGN_LAST"), .str (Str.ofString "SIGN_LAST") (250 : Nat), .int 1114111 (249 : Nat)⟩, ⟨PyData.keyHash P (Str.ofString "sign_lead"), .str (Str.ofString "sign_lead") (257 : Nat), .ref (61 : Nat)⟩] 17, slots := #[] })) 12 ({ cls := .none, dict := (none : Option Nat), data := .fields #[.int 1 (0 : Nat), .int 0 (0 : Nat), .ref (20 : Nat), .int 5 (0 : Nat), .int 0 (0 : Nat), .ref (27 : Nat), .int 9 (0 : Nat), .int 0 (0 : Nat), .ref (48 : Nat), .int 16 (0 : Nat), .int 0 (0 : Nat), .ref (60 : Nat)], slots := #[] })⟩, {}⟩
noncomputable def heap19 (P : Params) : Heap := ⟨⟨List.set (List.set (List.take 151 (objsL P)) 3 ({ cls := .type "dict", dict := (none : Option Nat), data := .dict (List.toArray (⟨PyData.keyHash P (Str.ofString "__name__"), .str (Str.ofString "__name__") (165 : Nat), .str (Str.ofString "termcore.keyboard") (366 : Nat)⟩ :: ⟨PyData.keyHash P (Str.ofString "__doc__"), .str (Str.ofString "__doc__") (166 : Nat), .none⟩ :: ⟨PyData.keyHash P (Str.ofString "__package__"), .str (Str.ofString "__package__") (167 : Nat), .none⟩ :: ⟨PyData.keyHash P (Str.ofString "__loader__"), .str (Str.ofString "__loader__") (168 : Nat), .builtin "__main__.__loader__#\x6fpaque"⟩ :: ⟨PyData.keyHash P (Str.ofString "__spec__"), .str (Str.ofString "__spec__") (169 : Nat), .none⟩ :: ⟨PyData.keyHash P (Str.ofString "__annotations__"), .str (Str.ofString "__annotations__") (170 : Nat), .ref (6 : Nat)⟩ :: ⟨PyData.keyHash P (Str.ofString "__builtins__"), .str (Str.ofString "__builtins__") (171 : Nat), .ref (4 : Nat)⟩ :: ⟨PyData.keyHash P (Str.ofString "__file__"), .str (Str.ofString "__file__") (173 : Nat), .str (Str.ofString "/claim/cut.py") (172 : Nat)⟩ :: ⟨PyData.keyHash P (Str.ofString "__cached__"), .str (Str.ofString "__cached__") (174 : Nat), .none⟩ :: ⟨PyData.keyHash P (Str.ofString "_wall"), .str (Str.ofString "_wall") (193 : Nat), .ref (21 : Nat)⟩ :: ⟨PyData.keyHash P (Str.ofString "TermError"), .str (Str.ofString "TermError") (224 : Nat), .ref (39 : Nat)⟩ :: ⟨PyData.keyHash P (Str.ofString "BadKey"), .str (Str.ofString "BadKey") (240 : Nat), .ref (52 : Nat)⟩ :: ⟨PyData.keyHash P (Str.ofString "SIGN_ILL"), .str (Str.ofString "SIGN_ILL") (244 : Nat), .int 65533 (243 : Nat)⟩ :: ⟨PyData.keyHash P (Str.ofString "SIGN_TRAIL"), .str (Str.ofString "SIGN_TRAIL") (246 : Nat), .int 128 (245 : Nat)⟩ :: ⟨PyData.keyHash P (Str.ofString "SIGN_MASK"), .str (Str.ofString "SIGN_MASK") (248 : Nat), .int 63 (247 : Nat)⟩ :: ⟨PyData.keyHash P (Str.ofString "SIGN_LAST"), .str (Str.ofString "SIGN_LAST") (250 : Nat), .int 1114111 (249 : Nat)⟩ :: ⟨PyData.keyHash P (Str.ofString "sign_lead"), .str (Str.ofString "sign_lead") (257 : Nat), .ref (61 : Nat)⟩ :: ⟨PyData.keyHash P (Str.ofString "SignReader"), .str (Str.ofString "SignReader") (350 : Nat), .ref (128 : Nat)⟩ :: ⟨PyData.keyHash P (Str.ofString "is_sign"), .str (Str.ofString "is_sign") (357 : Nat), .ref (139 : Nat)⟩ :: ⟨PyData.keyHash P (Str.ofString "utf8_octets"), .str (Str.ofString "utf8_octets") (365 : Nat), .ref (146 : Nat)⟩ :: ⟨PyData.keyHash P (Str.ofString "SHIFT"), .str (Str.ofString "SHIFT") (369 : Nat), .int 1 (368 : Nat)⟩ :: ⟨PyData.keyHash P (Str.ofString "META"), .str (Str.ofString "META") (371 : Nat), .int 2 (370 : Nat)⟩ :: ⟨PyData.keyHash P (Str.ofString "CONTROL"), .str (Str.ofString "CONTROL") (373 : Nat), .int 4 (372 : Nat)⟩ :: ⟨PyData.keyHash P (Str.ofString "KEY_MODIFIERS"), .str (Str.ofString "KEY_MODIFIERS") (377 : Nat), .ref (150 : Nat)⟩ :: ⟨PyData.keyHash P (Str.ofString "KEY_PRESSED"), .str (Str.ofString "KEY_PRESSED") (379 : Nat), .int 1 (378 : Nat)⟩ :: [])) 25, slots := #[] })) 12 ({ cls := .none, dict := (none : Option Nat), data := .fields (List.toArray (.int 1 (0 : Nat) :: .int 0 (0 : Nat) :: .ref (20 : Nat) :: .int 5 (0 : Nat) :: .int 0 (0 : Nat) :: .ref (27 : Nat) :: .int 9 (0 : Nat) :: .int 0 (0 : Nat) :: .ref (48 : Nat) :: .int 16 (0 : Nat) :: .int 0 (0 : Nat) :: .ref (60 : Nat) :: .int 24 (0 : Nat) :: .int 0 (0 : Nat) :: .ref (67 : Nat) :: .int 74 (0 : Nat) :: .int 0 (0 : Nat) :: .ref (138 : Nat) :: .int 76 (0 : Nat) :: .int 0 (0 : Nat) :: .ref (145 : Nat) :: [])), slots := #[] })⟩, {}⟩
noncomputable def heap25 (P : Params) : Heap := ⟨⟨List.set (List.set (List.take 250 (objsL P)) 3 ({ cls := .type "dict", dict := (none : Option Nat), data := .dict (List.toArray (⟨PyData.keyHash P (Str.ofString "__name__"), .str (Str.ofString "__name__") (165 : Nat), .str (Str.ofString "termcore.keyboard") (366 : Nat)⟩ :: ⟨PyData.keyHash P (Str.ofString "__doc__"), .str (Str.ofString "__doc__") (166 : Nat), .none⟩ :: ⟨PyData.keyHash P (Str.ofString "__package__"), .str (Str.ofString "__package__") (167 : Nat), .none⟩ :: ⟨PyData.keyHash P (Str.ofString "__loader__"), .str (Str.ofString "__loader__") (168 : Nat), .builtin "__main__.__loader__#\x6fpaque"⟩ :: ⟨PyData.keyHash P (Str.ofString "__spec__"), .str (Str.ofString "__spec__") (169 : Nat), .none⟩ :: ⟨PyData.keyHash P (Str.ofString "__annotations__"), .str (Str.ofString "__annotations__") (170 : Nat), .ref (6 : Nat)⟩ :: ⟨PyData.keyHash P (Str.ofString "__builtins__"), .str (Str.ofString "__builtins__") (171 : Nat), .ref (4 : Nat)⟩ :: ⟨PyData.keyHash P (Str.ofString "__file__"), .str (Str.ofString "__file__") (173 : Nat), .str (Str.ofString "/claim/cut.py") (172 : Nat)⟩ :: ⟨PyData.keyHash P (Str.ofString "__cached__"), .str (Str.ofString "__cached__") (174 : Nat), .none⟩ :: ⟨PyData.keyHash P (Str.ofString "_wall"), .str (Str.ofString "_wall") (193 : Nat), .ref (21 : Nat)⟩ :: ⟨PyData.keyHash P (Str.ofString "TermError"), .str (Str.ofString "TermError") (224 : Nat), .ref (39 : Nat)⟩ :: ⟨PyData.keyHash P (Str.ofString "BadKey"), .str (Str.ofString "BadKey") (240 : Nat), .ref (52 : Nat)⟩ :: ⟨PyData.keyHash P (Str.ofString "SIGN_ILL"), .str (Str.ofString "SIGN_ILL") (244 : Nat), .int 65533 (243 : Nat)⟩ :: ⟨PyData.keyHash P (Str.ofString "SIGN_TRAIL"), .str (Str.ofString "SIGN_TRAIL") (246 : Nat), .int 128 (245 : Nat)⟩ :: ⟨PyData.keyHash P (Str.ofString "SIGN_MASK"), .str (Str.ofString "SIGN_MASK") (248 : Nat), .int 63 (247 : Nat)⟩ :: ⟨PyData.keyHash P (Str.ofString "SIGN_LAST"), .str (Str.ofString "SIGN_LAST") (250 : Nat), .int 1114111 (249 : Nat)⟩ :: ⟨PyData.keyHash P (Str.ofString "sign_lead"), .str (Str.ofString "sign_lead") (257 : Nat), .ref (61 : Nat)⟩ :: ⟨PyData.keyHash P (Str.ofString "SignReader"), .str (Str.ofString "SignReader") (350 : Nat), .ref (128 : Nat)⟩ :: ⟨PyData.keyHash P (Str.ofString "is_sign"), .str (Str.ofString "is_sign") (357 : Nat), .ref (139 : Nat)⟩ :: ⟨PyData.keyHash P (Str.ofString "utf8_octets"), .str (Str.ofString "utf8_octets") (365 : Nat), .ref (146 : Nat)⟩ :: ⟨PyData.keyHash P (Str.ofString "SHIFT"), .str (Str.ofString "SHIFT") (369 : Nat), .int 1 (368 : Nat)⟩ :: ⟨PyData.keyHash P (Str.ofString "META"), .str (Str.ofString "META") (371 : Nat), .int 2 (370 : Nat)⟩ :: ⟨PyData.keyHash P (Str.ofString "CONTROL"), .str (Str.ofString "CONTROL") (373 : Nat), .int 4 (372 : Nat)⟩ :: ⟨PyData.keyHash P (Str.ofString "KEY_MODIFIERS"), .str (Str.ofString "KEY_MODIFIERS") (377 : Nat), .ref (150 : Nat)⟩ :: ⟨PyData.keyHash P (Str.ofString "KEY_PRESSED"), .str (Str.ofString "KEY_PRESSED") (379 : Nat), .int 1 (378 : Nat)⟩ :: ⟨PyData.keyHash P (Str.ofString "KEY_LETTERS"), .str (Str.ofString "KEY_LETTERS") (400 : Nat), .ref (161 : Nat)⟩ :: ⟨PyData.keyHash P (Str.ofString "KEY_NUMBERS"), .str (Str.ofString "KEY_NUMBERS") (441 : Nat), .ref (182 : Nat)⟩ :: ⟨PyData.keyHash P (Str.ofString "KEY_CODES"), .str (Str.ofString "KEY_CODES") (450 : Nat), .ref (187 : Nat)⟩ :: ⟨PyData.keyHash P (Str.ofString "KEY_PAD"), .str (Str.ofString "KEY_PAD") (523 : Nat), .ref (206 : Nat)⟩ :: ⟨PyData.keyHash P (Str.ofString "KEY_ALIASES"), .str (Str.ofString "KEY_ALIASES") (536 : Nat), .ref (213 : Nat)⟩ :: ⟨PyData.keyHash P (Str.ofString "Key"), .str (Str.ofString "Key") (587 : Nat), .ref (245 : Nat)⟩ :: [])) 31, slots := #[] })) 12 ({ cls := .none, dict := (none : Option Nat), data := .fields (List.toArray (.int 1 (0 : Nat) :: .int 0 (0 : Nat) :: .ref (20 : Nat) :: .int 5 (0 : Nat) :: .int 0 (0 : Nat) :: .ref (27 : Nat) :: .int 9 (0 : Nat) :: .int 0 (0 : Nat) :: .ref (48 : Nat) :: .int 16 (0 : Nat) :: .int 0 (0 : Nat) :: .ref (60 : Nat) :: .int 24 (0 : Nat) :: .int 0 (0 : Nat) :: .ref (67 : Nat) :: .int 74 (0 : Nat) :: .int 0 (0 : Nat) :: .ref (138 : Nat) :: .int 76 (0 : Nat) :: .int 0 (0 : Nat) :: .ref (145 : Nat) :: .int 98 (0 : Nat) :: .int 0 (0 : Nat) :: .ref (219 : Nat) :: [])), slots := #[] })⟩, {}⟩
noncomputable def topBody : List Stmt := PR.main.body
noncomputable def topEnv : Env := { scope := PR.main.scope, locals := mainNs, globals := mainNs, cells := [], code := .ref 13, frame := some 14 }
noncomputable abbrev topCode : Code := .body (behindTheImports PR) topEnv
noncomputable def grp1 : List Stmt := (topBody.drop 0).take 10
noncomputable def grp2 : List Stmt := (topBody.drop 10).take 9
noncomputable def grp3 : List Stmt := (topBody.drop 19).take 6
noncomputable def grp4 : List Stmt := (topBody.drop 25).take 21
theorem top_pre : ∀ (w : World) (os : OsState), topGo treeTable PR w 11 (some (.ref 6)) 12 ⟨boot_heap w.params, Array.mk [], boot_drawn, boot_toks, os⟩ (topStub PR) = some (⟨heapA w.params, Array.mk [], {}, 187, os⟩, ⟨denote treeTable topCode, topCode, ⟨0, 0, 0, 0⟩, [PySem.W.topFrame ⟨0, 0, 0, 0⟩]⟩) := fun w os => by kernel_rfl
theorem top_block : ∀ (w : World) (os : OsState), segRun treeTable PR w 11 (some (.ref 6)) 1 10 ⟨heapA w.params, Array.mk [], {}, 187, os⟩ (blockOf (behindTheImports PR) topEnv topCode ⟨0, 0, 0, 0⟩ [PySem.W.topFrame ⟨0, 0, 0, 0⟩]) = some (.next, ⟨heapA w.params, Array.mk [], {}, 187, os⟩, topCode, ⟨0, 0, 0, 0⟩) := fun w os => by kernel_rfl
theorem top_seg1 : ∀ (w : World) (os : OsState), segRun treeTable PR w 11 (some (.ref 6)) 1 1000 ⟨heapA w.params, Array.mk [], {}, 187, os⟩ (PySem.W.piecesOf grp1 topEnv topCode ⟨0, 0, 0, 0⟩ [PySem.W.topFrame ⟨0, 0, 0, 0⟩]) = some (.next, ⟨heap10 w.params, Array.mk [], {}, 258, os⟩, topCode, ⟨16, 0, 23, 15⟩) := fun w os => by kernel_rfl
theorem top_seg2 : ∀ (w : World) (os : OsState), segRun treeTable PR w 11 (some (.ref 6)) 1 1000 ⟨heap10 w.params, Array.mk [], {}, 258, os⟩ (PySem.W.piecesOf grp2 topEnv topCode ⟨16, 0, 23, 15⟩ [PySem.W.topFrame ⟨0, 0, 0, 0⟩]) = some (.next, ⟨heap19 w.params, Array.mk [], {}, 380, os⟩, topCode, ⟨92, 0, 92, 11⟩) := fun w os => by kernel_rfl
theorem top_seg3 : ∀ (w : World) (os : OsState), segRun treeTable PR w 11 (some (.ref 6)) 1 1000 ⟨heap19 w.params, Array.mk [], {}, 380, os⟩ (PySem.W.piecesOf grp3 topEnv topCode ⟨92, 0, 92, 11⟩ [PySem.W.topFrame ⟨0, 0, 0, 0⟩]) = some (.next, ⟨heap25 w.params, Array.mk [], {}, 588, os⟩, topCode, ⟨98, 0, 110, 60⟩) := fun w os => by kernel_rfl
theorem top_seg4 : ∀ (w : World) (os : OsState), segRun treeTable PR w 11 (some (.ref 6)) 1 1000 ⟨heap25 w.params, Array.mk [], {}, 588, os⟩ (PySem.W.piecesOf grp4 topEnv topCode ⟨98, 0, 110, 60⟩ [PySem.W.topFrame ⟨0, 0, 0, 0⟩]) = some (.next, ⟨heapL w.params, Array.mk [], {}, 772, os⟩, topCode, ⟨248, 0, 262, 68⟩) := fun w os => by kernel_rfl
theorem top_end : ∀ (w : World) (os : OsState), topRun treeTable PR w 11 (some (.ref 6)) 10 ⟨heapL w.params, Array.mk [], {}, 772, os⟩ ⟨doneF .next, topCode, ⟨248, 0, 262, 68⟩, [PySem.W.topFrame ⟨0, 0, 0, 0⟩]⟩ = some ⟨heapL w.params, Array.mk [], {}, 772, os⟩ := fun w os => by kernel_rfl
theorem top_split : behindTheImports PR = grp1 ++ (grp2 ++ (grp3 ++ (grp4 ++ []))) := by kernel_rfl
theorem top_rest (w : World) (os : OsState) : topRun treeTable PR w 11 (some (.ref 6)) (1000 + (1000 + (1000 + (1000 + (10))))) ⟨heapA w.params, Array.mk [], {}, 187, os⟩ (restOf (behindTheImports PR) topEnv topCode ⟨0, 0, 0, 0⟩ [PySem.W.topFrame ⟨0, 0, 0, 0⟩]) = some ⟨heapL w.params, Array.mk [], {}, 772, os⟩ := by
  have h := piece_app (top_seg1 w os) (piece_app (top_seg2 w os) (piece_app (top_seg3 w os) (piece_app (top_seg4 w os) (piece_nil (env := topEnv) (top_end w os)))))
  rw [← top_split] at h
  exact h
theorem top_run : ∀ (w : World) (os : OsState), topRun treeTable PR w 11 (some (.ref 6)) (12 + (10 + (1000 + (1000 + (1000 + (1000 + (10))))))) ⟨boot_heap w.params, Array.mk [], boot_drawn, boot_toks, os⟩ (topStub PR) = some ⟨heapL w.params, Array.mk [], {}, 772, os⟩ := fun w os =>
  go_top (top_pre w os) (piece_block (top_block w os) (top_rest w os))
theorem top_look1 (w : World) (os : OsState) : (staticsOk [] (boot_heap w.params) (heapL w.params) && namesBound PR (heapL w.params) && gensDone ⟨heapL w.params, Array.mk [], {}, 772, os⟩ && laidKept (boot_heap w.params) (heapL w.params)) = true := by kernel_rfl
theorem top_look2 (w : World) (os : OsState) : openSeen view looseN [] (fun s => xlAt view lvN s && recOk (RowW.records rowW) s) true ⟨heapL w.params, Array.mk [], {}, 772, os⟩ = openGood view looseN := by kernel_rfl
theorem top_look3 (w : World) (os : OsState) : (Hook.obs HK) ⟨heapL w.params, Array.mk [], {}, 772, os⟩ = (Hook.val HK) w := by kernel_rfl
theorem left : LeftO PR view looseN (fun s => xlAt view lvN s && recOk (RowW.records rowW) s) (Hook.obs HK) (Hook.val HK) 4884 := by
  refine LeftO.of_pieces top_open top_size top_run (by kernel_rfl) ?_
  intro w
  funext os
  exact looks_pair (top_look1 w os) (looks_pair (top_look2 w os) (top_look3 w os))
end Mine
end

section
open PySem PySem.W PySem.Calls PySem.Spec PyProof.Rows
set_option maxRecDepth 100000
set_option maxHeartbeats 8000000
namespace Mine
abbrev Led := List (Addr × Obj)
/-- a step that forgets how many tokens were made, and what the state was made of -/
theorem st_norm {α : Type} {M : Model} {A : Around} {t : Sem α} {Q : α → Shared → Prop} {E : Value → Shared → Prop} {h : Heap} {g g' : Array GenState} {d d' : Drawn} {k n : Nat} {os os' : OsState}
    (eg : g = g') (ed : d = d') (eo : os = os') (y : ∀ tk, wpAny M A t Q E ⟨h, g', d', tk, os'⟩) : wpAny M A t Q E ⟨h, g, d, k + n, os⟩ := by
  subst eg; subst ed; subst eo; exact y _
/-- the walk stops here: what follows is typed -/
noncomputable def Hold (P : Prop) : Prop := P
theorem Hold.in {P : Prop} (h : Hold P) : P := h
theorem Hold.out {P : Prop} (h : P) : Hold P := h

/-- what a call of f at vs does: nothing that stood is changed; tl is what it made and hands back -/
noncomputable def Con (f : Addr) (vs : List Value) (cost : Nat) (objs : Led) (Ret : World → Led → Value → Prop) : Prop :=
  ∀ (w : World) (p : Program) (loose : List Str) (mean : ExcName → Option Value) (mg mb : Str → Option Value) (dp un : Nat) (gd : Option (List Code)) (cn : Str) (cs : Scope) (a : Addr) (ccd : Value) (cl : List (Str × Addr)) (outer : List Env) (A₀ : Around) (base h₀ : Heap) (L : Addr) (m : Str → Option Value) (s : Shared) (Q E : Value → Shared → Prop),
    Below A₀ base outer h₀ → Fr h₀ L s.heap m → (heapK w.params).In h₀ → News h₀ L s.heap objs → Top p loose mean mg mb h₀ → cs.kind = .function → dp + cost < recursionLimit → un + 8 * cost < cLine →
    (∀ r tl h' tk', s.heap.StaysIn h' → (∀ q ∈ tl, h'.get? q.1 = some q.2 ∧ s.heap.get? q.1 = none) → Ret w tl r → Q r { s with heap := h', toks := tk' }) →
    wpAny (model Challenge.rw_og0251_01.row.prog w) (ktrTop dp un gd cn cs L a ccd cl outer) (call (.ref f) vs) Q E s

theorem con_use {f : Addr} {vs : List Value} {cost : Nat} {objs : Led} {Ret : World → Led → Value → Prop} (C : Con f vs cost objs Ret)
    {w : World} {p : Program} {loose : List Str} {mean : ExcName → Option Value} {mg mb : Str → Option Value} {dp un : Nat} {gd : Option (List Code)} {cn : Str} {cs : Scope} {a : Addr} {ccd : Value} {cl : List (Str × Addr)} {outer : List Env} {A₀ : Around} {base h₀ : Heap} {L : Addr} {m : Str → Option Value} {news : Led} {s : Shared} {Q E : Value → Shared → Prop}
    (B : Below A₀ base outer h₀) (F : Fr h₀ L s.heap m) (X : (heapK w.params).In h₀) (N : News h₀ L s.heap news) (T : Top p loose mean mg mb h₀) (hk : cs.kind = .function) (hd : dp + cost < recursionLimit) (hu : un + 8 * cost < cLine) (ho : ∀ q ∈ objs, q ∈ news)
    (ret : ∀ r tl h' tk', Fr h₀ L h' m → News h₀ L h' (tl ++ news) → (∀ q ∈ news, ∀ p ∈ tl, q.1 ≠ p.1) → s.heap.StaysIn h' → Ret w tl r → Q r { s with heap := h', toks := tk' }) :
    wpAny (model Challenge.rw_og0251_01.row.prog w) (ktrTop dp un gd cn cs L a ccd cl outer) (call (.ref f) vs) Q E s := by
  refine C w p loose mean mg mb dp un gd cn cs a ccd cl outer A₀ base h₀ L m s Q E B F X (fun q hq => N q (ho q hq)) T hk hd hu fun r tl h' tk' hs ht hr => ?_
  obtain ⟨oL, es, ep, hL, hLd, hLk, hLf⟩ := F.ns
  refine ret r tl h' tk' ⟨⟨oL, es, ep, hs L oL hL, hLd, hLk, hLf⟩, fun b o e => hs b o (F.keep b o e), F.above⟩ (fun q hq => ?_) (fun q hq p hp e => ?_) hs hr
  · rcases List.mem_append.mp hq with hq | hq
    · refine ⟨(ht q hq).1, fun e => ?_, ?_⟩
      · have := (ht q hq).2; rw [e, hL] at this; cases this
      · cases hz : h₀.get? q.1 with
        | none => rfl
        | some o => have := (ht q hq).2; rw [F.keep _ _ hz] at this; cases this
    · exact ⟨hs _ _ (N q hq).1, (N q hq).2.1, (N q hq).2.2⟩
  · have h1 := (N q hq).1
    have h2 := (ht p hp).2
    rw [← e, h1] at h2; cases h2

theorem con_enter {w : World} {p : Program} {loose : List Str} {mean : ExcName → Option Value} {mg mb : Str → Option Value} {dp un : Nat} {gd : Option (List Code)} {cn : Str} {cs : Scope} {a : Addr} {ccd : Value} {cl : List (Str × Addr)} {outer : List Env} {A₀ : Around} {base h₀ : Heap} {L : Addr} {m : Str → Option Value} {objs : Led} {s : Shared} {Q E : Value → Shared → Prop} {K : Frag} {Rt : Led → Value → Prop}
    {name qual : Str} {params : Arguments} {body : List Stmt} {scope : Scope} {dV kV doc pm cdv ct oc : Value} {an od : Option Addr} {osl : Array (Option Value)} {f : Addr} {vs : List Value} {binds : List (Str × Value)}
    (B : Below A₀ base outer h₀) (F : Fr h₀ L s.heap m) (X : K.In h₀) (N : News h₀ L s.heap objs) (T : Top p loose mean mg mb h₀) (hke : cs.kind = .function)
    (hret : ∀ r tl h' tk', s.heap.StaysIn h' → (∀ q ∈ tl, h'.get? q.1 = some q.2 ∧ s.heap.get? q.1 = none) → Rt tl r → Q r { s with heap := h', toks := tk' })
    (hroom : dp < recursionLimit)
    (ho : K.lookup f = some ⟨oc, od, .func (fnOf name qual params body scope dV kV doc pm an cdv ct), osl⟩) (hcd : codeIn K cdv qual = true)
    (hbind : BindsTo s (fnOf name qual params body scope dV kV doc pm an cdv ct) ⟨vs, []⟩ binds) (hloc : ∀ y ∈ binds, scope.names.lookup y.1 = some .local)
    (h : ∀ g L' h₁ tk, Fr g L' h₁ (fun y => binds.reverse.lookup y) → News g L' h₁ objs → Below (ktrTop dp un gd cn cs L a ccd cl outer) base (envX cn cs L a ccd cl :: outer) g → K.In g → Top p loose mean mg mb g → (∀ q ∈ objs, q.1 < L') →
      (∀ r tl h' tk' m', Fr g L' h' m' → News g L' h' (tl ++ objs) → (∀ q ∈ tl, ∀ z ∈ objs, q.1 ≠ z.1) → Rt tl r → Q r { s with heap := h', toks := tk' }) →
      wpAny (model PR w) ((ktrTop dp un gd cn cs L a ccd cl outer).deeper (envX qual scope L' f cdv [])) (execs body (envX qual scope L' f cdv []))
        (fun fl s' => Q (match fl with | .ret v => v | _ => .none) s')
        (fun e s' => wpAny (model PR w) ((ktrTop dp un gd cn cs L a ccd cl outer).deeper (envX qual scope L' f cdv [])) (leaving (envX qual scope L' f cdv []) e) (fun _ s'' => E e s'') (fun e' s'' => E e' s'') s')
        { s with heap := h₁, toks := tk })
    (hcell : ∀ x ∈ scope.names, x.2 ≠ .cell) (hco : scope.isCoroutine = false) (hgen : scope.isGenerator = false) (hk : scope.kind = .function) :
    wpAny (model PR w) (ktrTop dp un gd cn cs L a ccd cl outer) (call (.ref f) vs) Q E s := by
  have nm : ∀ b o, h₀.get? b = some o → b ∉ objs.map (·.1) := fun b o e q => by
    obtain ⟨z, hz, rfl⟩ := List.mem_map.mp q
    rw [(N z hz).2.2] at e; cases e
  have st : h₀.StaysIn (hideAll s.heap (objs.map (·.1))) := fun b o e => hideAll_get _ (F.keep b o e) (nm b o e)
  refine wpAny_call ?_
  obtain ⟨FG, BG, _, _⟩ := groundX (A := ktrTop dp un gd cn cs L a ccd cl outer) (R := fun _ _ => True) B F N rfl rfl hke
  refine codeAny_call_def (fd := fnOf name qual params body scope dV kV doc pm an cdv ct) (body := body) (binds := binds) hroom (F.keep _ _ (X _ _ ho)) rfl (T.nolimit.keeps F.keep) (codeRec_of (X.keeps F.keep) hcd) rfl hbind hcell hloc (fun h₁ hns hk₁ => ?_) hco hgen hk
  refine wpAny_mono (h _ s.heap.objs.size h₁ _ ⟨hns, fun b o e => hk₁ b o (of_hideAll _ e), Nat.le_of_eq (hideAll_size _ _)⟩ (fun z hz => ⟨hk₁ _ _ (N z hz).1, Nat.ne_of_lt (Heap.lt_size (N z hz).1), hideAll_none _ (List.mem_map_of_mem hz)⟩) BG (fun b o e => st b o (X b o e)) (T.keeps st) (fun z hz => Heap.lt_size (N z hz).1) ?_) (fun fl s' hq => hq) fun _ _ y => y
  intro r tl h' tk' m' F' N' hne hr
  have hst : s.heap.StaysIn h' := fun b o e => by
    by_cases hb : b ∈ objs.map (·.1)
    · obtain ⟨z, hz, rfl⟩ := List.mem_map.mp hb
      have h1 := (N z hz).1
      rw [e] at h1
      rw [(N' z (List.mem_append_right _ hz)).1]; exact h1.symm
    · exact F'.keep b o (hideAll_get _ e hb)
  refine hret r tl h' tk' hst (fun q hq => ⟨(N' q (List.mem_append_left _ hq)).1, ?_⟩) hr
  have h1 := (N' q (List.mem_append_left _ hq)).2.2
  cases hz : s.heap.get? q.1 with
  | none => rfl
  | some o =>
    have hb : q.1 ∉ objs.map (·.1) := fun hm => by
      obtain ⟨z, hz', e⟩ := List.mem_map.mp hm
      exact hne q hq z hz' e.symm
    rw [hideAll_get _ hz hb] at h1; cases h1


theorem con_enterV {w : World} {p : Program} {loose : List Str} {mean : ExcName → Option Value} {mg mb : Str → Option Value} {dp un : Nat} {gd : Option (List Code)} {cn : Str} {cs : Scope} {a : Addr} {ccd : Value} {cl : List (Str × Addr)} {outer : List Env} {A₀ : Around} {base h₀ : Heap} {L : Addr} {m : Str → Option Value} {objs : Led} {s : Shared} {Q E : Value → Shared → Prop} {K : Frag} {RV : Value → Prop}
    {name qual : Str} {params : Arguments} {body : List Stmt} {scope : Scope} {dV kV doc pm cdv ct oc : Value} {an od : Option Addr} {osl : Array (Option Value)} {f : Addr} {vs : List Value} {binds : List (Str × Value)}
    (B : Below A₀ base outer h₀) (F : Fr h₀ L s.heap m) (X : K.In h₀) (N : News h₀ L s.heap objs) (T : Top p loose mean mg mb h₀) (hke : cs.kind = .function)
    (hret : ∀ r (tl : Led) h' tk', s.heap.StaysIn h' → (∀ q ∈ tl, h'.get? q.1 = some q.2 ∧ s.heap.get? q.1 = none) → (tl = [] ∧ RV r) → Q r { s with heap := h', toks := tk' })
    (hroom : dp < recursionLimit)
    (ho : K.lookup f = some ⟨oc, od, .func (fnOf name qual params body scope dV kV doc pm an cdv ct), osl⟩) (hcd : codeIn K cdv qual = true)
    (hbind : BindsTo s (fnOf name qual params body scope dV kV doc pm an cdv ct) ⟨vs, []⟩ binds) (hloc : ∀ y ∈ binds, scope.names.lookup y.1 = some .local)
    (h : ∀ g L' h₁ tk, Fr g L' h₁ (fun y => binds.reverse.lookup y) → News g L' h₁ objs → Below (ktrTop dp un gd cn cs L a ccd cl outer) base (envX cn cs L a ccd cl :: outer) g → K.In g → Top p loose mean mg mb g → (∀ q ∈ objs, q.1 < L') →
      (∀ r h' tk' m' (news' : Led), Fr g L' h' m' → News g L' h' news' → (∀ q ∈ objs, q ∈ news') → RV r → Q r { s with heap := h', toks := tk' }) →
      wpAny (model PR w) ((ktrTop dp un gd cn cs L a ccd cl outer).deeper (envX qual scope L' f cdv [])) (execs body (envX qual scope L' f cdv []))
        (fun fl s' => Q (match fl with | .ret v => v | _ => .none) s')
        (fun e s' => wpAny (model PR w) ((ktrTop dp un gd cn cs L a ccd cl outer).deeper (envX qual scope L' f cdv [])) (leaving (envX qual scope L' f cdv []) e) (fun _ s'' => E e s'') (fun e' s'' => E e' s'') s')
        { s with heap := h₁, toks := tk })
    (hcell : ∀ x ∈ scope.names, x.2 ≠ .cell) (hco : scope.isCoroutine = false) (hgen : scope.isGenerator = false) (hk : scope.kind = .function) :
    wpAny (model PR w) (ktrTop dp un gd cn cs L a ccd cl outer) (call (.ref f) vs) Q E s := by
  refine con_enter (Rt := fun tl r => tl = [] ∧ RV r) B F X N T hke hret hroom ho hcd hbind hloc ?_ hcell hco hgen hk
  intro g L' h₁ tk F₁ N₁ B₁ X₁ T₁ hlt hr
  exact h g L' h₁ tk F₁ N₁ B₁ X₁ T₁ hlt fun r h' tk' m' news' F' N' hs hv => hr r [] h' tk' m' F' (fun q hq => N' q (hs q hq)) (List.forall_mem_nil _) ⟨rfl, hv⟩

theorem con_enterO {w : World} {p : Program} {loose : List Str} {mean : ExcName → Option Value} {mg mb : Str → Option Value} {dp un : Nat} {gd : Option (List Code)} {cn : Str} {cs : Scope} {a : Addr} {ccd : Value} {cl : List (Str × Addr)} {outer : List Env} {A₀ : Around} {base h₀ : Heap} {L : Addr} {m : Str → Option Value} {objs : Led} {s : Shared} {Q E : Value → Shared → Prop} {K : Frag} {Rt : Led → Value → Prop}
    {name qual : Str} {params : Arguments} {body : List Stmt} {scope : Scope} {dV kV doc pm cdv ct oc : Value} {an od : Option Addr} {osl : Array (Option Value)} {f : Addr} {vs : List Value} {binds : List (Str × Value)}
    (B : Below A₀ base outer h₀) (F : Fr h₀ L s.heap m) (X : K.In h₀) (N : News h₀ L s.heap objs) (T : Top p loose mean mg mb h₀) (hke : cs.kind = .function)
    (hret : ∀ r (tl : Led) h' tk', s.heap.StaysIn h' → (∀ q ∈ tl, h'.get? q.1 = some q.2 ∧ s.heap.get? q.1 = none) → Rt tl r → Q r { s with heap := h', toks := tk' })
    (hroom : dp < recursionLimit)
    (ho : K.lookup f = some ⟨oc, od, .func (fnOf name qual params body scope dV kV doc pm an cdv ct), osl⟩) (hcd : codeIn K cdv qual = true)
    (hbind : BindsTo s (fnOf name qual params body scope dV kV doc pm an cdv ct) ⟨vs, []⟩ binds) (hloc : ∀ y ∈ binds, scope.names.lookup y.1 = some .local)
    (h : ∀ g L' h₁ tk, Fr g L' h₁ (fun y => binds.reverse.lookup y) → News g L' h₁ objs → Below (ktrTop dp un gd cn cs L a ccd cl outer) base (envX cn cs L a ccd cl :: outer) g → K.In g → Top p loose mean mg mb g → (∀ q ∈ objs, q.1 < L') →
      (∀ r (tl : Led) h' tk' m' (news' : Led), Fr g L' h' m' → News g L' h' news' → (∀ q ∈ tl, q ∈ news') → (∀ q ∈ objs, q ∈ news') → (∀ q ∈ tl, ∀ z ∈ objs, q.1 ≠ z.1) → Rt tl r → Q r { s with heap := h', toks := tk' }) →
      wpAny (model PR w) ((ktrTop dp un gd cn cs L a ccd cl outer).deeper (envX qual scope L' f cdv [])) (execs body (envX qual scope L' f cdv []))
        (fun fl s' => Q (match fl with | .ret v => v | _ => .none) s')
        (fun e s' => wpAny (model PR w) ((ktrTop dp un gd cn cs L a ccd cl outer).deeper (envX qual scope L' f cdv [])) (leaving (envX qual scope L' f cdv []) e) (fun _ s'' => E e s'') (fun e' s'' => E e' s'') s')
        { s with heap := h₁, toks := tk })
    (hcell : ∀ x ∈ scope.names, x.2 ≠ .cell) (hco : scope.isCoroutine = false) (hgen : scope.isGenerator = false) (hk : scope.kind = .function) :
    wpAny (model PR w) (ktrTop dp un gd cn cs L a ccd cl outer) (call (.ref f) vs) Q E s := by
  refine con_enter (Rt := Rt) B F X N T hke hret hroom ho hcd hbind hloc ?_ hcell hco hgen hk
  intro g L' h₁ tk F₁ N₁ B₁ X₁ T₁ hlt hr
  refine h g L' h₁ tk F₁ N₁ B₁ X₁ T₁ hlt fun r tl h' tk' m' news' F' N' ht hs hne hv => hr r tl h' tk' m' F' (fun q hq => N' q ?_) hne hv
  rcases List.mem_append.mp hq with hq | hq
  · exact ht q hq
  · exact hs q hq

/-- a call that hands back a value and nothing new -/
abbrev ConV (f : Addr) (vs : List Value) (cost : Nat) (objs : Led) (RV : Value → Prop) : Prop := Con f vs cost objs (fun _ tl r => tl = [] ∧ RV r)
theorem con_useV {f : Addr} {vs : List Value} {cost : Nat} {objs : Led} {RV : Value → Prop} (C : ConV f vs cost objs RV)
    {w : World} {p : Program} {loose : List Str} {mean : ExcName → Option Value} {mg mb : Str → Option Value} {dp un : Nat} {gd : Option (List Code)} {cn : Str} {cs : Scope} {a : Addr} {ccd : Value} {cl : List (Str × Addr)} {outer : List Env} {A₀ : Around} {base h₀ : Heap} {L : Addr} {m : Str → Option Value} {news : Led} {s : Shared} {Q E : Value → Shared → Prop}
    (B : Below A₀ base outer h₀) (F : Fr h₀ L s.heap m) (X : (heapK w.params).In h₀) (N : News h₀ L s.heap news) (T : Top p loose mean mg mb h₀) (hk : cs.kind = .function) (hd : dp + cost < recursionLimit) (hu : un + 8 * cost < cLine) (ho : ∀ q ∈ objs, q ∈ news)
    (ret : ∀ r h' tk', Fr h₀ L h' m → News h₀ L h' news → s.heap.StaysIn h' → RV r → Q r { s with heap := h', toks := tk' }) :
    wpAny (model Challenge.rw_og0251_01.row.prog w) (ktrTop dp un gd cn cs L a ccd cl outer) (call (.ref f) vs) Q E s :=
  con_use C B F X N T hk hd hu ho fun r tl h' tk' F' N' _ hs hr => by
    obtain ⟨rfl, hr⟩ := hr
    exact ret r h' tk' F' N' hs hr

theorem ia_of : ∀ (vs : List Value) (ks : List Int), vs.length = ks.length → (∀ (j : Nat) (v : Value) (k : Int), vs[j]? = some v → ks[j]? = some k → ∃ u, v = Value.int k u) → IntsAre vs ks
  | [], [], _, _ => .nil
  | v :: vs, k :: ks, hl, h => by
    obtain ⟨u, rfl⟩ := h 0 v k rfl rfl
    exact .cons k u (ia_of vs ks (Nat.succ.inj hl) fun j v' k' h1 h2 => h (j + 1) v' k' (by simpa using h1) (by simpa using h2))
  | [], _ :: _, hl, _ => by cases hl
  | _ :: _, [], hl, _ => by cases hl
theorem ia_paired {G : Int → Int} {vs : List Value} {ks : List Int} (hi : IntsAre vs ks) : ∀ ys : List Value, Paired (fun v y => ∃ n u u', v = Value.int n u ∧ y = Value.int (G n) u') vs ys → IntsAre ys (ks.map G) := by
  induction hi with
  | nil => intro ys h; cases h; exact .nil
  | cons k u r ih =>
    intro ys h
    cases h with
    | cons h t =>
      obtain ⟨n, u1, u', e, rfl⟩ := h
      cases e
      exact .cons _ u' (ih _ t)
/-- an element's end: an int, and nothing that stood is changed -/
noncomputable def EltI (n : Int) (s₃ : Shared) (y : Value) (s₄ : Shared) : Prop := (∃ u', y = .int n u') ∧ Keeps s₃ s₄
theorem EltI.mk' {n k : Int} {u : Tok} {s₃ : Shared} {h' : Heap} {tk : Nat} (e : k = n) (hk : s₃.heap.StaysIn h') : EltI n s₃ (.int k u) { s₃ with heap := h', toks := tk } := ⟨⟨u, by rw [e]⟩, h', tk, rfl, hk⟩
/-- a comprehension over bytes whose elements are ints -/
theorem comp_bytes {prog : Program} {w : World} {A : Around} {h₀ : Heap} {L : Addr} {env : Env} {m : Str → Option Value} {news : Led} {elt iter : PySem.Expr} {x : Str} {px : Pos} {scope : Scope} {pos : Pos} {s : Shared} {Q E : Value → Shared → Prop} {b : Array UInt8} {t : Tok} {ks : List Int} (G : Int → Int)
    (F : Fr h₀ L s.heap m) (N : News h₀ L s.heap news) (hh : A.handled = none) (hks : KBw.bInts b = ks) (hl : ks.length ≤ 4096)
    (hfree : ∀ y ∈ scope.names, y.2 ≠ .free) (hcell : ∀ y ∈ scope.names, y.2 ≠ .cell) (hkind : scope.kind = .function)
    (hnames : ∀ y ∈ scope.names, y.2 = .local → scope.names.lookup y.1 = some .local) (hx : scope.names.lookup x = some .local)
    (hit : ∀ Q : Value → Shared → Prop, Q (.bytes b t) s → wpAny (model prog w) A (eval iter env) Q E s)
    (helt : ∀ C n u s₃ m₃ E', n ∈ ks → 0 ≤ n → n < 256 → s₃.heap.Ns C m₃ → m₃ x = some (.int n u) → Fr h₀ L s₃.heap m → News h₀ L s₃.heap news → InElt s₃.heap s₃.heap →
      wpAny (model prog w) A (eval elt (compEnv scope C env)) (fun y s₄ => EltI (G n) s₃ y s₄) E' s₃)
    (hQ : ∀ D h' tk (ys : List Value) k, Fr h₀ L h' m → News h₀ L h' ((D, { cls := .type "list", data := .seq ys.toArray k }) :: news) → IntsAre ys (ks.map G) → Q (.ref D) { s with heap := h', toks := tk })
    (hs : ∀ x, foldedSetIterable iter env x = pure x) :
    wpAny (model prog w) A (eval (.ListComp elt [⟨.Name x px, iter, [], 0⟩] scope pos) env) Q E s := by
  have hall : ∀ {h' : Heap} {I : Addr} {oI : Obj}, I = s.heap.objs.size → (∀ b o, b ∉ [I] → (s.heap.push oI).get? b = some o → h'.get? b = some o) → ∀ b o, s.heap.get? b = some o → h'.get? b = some o := by
    intro h' I oI hI hk c o e
    refine hk c o ?_ (Heap.get?_push_of_some _ e)
    rw [hI]
    intro hm
    exact absurd (Heap.lt_size e) ((List.mem_singleton.mp hm) ▸ Nat.lt_irrefl _)
  refine wpAny_ListComp_walk (fun _ => true) (fun v y => ∃ n u u', v = .int n u ∧ y = .int (G n) u') hfree hcell hkind hnames hx (hit _ ?_) hs
  refine KBw.pyIter_bytes ?_
  refine ⟨_, _, _, b.size, _, _, rfl, KBw.walks hh s.heap.objs.size b t, ?_, ⟨_, Heap.get?_push_size _ rfl, rfl, rfl⟩, ?_, ⟨?_, ?_⟩, ?_⟩
  · rw [← KBw.ints_length, hks, sizeLine_eq]; omega
  · intro a ha
    rw [List.mem_singleton.mp ha]
    exact Heap.lt_size (Heap.get?_push_size _ rfl)
  · intro C i v s₃ m₃ E' _ _ _ _ _
    exact wpAny_pure ⟨rfl, s₃.heap, s₃.toks, rfl, fun _ _ e => e⟩
  · rintro C i v s₃ m₃ E' ⟨c, u, hc, rfl⟩ _ hn hm hk _
    have hk' := hall rfl hk
    have hci := KBw.ints_get hc
    have hmem := List.mem_of_getElem? hci
    rw [hks] at hmem
    have hin := KBw.ints_in (List.mem_of_getElem? hci)
    refine wpAny_mono (helt C c.toNat u s₃ m₃ E' hmem hin.1 hin.2 hn hm (F.keeps hk') (N.grown hk') (InElt.start _)) (fun y s₄ h₄ => ⟨?_, h₄.2⟩) fun _ _ e => e
    obtain ⟨⟨u', rfl⟩, _⟩ := h₄
    exact ⟨_, u, u', rfl, rfl⟩
  · intro D h' tk ys vs hD hlD hpl hlen hP hF hk
    have hk' := hall rfl hk
    have hvs : (vs.filter fun _ => true) = vs := List.filter_eq_self.mpr fun _ _ => rfl
    rw [hvs] at hF
    have hints : IntsAre vs ks := by
      refine ia_of vs ks (by rw [hlen, ← hks, KBw.ints_length]) fun j v k h1 h2 => ?_
      obtain ⟨c, u, hc, rfl⟩ := hP j v h1
      have hci := KBw.ints_get hc
      rw [hks, h2] at hci
      exact ⟨u, by rw [Option.some.inj hci]⟩
    have hys := ia_paired hints _ hF
    have hnone : s.heap.get? D = none := by
      cases e : s.heap.get? D with
      | none => rfl
      | some o => rw [Heap.get?_push_of_some _ e] at hD; cases hD
    have hDn : h₀.get? D = none := by
      cases e : h₀.get? D with
      | none => rfl
      | some o => rw [F.keep _ _ e] at hnone; cases hnone
    have hDL : D ≠ L := by
      rintro rfl
      obtain ⟨oL, _, _, hL, _⟩ := F.ns
      rw [hL] at hnone; cases hnone
    obtain ⟨n, hp⟩ := hpl
    refine hQ D h' tk ys.toList n (F.keeps hk') (fun q hq => ?_) hys
    rcases List.mem_cons.mp hq with rfl | hq
    · rw [Array.toArray_toList]
      exact ⟨hp, hDL, hDn⟩
    · exact N.grown hk' q hq

/-- the value is a Key of the text with these four -/
noncomputable def KeyIs (P : Params) (nm : List Int) (c q : Int) (x d : Addr) (tl : Led) : Prop :=
  ∃ (b : Array UInt8) (tb tc tq te t1 t2 t3 t4 : Tok), KBw.bInts b = nm ∧
    tl = [(x, instObj 245 d), (d, dictOf [⟨PyData.keyHash P (PySem.Str.ofString "name"), .str (PySem.Str.ofString "name") t1, .bytes b tb⟩, ⟨PyData.keyHash P (PySem.Str.ofString "code"), .str (PySem.Str.ofString "code") t2, .int c tc⟩,
      ⟨PyData.keyHash P (PySem.Str.ofString "held"), .str (PySem.Str.ofString "held") t3, .int q tq⟩, ⟨PyData.keyHash P (PySem.Str.ofString "event"), .str (PySem.Str.ofString "event") t4, .int 1 te⟩] 4)]
theorem key_ret {P : Params} {nm : List Int} {sf : Int × Int} {c' q' : Int} {g h' : Heap} {L' x d : Addr} {m' : Str → Option Value} {s : Shared} {tk' : Nat} {Q : Value → Shared → Prop} {b : Array UInt8} {tb tc tq te t1 t2 t3 t4 : Tok} {rest : Led}
    (hret : ∀ r (tl : Led) h' tk' m' (news' : Led), Fr g L' h' m' → News g L' h' news' → (∀ q ∈ tl, q ∈ news') → (∀ q ∈ ([] : Led), q ∈ news') → (∀ q ∈ tl, ∀ z ∈ ([] : Led), q.1 ≠ z.1) → (∃ x d, r = .ref x ∧ KeyIs P nm sf.1 sf.2 x d tl) → Q r { s with heap := h', toks := tk' })
    (F : Fr g L' h' m') (N : News g L' h' ((x, instObj 245 d) :: (d, dictOf [⟨PyData.keyHash P (PySem.Str.ofString "name"), .str (PySem.Str.ofString "name") t1, .bytes b tb⟩, ⟨PyData.keyHash P (PySem.Str.ofString "code"), .str (PySem.Str.ofString "code") t2, .int c' tc⟩,
      ⟨PyData.keyHash P (PySem.Str.ofString "held"), .str (PySem.Str.ofString "held") t3, .int q' tq⟩, ⟨PyData.keyHash P (PySem.Str.ofString "event"), .str (PySem.Str.ofString "event") t4, .int 1 te⟩] 4) :: rest))
    (hb : KBw.bInts b = nm) (e : sf = (c', q')) : Q (.ref x) { s with heap := h', toks := tk' } := by
  subst e
  refine hret (.ref x) [_, _] h' tk' m' _ F N ?_ (List.forall_mem_nil _) (fun _ _ _ h => nomatch h) ⟨x, d, rfl, b, tb, tc, tq, te, t1, t2, t3, t4, hb, rfl⟩
  intro z hz
  rcases List.mem_cons.mp hz with rfl | hz
  · exact List.mem_cons_self ..
  · rw [List.mem_singleton.mp hz]
    exact List.mem_cons_of_mem _ (List.mem_cons_self ..)
end Mine
end

section
open PySem PySem.W PySem.Calls PySem.Spec PyProof.Rows
set_option maxRecDepth 100000
set_option maxHeartbeats 8000000
set_option linter.unusedSimpArgs false
namespace Mine
theorem con_key_is_capital (n : Int) (t : Tok) : ConV 256 [.int n t] 1 [] (fun r => r = .bool (decide (65 ≤ n ∧ n ≤ 90))) := by
  w_top off
  k_with_none
  k_with "execs cons" => k_fold
  k_with "execs cons" => ((with_reducible refine st_norm (g' := s.gens) (d' := s.drawn) (os' := s.os) rfl rfl rfl fun tk => ?_); (try k_fold))
  (try unfold ConV)
  unfold Con
  k_fill
  intro w p loose mean mg mb dp un gd cn cs a ccd cl outer A₀ base h₀ L m s Q E B F X N T hk hd hu hret
  k_dflt (refine' con_enterV (binds := [(PySem.Str.ofString "code", .int n t)]) B F X N T hk hret ?k8 ?k6 ?k7 ?k9 ?kB ?_ ?c5 ?c2 ?c3 ?c4; (case k6 => k_is); (case k7 => k_is); (case k8 => omega); (case k9 => exact BindsTo.of_eq rfl); (case c5 => decide); (case kB => exact locs rfl); (case c2 => exact rfl); (case c3 => exact rfl); (case c4 => exact rfl); k_whole)
  clear hret B F N T X hk
  intro g' L' h' tk' F' N' B' X' T' l1 hret
  (try k_lt l1)
  (try simp only [List.reverse_cons, List.reverse_nil, List.nil_append, List.cons_append] at F')
  (try k_fold)
  k_steps
  all_goals (refine hret _ _ _ _ _ (by assumption) (by assumption) (List.forall_mem_nil _) ?_; exact congrArg Value.bool (decide_eq_decide.mpr (by constructor <;> intros <;> omega)))
theorem con_key_is_small (n : Int) (t : Tok) : ConV 263 [.int n t] 1 [] (fun r => r = .bool (decide (97 ≤ n ∧ n ≤ 122))) := by
  w_top off
  k_with_none
  k_with "execs cons" => k_fold
  k_with "execs cons" => ((with_reducible refine st_norm (g' := s.gens) (d' := s.drawn) (os' := s.os) rfl rfl rfl fun tk => ?_); (try k_fold))
  (try unfold ConV)
  unfold Con
  k_fill
  intro w p loose mean mg mb dp un gd cn cs a ccd cl outer A₀ base h₀ L m s Q E B F X N T hk hd hu hret
  k_dflt (refine' con_enterV (binds := [(PySem.Str.ofString "code", .int n t)]) B F X N T hk hret ?k8 ?k6 ?k7 ?k9 ?kB ?_ ?c5 ?c2 ?c3 ?c4; (case k6 => k_is); (case k7 => k_is); (case k8 => omega); (case k9 => exact BindsTo.of_eq rfl); (case c5 => decide); (case kB => exact locs rfl); (case c2 => exact rfl); (case c3 => exact rfl); (case c4 => exact rfl); k_whole)
  clear hret B F N T X hk
  intro g' L' h' tk' F' N' B' X' T' l1 hret
  (try k_lt l1)
  (try simp only [List.reverse_cons, List.reverse_nil, List.nil_append, List.cons_append] at F')
  (try k_fold)
  k_steps
  all_goals (refine hret _ _ _ _ _ (by assumption) (by assumption) (List.forall_mem_nil _) ?_; exact congrArg Value.bool (decide_eq_decide.mpr (by constructor <;> intros <;> omega)))
noncomputable def lowF (n : Int) : Int := if 65 ≤ n ∧ n ≤ 90 then n + 32 else n
section

theorem con_key_lower (ks : List Int) (b : Array UInt8) (t : Tok) (hb : KBw.bInts b = ks) (hl : ks.length ≤ 64) : ConV 276 [.bytes b t] 3 [] (fun r => ∃ b' t', r = .bytes b' t' ∧ KBw.bInts b' = ks.map lowF) := by
  w_top off
  k_with_none
  k_with "execs cons" => k_fold
  k_with "execs cons" => ((with_reducible refine st_norm (g' := s.gens) (d' := s.drawn) (os' := s.os) rfl rfl rfl fun tk => ?_); (try k_fold))
  k_with "call ref" => (k_here; (with_reducible show wpAny _ _ (call (Value.ref 256) [Value.int _ _]) _ _ _); k_dflt (refine' con_useV (con_key_is_capital _ _) ?k1 ?k2 ?k3 ?k4 ?k5 ?kK ?kd ?ku ?ko ?_; (case k1 => k_asm); (case k2 => k_asm); (case k3 => k_asm); (case k4 => k_asm); (case k5 => k_asm); (case kK => first | exact rfl | assumption); (case kd => (dsimp only [ktrTop]; omega)); (case ku => (dsimp only [ktrTop]; omega)); (case ko => first | exact List.forall_mem_nil _ | k_sub); k_whole); intro r' h' tk' F' N' hst' hr'; subst hr'; (have hNs' := PySem.Heap.Ns.keeps (by assumption) hst'))
  k_with "eval ListComp" => (k_here; k_dflt (refine' comp_bytes lowF ?k1 ?k2 ?k3 ?k4 ?k5 ?k6 ?k7 ?k8 ?k9 ?k10 ?k11 ?k12 ?k13 ?k14; (case k1 => k_asm); (case k2 => k_asm); (case k3 => exact rfl); (case k6 => decide); (case k7 => decide); (case k8 => exact rfl); (case k9 => decide); (case k10 => exact rfl); (case k14 => intro _; with_unfolding_all rfl); (case k11 => (intro Qq hq; (with_unfolding_all refine' nameX_L ?F ?v hq ?a ?b; (case F => k_asm); (case a => rfl); (case b => rfl); (case v => rfl)))); (case k4 => k_asm); (case k5 => omega)))
  k_with "EltI" => (exact EltI.mk' (by unfold lowF; first | exact (if_pos (by simp_all)).symm | exact (if_neg (by simp_all)).symm) (by assumption))
  (try unfold ConV)
  unfold Con
  k_fill
  intro w p loose mean mg mb dp un gd cn cs a ccd cl outer A₀ base h₀ L m s Q E B F X N T hk hd hu hret
  k_dflt (refine' con_enterV (binds := [(PySem.Str.ofString "octets", .bytes b t)]) B F X N T hk hret ?k8 ?k6 ?k7 ?k9 ?kB ?_ ?c5 ?c2 ?c3 ?c4; (case k6 => k_is); (case k7 => k_is); (case k8 => omega); (case k9 => exact BindsTo.of_eq rfl); (case c5 => decide); (case kB => exact locs rfl); (case c2 => exact rfl); (case c3 => exact rfl); (case c4 => exact rfl); k_whole)
  clear hret B F N T X hk
  intro g' L' h' tk' F' N' B' X' T' l1 hret
  (try k_lt l1)
  (try simp only [List.reverse_cons, List.reverse_nil, List.nil_append, List.cons_append] at F')
  (try k_fold)
  have hIn : KBa.In (ks.map lowF) := by
    intro n hn
    obtain ⟨k, hk, rfl⟩ := List.mem_map.mp hn
    have := KBw.ints_in (hb ▸ hk)
    unfold lowF
    split <;> omega
  k_steps
  all_goals exact hret _ _ _ _ _ (by assumption) (by assumption) (List.forall_mem_nil _) ⟨_, _, rfl, KBa.ints_make hIn⟩
end
end Mine
end

section
open PySem PySem.W PySem.Calls PySem.Spec PyProof.Rows
set_option maxRecDepth 100000
set_option maxHeartbeats 8000000
set_option linter.unusedSimpArgs false
namespace Mine

theorem bytes_as {prog : Program} {w : World} {A : Around} {E : Value → Shared → Prop} {s : Shared} {h₀ : Heap} {L D : Addr} {m : PySem.Str → Option Value} {news : Led} {vs : List Value} {ns : List Int} {k : Nat} {Q : Value → Shared → Prop} (ns' : List Int)
    (F : Fr h₀ L s.heap m) (N : News h₀ L s.heap news) (hh : A.handled = none) (hm : (D, W.listOf vs.toArray k) ∈ news) (hi : IntsAre vs ns) (e : ns = ns') (hr : KBa.In ns') (hn : ns'.length ≤ 4096)
    (h : ∀ h' b' t' k', Fr h₀ L h' m → News h₀ L h' news → KBw.bInts b' = ns' → Q (.bytes b' t') { s with heap := h', toks := k' }) : wpAny (model prog w) A (call (.type "bytes") [.ref D]) Q E s := by
  subst e
  exact KBa.make_K F N hh ⟨_, (N _ hm).1, rfl, _, rfl⟩ hi hr (by omega) fun h' t' k' F' N' hr' => h h' _ t' k' F' N' (KBa.ints_make hr')
theorem or128 {x : Int} (h0 : 0 ≤ x) (h1 : x < 64) : Builtin.bitOr 128 x = 128 + x := by
  have : ∀ k : Fin 64, Builtin.bitOr 128 (k.val : Int) = 128 + (k.val : Int) := by decide +kernel
  have := this ⟨x.toNat, by omega⟩
  simpa [Int.toNat_of_nonneg h0] using this
theorem or192 {x : Int} (h0 : 0 ≤ x) (h1 : x < 32) : Builtin.bitOr 192 x = 192 + x := by
  have : ∀ k : Fin 32, Builtin.bitOr 192 (k.val : Int) = 192 + (k.val : Int) := by decide +kernel
  have := this ⟨x.toNat, by omega⟩
  simpa [Int.toNat_of_nonneg h0] using this
theorem or224 {x : Int} (h0 : 0 ≤ x) (h1 : x < 16) : Builtin.bitOr 224 x = 224 + x := by
  have : ∀ k : Fin 16, Builtin.bitOr 224 (k.val : Int) = 224 + (k.val : Int) := by decide +kernel
  have := this ⟨x.toNat, by omega⟩
  simpa [Int.toNat_of_nonneg h0] using this
theorem or240 {x : Int} (h0 : 0 ≤ x) (h1 : x < 8) : Builtin.bitOr 240 x = 240 + x := by
  have : ∀ k : Fin 8, Builtin.bitOr 240 (k.val : Int) = 240 + (k.val : Int) := by decide +kernel
  have := this ⟨x.toNat, by omega⟩
  simpa [Int.toNat_of_nonneg h0] using this
noncomputable def utf8G (n : Int) : List Int :=
  if n < 128 then [n] else if n < 2048 then [192 + n / 64, 128 + n % 64]
  else if n < 65536 then [224 + n / 4096, 128 + n / 64 % 64, 128 + n % 64]
  else [240 + n / 262144, 128 + n / 4096 % 64, 128 + n / 64 % 64, 128 + n % 64]
theorem in_utf8G {n : Int} (h0 : 0 ≤ n) (h1 : n < 1114112) : KBa.In (utf8G n) := by
  unfold utf8G KBa.In
  intro k hk
  (repeat' split at hk) <;> simp at hk <;> omega
theorem len_utf8G {n : Int} : (utf8G n).length ≤ 4 := by
  unfold utf8G
  (repeat' split) <;> simp
theorem sh6 (n : Int) : n.fdiv (2 ^ Int.toNat 6) = n / 64 := by
  rw [show (2 : Int) ^ Int.toNat 6 = 64 from rfl, Int.fdiv_eq_ediv_of_nonneg _ (by decide)]
theorem sh12 (n : Int) : n.fdiv (2 ^ Int.toNat 12) = n / 4096 := by
  rw [show (2 : Int) ^ Int.toNat 12 = 4096 from rfl, Int.fdiv_eq_ediv_of_nonneg _ (by decide)]
theorem sh18 (n : Int) : n.fdiv (2 ^ Int.toNat 18) = n / 262144 := by
  rw [show (2 : Int) ^ Int.toNat 18 = 262144 from rfl, Int.fdiv_eq_ediv_of_nonneg _ (by decide)]
theorem utf8_1 {n : Int} (h : n < 128) : [n] = utf8G n := by unfold utf8G; rw [if_pos h]
theorem utf8_2 {n : Int} (h : ¬ n < 128) (h' : n < 2048) : [Builtin.bitOr 192 (n.fdiv (2 ^ Int.toNat 6)), Builtin.bitOr 128 (Builtin.bitAnd n 63)] = utf8G n := by
  unfold utf8G; rw [if_neg h, if_pos h', sh6, bitAnd_m6, or192 (by omega) (by omega), or128 (by omega) (by omega)]
theorem utf8_3 {n : Int} (h : ¬ n < 2048) (h' : n < 65536) : [Builtin.bitOr 224 (n.fdiv (2 ^ Int.toNat 12)), Builtin.bitOr 128 (Builtin.bitAnd (n.fdiv (2 ^ Int.toNat 6)) 63), Builtin.bitOr 128 (Builtin.bitAnd n 63)] = utf8G n := by
  unfold utf8G; rw [if_neg (by omega), if_neg h, if_pos h', sh6, sh12, bitAnd_m6, bitAnd_m6, or224 (by omega) (by omega), or128 (by omega) (by omega), or128 (by omega) (by omega)]
theorem utf8_4 {n : Int} (h : ¬ n < 65536) (h' : n < 1114112) : [Builtin.bitOr 240 (n.fdiv (2 ^ Int.toNat 18)), Builtin.bitOr 128 (Builtin.bitAnd (n.fdiv (2 ^ Int.toNat 12)) 63), Builtin.bitOr 128 (Builtin.bitAnd (n.fdiv (2 ^ Int.toNat 6)) 63), Builtin.bitOr 128 (Builtin.bitAnd n 63)] = utf8G n := by
  unfold utf8G; rw [if_neg (by omega), if_neg (by omega), if_neg h, sh6, sh12, sh18, bitAnd_m6, bitAnd_m6, bitAnd_m6, or240 (by omega) (by omega), or128 (by omega) (by omega), or128 (by omega) (by omega), or128 (by omega) (by omega)]
noncomputable def isSignF (c : Int) : Bool := decide (0 ≤ c ∧ c ≤ 1114111 ∧ ¬ (55296 ≤ c ∧ c ≤ 57343))
noncomputable def utf8F (n : Int) : List Int := utf8G (if isSignF n then n else 65533)
theorem utf8F_t {n : Int} (h : isSignF n = true) : utf8G n = utf8F n := by unfold utf8F; rw [if_pos h]
theorem utf8F_f {n : Int} (h : isSignF n = false) : utf8G 65533 = utf8F n := by unfold utf8F; rw [if_neg (by rw [h]; exact Bool.false_ne_true)]
theorem in_utf8F (n : Int) : KBa.In (utf8F n) := by
  unfold utf8F
  split
  · rename_i h
    unfold isSignF at h
    simp only [decide_eq_true_eq] at h
    exact in_utf8G (by omega) (by omega)
  · exact in_utf8G (by omega) (by omega)
theorem con_is_sign (n : Int) (t : Tok) : ConV 139 [.int n t] 1 [] (fun r => r = .bool (isSignF n)) := by
  w_top off
  k_with_none
  k_with "execs cons" => k_fold
  k_with "execs cons" => ((with_reducible refine st_norm (g' := s.gens) (d' := s.drawn) (os' := s.os) rfl rfl rfl fun tk => ?_); (try k_fold))
  (try unfold ConV)
  unfold Con
  k_fill
  intro w p loose mean mg mb dp un gd cn cs a ccd cl outer A₀ base h₀ L m s Q E B F X N T hk hd hu hret
  k_dflt (refine' con_enterV (binds := [(PySem.Str.ofString "code", .int n t)]) B F X N T hk hret ?k8 ?k6 ?k7 ?k9 ?kB ?_ ?c5 ?c2 ?c3 ?c4; (case k6 => k_is); (case k7 => k_is); (case k8 => omega); (case k9 => exact BindsTo.of_eq rfl); (case c5 => decide); (case kB => exact locs rfl); (case c2 => exact rfl); (case c3 => exact rfl); (case c4 => exact rfl); k_whole)
  clear hret B F N T X hk
  intro g' L' h' tk' F' N' B' X' T' l1 hret
  (try k_lt l1)
  (try simp only [List.reverse_cons, List.reverse_nil, List.nil_append, List.cons_append] at F')
  (try k_fold)
  k_steps
  all_goals (refine hret _ _ _ _ _ (by assumption) (by assumption) (List.forall_mem_nil _) ?_; refine congrArg Value.bool ?_; unfold isSignF; rw [Bool.eq_iff_iff]; simp only [Bool.not_eq_true', decide_eq_true_eq, decide_eq_false_iff_not]; constructor <;> intros <;> omega)
section

theorem con_utf8_octets (n : Int) (t : Tok) (h0 : 0 ≤ n) (h1 : n < 1114112) : ConV 146 [.int n t] 3 [] (fun r => ∃ b' t', r = .bytes b' t' ∧ KBw.bInts b' = utf8F n) := by
  w_top off
  k_with_none
  k_with "execs cons" => k_fold
  k_with "execs cons" => ((with_reducible refine st_norm (g' := s.gens) (d' := s.drawn) (os' := s.os) rfl rfl rfl fun tk => ?_); (try k_fold))
  k_with "call ref" => (k_here; (with_reducible show wpAny _ _ (call (Value.ref 139) [Value.int _ _]) _ _ _); k_dflt (refine' con_useV (con_is_sign _ _) ?k1 ?k2 ?k3 ?k4 ?k5 ?kK ?kd ?ku ?ko ?_; (case k1 => k_asm); (case k2 => k_asm); (case k3 => k_asm); (case k4 => k_asm); (case k5 => k_asm); (case kK => first | exact rfl | assumption); (case kd => (dsimp only [ktrTop]; omega)); (case ku => (dsimp only [ktrTop]; omega)); (case ko => first | exact List.forall_mem_nil _ | k_sub); k_whole); intro r' h' tk' F' N' hst' hr'; subst hr')
  k_with "call type:bytes" => (k_here; (with_reducible show wpAny _ _ (call (Value.type "bytes") [Value.ref _]) _ _ _); (rename Int => nQ); k_dflt (refine' bytes_as (utf8F nQ) ?k1 ?k2 ?k3 ?k4 ?k5 ?k6 ?k7 ?k8 ?_; (case k1 => k_asm); (case k2 => k_asm); (case k3 => exact rfl); (case k4 => k_mem); (case k5 => first | exact .cons _ _ .nil | exact .cons _ _ (.cons _ _ .nil) | exact .cons _ _ (.cons _ _ (.cons _ _ .nil)) | exact .cons _ _ (.cons _ _ (.cons _ _ (.cons _ _ .nil)))); (case k6 => first | ((with_reducible refine' (utf8_1 ?_).trans (utf8F_t ?_)) <;> first | assumption | omega) | ((with_reducible refine' (utf8_2 ?_ ?_).trans (utf8F_t ?_)) <;> first | assumption | omega) | ((with_reducible refine' (utf8_3 ?_ ?_).trans (utf8F_t ?_)) <;> first | assumption | omega) | ((with_reducible refine' (utf8_4 ?_ ?_).trans (utf8F_t ?_)) <;> first | assumption | omega) | ((with_reducible refine' (utf8_3 ?_ ?_).trans (utf8F_f ?_)) <;> first | assumption | decide)); (case k7 => exact in_utf8F _); (case k8 => exact Nat.le_trans len_utf8G (by decide)); k_whole); intro h' b' t' k' F' N' hr')
  (try unfold ConV)
  unfold Con
  k_fill
  intro w p loose mean mg mb dp un gd cn cs a ccd cl outer A₀ base h₀ L m s Q E B F X N T hk hd hu hret
  k_dflt (refine' con_enterV (binds := [(PySem.Str.ofString "code", .int n t)]) B F X N T hk hret ?k8 ?k6 ?k7 ?k9 ?kB ?_ ?c5 ?c2 ?c3 ?c4; (case k6 => k_is); (case k7 => k_is); (case k8 => omega); (case k9 => exact BindsTo.of_eq rfl); (case c5 => decide); (case kB => exact locs rfl); (case c2 => exact rfl); (case c3 => exact rfl); (case c4 => exact rfl); k_whole)
  clear hret B F N T X hk
  intro g' L' h' tk' F' N' B' X' T' l1 hret
  (try k_lt l1)
  (try simp only [List.reverse_cons, List.reverse_nil, List.nil_append, List.cons_append] at F')
  (try k_fold)
  k_steps
  all_goals (first | exact hret _ _ _ _ _ (by assumption) (by assumption) (List.forall_mem_nil _) ⟨_, _, rfl, by assumption⟩ | exact hret _ _ _ _ _ (by assumption) (by assumption) (List.forall_mem_nil _) ⟨_, _, rfl, ((KBa.ints_make (ns := [n]) (by intro k hk; rw [List.mem_singleton.mp hk]; omega)).trans (utf8_1 (by omega))).trans (utf8F_t (by assumption))⟩)
end
end Mine
end

section
open PySem PySem.W PySem.Calls PySem.Spec PyProof.Rows
set_option maxRecDepth 100000
set_option maxHeartbeats 8000000
set_option linter.unusedSimpArgs false
namespace Mine

section
theorem new_key4 {w : World} {p : Program} {loose : List Str} {mean : ExcName → Option Value} {mg mb : Str → Option Value} {dp un : Nat} {gd : Option (List Code)} {cn : Str} {cs : Scope} {a : Addr} {ccd : Value} {cl : List (Str × Addr)} {outer : List Env} {A₀ : Around} {base h₀ : Heap} {L : Addr} {m : Str → Option Value} {news : Led} {s : Shared} {Q E : Value → Shared → Prop} {b : Array UInt8} {c q : Int} {tb tc tq te : Tok}
    (B : Below A₀ base outer h₀) (F : Fr h₀ L s.heap m) (X : (heapK w.params).In h₀) (N : News h₀ L s.heap news) (T : Top p loose mean mg mb h₀) (hk : cs.kind = .function) (hd : dp + 3 < recursionLimit) (hu : un + 24 < cLine)
    (ret : ∀ x d t1 t2 t3 t4 te h' tk', Fr h₀ L h' m → News h₀ L h' ((x, instObj 245 d) :: (d, dictOf [⟨PyData.keyHash w.params (PySem.Str.ofString "name"), .str (PySem.Str.ofString "name") t1, .bytes b tb⟩, ⟨PyData.keyHash w.params (PySem.Str.ofString "code"), .str (PySem.Str.ofString "code") t2, .int c tc⟩,
      ⟨PyData.keyHash w.params (PySem.Str.ofString "held"), .str (PySem.Str.ofString "held") t3, .int q tq⟩, ⟨PyData.keyHash w.params (PySem.Str.ofString "event"), .str (PySem.Str.ofString "event") t4, .int 1 te⟩] 4) :: news) → Q (.ref x) { s with heap := h', toks := tk' }) :
    wpAny (model Challenge.rw_og0251_01.row.prog w) (ktrTop dp un gd cn cs L a ccd cl outer) (call (.ref 245) [.bytes b tb, .int c tc, .int q tq, .int 1 te]) Q E s := by
  w_top off
  k_with_none
  k_with "execs cons" => k_fold
  k_with "execs cons" => ((with_reducible refine st_norm (g' := s.gens) (d' := s.drawn) (os' := s.os) rfl rfl rfl fun tk => ?_); (try k_fold))
  k_with "k_room" => ((try simp only [depth_under_make, depth_under_kw, depth_in1, depth_deeper, depth_caller]); (try dsimp only [ktrTop]); omega)
  k_with "k_enter" => (refine' code_def ?k1 ?k2 ?k3 ?k4 ?k5 ?kA ?kF ?kK ?k6 ?k7 ?k8 ?k9 ?kB ?_ ?c2 ?c3 ?c4 ?c5; (case kA => exact rfl); (case kF => exact rfl); (case kK => assumption); (case k1 => k_asm); (case k2 => k_asm); (case k3 => k_asm); (case k4 => k_asm); (case k5 => k_asm); (case k6 => k_is); (case k7 => k_is); (case k8 => k_room); (case k9 => first | exact BindsTo.of_eq rfl | exact binds_K (by k_in) rfl (by k_is) rfl rfl rfl); (case c5 => decide); (case kB => exact locs rfl); (case c2 => exact rfl); (case c3 => exact rfl); (case c4 => exact rfl); k_whole; intro g' L' h' FG' F' N' B' X' T'; (try dsimp only); (try k_fold))
  k_with "k_all" => exact fun p hp => Nat.ne_of_lt (ktn_ltOf (by assumption) p hp)
  revert X; k_fill; intro X
  k_steps
  all_goals exact ret _ _ _ _ _ _ _ _ _ (by assumption) (by assumption)
end

section
theorem new_key3 {w : World} {p : Program} {loose : List Str} {mean : ExcName → Option Value} {mg mb : Str → Option Value} {dp un : Nat} {gd : Option (List Code)} {cn : Str} {cs : Scope} {a : Addr} {ccd : Value} {cl : List (Str × Addr)} {outer : List Env} {A₀ : Around} {base h₀ : Heap} {L : Addr} {m : Str → Option Value} {news : Led} {s : Shared} {Q E : Value → Shared → Prop} {b : Array UInt8} {c q : Int} {tb tc tq te : Tok}
    (B : Below A₀ base outer h₀) (F : Fr h₀ L s.heap m) (X : (heapK w.params).In h₀) (N : News h₀ L s.heap news) (T : Top p loose mean mg mb h₀) (hk : cs.kind = .function) (hd : dp + 3 < recursionLimit) (hu : un + 24 < cLine)
    (ret : ∀ x d t1 t2 t3 t4 te h' tk', Fr h₀ L h' m → News h₀ L h' ((x, instObj 245 d) :: (d, dictOf [⟨PyData.keyHash w.params (PySem.Str.ofString "name"), .str (PySem.Str.ofString "name") t1, .bytes b tb⟩, ⟨PyData.keyHash w.params (PySem.Str.ofString "code"), .str (PySem.Str.ofString "code") t2, .int c tc⟩,
      ⟨PyData.keyHash w.params (PySem.Str.ofString "held"), .str (PySem.Str.ofString "held") t3, .int q tq⟩, ⟨PyData.keyHash w.params (PySem.Str.ofString "event"), .str (PySem.Str.ofString "event") t4, .int 1 te⟩] 4) :: news) → Q (.ref x) { s with heap := h', toks := tk' }) :
    wpAny (model Challenge.rw_og0251_01.row.prog w) (ktrTop dp un gd cn cs L a ccd cl outer) (call (.ref 245) [.bytes b tb, .int c tc, .int q tq]) Q E s := by
  w_top off
  k_with_none
  k_with "execs cons" => k_fold
  k_with "execs cons" => ((with_reducible refine st_norm (g' := s.gens) (d' := s.drawn) (os' := s.os) rfl rfl rfl fun tk => ?_); (try k_fold))
  k_with "k_room" => ((try simp only [depth_under_make, depth_under_kw, depth_in1, depth_deeper, depth_caller]); (try dsimp only [ktrTop]); omega)
  k_with "k_enter" => (refine' code_def ?k1 ?k2 ?k3 ?k4 ?k5 ?kA ?kF ?kK ?k6 ?k7 ?k8 ?k9 ?kB ?_ ?c2 ?c3 ?c4 ?c5; (case kA => exact rfl); (case kF => exact rfl); (case kK => assumption); (case k1 => k_asm); (case k2 => k_asm); (case k3 => k_asm); (case k4 => k_asm); (case k5 => k_asm); (case k6 => k_is); (case k7 => k_is); (case k8 => k_room); (case k9 => first | exact BindsTo.of_eq rfl | exact binds_K (by k_in) rfl (by k_is) rfl rfl rfl); (case c5 => decide); (case kB => exact locs rfl); (case c2 => exact rfl); (case c3 => exact rfl); (case c4 => exact rfl); k_whole; intro g' L' h' FG' F' N' B' X' T'; (try dsimp only); (try k_fold))
  k_with "k_all" => exact fun p hp => Nat.ne_of_lt (ktn_ltOf (by assumption) p hp)
  revert X; k_fill; intro X
  k_steps
  all_goals exact ret _ _ _ _ _ _ _ _ _ (by assumption) (by assumption)
end

section
theorem new_reader {w : World} {p : Program} {loose : List Str} {mean : ExcName → Option Value} {mg mb : Str → Option Value} {dp un : Nat} {gd : Option (List Code)} {cn : Str} {cs : Scope} {a : Addr} {ccd : Value} {cl : List (Str × Addr)} {outer : List Env} {A₀ : Around} {base h₀ : Heap} {L : Addr} {m : Str → Option Value} {news : Led} {s : Shared} {Q E : Value → Shared → Prop}
    (B : Below A₀ base outer h₀) (F : Fr h₀ L s.heap m) (X : (heapK w.params).In h₀) (N : News h₀ L s.heap news) (T : Top p loose mean mg mb h₀) (hk : cs.kind = .function) (hd : dp + 3 < recursionLimit) (hu : un + 24 < cLine)
    (ret : ∀ x d t0 t1 t2 t3 t4 u1 u2 u3 u4 h' tk', @LT.lt Nat _ d x → Fr h₀ L h' m → News h₀ L h' ((x, instObj 128 d) :: (d, dictOf [⟨PyData.keyHash w.params (PySem.Str.ofString "is_utf8"), .str (PySem.Str.ofString "is_utf8") t0, .bool true⟩, ⟨PyData.keyHash w.params (PySem.Str.ofString "left"), .str (PySem.Str.ofString "left") t1, .int 0 u1⟩, ⟨PyData.keyHash w.params (PySem.Str.ofString "code"), .str (PySem.Str.ofString "code") t2, .int 0 u2⟩,
      ⟨PyData.keyHash w.params (PySem.Str.ofString "low"), .str (PySem.Str.ofString "low") t3, .int 128 u3⟩, ⟨PyData.keyHash w.params (PySem.Str.ofString "high"), .str (PySem.Str.ofString "high") t4, .int 191 u4⟩] 5) :: news) → Q (.ref x) { s with heap := h', toks := tk' }) :
    wpAny (model Challenge.rw_og0251_01.row.prog w) (ktrTop dp un gd cn cs L a ccd cl outer) (call (.ref 128) []) Q E s := by
  w_top off
  k_with_none
  k_with "execs cons" => k_fold
  k_with "execs cons" => ((with_reducible refine st_norm (g' := s.gens) (d' := s.drawn) (os' := s.os) rfl rfl rfl fun tk => ?_); (try k_fold))
  k_with "k_room" => ((try simp only [depth_under_make, depth_under_kw, depth_in1, depth_deeper, depth_caller]); (try dsimp only [ktrTop]); omega)
  k_with "k_enter" => (refine' code_def ?k1 ?k2 ?k3 ?k4 ?k5 ?kA ?kF ?kK ?k6 ?k7 ?k8 ?k9 ?kB ?_ ?c2 ?c3 ?c4 ?c5; (case kA => exact rfl); (case kF => exact rfl); (case kK => assumption); (case k1 => k_asm); (case k2 => k_asm); (case k3 => k_asm); (case k4 => k_asm); (case k5 => k_asm); (case k6 => k_is); (case k7 => k_is); (case k8 => k_room); (case k9 => first | exact BindsTo.of_eq rfl | exact binds_K (by k_in) rfl (by k_is) rfl rfl rfl); (case c5 => decide); (case kB => exact locs rfl); (case c2 => exact rfl); (case c3 => exact rfl); (case c4 => exact rfl); k_whole; intro g' L' h' FG' F' N' B' X' T'; (try dsimp only); (try k_fold))
  k_with "k_all" => exact fun p hp => Nat.ne_of_lt (ktn_ltOf (by assumption) p hp)
  revert X; k_fill; intro X
  k_steps
  all_goals exact ret _ _ _ _ _ _ _ _ _ _ _ _ _ (by assumption) (by assumption) (by assumption)
end
end Mine
end

section
open PySem PySem.W PySem.Calls PySem.Spec PyProof.Rows
set_option maxRecDepth 100000
set_option maxHeartbeats 8000000
set_option linter.unusedSimpArgs false
namespace Mine

noncomputable def settledF (nm : List Int) (c q : Int) : Int × Int :=
  if nm = [] ∧ Builtin.bitAnd q 4 ≠ 0 ∧ 65 ≤ c ∧ c ≤ 90 then (c + 32, q)
  else if nm = [] ∧ Builtin.bitAnd q 4 = 0 ∧ Builtin.bitAnd q 1 ≠ 0 then
    (if 97 ≤ c ∧ c ≤ 122 then (c - 32, Builtin.bitAnd q (Builtin.bitNot 1)) else if 65 ≤ c ∧ c ≤ 90 then (c, Builtin.bitAnd q (Builtin.bitNot 1)) else (c, q))
  else (c, q)
theorem nil_of_beq {b : Array UInt8} {nm : List Int} (hb : KBw.bInts b = nm) : (b.toList == (#[] : Array UInt8).toList) = decide (nm = []) := by
  subst hb
  unfold KBw.bInts
  cases b.toList <;> simp
theorem st1 {b : Array UInt8} {nm : List Int} {c q : Int} (hb : KBw.bInts b = nm) (h1 : (b.toList == (#[] : Array UInt8).toList) = true) (h2 : Builtin.bitAnd q 4 ≠ 0) (h3 : 65 ≤ c ∧ c ≤ 90) : settledF nm c q = (c + 32, q) := by
  rw [nil_of_beq hb, decide_eq_true_eq] at h1
  unfold settledF; rw [if_pos ⟨h1, h2, h3⟩]
theorem st2 {b : Array UInt8} {nm : List Int} {c q : Int} (hb : KBw.bInts b = nm) (h1 : (b.toList == (#[] : Array UInt8).toList) = true) (h2 : Builtin.bitAnd q 4 ≠ 0) (h3 : ¬ (65 ≤ c ∧ c ≤ 90)) : settledF nm c q = (c, q) := by
  unfold settledF; rw [if_neg (fun h => h3 h.2.2), if_neg (fun h => h2 h.2.1)]
theorem st3 {b : Array UInt8} {nm : List Int} {c q : Int} (hb : KBw.bInts b = nm) (h1 : (b.toList == (#[] : Array UInt8).toList) = true) (h2 : Builtin.bitAnd q 4 = 0) (h3 : Builtin.bitAnd q 1 ≠ 0) (h4 : 97 ≤ c ∧ c ≤ 122) : settledF nm c q = (c - 32, Builtin.bitAnd q (Builtin.bitNot 1)) := by
  rw [nil_of_beq hb, decide_eq_true_eq] at h1
  unfold settledF; rw [if_neg (fun h => h.2.1 h2), if_pos ⟨h1, h2, h3⟩, if_pos h4]
theorem st4 {b : Array UInt8} {nm : List Int} {c q : Int} (hb : KBw.bInts b = nm) (h1 : (b.toList == (#[] : Array UInt8).toList) = true) (h2 : Builtin.bitAnd q 4 = 0) (h3 : Builtin.bitAnd q 1 ≠ 0) (h4 : ¬ (97 ≤ c ∧ c ≤ 122)) (h5 : 65 ≤ c ∧ c ≤ 90) : settledF nm c q = (c, Builtin.bitAnd q (Builtin.bitNot 1)) := by
  rw [nil_of_beq hb, decide_eq_true_eq] at h1
  unfold settledF; rw [if_neg (fun h => h.2.1 h2), if_pos ⟨h1, h2, h3⟩, if_neg h4, if_pos h5]
theorem st5 {b : Array UInt8} {nm : List Int} {c q : Int} (hb : KBw.bInts b = nm) (h1 : (b.toList == (#[] : Array UInt8).toList) = true) (h2 : Builtin.bitAnd q 4 = 0) (h3 : Builtin.bitAnd q 1 ≠ 0) (h4 : ¬ (97 ≤ c ∧ c ≤ 122)) (h5 : ¬ (65 ≤ c ∧ c ≤ 90)) : settledF nm c q = (c, q) := by
  rw [nil_of_beq hb, decide_eq_true_eq] at h1
  unfold settledF; rw [if_neg (fun h => h.2.1 h2), if_pos ⟨h1, h2, h3⟩, if_neg h4, if_neg h5]
theorem st6 {nm : List Int} {c q : Int} (h2 : Builtin.bitAnd q 4 = 0) (h3 : Builtin.bitAnd q 1 = 0) : settledF nm c q = (c, q) := by
  unfold settledF; rw [if_neg (fun h => h.2.1 h2), if_neg (fun h => h.2.2 h3)]
theorem st7 {b : Array UInt8} {nm : List Int} {c q : Int} (hb : KBw.bInts b = nm) (h1 : (b.toList == (#[] : Array UInt8).toList) = false) : settledF nm c q = (c, q) := by
  rw [nil_of_beq hb, decide_eq_false_iff_not] at h1
  unfold settledF; rw [if_neg (fun h => h1 h.1), if_neg (fun h => h1 h.1)]
section



local macro_rules | `(tactic| walk1) => `(tactic| (exfalso; exact absurd (by assumption : Builtin.bitAnd _ 4 = 0) (by assumption)))
theorem con_key_settled (nm : List Int) (b : Array UInt8) (c q : Int) (t u v : Tok) (hb : KBw.bInts b = nm) : Con 271 [.bytes b t, .int c u, .int q v] 4 [] (fun w tl r => ∃ x d, r = .ref x ∧ KeyIs w.params nm (settledF nm c q).1 (settledF nm c q).2 x d tl) := by
  w_top off
  k_with_none
  k_with "execs cons" => k_fold
  k_with "execs cons" => ((with_reducible refine st_norm (g' := s.gens) (d' := s.drawn) (os' := s.os) rfl rfl rfl fun tk => ?_); (try k_fold))
  k_with "k_room" => ((try simp only [depth_under_make, depth_under_kw, depth_in1, depth_deeper, depth_caller]); (try dsimp only [ktrTop]); omega)
  k_with "call ref" => (k_here; (with_reducible show wpAny _ _ (call (Value.ref 256) [Value.int _ _]) _ _ _); k_dflt (refine' con_useV (con_key_is_capital _ _) ?k1 ?k2 ?k3 ?k4 ?k5 ?kK ?kd ?ku ?ko ?_; (case k1 => k_asm); (case k2 => k_asm); (case k3 => k_asm); (case k4 => k_asm); (case k5 => k_asm); (case kK => first | exact rfl | assumption); (case kd => (dsimp only [ktrTop]; omega)); (case ku => (dsimp only [ktrTop]; omega)); (case ko => first | exact List.forall_mem_nil _ | k_sub); k_whole); intro r' h' tk' F' N' hst' hr'; subst hr')
  k_with "call ref" => (k_here; (with_reducible show wpAny _ _ (call (Value.ref 263) [Value.int _ _]) _ _ _); k_dflt (refine' con_useV (con_key_is_small _ _) ?k1 ?k2 ?k3 ?k4 ?k5 ?kK ?kd ?ku ?ko ?_; (case k1 => k_asm); (case k2 => k_asm); (case k3 => k_asm); (case k4 => k_asm); (case k5 => k_asm); (case kK => first | exact rfl | assumption); (case kd => (dsimp only [ktrTop]; omega)); (case ku => (dsimp only [ktrTop]; omega)); (case ko => first | exact List.forall_mem_nil _ | k_sub); k_whole); intro r' h' tk' F' N' hst' hr'; subst hr')
  k_with "call ref" => (k_here; (with_reducible show wpAny _ _ (call (Value.ref 245) [Value.bytes _ _, Value.int _ _, Value.int _ _, Value.int 1 _]) _ _ _); k_dflt (refine' new_key4 ?k1 ?k2 ?k3 ?k4 ?k5 ?kK ?kd ?ku ?_; (case k1 => k_asm); (case k2 => k_asm); (case k3 => k_asm); (case k4 => k_asm); (case k5 => k_asm); (case kK => first | exact rfl | assumption); (case kd => (dsimp only [ktrTop]; omega)); (case ku => (dsimp only [ktrTop]; omega)); k_whole); intro x' d' t1' t2' t3' t4' te' h' tk' F' N'; (try k_sweep))
  (try unfold ConV)
  unfold Con
  k_fill
  intro w p loose mean mg mb dp un gd cn cs a ccd cl outer A₀ base h₀ L m s Q E B F X N T hk hd hu hret
  k_dflt (refine' con_enterO (binds := [(PySem.Str.ofString "name", .bytes b t), (PySem.Str.ofString "code", .int c u), (PySem.Str.ofString "held", .int q v), (PySem.Str.ofString "event", .int 1 378)]) B F X N T hk hret ?k8 ?k6 ?k7 ?k9 ?kB ?_ ?c5 ?c2 ?c3 ?c4; (case k6 => k_is); (case k7 => k_is); (case k8 => omega); (case k9 => exact binds_K (X.keeps F.keep) rfl (by k_is) rfl rfl rfl); (case c5 => decide); (case kB => exact locs rfl); (case c2 => exact rfl); (case c3 => exact rfl); (case c4 => exact rfl); k_whole)
  clear hret B F N T X hk
  intro g' L' h' tk' F' N' B' X' T' l1 hret
  (try k_lt l1)
  (try simp only [List.reverse_cons, List.reverse_nil, List.nil_append, List.cons_append] at F')
  (try k_fold)
  k_steps
  all_goals exact key_ret (s := s) hret (by assumption) (by assumption) hb (by first | exact st7 hb (by assumption) | exact st1 hb (by assumption) (by assumption) (by assumption) | exact st2 hb (by assumption) (by assumption) (by assumption) | exact st6 (by assumption) (by assumption) | exact st3 hb (by assumption) (by assumption) (by assumption) (by assumption) | exact st4 hb (by assumption) (by assumption) (by assumption) (by assumption) (by assumption) | exact st5 hb (by assumption) (by assumption) (by assumption) (by assumption) (by assumption))
end
end Mine
end

section
open PySem PySem.W PySem.Calls PySem.Spec PyProof.Rows
set_option maxRecDepth 100000
set_option maxHeartbeats 8000000
set_option linter.unusedSimpArgs false
namespace Mine

noncomputable def leadF (n : Int) : Option (Int × Int × Int × Int) :=
  if 194 ≤ n ∧ n ≤ 223 then some (1, Builtin.bitAnd n 31, 128, 191)
  else if 224 ≤ n ∧ n ≤ 239 then some (2, Builtin.bitAnd n 15, if n = 224 then 160 else 128, if n = 237 then 159 else 191)
  else if 240 ≤ n ∧ n ≤ 244 then some (3, Builtin.bitAnd n 7, if n = 240 then 144 else 128, if n = 244 then 143 else 191)
  else none
noncomputable def LeadIs (n : Int) (tl : Led) (r : Value) : Prop :=
  (leadF n = none ∧ tl = [] ∧ r = .none) ∨ ∃ a b c d D ta tb tc td, leadF n = some (a, b, c, d) ∧ r = .ref D ∧ tl = [(D, { cls := Value.type "tuple", data := Data.seq #[.int a ta, .int b tb, .int c tc, .int d td] })]
noncomputable def AllNe (d : Addr) : List (Addr × Obj) → Prop
  | [] => True
  | p :: r => @Ne Nat p.1 d ∧ AllNe d r
theorem allNe_of {d : Addr} {o : Obj} : ∀ {l : List (Addr × Obj)}, (∀ q ∈ l, ∀ p ∈ [(d, o)], q.1 ≠ p.1) → AllNe d l
  | [], _ => trivial
  | p :: _, h => ⟨h p (.head _) _ (.head _), allNe_of fun q hq => h q (.tail _ hq)⟩
theorem lead_none {n : Int} (h1 : ¬ (194 ≤ n ∧ n ≤ 223)) (h2 : ¬ (224 ≤ n ∧ n ≤ 239)) (h3 : ¬ (240 ≤ n ∧ n ≤ 244)) : leadF n = none := by
  unfold leadF; rw [if_neg h1, if_neg h2, if_neg h3]
theorem lead_1 {n : Int} (h1 : (194 ≤ n ∧ n ≤ 223)) : leadF n = some (1, Builtin.bitAnd n 31, 128, 191) := by
  unfold leadF; rw [if_pos h1]
theorem lead_2 {n x y : Int} (h1 : ¬ (194 ≤ n ∧ n ≤ 223)) (h2 : (224 ≤ n ∧ n ≤ 239)) (hx : (if n = 224 then 160 else 128) = x) (hy : (if n = 237 then 159 else 191) = y) : leadF n = some (2, Builtin.bitAnd n 15, x, y) := by
  unfold leadF; rw [if_neg h1, if_pos h2, hx, hy]
theorem lead_3 {n x y : Int} (h1 : ¬ (194 ≤ n ∧ n ≤ 223)) (h2 : ¬ (224 ≤ n ∧ n ≤ 239)) (h3 : (240 ≤ n ∧ n ≤ 244)) (hx : (if n = 240 then 144 else 128) = x) (hy : (if n = 244 then 143 else 191) = y) : leadF n = some (3, Builtin.bitAnd n 7, x, y) := by
  unfold leadF; rw [if_neg h1, if_neg h2, if_pos h3, hx, hy]
theorem lead_ret {n a b c d : Int} {g h' : Heap} {L' D : Addr} {m' : Str → Option Value} {s : Shared} {tk' : Nat} {Q : Value → Shared → Prop} {ta tb tc td : Tok} {rest : Led}
    (hret : ∀ r (tl : Led) h' tk' m' (news' : Led), Fr g L' h' m' → News g L' h' news' → (∀ q ∈ tl, q ∈ news') → (∀ q ∈ ([] : Led), q ∈ news') → (∀ q ∈ tl, ∀ z ∈ ([] : Led), q.1 ≠ z.1) → LeadIs n tl r → Q r { s with heap := h', toks := tk' })
    (F : Fr g L' h' m') (N : News g L' h' ((D, { cls := Value.type "tuple", data := Data.seq #[.int a ta, .int b tb, .int c tc, .int d td] }) :: rest)) (e : leadF n = some (a, b, c, d)) : Q (.ref D) { s with heap := h', toks := tk' } :=
  hret (.ref D) [_] h' tk' m' _ F N (fun z hz => by rw [List.mem_singleton.mp hz]; exact List.mem_cons_self ..) (List.forall_mem_nil _) (fun _ _ _ h => nomatch h) (.inr ⟨a, b, c, d, D, ta, tb, tc, td, e, rfl, rfl⟩)
theorem con_sign_lead (n : Int) (t : Tok) : Con 61 [.int n t] 1 [] (fun _ tl r => LeadIs n tl r) := by
  w_top off
  k_with_none
  k_with "execs cons" => k_fold
  k_with "execs cons" => ((with_reducible refine st_norm (g' := s.gens) (d' := s.drawn) (os' := s.os) rfl rfl rfl fun tk => ?_); (try k_fold))
  (try unfold ConV)
  unfold Con
  k_fill
  intro w p loose mean mg mb dp un gd cn cs a ccd cl outer A₀ base h₀ L m s Q E B F X N T hk hd hu hret
  k_dflt (refine' con_enterO (binds := [(PySem.Str.ofString "octet", .int n t)]) B F X N T hk hret ?k8 ?k6 ?k7 ?k9 ?kB ?_ ?c5 ?c2 ?c3 ?c4; (case k6 => k_is); (case k7 => k_is); (case k8 => omega); (case k9 => exact BindsTo.of_eq rfl); (case c5 => decide); (case kB => exact locs rfl); (case c2 => exact rfl); (case c3 => exact rfl); (case c4 => exact rfl); k_whole)
  clear hret B F N T X hk
  intro g' L' h' tk' F' N' B' X' T' l1 hret
  (try k_lt l1)
  (try simp only [List.reverse_cons, List.reverse_nil, List.nil_append, List.cons_append] at F')
  (try k_fold)
  k_steps
  all_goals (first
    | exact lead_ret (s := s) hret (by assumption) (by assumption) (lead_1 (by omega))
    | exact lead_ret (s := s) hret (by assumption) (by assumption) (lead_2 (by omega) (by omega) (by first | exact if_pos (by omega) | exact if_neg (by omega)) (by first | exact if_pos (by omega) | exact if_neg (by omega)))
    | exact lead_ret (s := s) hret (by assumption) (by assumption) (lead_3 (by omega) (by omega) (by omega) (by first | exact if_pos (by omega) | exact if_neg (by omega)) (by first | exact if_pos (by omega) | exact if_neg (by omega)))
    | exact hret _ [] _ _ _ _ (by assumption) (by assumption) (List.forall_mem_nil _) (List.forall_mem_nil _) (List.forall_mem_nil _) (.inl ⟨lead_none (by omega) (by omega) (by omega), rfl, rfl⟩))
end Mine
end

section
open PySem PySem.W PySem.Calls PySem.Spec PyProof.Rows
set_option maxRecDepth 100000
set_option maxHeartbeats 8000000
set_option linter.unusedSimpArgs false
namespace Mine

theorem and_c64 (c x : Int) (h0 : 0 ≤ x) (h1 : x < 64) : Builtin.bitAnd (c * 64) x = 0 := by
  rw [kbt_halves, kbt_halves (_ / 2), kbt_halves (_ / 2 / 2), kbt_halves (_ / 2 / 2 / 2), kbt_halves (_ / 2 / 2 / 2 / 2), kbt_halves (_ / 2 / 2 / 2 / 2 / 2)]
  have e : x / 2 / 2 / 2 / 2 / 2 / 2 = 0 := by omega
  have z : Builtin.bitAnd (c * 64 / 2 / 2 / 2 / 2 / 2 / 2) 0 = 0 := by
    have := bitAnd_range (c * 64 / 2 / 2 / 2 / 2 / 2 / 2) (y := 0) (by decide)
    omega
  rw [e, z]
  repeat rw [if_neg (by omega)]
  rfl
theorem code_step (c n : Int) : Builtin.bitOr (c * 2 ^ Int.toNat 6) (Builtin.bitAnd n 63) = c * 64 + n % 64 := by
  rw [show (2 : Int) ^ Int.toNat 6 = 64 from rfl, bitAnd_m6, bitOr_and, and_c64 _ _ (by omega) (by omega)]
  omega
abbrev FS := Int × Int × Int × Int × List Int
noncomputable def beginS (c lo hi : Int) (f : List Int) (n : Int) : FS :=
  match leadF n with
  | some (a, b, x, y) => (a, b, x, y, f)
  | none => (0, c, lo, hi, f ++ [if n < 128 then n else 65533])
noncomputable def feedStep (s : FS) (n : Int) : FS :=
  if 0 < s.1 ∧ s.2.2.1 ≤ n ∧ n ≤ s.2.2.2.1 then (s.1 - 1, s.2.1 * 64 + n % 64, 128, 191, if s.1 - 1 = 0 then s.2.2.2.2 ++ [s.2.1 * 64 + n % 64] else s.2.2.2.2)
  else beginS s.2.1 s.2.2.1 s.2.2.2.1 (if 0 < s.1 then s.2.2.2.2 ++ [65533] else s.2.2.2.2) n
noncomputable def feedRun (pre : List Int) : FS := pre.foldl feedStep (0, 0, 128, 191, [])
/-- the reader's bounds -/
noncomputable def FB (l c lo hi : Int) (f : List Int) : Prop :=
  (0 < l → 128 ≤ lo ∧ hi ≤ 191 ∧ (l = 1 → c ≤ 17407) ∧ (l = 2 → c ≤ 271) ∧ (l = 3 → c ≤ 4 ∧ (c = 4 → hi ≤ 143))) ∧ (∀ x ∈ f, 0 ≤ x ∧ x < 1114112)
noncomputable def FW (pre : List Int) (l c lo hi : Int) (f : List Int) : Prop := feedRun pre = (l, c, lo, hi, f) ∧ FB l c lo hi f
noncomputable def FP (pre : List Int) (l c lo hi : Int) (f : List Int) : Prop := FW pre l c lo hi f ∧ 0 ≤ l ∧ l ≤ 3 ∧ 0 ≤ c ∧ c ≤ 1114111 ∧ f.length ≤ 2 * pre.length
theorem feed_start : FP [] 0 0 128 191 [] := ⟨⟨rfl, fun h => absurd h (by decide), fun _ h => nomatch h⟩, by decide, by decide, by decide, by decide, by decide⟩
theorem lead_bounds {n a b x y : Int} (h : leadF n = some (a, b, x, y)) : 1 ≤ a ∧ a ≤ 3 ∧ 0 ≤ b ∧ 128 ≤ x ∧ y ≤ 191 ∧ (a = 1 → b ≤ 31) ∧ (a = 2 → b ≤ 15) ∧ (a = 3 → b ≤ 4 ∧ (b = 4 → y ≤ 143)) := by
  unfold leadF at h
  simp only [bitAnd_m3, bitAnd_m4, bitAnd_m5] at h
  split at h
  · simp only [Option.some.injEq, Prod.mk.injEq] at h
    omega
  · split at h
    · simp only [Option.some.injEq, Prod.mk.injEq] at h
      obtain ⟨h1, h2, h3, h4⟩ := h
      split at h3 <;> split at h4 <;> omega
    · split at h
      · simp only [Option.some.injEq, Prod.mk.injEq] at h
        obtain ⟨h1, h2, h3, h4⟩ := h
        split at h3 <;> split at h4 <;> omega
      · cases h
theorem all_app {f : List Int} {v : Int} (h : ∀ x ∈ f, 0 ≤ x ∧ x < 1114112) (hv : 0 ≤ v ∧ v < 1114112) : ∀ x ∈ f ++ [v], 0 ≤ x ∧ x < 1114112 := by
  intro x hx
  rcases List.mem_append.mp hx with hx | hx
  · exact h x hx
  · rw [List.mem_singleton.mp hx]; exact hv
section
variable {pre : List Int} {l c lo hi n : Int} {f : List Int}
theorem fw_snoc {s : FS} (h : feedRun pre = (l, c, lo, hi, f)) (e : feedStep (l, c, lo, hi, f) n = s) : feedRun (pre ++ [n]) = s := by
  unfold feedRun at *
  rw [List.foldl_append, h]
  exact e
theorem feed_go1 (h : FW pre l c lo hi f) (b1 : 0 ≤ l) (b2 : l ≤ 3) (b3 : 0 ≤ c) (b4 : c ≤ 1114111) (b5 : f.length ≤ 2 * pre.length) (n0 : 0 ≤ n) (h1 : 0 < l) (h2 : lo ≤ n) (h3 : n ≤ hi) (h4 : l - 1 = 0) :
    FP (pre ++ [n]) (l - 1) (Builtin.bitOr (c * 2 ^ Int.toNat 6) (Builtin.bitAnd n 63)) 128 191 (f ++ [Builtin.bitOr (c * 2 ^ Int.toNat 6) (Builtin.bitAnd n 63)]) := by
  rw [code_step]
  obtain ⟨h, hb, hf⟩ := h
  have := hb h1
  refine ⟨⟨fw_snoc h ?_, fun _ => by omega, all_app hf (by omega)⟩, by omega, by omega, by omega, by omega, by simp only [List.length_append, List.length_cons, List.length_nil]; omega⟩
  unfold feedStep
  rw [if_pos ⟨h1, h2, h3⟩]; dsimp only; rw [if_pos h4]
theorem feed_go2 (h : FW pre l c lo hi f) (b1 : 0 ≤ l) (b2 : l ≤ 3) (b3 : 0 ≤ c) (b4 : c ≤ 1114111) (b5 : f.length ≤ 2 * pre.length) (n0 : 0 ≤ n) (h1 : 0 < l) (h2 : lo ≤ n) (h3 : n ≤ hi) (h4 : ¬ (l - 1 = 0)) :
    FP (pre ++ [n]) (l - 1) (Builtin.bitOr (c * 2 ^ Int.toNat 6) (Builtin.bitAnd n 63)) 128 191 f := by
  rw [code_step]
  obtain ⟨h, hb, hf⟩ := h
  have := hb h1
  refine ⟨⟨fw_snoc h ?_, fun _ => by omega, hf⟩, by omega, by omega, by omega, by omega, by simp only [List.length_append, List.length_cons, List.length_nil]; omega⟩
  unfold feedStep
  rw [if_pos ⟨h1, h2, h3⟩]; dsimp only; rw [if_neg h4]
theorem feed_lead (h : FW pre l c lo hi f) (b1 : 0 ≤ l) (b2 : l ≤ 3) (b3 : 0 ≤ c) (b4 : c ≤ 1114111) (b5 : f.length ≤ 2 * pre.length) {a b x y : Int} (hL : leadF n = some (a, b, x, y)) {g : List Int}
    (hn : ¬ (0 < l ∧ lo ≤ n ∧ n ≤ hi)) (hg : (if 0 < l then f ++ [65533] else f) = g) : FP (pre ++ [n]) a b x y g := by
  obtain ⟨h, hb, hf⟩ := h
  have := lead_bounds hL
  have hl : g.length ≤ f.length + 1 := by subst hg; split <;> simp
  have hg' : ∀ x ∈ g, 0 ≤ x ∧ x < 1114112 := by
    subst hg
    split
    · exact all_app hf (by decide)
    · exact hf
  refine ⟨⟨fw_snoc h ?_, fun _ => by omega, hg'⟩, by omega, by omega, by omega, by omega, by simp only [List.length_append, List.length_cons, List.length_nil]; omega⟩
  unfold feedStep beginS
  rw [if_neg hn, hL]; dsimp only; rw [hg]
theorem feed_none (h : FW pre l c lo hi f) (b1 : 0 ≤ l) (b2 : l ≤ 3) (b3 : 0 ≤ c) (b4 : c ≤ 1114111) (b5 : f.length ≤ 2 * pre.length) (n0 : 0 ≤ n) {v : Int} (hL : leadF n = none) {g : List Int}
    (hn : ¬ (0 < l ∧ lo ≤ n ∧ n ≤ hi)) (hg : (if 0 < l then f ++ [65533] else f) = g) (hv : (if n < 128 then n else 65533) = v) : FP (pre ++ [n]) 0 c lo hi (g ++ [v]) := by
  obtain ⟨h, hb, hf⟩ := h
  have hl : g.length ≤ f.length + 1 := by subst hg; split <;> simp
  have hg' : ∀ x ∈ g, 0 ≤ x ∧ x < 1114112 := by
    subst hg
    split
    · exact all_app hf (by decide)
    · exact hf
  have hv' : 0 ≤ v ∧ v < 1114112 := by
    subst hv
    split <;> omega
  refine ⟨⟨fw_snoc h ?_, fun h => absurd h (by decide), all_app hg' hv'⟩, by decide, by decide, b3, b4, by simp only [List.length_append, List.length_cons, List.length_nil]; omega⟩
  unfold feedStep beginS
  rw [if_neg hn, hL]; dsimp only; rw [hg, hv]
end

theorem one_hi {pre : List Int} {l c lo hi : Int} {f : List Int} (h : FW pre l c lo hi f) (hl : (f.length : Int) = 1) : f.getD (Int.toNat 0) 0 < 1114112 := by
  match f, h, hl with
  | [x], h, _ => exact (h.2.2 x (List.mem_singleton.mpr rfl)).2
noncomputable def oneSignF (ks : List Int) : Option Int :=
  if (feedRun ks).2.2.2.2.length = 1 ∧ ¬ (feedRun ks).2.2.2.2.getD 0 0 < 32 ∧ ¬ (127 ≤ (feedRun ks).2.2.2.2.getD 0 0 ∧ (feedRun ks).2.2.2.2.getD 0 0 < 160) ∧ utf8F ((feedRun ks).2.2.2.2.getD 0 0) = ks then some ((feedRun ks).2.2.2.2.getD 0 0) else none
theorem bInts_inj {b c : Array UInt8} (h : KBw.bInts b = KBw.bInts c) : b.toList = c.toList := by
  unfold KBw.bInts at h
  exact (List.map_inj_right (fun x y e => by
    have : x.toNat = y.toNat := by exact_mod_cast e
    exact UInt8.toNat_inj.mp this)).mp h
theorem bne_ints {b c : Array UInt8} {ks ls : List Int} (hb : KBw.bInts b = ks) (hc : KBw.bInts c = ls) : (b.toList != c.toList) = !decide (ks = ls) := by
  subst hb hc
  by_cases h : b.toList = c.toList
  · have : KBw.bInts b = KBw.bInts c := by unfold KBw.bInts; rw [h]
    simp [h, this]
  · have : ¬ KBw.bInts b = KBw.bInts c := fun e => h (bInts_inj e)
    simp [h, this]
theorem beq_ints {b c : Array UInt8} {ks ls : List Int} (hb : KBw.bInts b = ks) (hc : KBw.bInts c = ls) : (b.toList == c.toList) = decide (ks = ls) := by
  have := bne_ints hb hc
  rw [bne] at this
  rw [← Bool.not_not (b.toList == c.toList), this, Bool.not_not]
section
variable {ks : List Int} {l c lo hi : Int} {f : List Int}
theorem one_none1 (h : FW ks l c lo hi f) (h1 : (f.length : Int) ≠ 1) : oneSignF ks = none := by
  unfold oneSignF; rw [h.1]; exact if_neg fun h => h1 (by exact_mod_cast h.1)
theorem one_none2 (h : FW ks l c lo hi f) (h1 : f.getD (Int.toNat 0) 0 < 32) : oneSignF ks = none := by
  unfold oneSignF; rw [h.1]; exact if_neg fun h => h.2.1 h1
theorem one_none3 (h : FW ks l c lo hi f) (h1 : 127 ≤ f.getD (Int.toNat 0) 0) (h2 : f.getD (Int.toNat 0) 0 < 160) : oneSignF ks = none := by
  unfold oneSignF; rw [h.1]; exact if_neg fun h => h.2.2.1 ⟨h1, h2⟩
theorem one_none4 {b u : Array UInt8} (h : FW ks l c lo hi f) (hb : KBw.bInts b = ks) (hu : KBw.bInts u = utf8F (f.getD (Int.toNat 0) 0)) (h1 : (u.toList != b.toList) = true) : oneSignF ks = none := by
  rw [bne_ints hu hb] at h1
  simp only [Bool.not_eq_true', decide_eq_false_iff_not] at h1
  unfold oneSignF; rw [h.1]; exact if_neg fun h => h1 h.2.2.2
theorem one_some {b u : Array UInt8} (h : FW ks l c lo hi f) (h1 : (f.length : Int) = 1) (h2 : ¬ f.getD (Int.toNat 0) 0 < 32) (h3 : ¬ (127 ≤ f.getD (Int.toNat 0) 0 ∧ f.getD (Int.toNat 0) 0 < 160)) (hb : KBw.bInts b = ks) (hu : KBw.bInts u = utf8F (f.getD (Int.toNat 0) 0)) (h4 : (u.toList != b.toList) = false) : oneSignF ks = some (f.getD (Int.toNat 0) 0) := by
  rw [bne_ints hu hb] at h4
  simp only [Bool.not_eq_false', decide_eq_true_eq] at h4
  unfold oneSignF; rw [h.1]; exact if_pos ⟨by exact_mod_cast h1, h2, h3, h4⟩
end
end Mine
end

section
open PySem PySem.W PySem.Calls PySem.Spec PyProof.Rows
set_option maxRecDepth 100000
set_option maxHeartbeats 8000000
set_option linter.unusedSimpArgs false
namespace Mine

section



theorem con_key_one_sign (ks : List Int) (b : Array UInt8) (t : Tok) (hb : KBw.bInts b = ks) (hl : ks.length ≤ 64) : ConV 295 [.bytes b t] 5 [] (fun r => (oneSignF ks = none ∧ r = .none) ∨ ∃ n t', oneSignF ks = some n ∧ r = .int n t') := by
  w_top off
  k_with_none
  k_with "execs cons" => k_fold
  k_with "execs cons" => ((with_reducible refine st_norm (g' := s.gens) (d' := s.drawn) (os' := s.os) rfl rfl rfl fun tk => ?_); (try k_fold))
  k_with "k_room" => ((try simp only [depth_under_make, depth_under_kw, depth_in1, depth_deeper, depth_caller]); (try dsimp only [ktrTop]); omega)
  k_with "k_enter" => (refine' code_def ?k1 ?k2 ?k3 ?k4 ?k5 ?kA ?kF ?kK ?k6 ?k7 ?k8 ?k9 ?kB ?_ ?c2 ?c3 ?c4 ?c5; (case kA => exact rfl); (case kF => exact rfl); (case kK => assumption); (case k1 => k_asm); (case k2 => k_asm); (case k3 => k_asm); (case k4 => k_asm); (case k5 => k_asm); (case k6 => k_is); (case k7 => k_is); (case k8 => k_room); (case k9 => first | exact BindsTo.of_eq rfl | exact binds_K (by k_in) rfl (by k_is) rfl rfl rfl); (case c5 => decide); (case kB => exact locs rfl); (case c2 => exact rfl); (case c3 => exact rfl); (case c4 => exact rfl); k_whole; intro g' L' h' FG' F' N' B' X' T'; (try dsimp only); (try k_fold))
  k_with "call ref" => (k_here; (with_reducible show wpAny _ _ (call (Value.ref 146) [Value.int _ _]) _ _ _); k_dflt (refine' con_useV (con_utf8_octets _ _ (by omega) (one_hi (by assumption) (by assumption))) ?k1 ?k2 ?k3 ?k4 ?k5 ?kK ?kd ?ku ?ko ?_; (case k1 => k_asm); (case k2 => k_asm); (case k3 => k_asm); (case k4 => k_asm); (case k5 => k_asm); (case kK => first | exact rfl | assumption); (case kd => first | (dsimp only [ktrTop]; omega) | (simp only [depth_under_make, depth_under_kw, depth_in1, depth_deeper, depth_caller]; (try dsimp only [ktrTop]); omega)); (case ku => first | (dsimp only [ktrTop]; omega) | (simp only [units_in1, units_deeper, Around.mark_units, units_caller]; (try dsimp only [ktrTop]); omega)); (case ko => first | exact List.forall_mem_nil _ | k_sub); k_whole; intro r' h' tk' F' N' hst' hr'; obtain ⟨bU, tU, hE, hU⟩ := hr'; subst hE))
  k_with "call ref" => (k_here; (with_reducible show wpAny _ _ (call (Value.ref 61) [Value.int _ _]) _ _ _); k_dflt (refine' con_use (con_sign_lead _ _) ?k1 ?k2 ?k3 ?k4 ?k5 ?kK ?kd ?ku ?ko ?_; (case k1 => k_asm); (case k2 => k_asm); (case k3 => k_asm); (case k4 => k_asm); (case k5 => k_asm); (case kK => first | exact rfl | assumption); (case kd => first | (dsimp only [ktrTop]; omega) | (simp only [depth_under_make, depth_under_kw, depth_in1, depth_deeper, depth_caller]; (try dsimp only [ktrTop]); omega)); (case ku => first | (dsimp only [ktrTop]; omega) | (simp only [units_in1, units_deeper, Around.mark_units, units_caller]; (try dsimp only [ktrTop]); omega)); (case ko => first | exact List.forall_mem_nil _ | k_sub); k_whole; intro r' tl' h' tk' F' N' hne' hst' hr'; obtain ⟨hL, hE1, hE2⟩ | ⟨ea, eb, ec, ed, eD, eta, etb, etc, etd, hL, hE1, hE2⟩ := hr'; (all_goals (subst hE1 hE2)); (all_goals (simp only [List.nil_append, List.cons_append] at N')); (all_goals (try (replace hne' := allNe_of hne'; simp only [AllNe, and_true] at hne')))))
  k_with "call ref" => (k_here; (with_reducible show wpAny _ _ (call (Value.ref 128) _) _ _ _); k_dflt (refine' new_reader ?k1 ?k2 ?k3 ?k4 ?k5 ?kK ?kd ?ku ?_; (case k1 => k_asm); (case k2 => k_asm); (case k3 => k_asm); (case k4 => k_asm); (case k5 => k_asm); (case kK => first | exact rfl | assumption); (case kd => first | (dsimp only [ktrTop]; omega) | (simp only [depth_under_make, depth_under_kw, depth_in1, depth_deeper, depth_caller]; (try dsimp only [ktrTop]); omega)); (case ku => first | (dsimp only [ktrTop]; omega) | (simp only [units_in1, units_deeper, Around.mark_units, units_caller]; (try dsimp only [ktrTop]); omega)); k_whole); intro x' d' t0' t1' t2' t3' t4' u1' u2' u3' u4' h' tk' lxd' F' N'; (try k_sweep))
  k_with "kst_facts" => ((try dsimp only) <;> first | exact IntsAre.nil | with_reducible assumption | exact IntsAre.append (by with_reducible assumption) (.cons _ _ .nil) | exact IntsAre.append (IntsAre.append (by with_reducible assumption) (.cons _ _ .nil)) (.cons _ _ .nil))
  k_with "pyIter bytes" => k_dflt (k_state (fun pre l c lo hi f => FW pre l c lo hi f ∧ 0 ≤ l ∧ l ≤ 3 ∧ 0 ≤ c ∧ c ≤ 1114111 ∧ f.length ≤ 2 * pre.length) "self.left" "self.code" "self.low" "self.high" "found")
  k_with "InvEndN" => (k_dflt kst_close)
  k_with "state" => first
  | exact feed_start
  | exact feed_go1 (by assumption) (by assumption) (by assumption) (by assumption) (by assumption) (by assumption) (by assumption) (by assumption) (by assumption) (by assumption) (by assumption)
  | exact feed_go2 (by assumption) (by assumption) (by assumption) (by assumption) (by assumption) (by assumption) (by assumption) (by assumption) (by assumption) (by assumption) (by assumption)
  | exact feed_lead (by assumption) (by assumption) (by assumption) (by assumption) (by assumption) (by assumption) (by assumption) (by omega) (by first | exact if_pos (by omega) | exact if_neg (by omega))
  | exact feed_none (by assumption) (by assumption) (by assumption) (by assumption) (by assumption) (by assumption) (by assumption) (by assumption) (by omega) (by first | exact if_pos (by omega) | exact if_neg (by omega)) (by first | exact if_pos (by omega) | exact if_neg (by omega))
  (try unfold ConV)
  unfold Con
  k_fill
  intro w p loose mean mg mb dp un gd cn cs a ccd cl outer A₀ base h₀ L m s Q E B F X N T hk hd hu hret
  k_dflt (refine' con_enterV (binds := [(PySem.Str.ofString "octets", .bytes b t)]) B F X N T hk hret ?k8 ?k6 ?k7 ?k9 ?kB ?_ ?c5 ?c2 ?c3 ?c4; (case k6 => k_is); (case k7 => k_is); (case k8 => omega); (case k9 => exact BindsTo.of_eq rfl); (case c5 => decide); (case kB => exact locs rfl); (case c2 => exact rfl); (case c3 => exact rfl); (case c4 => exact rfl); k_whole)
  clear hret B F N T X hk
  intro g' L' h' tk' F' N' B' X' T' l1 hret
  (try k_lt l1)
  (try simp only [List.reverse_cons, List.reverse_nil, List.nil_append, List.cons_append] at F')
  (try k_fold)
  k_steps
  all_goals (refine hret _ _ _ _ _ (by assumption) (by assumption) (List.forall_mem_nil _) ?_)
  all_goals (first
    | exact .inl ⟨one_none1 (by assumption) (by assumption), rfl⟩
    | exact .inl ⟨one_none2 (by assumption) (by assumption), rfl⟩
    | exact .inl ⟨one_none3 (by assumption) (by assumption) (by assumption), rfl⟩
    | exact .inl ⟨one_none4 (by assumption) (by assumption) (by assumption) (by assumption), rfl⟩
    | exact .inr ⟨_, _, one_some (by assumption) (by assumption) (by assumption) (by omega) (by assumption) (by assumption) (by assumption), rfl⟩)
end
end Mine
end

section
open PySem PySem.W PySem.Calls PySem.Spec PyProof.Rows
set_option maxRecDepth 100000
set_option maxHeartbeats 8000000
set_option linter.unusedSimpArgs false
set_option linter.unusedVariables false
namespace Mine

noncomputable def modBit (a : Int) : Option Int := if a = 67 ∨ a = 99 then some 4 else if a = 77 ∨ a = 109 then some 2 else if a = 83 ∨ a = 115 then some 1 else none
noncomputable def splitStep (q : Int) (ks : List Int) : Option (Int × List Int) :=
  if 1 < ks.length ∧ ks.take 1 = [94] then some (Builtin.bitOr q 4, ks.drop 1)
  else if 2 < ks.length ∧ (ks.drop 1).take 1 = [45] then (modBit (ks.getD 0 0)).map fun m => (Builtin.bitOr q m, ks.drop 2)
  else none
noncomputable def splitRun : Nat → Int → List Int → Int × List Int
  | 0, q, ks => (q, ks)
  | n + 1, q, ks => match splitStep q ks with | some (q', ks') => splitRun n q' ks' | none => (q, ks)
noncomputable def splitF (q : Int) (ks : List Int) : Int × List Int := splitRun ks.length q ks
theorem step_less {q q' : Int} {ks ks' : List Int} (h : splitStep q ks = some (q', ks')) : ks'.length < ks.length := by
  unfold splitStep at h
  split at h
  · simp only [Option.some.injEq, Prod.mk.injEq] at h
    rw [← h.2, List.length_drop]; omega
  · split at h
    · obtain ⟨m, _, hm⟩ := Option.map_eq_some_iff.mp h
      simp only [Prod.mk.injEq] at hm
      rw [← hm.2, List.length_drop]; omega
    · cases h
theorem step_nil {q : Int} : splitStep q [] = none := by
  unfold splitStep
  rw [if_neg (fun h => absurd h.1 (by decide)), if_neg (fun h => absurd h.1 (by decide))]
theorem run_same : ∀ (n m : Nat) (q : Int) (ks : List Int), ks.length ≤ n → ks.length ≤ m → splitRun n q ks = splitRun m q ks
  | 0, 0, _, _, _, _ => rfl
  | 0, m + 1, q, ks, h, _ => by
    have : ks = [] := List.length_eq_zero_iff.mp (Nat.le_zero.mp h)
    subst this
    show (q, []) = match splitStep q [] with | some (q', ks') => splitRun m q' ks' | none => (q, [])
    rw [step_nil]
  | n + 1, 0, q, ks, _, h => by
    have : ks = [] := List.length_eq_zero_iff.mp (Nat.le_zero.mp h)
    subst this
    show (match splitStep q [] with | some (q', ks') => splitRun n q' ks' | none => (q, [])) = (q, [])
    rw [step_nil]
  | n + 1, m + 1, q, ks, h1, h2 => by
    show (match splitStep q ks with | some (q', ks') => splitRun n q' ks' | none => (q, ks)) = match splitStep q ks with | some (q', ks') => splitRun m q' ks' | none => (q, ks)
    cases hs : splitStep q ks with
    | none => rfl
    | some x =>
      obtain ⟨q', ks'⟩ := x
      have := step_less hs
      exact run_same n m q' ks' (by omega) (by omega)
theorem split_step {q q' : Int} {ks ks' : List Int} (h : splitStep q ks = some (q', ks')) : splitF q ks = splitF q' ks' := by
  have hl := step_less h
  unfold splitF
  cases hn : ks.length with
  | zero => omega
  | succ n =>
    show (match splitStep q ks with | some (q', ks') => splitRun n q' ks' | none => (q, ks)) = _
    rw [h]
    exact run_same _ _ _ _ (by omega) (by omega)
theorem split_stop {q : Int} {ks : List Int} (h : splitStep q ks = none) : splitF q ks = (q, ks) := by
  unfold splitF
  cases hn : ks.length with
  | zero => rfl
  | succ n =>
    show (match splitStep q ks with | some (q', ks') => splitRun n q' ks' | none => (q, ks)) = _
    rw [h]
/-- between the turns -/
noncomputable def SW (ks : List Int) (q : Int) (ahead : Bool) (o : Array UInt8) : Prop := (if ahead then splitF q (KBw.bInts o) else (q, KBw.bInts o)) = splitF 0 ks ∧ 0 ≤ q ∧ q ≤ 7 ∧ (KBw.bInts o).length ≤ 64
theorem or_in {q m : Int} (h0 : 0 ≤ q) (h7 : q ≤ 7) (hm : m = 4 ∨ m = 2 ∨ m = 1) : 0 ≤ Builtin.bitOr q m ∧ Builtin.bitOr q m ≤ 7 := by
  have : q = 0 ∨ q = 1 ∨ q = 2 ∨ q = 3 ∨ q = 4 ∨ q = 5 ∨ q = 6 ∨ q = 7 := by omega
  rcases this with rfl | rfl | rfl | rfl | rfl | rfl | rfl | rfl <;> rcases hm with rfl | rfl | rfl <;> decide
theorem mod_C {a : Int} (h : a = 67 ∨ a = 99) : modBit a = some 4 := by unfold modBit; rw [if_pos h]
theorem mod_M {a : Int} (h : a = 77 ∨ a = 109) : modBit a = some 2 := by unfold modBit; rw [if_neg (by omega), if_pos h]
theorem mod_S {a : Int} (h : a = 83 ∨ a = 115) : modBit a = some 1 := by unfold modBit; rw [if_neg (by omega), if_neg (by omega), if_pos h]
theorem mod_N {a : Int} (h : ¬ (a = 67 ∨ a = 99)) (h2 : ¬ (a = 77 ∨ a = 109)) (h3 : ¬ (a = 83 ∨ a = 115)) : modBit a = none := by unfold modBit; rw [if_neg h, if_neg h2, if_neg h3]
theorem mod_in {a m : Int} (h : modBit a = some m) : m = 4 ∨ m = 2 ∨ m = 1 := by
  unfold modBit at h
  split at h
  · exact .inl (Option.some.inj h).symm
  · split at h
    · exact .inr (.inl (Option.some.inj h).symm)
    · split at h
      · exact .inr (.inr (Option.some.inj h).symm)
      · cases h
section
variable {ks kz : List Int} {q m : Int} {av : Bool} {o p1 p2 p3 : Array UInt8}
theorem head_eq (hO : KBw.bInts o = kz) (hk : KBw.bInts p1 = List.take (clipAt kz.length 1) kz) (h1 : (1 : Int) < kz.length) (c : UInt8) : (p1.toList == #[c].toList) = decide (kz.take 1 = [(c.toNat : Int)]) := by
  have e : clipAt kz.length 1 = 1 := by rw [show (1 : Int) = ((1 : Nat) : Int) from rfl, clipAt_nat]; omega
  rw [e] at hk
  exact beq_ints hk rfl
theorem mid_eq (hO : KBw.bInts o = kz) (hk : KBw.bInts p2 = List.take (clipAt kz.length 2 - clipAt kz.length 1) (List.drop (clipAt kz.length 1) kz)) (h1 : (2 : Int) < kz.length) (c : UInt8) : (p2.toList == #[c].toList) = decide ((kz.drop 1).take 1 = [(c.toNat : Int)]) := by
  have e : clipAt kz.length 1 = 1 := by rw [show (1 : Int) = ((1 : Nat) : Int) from rfl, clipAt_nat]; omega
  have e2 : clipAt kz.length 2 = 2 := by rw [show (2 : Int) = ((2 : Nat) : Int) from rfl, clipAt_nat]; omega
  rw [e, e2] at hk
  exact beq_ints hk rfl
theorem tail_1 (hk : KBw.bInts p3 = List.take (kz.length - clipAt kz.length 1) (List.drop (clipAt kz.length 1) kz)) (h1 : (1 : Int) < kz.length) : KBw.bInts p3 = kz.drop 1 := by
  have e : clipAt kz.length 1 = 1 := by rw [show (1 : Int) = ((1 : Nat) : Int) from rfl, clipAt_nat]; omega
  rw [hk, e, List.take_of_length_le (by rw [List.length_drop]; omega)]
theorem tail_2 (hk : KBw.bInts p3 = List.take (kz.length - clipAt kz.length 2) (List.drop (clipAt kz.length 2) kz)) (h1 : (2 : Int) < kz.length) : KBw.bInts p3 = kz.drop 2 := by
  have e : clipAt kz.length 2 = 2 := by rw [show (2 : Int) = ((2 : Nat) : Int) from rfl, clipAt_nat]; omega
  rw [hk, e, List.take_of_length_le (by rw [List.length_drop]; omega)]
theorem sw_caret (hW : (if av = true then splitF q kz else (q, kz)) = splitF 0 ks) (ha : av = true) (hq0 : 0 ≤ q) (hq7 : q ≤ 7) (hzl : kz.length ≤ 64) (hO : KBw.bInts o = kz) (h1 : (1 : Int) < kz.length)
    (hk : KBw.bInts p1 = List.take (clipAt kz.length 1) kz) (hc : (p1.toList == #[94].toList) = true) (hk3 : KBw.bInts p3 = List.take (kz.length - clipAt kz.length 1) (List.drop (clipAt kz.length 1) kz)) : SW ks (Builtin.bitOr q 4) true p3 := by
  rw [head_eq hO hk h1] at hc
  rw [if_pos ha] at hW
  have hs : splitStep q kz = some (Builtin.bitOr q 4, kz.drop 1) := by unfold splitStep; exact if_pos ⟨by omega, of_decide_eq_true hc⟩
  have hb := or_in (m := 4) hq0 hq7 (.inl rfl)
  unfold SW
  rw [tail_1 hk3 h1, if_pos rfl, ← split_step hs]
  exact ⟨hW, hb.1, hb.2, by rw [List.length_drop]; omega⟩
theorem not_caret (hO : KBw.bInts o = kz) (h1 : (1 : Int) < kz.length) (hk : KBw.bInts p1 = List.take (clipAt kz.length 1) kz) (hc : (p1.toList == #[94].toList) = false) : ¬ (1 < kz.length ∧ kz.take 1 = [94]) := by
  rw [head_eq hO hk h1] at hc
  exact fun h => (of_decide_eq_false hc) h.2
theorem sw_mod (hW : (if av = true then splitF q kz else (q, kz)) = splitF 0 ks) (ha : av = true) (hq0 : 0 ≤ q) (hq7 : q ≤ 7) (hzl : kz.length ≤ 64) (hO : KBw.bInts o = kz) (h1 : (1 : Int) < kz.length)
    (hk : KBw.bInts p1 = List.take (clipAt kz.length 1) kz) (hc : (p1.toList == #[94].toList) = false) (h2 : (2 : Int) < kz.length)
    (hk2 : KBw.bInts p2 = List.take (clipAt kz.length 2 - clipAt kz.length 1) (List.drop (clipAt kz.length 1) kz)) (hd : (p2.toList == #[45].toList) = true)
    (hk3 : KBw.bInts p3 = List.take (kz.length - clipAt kz.length 2) (List.drop (clipAt kz.length 2) kz)) (hm : modBit (kz.getD (Int.toNat 0) 0) = some m) : SW ks (Builtin.bitOr q m) true p3 := by
  rw [mid_eq hO hk2 h2] at hd
  rw [if_pos ha] at hW
  have hs : splitStep q kz = some (Builtin.bitOr q m, kz.drop 2) := by
    unfold splitStep
    rw [if_neg (not_caret hO h1 hk hc), if_pos ⟨by omega, of_decide_eq_true hd⟩, show (0 : Nat) = Int.toNat 0 from rfl, hm]; rfl
  have hb := or_in hq0 hq7 (mod_in hm)
  unfold SW
  rw [tail_2 hk3 h2, if_pos rfl, ← split_step hs]
  exact ⟨hW, hb.1, hb.2, by rw [List.length_drop]; omega⟩
theorem sw_stop (hW : (if av = true then splitF q kz else (q, kz)) = splitF 0 ks) (ha : av = true) (hq0 : 0 ≤ q) (hq7 : q ≤ 7) (hzl : kz.length ≤ 64) (hO : KBw.bInts o = kz) (hs : splitStep q kz = none) : SW ks q false o := by
  rw [if_pos ha, split_stop hs] at hW
  unfold SW
  rw [hO]
  exact ⟨hW, hq0, hq7, hzl⟩
theorem stop_1 (h1 : ¬ (1 : Int) < kz.length) : splitStep q kz = none := by
  unfold splitStep
  rw [if_neg (fun h => h1 (by omega)), if_neg (fun h => h1 (by omega))]
theorem stop_2 (hO : KBw.bInts o = kz) (h1 : (1 : Int) < kz.length) (hk : KBw.bInts p1 = List.take (clipAt kz.length 1) kz) (hc : (p1.toList == #[94].toList) = false) (h2 : ¬ (2 : Int) < kz.length) : splitStep q kz = none := by
  unfold splitStep
  rw [if_neg (not_caret hO h1 hk hc), if_neg (fun h => h2 (by omega))]
theorem stop_3 (hO : KBw.bInts o = kz) (h1 : (1 : Int) < kz.length) (hk : KBw.bInts p1 = List.take (clipAt kz.length 1) kz) (hc : (p1.toList == #[94].toList) = false) (h2 : (2 : Int) < kz.length)
    (hk2 : KBw.bInts p2 = List.take (clipAt kz.length 2 - clipAt kz.length 1) (List.drop (clipAt kz.length 1) kz)) (hd : (p2.toList == #[45].toList) = false) : splitStep q kz = none := by
  rw [mid_eq hO hk2 h2] at hd
  unfold splitStep
  rw [if_neg (not_caret hO h1 hk hc), if_neg (fun h => (of_decide_eq_false hd) h.2)]
theorem stop_4 (hO : KBw.bInts o = kz) (h1 : (1 : Int) < kz.length) (hk : KBw.bInts p1 = List.take (clipAt kz.length 1) kz) (hc : (p1.toList == #[94].toList) = false) (h2 : (2 : Int) < kz.length)
    (hk2 : KBw.bInts p2 = List.take (clipAt kz.length 2 - clipAt kz.length 1) (List.drop (clipAt kz.length 1) kz)) (hd : (p2.toList == #[45].toList) = true) (hm : modBit (kz.getD (Int.toNat 0) 0) = none) : splitStep q kz = none := by
  rw [mid_eq hO hk2 h2] at hd
  unfold splitStep
  rw [if_neg (not_caret hO h1 hk hc), if_pos ⟨by omega, of_decide_eq_true hd⟩, show (0 : Nat) = Int.toNat 0 from rfl, hm]; rfl
theorem ms_stop (ha : av = true) : (if false = true then o.size + 1 else 0) < if av = true then o.size + 1 else 0 := by
  rw [if_pos ha]; simp
theorem ms_1 (ha : av = true) (hO : KBw.bInts o = kz) (h1 : (1 : Int) < kz.length) (hk3 : KBw.bInts p3 = List.take (kz.length - clipAt kz.length 1) (List.drop (clipAt kz.length 1) kz)) : (if true = true then p3.size + 1 else 0) < if av = true then o.size + 1 else 0 := by
  have h2 := tail_1 hk3 h1
  rw [if_pos ha, if_pos rfl, ← KBw.ints_length p3, ← KBw.ints_length o, h2, hO, List.length_drop]; omega
theorem ms_2 (ha : av = true) (hO : KBw.bInts o = kz) (h1 : (2 : Int) < kz.length) (hk3 : KBw.bInts p3 = List.take (kz.length - clipAt kz.length 2) (List.drop (clipAt kz.length 2) kz)) : (if true = true then p3.size + 1 else 0) < if av = true then o.size + 1 else 0 := by
  have h2 := tail_2 hk3 h1
  rw [if_pos ha, if_pos rfl, ← KBw.ints_length p3, ← KBw.ints_length o, h2, hO, List.length_drop]; omega
theorem sw_start {b : Array UInt8} (hb : KBw.bInts b = ks) (hl : ks.length ≤ 64) : SW ks 0 true b := by
  unfold SW; rw [hb]; exact ⟨if_pos rfl, by decide, by decide, hl⟩
theorem sw_end (hW : (if av = true then splitF q kz else (q, kz)) = splitF 0 ks) (ha : av = false) : splitF 0 ks = (q, kz) := by
  rw [← hW, ha]; rfl
end
noncomputable def SplitIs (ks : List Int) (tl : Led) (r : Value) : Prop :=
  ∃ (q : Int) (o : Array UInt8) (kz : List Int) (D : Addr) (tq t : Tok), splitF 0 ks = (q, kz) ∧ 0 ≤ q ∧ q ≤ 7 ∧ kz.length ≤ 64 ∧ KBw.bInts o = kz ∧ r = .ref D ∧ tl = [(D, { cls := Value.type "tuple", data := Data.seq #[.int q tq, .bytes o t] })]
theorem split_ret {ks kz : List Int} {q : Int} {o : Array UInt8} {g h' : Heap} {L' D : Addr} {m' : Str → Option Value} {s : Shared} {tk' : Nat} {Q : Value → Shared → Prop} {tq t : Tok} {rest : Led}
    (hret : ∀ r (tl : Led) h' tk' m' (news' : Led), Fr g L' h' m' → News g L' h' news' → (∀ q ∈ tl, q ∈ news') → (∀ q ∈ ([] : Led), q ∈ news') → (∀ q ∈ tl, ∀ z ∈ ([] : Led), q.1 ≠ z.1) → SplitIs ks tl r → Q r { s with heap := h', toks := tk' })
    (F : Fr g L' h' m') (N : News g L' h' ((D, { cls := Value.type "tuple", data := Data.seq #[.int q tq, .bytes o t] }) :: rest)) (e : splitF 0 ks = (q, kz)) (h0 : 0 ≤ q) (h7 : q ≤ 7) (hl : kz.length ≤ 64) (hO : KBw.bInts o = kz) : Q (.ref D) { s with heap := h', toks := tk' } :=
  hret (.ref D) [_] h' tk' m' _ F N (fun z hz => by rw [List.mem_singleton.mp hz]; exact List.mem_cons_self ..) (List.forall_mem_nil _) (fun _ _ _ h => nomatch h) ⟨q, o, kz, D, tq, t, e, h0, h7, hl, hO, rfl, rfl⟩

section
theorem con_key_split (ks : List Int) (b : Array UInt8) (t : Tok) (hb : KBw.bInts b = ks) (hl : ks.length ≤ 64) : Con 302 [.bytes b t] 2 [] (fun _ tl r => SplitIs ks tl r) := by
  w_top off
  k_with_none
  k_with "execs cons" => k_fold
  k_with "execs cons" => ((with_reducible refine st_norm (g' := s.gens) (d' := s.drawn) (os' := s.os) rfl rfl rfl fun tk => ?_); (try k_fold))
  k_with "k_room" => ((try simp only [depth_under_make, depth_under_kw, depth_in1, depth_deeper, depth_caller]); (try dsimp only [ktrTop]); omega)
  k_with "k_enter" => (refine' code_def ?k1 ?k2 ?k3 ?k4 ?k5 ?kA ?kF ?kK ?k6 ?k7 ?k8 ?k9 ?kB ?_ ?c2 ?c3 ?c4 ?c5; (case kA => exact rfl); (case kF => exact rfl); (case kK => assumption); (case k1 => k_asm); (case k2 => k_asm); (case k3 => k_asm); (case k4 => k_asm); (case k5 => k_asm); (case k6 => k_is); (case k7 => k_is); (case k8 => k_room); (case k9 => first | exact BindsTo.of_eq rfl | exact binds_K (by k_in) rfl (by k_is) rfl rfl rfl); (case c5 => decide); (case kB => exact locs rfl); (case c2 => exact rfl); (case c3 => exact rfl); (case c4 => exact rfl); k_whole; intro g' L' h' FG' F' N' B' X' T'; (try dsimp only); (try k_fold))
  k_with "exec While" => (refine Hold.in ?_)
  k_with "exec While" => (refine Hold.in ?_)
  k_with "UnrEndW" => k_dflt ktu_end
  k_with "subscriptTail" => (k_here; (with_reducible show wpAny _ _ (subscriptTail _ _ (Value.bytes _ _) (Value.int _ _)) _ _ _); (refine KBw.item_K (by kba_ints) (by kba_size) (by kba_idx) (by kba_idx) ?_); intro _ _ kbaLo kbaHi)
  k_with "subscriptTail" => (k_here; (with_reducible show wpAny _ _ (subscriptTail _ (Expr.Slice _ _ none _) (Value.bytes _ _) (Value.ref _)) _ _ _); (with_reducible rename Fr _ _ _ _ => F'); (with_reducible rename News _ _ _ _ => N'); (refine KBc.slice_K (s := ⟨_, _, _, _, _⟩) F' N' (by kba_ints) (by constructor) (by constructor) (by kba_size) ?_); intro _ _ _ _ _ kbcK; (try simp only [Option.elim, KBc.clip_lit, clipAt_nat, List.drop_zero, Nat.sub_zero] at kbcK))
  k_with "ite" => (k_here; (with_reducible show if ((_ : Int) == (_ : Int)) = true then _ else _); first | (refine ite_pos (by rw [beq_iff_eq]; omega) ?_; walk_say "PR") | (refine ite_neg (by rw [beq_iff_eq]; omega) ?_; walk_say "PR"))
  k_with "measure" => first
    | exact ms_stop (by assumption)
    | exact ms_1 (by assumption) (by assumption) (by assumption) (by assumption)
    | exact ms_2 (by assumption) (by assumption) (by assumption) (by assumption)
  k_with "state" => first
    | exact sw_start (by assumption) (by assumption)
    | exact sw_caret (by assumption) (by assumption) (by assumption) (by assumption) (by assumption) (by assumption) (by assumption) (by assumption) (by assumption) (by assumption)
    | exact sw_mod (by assumption) (by assumption) (by assumption) (by assumption) (by assumption) (by assumption) (by assumption) (by assumption) (by assumption) (by assumption) (by assumption) (by assumption) (by assumption) (by first | exact mod_C (by omega) | exact mod_M (by omega) | exact mod_S (by omega))
    | exact sw_stop (by assumption) (by assumption) (by assumption) (by assumption) (by assumption) (by assumption) (stop_1 (by omega))
    | exact sw_stop (by assumption) (by assumption) (by assumption) (by assumption) (by assumption) (by assumption) (stop_2 (by assumption) (by assumption) (by assumption) (by assumption) (by omega))
    | exact sw_stop (by assumption) (by assumption) (by assumption) (by assumption) (by assumption) (by assumption) (stop_3 (by assumption) (by assumption) (by assumption) (by assumption) (by assumption) (by assumption) (by assumption))
    | exact sw_stop (by assumption) (by assumption) (by assumption) (by assumption) (by assumption) (by assumption) (stop_4 (by assumption) (by assumption) (by assumption) (by assumption) (by assumption) (by assumption) (by assumption) (mod_N (by omega) (by omega) (by omega)))
  (try unfold ConV)
  unfold Con
  k_fill
  intro w p loose mean mg mb dp un gd cn cs a ccd cl outer A₀ base h₀ L m s Q E B F X N T hk hd hu hret
  k_dflt (refine' con_enterO (binds := [(PySem.Str.ofString "octets", .bytes b t)]) B F X N T hk hret ?k8 ?k6 ?k7 ?k9 ?kB ?_ ?c5 ?c2 ?c3 ?c4; (case k6 => k_is); (case k7 => k_is); (case k8 => omega); (case k9 => exact BindsTo.of_eq rfl); (case c5 => decide); (case kB => exact locs rfl); (case c2 => exact rfl); (case c3 => exact rfl); (case c4 => exact rfl); k_whole)
  clear hret B F N T X hk
  intro g' L' h' tk' F' N' B' X' T' l1 hret
  (try k_lt l1)
  (try simp only [List.reverse_cons, List.reverse_nil, List.nil_append, List.cons_append] at F')
  (try k_fold)
  k_steps
  all_goals (refine Hold.out ?_)
  k_while (fun _ q a o => SW ks q a o) (fun _ q a o => if a then o.size + 1 else 0) "held" "is_ahead" "octets"
  rename_i q tq av o to
  obtain ⟨hW, hq0, hq7, hzl⟩ := kInv
  generalize hO : KBw.bInts o = kz at hW hzl
  k_steps
  
  all_goals (exact split_ret (s := s) hret (by assumption) (by assumption) (sw_end (by assumption) (by assumption)) (by assumption) (by assumption) (by assumption) (by assumption))
end
end Mine
end

section
open PySem PySem.W PySem.Calls PySem.Spec PyProof.Rows
set_option maxRecDepth 100000
set_option maxHeartbeats 8000000
set_option linter.unusedSimpArgs false
set_option linter.unusedVariables false
namespace Mine
/-- an element's end: the value, and nothing that stood is changed -/
noncomputable def EltV (v : Value) (s₃ : Shared) (y : Value) (s₄ : Shared) : Prop := y = v ∧ Keeps s₃ s₄
theorem EltV.mk' {v y : Value} {s₃ : Shared} {h' : Heap} {tk : Nat} (e : y = v) (hk : s₃.heap.StaysIn h') : EltV v s₃ y { s₃ with heap := h', toks := tk } := ⟨e, h', tk, rfl, hk⟩
theorem paired_map {G : Value → Value} {vs : List Value} : ∀ ys : List Value, Paired (fun v y => y = G v) vs ys → ys = vs.map G := by
  induction vs with
  | nil => intro ys h; cases h; rfl
  | cons v vs ih =>
    intro ys h
    cases h with
    | cons h t => rw [h, ih _ t]; rfl
/-- a comprehension over a tuple whose elements are known values -/
theorem comp_tup {prog : Program} {w : World} {A : Around} {h₀ : Heap} {L : Addr} {env : Env} {m : Str → Option Value} {news : Led} {elt iter : PySem.Expr} {x : Str} {px : Pos} {scope : Scope} {pos : Pos} {s : Shared} {Q E : Value → Shared → Prop} {T : Addr} {items ys : List Value} (G : Value → Value) (hG : items.map G = ys)
    (F : Fr h₀ L s.heap m) (N : News h₀ L s.heap news) (hh : A.handled = none) (hT : IsTup s.heap T items.toArray) (hl : items.length ≤ 4096)
    (hfree : ∀ y ∈ scope.names, y.2 ≠ .free) (hcell : ∀ y ∈ scope.names, y.2 ≠ .cell) (hkind : scope.kind = .function)
    (hnames : ∀ y ∈ scope.names, y.2 = .local → scope.names.lookup y.1 = some .local) (hx : scope.names.lookup x = some .local)
    (hit : ∀ Q : Value → Shared → Prop, Q (.ref T) s → wpAny (model prog w) A (eval iter env) Q E s)
    (helt : ∀ C v s₃ m₃ E', v ∈ items → s₃.heap.Ns C m₃ → m₃ x = some v → Fr h₀ L s₃.heap m → News h₀ L s₃.heap news → InElt s₃.heap s₃.heap →
      wpAny (model prog w) A (eval elt (compEnv scope C env)) (fun y s₄ => EltV (G v) s₃ y s₄) E' s₃)
    (hQ : ∀ D h' tk k, Fr h₀ L h' m → News h₀ L h' ((D, { cls := .type "list", data := .seq ys.toArray k }) :: news) → Q (.ref D) { s with heap := h', toks := tk })
    (hs : ∀ x, foldedSetIterable iter env x = pure x) :
    wpAny (model prog w) A (eval (.ListComp elt [⟨.Name x px, iter, [], 0⟩] scope pos) env) Q E s := by
  subst hG
  obtain ⟨oT, hoT, hcT, nT, hdT⟩ := id hT
  have hTlt : T < s.heap.objs.size := Heap.lt_size hoT
  have hall : ∀ {h' : Heap} {I : Addr} {oI : Obj}, I = s.heap.objs.size → (∀ b o, b ∉ [I] → (s.heap.push oI).get? b = some o → h'.get? b = some o) → ∀ b o, s.heap.get? b = some o → h'.get? b = some o := by
    intro h' I oI hI hk c o e
    refine hk c o ?_ (Heap.get?_push_of_some _ e)
    rw [hI]
    intro hm
    exact absurd (Heap.lt_size e) ((List.mem_singleton.mp hm) ▸ Nat.lt_irrefl _)
  refine wpAny_ListComp_walk (fun _ => true) (fun v y => y = G v) hfree hcell hkind hnames hx (hit _ ?_) hs
  refine wpAny_pyIter_tuple (t := T) (items := items.toArray) hT ?_
  refine ⟨_, _, _, items.toArray.size, _, _, rfl, Walks.tuple hh s.heap.objs.size T (Nat.ne_of_lt hTlt) items.toArray, ?_, ⟨⟨_, Heap.get?_push_size _ rfl, rfl, rfl⟩, ⟨oT, Heap.get?_push_of_some _ hoT, hcT, nT, hdT⟩⟩, ?_, ⟨?_, ?_⟩, ?_⟩
  · rw [sizeLine_eq, List.size_toArray]; omega
  · intro a ha
    rcases List.mem_cons.mp ha with rfl | ha
    · exact Heap.lt_size (Heap.get?_push_size _ rfl)
    · rw [List.mem_singleton.mp ha]
      exact Heap.lt_size (Heap.get?_push_of_some _ hoT)
  · intro C i v s₃ m₃ E' _ _ _ _ _
    exact wpAny_pure ⟨rfl, s₃.heap, s₃.toks, rfl, fun _ _ e => e⟩
  · rintro C i v s₃ m₃ E' hc _ hn hm hk _
    have hk' := hall rfl hk
    have hmem : v ∈ items := by
      have hc' : items[i]? = some v := by simpa using hc
      exact List.mem_of_getElem? hc'
    refine wpAny_mono (helt C v s₃ m₃ E' hmem hn hm (F.keeps hk') (N.grown hk') (InElt.start _)) (fun y s₄ h₄ => h₄) fun _ _ e => e
  · intro D h' tk ys vs hD hlD hpl hlen hP hF hk
    have hk' := hall rfl hk
    have hvs : (vs.filter fun _ => true) = vs := List.filter_eq_self.mpr fun _ _ => rfl
    rw [hvs] at hF
    have hvi : vs = items := by
      refine List.ext_getElem? fun j => ?_
      cases hj : vs[j]? with
      | none =>
        have : vs.length ≤ j := List.getElem?_eq_none_iff.mp hj
        rw [hlen, List.size_toArray] at this
        exact (List.getElem?_eq_none_iff.mpr this).symm
      | some v => have := hP j v hj; simpa using this.symm
    have hys := paired_map _ hF
    rw [hvi] at hys
    have hnone : s.heap.get? D = none := by
      cases e : s.heap.get? D with
      | none => rfl
      | some o => rw [Heap.get?_push_of_some _ e] at hD; cases hD
    have hDn : h₀.get? D = none := by
      cases e : h₀.get? D with
      | none => rfl
      | some o => rw [F.keep _ _ e] at hnone; cases hnone
    have hDL : D ≠ L := by
      rintro rfl
      obtain ⟨oL, _, _, hL, _⟩ := F.ns
      rw [hL] at hnone; cases hnone
    obtain ⟨n, hp⟩ := hpl
    refine hQ D h' tk n (F.keeps hk') (fun q hq => ?_)
    rcases List.mem_cons.mp hq with rfl | hq
    · rw [← hys, Array.toArray_toList]
      exact ⟨hp, hDL, hDn⟩
    · exact N.grown hk' q hq
/-- the first item of a written row -/
noncomputable def rowHead (K : Frag) (v : Value) : Option Value := match v with
  | .ref a => match K.lookup a with
    | some ⟨.type "tuple", _, .seq xs _, _⟩ => xs[0]?
    | _ => none
  | _ => none
noncomputable def rowVal (w : World) (v : Value) : Value := (rowHead (heapK w.params) v).getD .none
noncomputable def rowOk (w : World) (v : Value) : Bool := (rowHead (heapK w.params) v).isSome
theorem rowHead_get {K : Frag} {h₀ : Heap} {v y : Value} (X : K.In h₀) (h : rowHead K v = some y) : ∃ a xs, v = .ref a ∧ IsTup h₀ a xs ∧ xs[0]? = some y := by
  unfold rowHead at h
  split at h
  · rename_i a
    split at h
    · rename_i hl
      exact ⟨a, _, rfl, ⟨_, X _ _ hl, rfl, _, rfl⟩, h⟩
    · cases h
  · cases h
theorem rowVal_get {w : World} {h₀ : Heap} {items : List Value} {v : Value} (X : (heapK w.params).In h₀) (h : items.all (rowOk w) = true) (hv : v ∈ items) : ∃ a xs, v = .ref a ∧ IsTup h₀ a xs ∧ xs[0]? = some (rowVal w v) := by
  have h1 := List.all_eq_true.mp h v hv
  unfold rowOk at h1
  obtain ⟨y, hy⟩ := Option.isSome_iff_exists.mp h1
  obtain ⟨a, xs, e, ht, hx⟩ := rowHead_get X hy
  refine ⟨a, xs, e, ht, ?_⟩
  unfold rowVal
  rw [hy]; exact hx
/-- a comprehension over a tuple of written rows -/
theorem comp_rows {prog : Program} {w : World} {A : Around} {h₀ : Heap} {L : Addr} {env : Env} {m : Str → Option Value} {news : Led} {elt iter : PySem.Expr} {x : Str} {px : Pos} {scope : Scope} {pos : Pos} {s : Shared} {Q E : Value → Shared → Prop} {T : Addr} {items ys : List Value}
    (X : (heapK w.params).In h₀) (F : Fr h₀ L s.heap m) (N : News h₀ L s.heap news) (hh : A.handled = none) (hT : IsTup s.heap T items.toArray) (hG : items.map (rowVal w) = ys) (hok : items.all (rowOk w) = true) (hl : items.length ≤ 4096)
    (hfree : ∀ y ∈ scope.names, y.2 ≠ .free) (hcell : ∀ y ∈ scope.names, y.2 ≠ .cell) (hkind : scope.kind = .function)
    (hnames : ∀ y ∈ scope.names, y.2 = .local → scope.names.lookup y.1 = some .local) (hx : scope.names.lookup x = some .local)
    (hit : ∀ Q : Value → Shared → Prop, Q (.ref T) s → wpAny (model prog w) A (eval iter env) Q E s)
    (helt : ∀ C a xs s₃ m₃ E', .ref a ∈ items → IsTup s₃.heap a xs → xs[0]? = some (rowVal w (.ref a)) → s₃.heap.Ns C m₃ → m₃ x = some (.ref a) → Fr h₀ L s₃.heap m → News h₀ L s₃.heap news → InElt s₃.heap s₃.heap →
      wpAny (model prog w) A (eval elt (compEnv scope C env)) (fun y s₄ => EltV (rowVal w (.ref a)) s₃ y s₄) E' s₃)
    (hQ : ∀ D h' tk k, Fr h₀ L h' m → News h₀ L h' ((D, { cls := .type "list", data := .seq ys.toArray k }) :: news) → Q (.ref D) { s with heap := h', toks := tk })
    (hs : ∀ x, foldedSetIterable iter env x = pure x) :
    wpAny (model prog w) A (eval (.ListComp elt [⟨.Name x px, iter, [], 0⟩] scope pos) env) Q E s := by
  refine comp_tup (rowVal w) hG F N hh hT hl hfree hcell hkind hnames hx hit ?_ hQ hs
  intro C v s₃ m₃ E' hv hn hm F₃ N₃ hi
  obtain ⟨a, xs, e, ⟨o, ho, r⟩, hx⟩ := rowVal_get X hok hv
  subst e
  exact helt C a xs s₃ m₃ E' hv ⟨o, F₃.keep _ _ ho, r⟩ hx hn hm F₃ N₃ hi
end Mine
end

section
open PySem PySem.W PySem.Calls PySem.Spec PyProof.Rows
set_option maxRecDepth 100000
set_option maxHeartbeats 8000000
set_option linter.unusedSimpArgs false
set_option linter.unusedVariables false
namespace Mine

noncomputable def names1 : List Value := [.bytes #[85, 112] 380, .bytes #[68, 111, 119, 110] 382, .bytes #[82, 105, 103, 104, 116] 384, .bytes #[76, 101, 102, 116] 386, .bytes #[69, 110, 100] 388, .bytes #[72, 111, 109, 101] 390, .bytes #[70, 49] 392, .bytes #[70, 50] 394, .bytes #[70, 51] 396, .bytes #[70, 52] 398, .bytes #[73, 110, 115, 101, 114, 116] 401, .bytes #[68, 101, 108, 101, 116, 101] 403, .bytes #[80, 97, 103, 101, 85, 112] 405, .bytes #[80, 97, 103, 101, 68, 111, 119, 110] 407, .bytes #[70, 53] 409, .bytes #[70, 54] 411, .bytes #[70, 55] 413, .bytes #[70, 56] 415, .bytes #[70, 57] 417, .bytes #[70, 49, 48] 419, .bytes #[70, 49, 49] 421, .bytes #[70, 49, 50] 423, .bytes #[70, 49, 51] 425, .bytes #[70, 49, 52] 427, .bytes #[70, 49, 53] 429, .bytes #[70, 49, 54] 431, .bytes #[70, 49, 55] 433, .bytes #[70, 49, 56] 435, .bytes #[70, 49, 57] 437, .bytes #[70, 50, 48] 439, .bytes #[84, 97, 98] 442, .bytes #[69, 110, 116, 101, 114] 444, .bytes #[69, 115, 99, 97, 112, 101] 446, .bytes #[66, 83, 112, 97, 99, 101] 448]
noncomputable def names2 : List Value := [.bytes #[75, 80, 48] 451, .bytes #[75, 80, 49] 455, .bytes #[75, 80, 50] 459, .bytes #[75, 80, 51] 463, .bytes #[75, 80, 52] 467, .bytes #[75, 80, 53] 471, .bytes #[75, 80, 54] 475, .bytes #[75, 80, 55] 479, .bytes #[75, 80, 56] 483, .bytes #[75, 80, 57] 487, .bytes #[75, 80, 46] 491, .bytes #[75, 80, 47] 495, .bytes #[75, 80, 42] 499, .bytes #[75, 80, 45] 503, .bytes #[75, 80, 43] 507, .bytes #[75, 80, 69, 110, 116, 101, 114] 511, .bytes #[75, 80, 61] 515, .bytes #[75, 80, 44] 519]
noncomputable def nameVals (t : Tok) : List Value := names1 ++ names2 ++ [.bytes #[83, 112, 97, 99, 101] t]
noncomputable def names : List (List Int) := [[85, 112], [68, 111, 119, 110], [82, 105, 103, 104, 116], [76, 101, 102, 116], [69, 110, 100], [72, 111, 109, 101], [70, 49], [70, 50], [70, 51], [70, 52], [73, 110, 115, 101, 114, 116], [68, 101, 108, 101, 116, 101], [80, 97, 103, 101, 85, 112], [80, 97, 103, 101, 68, 111, 119, 110], [70, 53], [70, 54], [70, 55], [70, 56], [70, 57], [70, 49, 48], [70, 49, 49], [70, 49, 50], [70, 49, 51], [70, 49, 52], [70, 49, 53], [70, 49, 54], [70, 49, 55], [70, 49, 56], [70, 49, 57], [70, 50, 48], [84, 97, 98], [69, 110, 116, 101, 114], [69, 115, 99, 97, 112, 101], [66, 83, 112, 97, 99, 101], [75, 80, 48], [75, 80, 49], [75, 80, 50], [75, 80, 51], [75, 80, 52], [75, 80, 53], [75, 80, 54], [75, 80, 55], [75, 80, 56], [75, 80, 57], [75, 80, 46], [75, 80, 47], [75, 80, 42], [75, 80, 45], [75, 80, 43], [75, 80, 69, 110, 116, 101, 114], [75, 80, 61], [75, 80, 44], [83, 112, 97, 99, 101]]
theorem row_at {xs : Array Value} {y : Value} (h : xs[0]? = some y) : seqIndex? 0 xs.size = some 0 := by
  have h1 : 0 < xs.size := by
    cases hs : xs.size with
    | zero => rw [Array.getElem?_eq_none (by omega)] at h; cases h
    | succ n => omega
  have h2 : (0 : Int) < xs.size := by omega
  have h3 : ¬ (xs = #[]) := fun e => by rw [e] at h1; exact absurd h1 (by decide)
  simp [seqIndex?, h3]
noncomputable def NamesIs (tl : Led) (r : Value) : Prop := ∃ (D : Addr) (t : Tok) (k : Nat), r = .ref D ∧ tl = [(D, W.listOf (nameVals t).toArray k)]
theorem names_ret {g h' : Heap} {L' D : Addr} {m' : Str → Option Value} {s : Shared} {tk' k : Nat} {Q : Value → Shared → Prop} {t : Tok} {rest : Led}
    (hret : ∀ r (tl : Led) h' tk' m' (news' : Led), Fr g L' h' m' → News g L' h' news' → (∀ q ∈ tl, q ∈ news') → (∀ q ∈ ([] : Led), q ∈ news') → (∀ q ∈ tl, ∀ z ∈ ([] : Led), q.1 ≠ z.1) → NamesIs tl r → Q r { s with heap := h', toks := tk' })
    (F : Fr g L' h' m') (N : News g L' h' ((D, W.listOf (nameVals t).toArray k) :: rest)) : Q (.ref D) { s with heap := h', toks := tk' } :=
  hret (.ref D) [_] h' tk' m' _ F N (fun z hz => by rw [List.mem_singleton.mp hz]; exact List.mem_cons_self ..) (List.forall_mem_nil _) (fun _ _ _ h => nomatch h) ⟨D, t, k, rfl, rfl⟩
section


theorem con_key_names : Con 281 [] 2 [] (fun _ tl r => NamesIs tl r) := by
  w_top off
  k_with_none
  k_with "execs cons" => k_fold
  k_with "execs cons" => ((with_reducible refine st_norm (g' := s.gens) (d' := s.drawn) (os' := s.os) rfl rfl rfl fun tk => ?_); (try k_fold))
  k_with "EltV" => (exact EltV.mk' rfl (fun _ _ e => e))
  k_with "subscriptTail" => (k_here; (with_reducible show wpAny _ _ (subscriptTail _ _ (Value.ref _) (Value.int 0 _)) _ _ _); (with_reducible rename IsTup _ _ _ => hT'); k_dflt (refine item_tuple (j := 0) hT' (by decide) (by decide) (row_at (by assumption)) (by assumption) ?_ (by with_unfolding_all rfl) (by intro _; with_unfolding_all rfl)))
  k_with "k_room" => ((try simp only [depth_under_make, depth_under_kw, depth_in1, depth_deeper, depth_caller]); (try dsimp only [ktrTop]); omega)
  k_with "k_enter" => (refine' code_def ?k1 ?k2 ?k3 ?k4 ?k5 ?kA ?kF ?kK ?k6 ?k7 ?k8 ?k9 ?kB ?_ ?c2 ?c3 ?c4 ?c5; (case kA => exact rfl); (case kF => exact rfl); (case kK => assumption); (case k1 => k_asm); (case k2 => k_asm); (case k3 => k_asm); (case k4 => k_asm); (case k5 => k_asm); (case k6 => k_is); (case k7 => k_is); (case k8 => k_room); (case k9 => first | exact BindsTo.of_eq rfl | exact binds_K (by k_in) rfl (by k_is) rfl rfl rfl); (case c5 => decide); (case kB => exact locs rfl); (case c2 => exact rfl); (case c3 => exact rfl); (case c4 => exact rfl); k_whole; intro g' L' h' FG' F' N' B' X' T'; (try dsimp only); (try k_fold))
  k_with "UnrEndW" => k_dflt ktu_end
  k_with "subscriptTail" => (k_here; (with_reducible show wpAny _ _ (subscriptTail _ _ (Value.bytes _ _) (Value.int _ _)) _ _ _); (refine KBw.item_K (by kba_ints) (by kba_size) (by kba_idx) (by kba_idx) ?_); intro _ _ kbaLo kbaHi)
  k_with "subscriptTail" => (k_here; (with_reducible show wpAny _ _ (subscriptTail _ (Expr.Slice _ _ none _) (Value.bytes _ _) (Value.ref _)) _ _ _); (with_reducible rename Fr _ _ _ _ => F'); (with_reducible rename News _ _ _ _ => N'); (refine KBc.slice_K (s := ⟨_, _, _, _, _⟩) F' N' (by kba_ints) (by constructor) (by constructor) (by kba_size) ?_); intro _ _ _ _ _ kbcK; (try simp only [Option.elim, KBc.clip_lit, clipAt_nat, List.drop_zero, Nat.sub_zero] at kbcK))
  k_with "ite" => (k_here; (with_reducible show if ((_ : Int) == (_ : Int)) = true then _ else _); first | (refine ite_pos (by rw [beq_iff_eq]; omega) ?_; walk_say "PR") | (refine ite_neg (by rw [beq_iff_eq]; omega) ?_; walk_say "PR"))
  k_with "binaryOp Add ref ref" => (k_here; k_dflt (refine' kde_addT ?k1 ?k2 ?k3 ?k4 ?k5 ?k6 ?k7 ?k8 ?_; (case k1 => k_asm); (case k2 => k_asm); (case k3 => kun_tup); (case k4 => kun_tup); (case k5 => exact List.cons_ne_nil _ _); (case k6 => exact List.cons_ne_nil _ _); (case k7 => exact Nat.le_of_ble_eq_true rfl); (case k8 => kun_lit); k_whole); intro D' h' F' N' l1; (try k_lt l1))
  k_with "eval ListComp" => (k_here; k_dflt (refine' comp_rows (ys := names1) ?kX ?k1 ?k2 ?k3 ?k4 ?kG ?kO ?k5 ?k6 ?k7 ?k8 ?k9 ?k10 ?k11 ?_ ?_ ?k14; (case kX => k_asm); (case k1 => k_asm); (case k2 => k_asm); (case k3 => exact rfl); (case k11 => (intro Qq hq; walk1; exact hq)); (case k4 => kun_tup); (case kG => exact rfl); (case kO => exact rfl); (case k6 => decide); (case k7 => decide); (case k8 => exact rfl); (case k9 => decide); (case k10 => exact rfl); (case k14 => intro _; with_unfolding_all rfl); (case k5 => exact Nat.le_of_ble_eq_true rfl); k_whole))
  k_with "eval ListComp" => (k_here; k_dflt (refine' comp_rows (ys := names2) ?kX ?k1 ?k2 ?k3 ?k4 ?kG ?kO ?k5 ?k6 ?k7 ?k8 ?k9 ?k10 ?k11 ?_ ?_ ?k14; (case kX => k_asm); (case k1 => k_asm); (case k2 => k_asm); (case k3 => exact rfl); (case k11 => (intro Qq hq; walk1; exact hq)); (case k4 => kun_tup); (case kG => exact rfl); (case kO => exact rfl); (case k6 => decide); (case k7 => decide); (case k8 => exact rfl); (case k9 => decide); (case k10 => exact rfl); (case k14 => intro _; with_unfolding_all rfl); (case k5 => exact Nat.le_of_ble_eq_true rfl); k_whole))
  (try unfold ConV)
  unfold Con
  k_fill
  intro w p loose mean mg mb dp un gd cn cs a ccd cl outer A₀ base h₀ L m s Q E B F X N T hk hd hu hret
  k_dflt (refine' con_enterO (binds := []) B F X N T hk hret ?k8 ?k6 ?k7 ?k9 ?kB ?_ ?c5 ?c2 ?c3 ?c4; (case k6 => k_is); (case k7 => k_is); (case k8 => omega); (case k9 => exact BindsTo.of_eq rfl); (case c5 => decide); (case kB => exact locs rfl); (case c2 => exact rfl); (case c3 => exact rfl); (case c4 => exact rfl); k_whole)
  clear hret B F N T X hk
  intro g' L' h' tk' F' N' B' X' T' l1 hret
  (try k_lt l1)
  (try simp only [List.reverse_cons, List.reverse_nil, List.nil_append, List.cons_append] at F')
  (try k_fold)
  k_steps
  all_goals (exact names_ret (s := s) hret (by assumption) (by assumption))
end
end Mine
end

section
open PySem PySem.W PySem.Calls PySem.Spec PyProof.Rows
set_option maxRecDepth 100000
set_option maxHeartbeats 8000000
set_option linter.unusedSimpArgs false
set_option linter.unusedVariables false
namespace Mine

noncomputable def aliases : List (List Int × List Int) := [([105, 99], [73, 110, 115, 101, 114, 116]), ([100, 99], [68, 101, 108, 101, 116, 101]), ([112, 112, 97, 103, 101], [80, 97, 103, 101, 85, 112]), ([112, 103, 117, 112], [80, 97, 103, 101, 85, 112]), ([110, 112, 97, 103, 101], [80, 97, 103, 101, 68, 111, 119, 110]), ([112, 103, 100, 110], [80, 97, 103, 101, 68, 111, 119, 110])]
noncomputable def namedF (ks : List Int) : Option (List Int) :=
  match aliases.find? (fun p => decide (p.1 = ks.map lowF)) with
  | some p => some p.2
  | none => names.find? (fun n => decide (n.map lowF = ks.map lowF))
theorem names_len {i : Nat} {nm : List Int} (h : names[i]? = some nm) : nm.length ≤ 64 := (by decide : ∀ nm ∈ names, nm.length ≤ 64) nm (List.mem_of_getElem? h)
inductive BytesAre : List Value → List (List Int) → Prop
  | nil : BytesAre [] []
  | cons (c : Array UInt8) (t : Tok) {vs : List Value} {ns : List (List Int)} (r : BytesAre vs ns) : BytesAre (.bytes c t :: vs) (KBw.bInts c :: ns)
theorem BytesAre.length {vs : List Value} {ns : List (List Int)} (h : BytesAre vs ns) : vs.length = ns.length := by
  induction h with
  | nil => rfl
  | cons _ _ _ ih => simp [ih]
theorem BytesAre.get {vs : List Value} {ns : List (List Int)} (h : BytesAre vs ns) : ∀ (i : Nat) (v : Value), vs[i]? = some v → ∃ c t, v = .bytes c t ∧ ns[i]? = some (KBw.bInts c) := by
  induction h with
  | nil => intro i v h; cases h
  | cons c t r ih =>
    intro i v h
    cases i with
    | zero => simp at h; exact ⟨c, t, h.symm, by simp⟩
    | succ i => simp at h; simpa using ih i v h
theorem nameVals_are (t : Tok) : BytesAre (nameVals t) names := by
  unfold nameVals names names1 names2
  repeat (first | exact .nil | refine .cons _ _ ?_)
theorem low_in {b : Array UInt8} {ks : List Int} (hb : KBw.bInts b = ks) : ks = KBw.bInts b := hb.symm
section
variable {ks z : List Int} {b : Array UInt8}
theorem al_ne {c : Array UInt8} (hb : KBw.bInts b = z) (h : (c.toList == b.toList) = false) : ¬ (KBw.bInts c = z) := by
  rw [beq_ints rfl hb] at h; exact of_decide_eq_false h
theorem al_eq {c : Array UInt8} (hb : KBw.bInts b = z) (h : (c.toList == b.toList) = true) : KBw.bInts c = z := by
  rw [beq_ints rfl hb] at h; exact of_decide_eq_true h
theorem al_0 (hb : KBw.bInts b = ks.map lowF)  (h0 : ((#[105, 99] : Array UInt8).toList == b.toList) = true) : namedF ks = some (KBw.bInts (#[73, 110, 115, 101, 114, 116] : Array UInt8)) := by
  have g0 := decide_eq_true (al_eq hb h0)
  unfold namedF aliases
  rw [List.find?_cons_of_pos (by exact g0)]
  rfl
theorem al_1 (hb : KBw.bInts b = ks.map lowF) (h0 : ((#[105, 99] : Array UInt8).toList == b.toList) = false) (h1 : ((#[100, 99] : Array UInt8).toList == b.toList) = true) : namedF ks = some (KBw.bInts (#[68, 101, 108, 101, 116, 101] : Array UInt8)) := by
  have g0 := decide_eq_false (al_ne hb h0)
  have g1 := decide_eq_true (al_eq hb h1)
  unfold namedF aliases
  rw [List.find?_cons_of_neg (by intro h; dsimp only at h; exact absurd (h.symm.trans g0) (by decide))]
  rw [List.find?_cons_of_pos (by exact g1)]
  rfl
theorem al_2 (hb : KBw.bInts b = ks.map lowF) (h0 : ((#[105, 99] : Array UInt8).toList == b.toList) = false) (h1 : ((#[100, 99] : Array UInt8).toList == b.toList) = false) (h2 : ((#[112, 112, 97, 103, 101] : Array UInt8).toList == b.toList) = true) : namedF ks = some (KBw.bInts (#[80, 97, 103, 101, 85, 112] : Array UInt8)) := by
  have g0 := decide_eq_false (al_ne hb h0)
  have g1 := decide_eq_false (al_ne hb h1)
  have g2 := decide_eq_true (al_eq hb h2)
  unfold namedF aliases
  rw [List.find?_cons_of_neg (by intro h; dsimp only at h; exact absurd (h.symm.trans g0) (by decide))]
  rw [List.find?_cons_of_neg (by intro h; dsimp only at h; exact absurd (h.symm.trans g1) (by decide))]
  rw [List.find?_cons_of_pos (by exact g2)]
  rfl
theorem al_3 (hb : KBw.bInts b = ks.map lowF) (h0 : ((#[105, 99] : Array UInt8).toList == b.toList) = false) (h1 : ((#[100, 99] : Array UInt8).toList == b.toList) = false) (h2 : ((#[112, 112, 97, 103, 101] : Array UInt8).toList == b.toList) = false) (h3 : ((#[112, 103, 117, 112] : Array UInt8).toList == b.toList) = true) : namedF ks = some (KBw.bInts (#[80, 97, 103, 101, 85, 112] : Array UInt8)) := by
  have g0 := decide_eq_false (al_ne hb h0)
  have g1 := decide_eq_false (al_ne hb h1)
  have g2 := decide_eq_false (al_ne hb h2)
  have g3 := decide_eq_true (al_eq hb h3)
  unfold namedF aliases
  rw [List.find?_cons_of_neg (by intro h; dsimp only at h; exact absurd (h.symm.trans g0) (by decide))]
  rw [List.find?_cons_of_neg (by intro h; dsimp only at h; exact absurd (h.symm.trans g1) (by decide))]
  rw [List.find?_cons_of_neg (by intro h; dsimp only at h; exact absurd (h.symm.trans g2) (by decide))]
  rw [List.find?_cons_of_pos (by exact g3)]
  rfl
theorem al_4 (hb : KBw.bInts b = ks.map lowF) (h0 : ((#[105, 99] : Array UInt8).toList == b.toList) = false) (h1 : ((#[100, 99] : Array UInt8).toList == b.toList) = false) (h2 : ((#[112, 112, 97, 103, 101] : Array UInt8).toList == b.toList) = false) (h3 : ((#[112, 103, 117, 112] : Array UInt8).toList == b.toList) = false) (h4 : ((#[110, 112, 97, 103, 101] : Array UInt8).toList == b.toList) = true) : namedF ks = some (KBw.bInts (#[80, 97, 103, 101, 68, 111, 119, 110] : Array UInt8)) := by
  have g0 := decide_eq_false (al_ne hb h0)
  have g1 := decide_eq_false (al_ne hb h1)
  have g2 := decide_eq_false (al_ne hb h2)
  have g3 := decide_eq_false (al_ne hb h3)
  have g4 := decide_eq_true (al_eq hb h4)
  unfold namedF aliases
  rw [List.find?_cons_of_neg (by intro h; dsimp only at h; exact absurd (h.symm.trans g0) (by decide))]
  rw [List.find?_cons_of_neg (by intro h; dsimp only at h; exact absurd (h.symm.trans g1) (by decide))]
  rw [List.find?_cons_of_neg (by intro h; dsimp only at h; exact absurd (h.symm.trans g2) (by decide))]
  rw [List.find?_cons_of_neg (by intro h; dsimp only at h; exact absurd (h.symm.trans g3) (by decide))]
  rw [List.find?_cons_of_pos (by exact g4)]
  rfl
theorem al_5 (hb : KBw.bInts b = ks.map lowF) (h0 : ((#[105, 99] : Array UInt8).toList == b.toList) = false) (h1 : ((#[100, 99] : Array UInt8).toList == b.toList) = false) (h2 : ((#[112, 112, 97, 103, 101] : Array UInt8).toList == b.toList) = false) (h3 : ((#[112, 103, 117, 112] : Array UInt8).toList == b.toList) = false) (h4 : ((#[110, 112, 97, 103, 101] : Array UInt8).toList == b.toList) = false) (h5 : ((#[112, 103, 100, 110] : Array UInt8).toList == b.toList) = true) : namedF ks = some (KBw.bInts (#[80, 97, 103, 101, 68, 111, 119, 110] : Array UInt8)) := by
  have g0 := decide_eq_false (al_ne hb h0)
  have g1 := decide_eq_false (al_ne hb h1)
  have g2 := decide_eq_false (al_ne hb h2)
  have g3 := decide_eq_false (al_ne hb h3)
  have g4 := decide_eq_false (al_ne hb h4)
  have g5 := decide_eq_true (al_eq hb h5)
  unfold namedF aliases
  rw [List.find?_cons_of_neg (by intro h; dsimp only at h; exact absurd (h.symm.trans g0) (by decide))]
  rw [List.find?_cons_of_neg (by intro h; dsimp only at h; exact absurd (h.symm.trans g1) (by decide))]
  rw [List.find?_cons_of_neg (by intro h; dsimp only at h; exact absurd (h.symm.trans g2) (by decide))]
  rw [List.find?_cons_of_neg (by intro h; dsimp only at h; exact absurd (h.symm.trans g3) (by decide))]
  rw [List.find?_cons_of_neg (by intro h; dsimp only at h; exact absurd (h.symm.trans g4) (by decide))]
  rw [List.find?_cons_of_pos (by exact g5)]
  rfl
theorem al_no (hb : KBw.bInts b = ks.map lowF) (h0 : ((#[105, 99] : Array UInt8).toList == b.toList) = false) (h1 : ((#[100, 99] : Array UInt8).toList == b.toList) = false) (h2 : ((#[112, 112, 97, 103, 101] : Array UInt8).toList == b.toList) = false) (h3 : ((#[112, 103, 117, 112] : Array UInt8).toList == b.toList) = false) (h4 : ((#[110, 112, 97, 103, 101] : Array UInt8).toList == b.toList) = false) (h5 : ((#[112, 103, 100, 110] : Array UInt8).toList == b.toList) = false) : namedF ks = names.find? (fun n => decide (n.map lowF = ks.map lowF)) := by
  have g0 := decide_eq_false (al_ne hb h0)
  have g1 := decide_eq_false (al_ne hb h1)
  have g2 := decide_eq_false (al_ne hb h2)
  have g3 := decide_eq_false (al_ne hb h3)
  have g4 := decide_eq_false (al_ne hb h4)
  have g5 := decide_eq_false (al_ne hb h5)
  unfold namedF aliases
  rw [List.find?_cons_of_neg (by intro h; dsimp only at h; exact absurd (h.symm.trans g0) (by decide))]
  rw [List.find?_cons_of_neg (by intro h; dsimp only at h; exact absurd (h.symm.trans g1) (by decide))]
  rw [List.find?_cons_of_neg (by intro h; dsimp only at h; exact absurd (h.symm.trans g2) (by decide))]
  rw [List.find?_cons_of_neg (by intro h; dsimp only at h; exact absurd (h.symm.trans g3) (by decide))]
  rw [List.find?_cons_of_neg (by intro h; dsimp only at h; exact absurd (h.symm.trans g4) (by decide))]
  rw [List.find?_cons_of_neg (by intro h; dsimp only at h; exact absurd (h.symm.trans g5) (by decide))]
  rfl
end
theorem find_at {α : Type} {p : α → Bool} {l : List α} {i : Nat} {x : α} (h : l[i]? = some x) (hp : p x = true) (hn : ∀ y ∈ l.take i, p y = false) : l.find? p = some x := by
  induction l generalizing i with
  | nil => cases h
  | cons a l ih =>
    cases i with
    | zero =>
      simp at h; subst h
      exact List.find?_cons_of_pos hp
    | succ i =>
      simp at h
      have ha : p a = false := hn a (by simp)
      rw [List.find?_cons_of_neg (by rw [ha]; decide)]
      exact ih h fun y hy => hn y (by simp [hy])
theorem find_no {α : Type} {p : α → Bool} {l : List α} (hn : ∀ y ∈ l, p y = false) : l.find? p = none := by
  rw [List.find?_eq_none]
  intro y hy; rw [hn y hy]; decide
noncomputable def SJ (p : List Int → Bool) (nms : List (List Int)) (x : PySem.Str) (m₀ : PySem.Str → Option Value) (news : Led) (i : Nat) (m : PySem.Str → Option Value) (nx : Led) : Prop :=
  nx = news ∧ (∀ y ∈ nms.take i, p y = false) ∧ ∀ z, z ≠ x → m z = m₀ z
/-- a search over a list of bytes that stores nothing -/
theorem iter_bytes {prog : Program} {w : World} {A : Around} {h₀ : Heap} {env : Env} {x : PySem.Str} {body : List Stmt} {Q : Flow → Shared → Prop} {E : Value → Shared → Prop} {s : Shared} {D : Addr} {oD : Obj} {vs : List Value} {nms : List (List Int)} {m₀ : PySem.Str → Option Value} {news : Led} (p : List Int → Bool)
    (hh : A.handled = none) (F : Fr h₀ env.locals s.heap m₀) (N : News h₀ env.locals s.heap ((D, oD) :: news)) (hc : oD.cls = .type "list") (hd : ∃ k, oD.data = .seq vs.toArray k) (hv : BytesAre vs nms) (hDn : ∀ q ∈ news, q.1 ≠ D)
    (turn : ∀ i c t (m₁ : PySem.Str → Option Value) h tk own, nms[i]? = some (KBw.bInts c) → (∀ y ∈ nms.take i, p y = false) → OwnOff own (news.map (·.1)) → (∀ z, z ≠ x → m₁ z = m₀ z) → Fr h₀ env.locals h (fun y => if y = x then some (.bytes c t) else m₀ y) → News h₀ env.locals h (news ++ own) →
      wpAny (model prog w) A (execs body env) (InvPostN h₀ env.locals (SJ p nms x m₀ news (i + 1)) own (news.map (·.1)) { s with heap := h, toks := tk } Q) E { s with heap := h, toks := tk })
    (done : ∀ (m₁ : PySem.Str → Option Value) h tk, (∀ y ∈ nms, p y = false) → Fr h₀ env.locals h (fun y => if y = x then m₁ y else m₀ y) → News h₀ env.locals h news → Q .next { s with heap := h, toks := tk }) :
    wpAny (model prog w) A (pyIter (.ref D)) (fun it s₂ => LoopAtV prog w A h₀ env x body Q E it s₂) E s := by
  obtain ⟨kD, hd⟩ := hd
  have hoD := (N (D, oD) (.head _)).1
  have hL : s.heap.IsList D vs.toArray := ⟨oD, hoD, hc, kD, hd⟩
  have hlt : D < s.heap.objs.size := Heap.lt_size hoD
  have N2 : News h₀ env.locals s.heap news := fun q hq => N q (.tail _ hq)
  refine wpAny_pyIter_list hL ?_
  have W := Walks.list (prog := prog) (w := w) hh s.heap.objs.size D (Nat.ne_of_lt hlt) vs.toArray
  refine loop_invN (SJ p nms x m₀ news) W ?_ ?_ ?_ ?_ ⟨⟨_, Heap.get?_push_size _ rfl, rfl, rfl⟩, hL.at fun o e => Heap.get?_push_of_some _ e⟩ (F.push _) (fun q hq => ⟨Heap.get?_push_of_some _ (N2 q hq).1, (N2 q hq).2⟩) ⟨rfl, fun _ h => by simp at h, fun _ _ => rfl⟩ ?_ ?_
  · intro hm
    rcases List.mem_cons.mp hm with e | hm
    · exact absurd F.ns.lt (e ▸ Nat.lt_irrefl _)
    · exact (N (D, oD) (.head _)).2.1 (List.mem_singleton.mp hm).symm
  · intro b hb
    rw [List.mem_singleton.mp hb]
    exact next_is_new F
  · intro q hq hI
    exact absurd (Heap.lt_size (N2 q hq).1) ((List.mem_singleton.mp hI) ▸ Nat.lt_irrefl _)
  · intro q hq hI
    rcases List.mem_cons.mp hI with e | hI
    · exact absurd (Heap.lt_size (N2 q hq).1) (by rw [e]; exact Nat.lt_irrefl _)
    · exact hDn q hq (List.mem_singleton.mp hI)
  · rintro i v m₁ news₁ h tk own hi hP _ hoff ⟨rfl, hno, hm⟩ F₁ N₁
    have hP' : vs[i]? = some v := by simpa using hP
    obtain ⟨c, t, rfl, hn⟩ := hv.get i v hP'
    have e : (fun z => if z = x then some (Value.bytes c t) else m₁ z) = fun z => if z = x then some (Value.bytes c t) else m₀ z := by
      funext z
      by_cases h1 : z = x
      · simp [h1]
      · simp only [if_neg h1]; exact hm z h1
    rw [e] at F₁
    exact turn i c t m₁ h tk own hn hno hoff hm F₁ N₁
  · rintro m₁ news₁ h tk ⟨rfl, hno, hm⟩ F₁ N₁
    have hl : vs.toArray.size = nms.length := by simp [hv.length]
    rw [hl, List.take_length] at hno
    refine done m₁ h tk hno ?_ N₁
    have e : (fun z => if z = x then m₁ z else m₀ z) = m₁ := by
      funext z
      by_cases h1 : z = x
      · simp [h1]
      · simp only [if_neg h1]; exact (hm z h1).symm
    rw [e]; exact F₁
theorem low_no {ks : List Int} {c b1 b2 : Array UInt8} (h1 : KBw.bInts b1 = (KBw.bInts c).map lowF) (h2 : KBw.bInts b2 = ks.map lowF) (h : (b1.toList == b2.toList) = false) : decide ((KBw.bInts c).map lowF = ks.map lowF) = false := by
  rw [beq_ints h1 h2] at h; exact h
theorem low_yes {ks : List Int} {c b1 b2 : Array UInt8} (h1 : KBw.bInts b1 = (KBw.bInts c).map lowF) (h2 : KBw.bInts b2 = ks.map lowF) (h : (b1.toList == b2.toList) = true) : decide ((KBw.bInts c).map lowF = ks.map lowF) = true := by
  rw [beq_ints h1 h2] at h; exact h
theorem sj_on {p : List Int → Bool} {nms : List (List Int)} {x : PySem.Str} {m₀ m : PySem.Str → Option Value} {news : Led} {i : Nat} {nm : List Int} (hi : nms[i]? = some nm) (hn : ∀ y ∈ nms.take i, p y = false) (hp : p nm = false) (hm : ∀ z, z ≠ x → m z = m₀ z) : SJ p nms x m₀ news (i + 1) m news := by
  refine ⟨rfl, fun y hy => ?_, hm⟩
  rw [List.take_add_one, hi] at hy
  rcases List.mem_append.mp hy with hy | hy
  · exact hn y hy
  · have : y = nm := by simpa using hy
    rw [this]; exact hp

section

theorem con_key_named (ks : List Int) (b : Array UInt8) (t : Tok) (hb : KBw.bInts b = ks) (hl : ks.length ≤ 64) : ConV 288 [.bytes b t] 6 [] (fun r => (namedF ks = none ∧ r = .none) ∨ ∃ c t', namedF ks = some (KBw.bInts c) ∧ r = .bytes c t') := by
  w_top off
  k_with_none
  k_with "execs cons" => k_fold
  k_with "execs cons" => ((with_reducible refine st_norm (g' := s.gens) (d' := s.drawn) (os' := s.os) rfl rfl rfl fun tk => ?_); (try k_fold))
  k_with "k_room" => ((try simp only [depth_under_make, depth_under_kw, depth_in1, depth_deeper, depth_caller]); (try dsimp only [ktrTop]); omega)
  k_with "k_enter" => (refine' code_def ?k1 ?k2 ?k3 ?k4 ?k5 ?kA ?kF ?kK ?k6 ?k7 ?k8 ?k9 ?kB ?_ ?c2 ?c3 ?c4 ?c5; (case kA => exact rfl); (case kF => exact rfl); (case kK => assumption); (case k1 => k_asm); (case k2 => k_asm); (case k3 => k_asm); (case k4 => k_asm); (case k5 => k_asm); (case k6 => k_is); (case k7 => k_is); (case k8 => k_room); (case k9 => first | exact BindsTo.of_eq rfl | exact binds_K (by k_in) rfl (by k_is) rfl rfl rfl); (case c5 => decide); (case kB => exact locs rfl); (case c2 => exact rfl); (case c3 => exact rfl); (case c4 => exact rfl); k_whole; intro g' L' h' FG' F' N' B' X' T'; (try dsimp only); (try k_fold))
  k_with "UnrEndW" => k_dflt ktu_end
  k_with "subscriptTail" => (k_here; (with_reducible show wpAny _ _ (subscriptTail _ _ (Value.bytes _ _) (Value.int _ _)) _ _ _); (refine KBw.item_K (by kba_ints) (by kba_size) (by kba_idx) (by kba_idx) ?_); intro _ _ kbaLo kbaHi)
  k_with "subscriptTail" => (k_here; (with_reducible show wpAny _ _ (subscriptTail _ (Expr.Slice _ _ none _) (Value.bytes _ _) (Value.ref _)) _ _ _); (with_reducible rename Fr _ _ _ _ => F'); (with_reducible rename News _ _ _ _ => N'); (refine KBc.slice_K (s := ⟨_, _, _, _, _⟩) F' N' (by kba_ints) (by constructor) (by constructor) (by kba_size) ?_); intro _ _ _ _ _ kbcK; (try simp only [Option.elim, KBc.clip_lit, clipAt_nat, List.drop_zero, Nat.sub_zero] at kbcK))
  k_with "ite" => (k_here; (with_reducible show if ((_ : Int) == (_ : Int)) = true then _ else _); first | (refine ite_pos (by rw [beq_iff_eq]; omega) ?_; walk_say "PR") | (refine ite_neg (by rw [beq_iff_eq]; omega) ?_; walk_say "PR"))
  k_with "InvEndN" => (refine InvEndN.intro (by assumption) (by assumption) (sj_on (by assumption) (by assumption) (low_no (by assumption) (by assumption) (by assumption)) (by kba_same)) (by rfl) (by (with_unfolding_all ((try simp only [List.nil_append, List.cons_append]); k_allIn))) (by (intro p hp; k_ownIn)))
  k_with "call ref" => (k_here; (with_reducible show wpAny _ _ (call (Value.ref 276) [_]) _ _ _); k_dflt (refine' con_useV (con_key_lower _ _ _ rfl ?kl) ?k1 ?k2 ?k3 ?k4 ?k5 ?kK ?kd ?ku ?ko ?_; (case kl => assumption); (case k1 => k_asm); (case k2 => k_asm); (case k3 => k_asm); (case k4 => k_asm); (case k5 => k_asm); (case kK => first | exact rfl | assumption); (case kd => first | (dsimp only [ktrTop]; omega) | (simp only [depth_under_make, depth_under_kw, depth_in1, depth_deeper, depth_caller]; (try dsimp only [ktrTop]); omega)); (case ku => first | (dsimp only [ktrTop]; omega) | (simp only [units_in1, units_deeper, Around.mark_units, units_caller]; (try dsimp only [ktrTop]); omega)); (case ko => first | exact List.forall_mem_nil _ | k_sub); k_whole; intro r' h' tk' F' N' hst' hr'; obtain ⟨bl, tl, hE, hbl⟩ := hr'; subst hE))
  k_with "call ref" => (k_here; (with_reducible show wpAny _ _ (call (Value.ref 281) _) _ _ _); k_dflt (refine' con_use con_key_names ?k1 ?k2 ?k3 ?k4 ?k5 ?kK ?kd ?ku ?ko ?_; (case k1 => k_asm); (case k2 => k_asm); (case k3 => k_asm); (case k4 => k_asm); (case k5 => k_asm); (case kK => first | exact rfl | assumption); (case kd => first | (dsimp only [ktrTop]; omega) | (simp only [depth_under_make, depth_under_kw, depth_in1, depth_deeper, depth_caller]; (try dsimp only [ktrTop]); omega)); (case ku => first | (dsimp only [ktrTop]; omega) | (simp only [units_in1, units_deeper, Around.mark_units, units_caller]; (try dsimp only [ktrTop]); omega)); (case ko => first | exact List.forall_mem_nil _ | k_sub); k_whole; intro r' tl' h' tk' F' N' hne' hst' hr'; obtain ⟨Dn, tn, kn, hE1, hE2⟩ := hr'; subst hE1 hE2; (simp only [List.nil_append, List.cons_append] at N')))
  k_with "pyIter ref" => ((with_reducible show wpAny _ _ (pyIter (Value.ref _)) (fun it s₂ => LoopAtV _ _ _ _ _ _ _ _ _ it s₂) _ _); refine Hold.in ?_)
  subst hb
  (try unfold ConV)
  unfold Con
  k_fill
  intro w p loose mean mg mb dp un gd cn cs a ccd cl outer A₀ base h₀ L m s Q E B F X N T hk hd hu hret
  k_dflt (refine' con_enterV (binds := [(PySem.Str.ofString "octets", .bytes b t)]) B F X N T hk hret ?k8 ?k6 ?k7 ?k9 ?kB ?_ ?c5 ?c2 ?c3 ?c4; (case k6 => k_is); (case k7 => k_is); (case k8 => omega); (case k9 => exact BindsTo.of_eq rfl); (case c5 => decide); (case kB => exact locs rfl); (case c2 => exact rfl); (case c3 => exact rfl); (case c4 => exact rfl); k_whole)
  clear hret B F N T X hk
  intro g' L' h' tk' F' N' B' X' T' l1 hret
  (try k_lt l1)
  (try simp only [List.reverse_cons, List.reverse_nil, List.nil_append, List.cons_append] at F')
  (try k_fold)
  k_steps
  all_goals (first | with_reducible refine Hold.out ?_ | (refine hret _ _ _ _ _ (by assumption) (by assumption) (List.forall_mem_nil _) ?_; first
    | exact .inr ⟨_, _, al_0 (by assumption) (by assumption), rfl⟩
    | exact .inr ⟨_, _, al_1 (by assumption) (by assumption) (by assumption), rfl⟩
    | exact .inr ⟨_, _, al_2 (by assumption) (by assumption) (by assumption) (by assumption), rfl⟩
    | exact .inr ⟨_, _, al_3 (by assumption) (by assumption) (by assumption) (by assumption) (by assumption), rfl⟩
    | exact .inr ⟨_, _, al_4 (by assumption) (by assumption) (by assumption) (by assumption) (by assumption) (by assumption), rfl⟩
    | exact .inr ⟨_, _, al_5 (by assumption) (by assumption) (by assumption) (by assumption) (by assumption) (by assumption) (by assumption), rfl⟩))
  have hno := al_no (ks := KBw.bInts b) (by assumption) (by assumption) (by assumption) (by assumption) (by assumption) (by assumption) (by assumption)
  refine iter_bytes (fun n => decide (n.map lowF = (KBw.bInts b).map lowF)) rfl (by assumption) (by assumption) rfl ⟨_, rfl⟩ (nameVals_are _) (List.forall_mem_nil _) ?_ ?_
  · intro i c t m₁ h tk own hi hnone hoff hm F₁ N₁
    have hnl := names_len hi
    k_steps
    all_goals exact hret _ _ _ _ _ (by assumption) (by assumption) (List.forall_mem_nil _) (.inr ⟨_, _, hno.trans (find_at hi (by have := low_yes (ks := KBw.bInts b) (c := c) (by assumption) (by assumption) (by assumption); exact this) hnone), rfl⟩)
  · intro m₁ h tk hnone F₁ N₁
    k_steps
    all_goals exact hret Value.none _ _ _ _ (by assumption) (by assumption) (List.forall_mem_nil _) (.inl ⟨hno.trans (find_no hnone), rfl⟩)
end
end Mine
end

section
open PySem PySem.W PySem.Calls PySem.Spec PyProof.Rows
set_option maxRecDepth 100000
set_option maxHeartbeats 8000000
set_option linter.unusedSimpArgs false
set_option linter.unusedVariables false
namespace Mine

abbrev KeyV := List Int × Int × Int
noncomputable def coreF (q : Int) (kz : List Int) : Option KeyV :=
  match oneSignF kz with
  | some c => some ([], settledF [] c q)
  | none => if kz.map lowF = [98, 116, 97, 98] then some ([84, 97, 98], 0, Builtin.bitOr q 1)
    else match namedF kz with
      | none => none
      | some nm => if nm = [83, 112, 97, 99, 101] then some ([], settledF [] 32 q) else some (nm, 0, q)
noncomputable def readF (ks : List Int) : Option KeyV := coreF (splitF 0 ks).1 (splitF 0 ks).2
section
variable {ks kz nm : List Int} {q n : Int} {b c : Array UInt8}
theorem rd_sign (h1 : splitF 0 ks = (q, kz)) (h2 : oneSignF kz = some n) : readF ks = some ([], (settledF [] n q).1, (settledF [] n q).2) := by
  unfold readF coreF; rw [h1]; dsimp only; rw [h2]
theorem rd_tab (h1 : splitF 0 ks = (q, kz)) (h2 : oneSignF kz = none) (hb : KBw.bInts b = kz.map lowF) (h : (b.toList == (#[98, 116, 97, 98] : Array UInt8).toList) = true) : readF ks = some ([84, 97, 98], 0, Builtin.bitOr q 1) := by
  rw [beq_ints hb rfl] at h
  unfold readF coreF; rw [h1]; dsimp only; rw [h2]; exact if_pos (of_decide_eq_true h)
theorem rd_rest (h1 : splitF 0 ks = (q, kz)) (h2 : oneSignF kz = none) (hb : KBw.bInts b = kz.map lowF) (h : (b.toList == (#[98, 116, 97, 98] : Array UInt8).toList) = false) : readF ks = match namedF kz with
      | none => none
      | some nm => if nm = [83, 112, 97, 99, 101] then some ([], settledF [] 32 q) else some (nm, 0, q) := by
  rw [beq_ints hb rfl] at h
  unfold readF coreF; rw [h1]; dsimp only; rw [h2]; exact if_neg (of_decide_eq_false h)
theorem rd_none (h1 : splitF 0 ks = (q, kz)) (h2 : oneSignF kz = none) (hb : KBw.bInts b = kz.map lowF) (h : (b.toList == (#[98, 116, 97, 98] : Array UInt8).toList) = false) (h3 : namedF kz = none) : readF ks = none := by
  rw [rd_rest h1 h2 hb h, h3]
theorem rd_space (h1 : splitF 0 ks = (q, kz)) (h2 : oneSignF kz = none) (hb : KBw.bInts b = kz.map lowF) (h : (b.toList == (#[98, 116, 97, 98] : Array UInt8).toList) = false) (h3 : namedF kz = some (KBw.bInts c)) (h4 : (c.toList == (#[83, 112, 97, 99, 101] : Array UInt8).toList) = true) : readF ks = some ([], (settledF [] 32 q).1, (settledF [] 32 q).2) := by
  rw [beq_ints rfl rfl] at h4
  rw [rd_rest h1 h2 hb h, h3]; exact if_pos (of_decide_eq_true h4)
theorem rd_name (h1 : splitF 0 ks = (q, kz)) (h2 : oneSignF kz = none) (hb : KBw.bInts b = kz.map lowF) (h : (b.toList == (#[98, 116, 97, 98] : Array UInt8).toList) = false) (h3 : namedF kz = some (KBw.bInts c)) (h4 : (c.toList == (#[83, 112, 97, 99, 101] : Array UInt8).toList) = false) : readF ks = some (KBw.bInts c, 0, q) := by
  rw [beq_ints rfl rfl] at h4
  rw [rd_rest h1 h2 hb h, h3]; exact if_neg (of_decide_eq_false h4)
end
noncomputable def ReadIs (P : Params) (ks : List Int) (tl : Led) (r : Value) : Prop :=
  ∃ (nm : List Int) (c q : Int) (x d : Addr), readF ks = some (nm, c, q) ∧ r = .ref x ∧ KeyIs P nm c q x d tl
theorem read_ret {P : Params} {ks nm : List Int} {c' q' : Int} {g h' : Heap} {L' x d : Addr} {m' : Str → Option Value} {s : Shared} {tk' : Nat} {Q : Value → Shared → Prop} {b : Array UInt8} {tb tc tq te t1 t2 t3 t4 : Tok} {rest : Led}
    (hret : ∀ r (tl : Led) h' tk' m' (news' : Led), Fr g L' h' m' → News g L' h' news' → (∀ q ∈ tl, q ∈ news') → (∀ q ∈ ([] : Led), q ∈ news') → (∀ q ∈ tl, ∀ z ∈ ([] : Led), q.1 ≠ z.1) → ReadIs P ks tl r → Q r { s with heap := h', toks := tk' })
    (F : Fr g L' h' m') (N : News g L' h' ((x, instObj 245 d) :: (d, dictOf [⟨PyData.keyHash P (PySem.Str.ofString "name"), .str (PySem.Str.ofString "name") t1, .bytes b tb⟩, ⟨PyData.keyHash P (PySem.Str.ofString "code"), .str (PySem.Str.ofString "code") t2, .int c' tc⟩,
      ⟨PyData.keyHash P (PySem.Str.ofString "held"), .str (PySem.Str.ofString "held") t3, .int q' tq⟩, ⟨PyData.keyHash P (PySem.Str.ofString "event"), .str (PySem.Str.ofString "event") t4, .int 1 te⟩] 4) :: rest))
    (e : readF ks = some (nm, c', q')) (hb : KBw.bInts b = nm) : Q (.ref x) { s with heap := h', toks := tk' } := by
  refine hret (.ref x) [_, _] h' tk' m' _ F N ?_ (List.forall_mem_nil _) (fun _ _ _ h => nomatch h) ⟨_, c', q', x, d, e, rfl, b, tb, tc, tq, te, t1, t2, t3, t4, hb, rfl⟩
  intro z hz
  rcases List.mem_cons.mp hz with rfl | hz
  · exact List.mem_cons_self ..
  · rw [List.mem_singleton.mp hz]
    exact List.mem_cons_of_mem _ (List.mem_cons_self ..)
theorem read_retS {P : Params} {ks nm : List Int} {c' q' : Int} {g h' : Heap} {L' x d : Addr} {m' : Str → Option Value} {s : Shared} {tk' : Nat} {Q : Value → Shared → Prop} {tl rest : Led}
    (hret : ∀ r (tl : Led) h' tk' m' (news' : Led), Fr g L' h' m' → News g L' h' news' → (∀ q ∈ tl, q ∈ news') → (∀ q ∈ ([] : Led), q ∈ news') → (∀ q ∈ tl, ∀ z ∈ ([] : Led), q.1 ≠ z.1) → ReadIs P ks tl r → Q r { s with heap := h', toks := tk' })
    (F : Fr g L' h' m') (N : News g L' h' (tl ++ rest)) (e : readF ks = some (nm, c', q')) (K : KeyIs P nm c' q' x d tl) : Q (.ref x) { s with heap := h', toks := tk' } :=
  hret (.ref x) tl h' tk' m' _ F N (fun z hz => List.mem_append_left _ hz) (List.forall_mem_nil _) (fun _ _ _ h => nomatch h) ⟨nm, c', q', x, d, e, rfl, K⟩

section

theorem con_read_key (ks : List Int) (b : Array UInt8) (t : Tok) (hb : KBw.bInts b = ks) (hl : ks.length ≤ 64) (hsome : readF ks ≠ none) : Con 309 [.bytes b t] 8 [] (fun w tl r => ReadIs w.params ks tl r) := by
  w_top off
  k_with_none
  k_with "execs cons" => k_fold
  k_with "execs cons" => ((with_reducible refine st_norm (g' := s.gens) (d' := s.drawn) (os' := s.os) rfl rfl rfl fun tk => ?_); (try k_fold))
  k_with "k_room" => ((try simp only [depth_under_make, depth_under_kw, depth_in1, depth_deeper, depth_caller]); (try dsimp only [ktrTop]); omega)
  k_with "k_enter" => (refine' code_def ?k1 ?k2 ?k3 ?k4 ?k5 ?kA ?kF ?kK ?k6 ?k7 ?k8 ?k9 ?kB ?_ ?c2 ?c3 ?c4 ?c5; (case kA => exact rfl); (case kF => exact rfl); (case kK => assumption); (case k1 => k_asm); (case k2 => k_asm); (case k3 => k_asm); (case k4 => k_asm); (case k5 => k_asm); (case k6 => k_is); (case k7 => k_is); (case k8 => k_room); (case k9 => first | exact BindsTo.of_eq rfl | exact binds_K (by k_in) rfl (by k_is) rfl rfl rfl); (case c5 => decide); (case kB => exact locs rfl); (case c2 => exact rfl); (case c3 => exact rfl); (case c4 => exact rfl); k_whole; intro g' L' h' FG' F' N' B' X' T'; (try dsimp only); (try k_fold))
  k_with "UnrEndW" => k_dflt ktu_end
  k_with "subscriptTail" => (k_here; (with_reducible show wpAny _ _ (subscriptTail _ _ (Value.bytes _ _) (Value.int _ _)) _ _ _); (refine KBw.item_K (by kba_ints) (by kba_size) (by kba_idx) (by kba_idx) ?_); intro _ _ kbaLo kbaHi)
  k_with "subscriptTail" => (k_here; (with_reducible show wpAny _ _ (subscriptTail _ (Expr.Slice _ _ none _) (Value.bytes _ _) (Value.ref _)) _ _ _); (with_reducible rename Fr _ _ _ _ => F'); (with_reducible rename News _ _ _ _ => N'); (refine KBc.slice_K (s := ⟨_, _, _, _, _⟩) F' N' (by kba_ints) (by constructor) (by constructor) (by kba_size) ?_); intro _ _ _ _ _ kbcK; (try simp only [Option.elim, KBc.clip_lit, clipAt_nat, List.drop_zero, Nat.sub_zero] at kbcK))
  k_with "ite" => (k_here; (with_reducible show if ((_ : Int) == (_ : Int)) = true then _ else _); first | (refine ite_pos (by rw [beq_iff_eq]; omega) ?_; walk_say "PR") | (refine ite_neg (by rw [beq_iff_eq]; omega) ?_; walk_say "PR"))
  k_with "call ref" => (k_here; (with_reducible show wpAny _ _ (call (Value.ref 302) [_]) _ _ _); k_dflt (refine' con_use (con_key_split _ _ _ ?kb ?kl) ?k1 ?k2 ?k3 ?k4 ?k5 ?kK ?kd ?ku ?ko ?_; (case kb => assumption); (case kl => assumption); (case k1 => k_asm); (case k2 => k_asm); (case k3 => k_asm); (case k4 => k_asm); (case k5 => k_asm); (case kK => first | exact rfl | assumption); (case kd => first | (dsimp only [ktrTop]; omega) | (simp only [depth_under_make, depth_under_kw, depth_in1, depth_deeper, depth_caller]; (try dsimp only [ktrTop]); omega)); (case ku => first | (dsimp only [ktrTop]; omega) | (simp only [units_in1, units_deeper, Around.mark_units, units_caller]; (try dsimp only [ktrTop]); omega)); (case ko => first | exact List.forall_mem_nil _ | k_sub); k_whole; intro r' tl' h' tk' F' N' hne' hst' hr'; obtain ⟨sq, so, sz, sD, stq, st, hS, hS0, hS7, hSl, hSO, hE1, hE2⟩ := hr'; subst hE1 hE2; (simp only [List.nil_append, List.cons_append] at N')))
  k_with "call ref" => (k_here; (with_reducible show wpAny _ _ (call (Value.ref 295) [_]) _ _ _); k_dflt (refine' con_useV (con_key_one_sign _ _ _ ?kb ?kl) ?k1 ?k2 ?k3 ?k4 ?k5 ?kK ?kd ?ku ?ko ?_; (case kb => assumption); (case kl => assumption); (case k1 => k_asm); (case k2 => k_asm); (case k3 => k_asm); (case k4 => k_asm); (case k5 => k_asm); (case kK => first | exact rfl | assumption); (case kd => first | (dsimp only [ktrTop]; omega) | (simp only [depth_under_make, depth_under_kw, depth_in1, depth_deeper, depth_caller]; (try dsimp only [ktrTop]); omega)); (case ku => first | (dsimp only [ktrTop]; omega) | (simp only [units_in1, units_deeper, Around.mark_units, units_caller]; (try dsimp only [ktrTop]); omega)); (case ko => first | exact List.forall_mem_nil _ | k_sub); k_whole; intro r' h' tk' F' N' hst' hr'; obtain ⟨hG, hE⟩ | ⟨gn, gt, hG, hE⟩ := hr' <;> subst hE))
  k_with "call ref" => (k_here; (with_reducible show wpAny _ _ (call (Value.ref 276) [_]) _ _ _); k_dflt (refine' con_useV (con_key_lower _ _ _ ?kb ?kl) ?k1 ?k2 ?k3 ?k4 ?k5 ?kK ?kd ?ku ?ko ?_; (case kb => assumption); (case kl => assumption); (case k1 => k_asm); (case k2 => k_asm); (case k3 => k_asm); (case k4 => k_asm); (case k5 => k_asm); (case kK => first | exact rfl | assumption); (case kd => first | (dsimp only [ktrTop]; omega) | (simp only [depth_under_make, depth_under_kw, depth_in1, depth_deeper, depth_caller]; (try dsimp only [ktrTop]); omega)); (case ku => first | (dsimp only [ktrTop]; omega) | (simp only [units_in1, units_deeper, Around.mark_units, units_caller]; (try dsimp only [ktrTop]); omega)); (case ko => first | exact List.forall_mem_nil _ | k_sub); k_whole; intro r' h' tk' F' N' hst' hr'; obtain ⟨bl, tl, hE, hbl⟩ := hr'; subst hE))
  k_with "call ref" => (k_here; (with_reducible show wpAny _ _ (call (Value.ref 288) [_]) _ _ _); k_dflt (refine' con_useV (con_key_named _ _ _ ?kb ?kl) ?k1 ?k2 ?k3 ?k4 ?k5 ?kK ?kd ?ku ?ko ?_; (case kb => assumption); (case kl => assumption); (case k1 => k_asm); (case k2 => k_asm); (case k3 => k_asm); (case k4 => k_asm); (case k5 => k_asm); (case kK => first | exact rfl | assumption); (case kd => first | (dsimp only [ktrTop]; omega) | (simp only [depth_under_make, depth_under_kw, depth_in1, depth_deeper, depth_caller]; (try dsimp only [ktrTop]); omega)); (case ku => first | (dsimp only [ktrTop]; omega) | (simp only [units_in1, units_deeper, Around.mark_units, units_caller]; (try dsimp only [ktrTop]); omega)); (case ko => first | exact List.forall_mem_nil _ | k_sub); k_whole; intro r' h' tk' F' N' hst' hr'; obtain ⟨hM, hE⟩ | ⟨mc, mt, hM, hE⟩ := hr' <;> subst hE))
  k_with "call ref" => (k_here; (with_reducible show wpAny _ _ (call (Value.ref 271) [_, _, _]) _ _ _); k_dflt (refine' con_use (con_key_settled [] _ _ _ _ _ _ rfl) ?k1 ?k2 ?k3 ?k4 ?k5 ?kK ?kd ?ku ?ko ?_; (case k1 => k_asm); (case k2 => k_asm); (case k3 => k_asm); (case k4 => k_asm); (case k5 => k_asm); (case kK => first | exact rfl | assumption); (case kd => first | (dsimp only [ktrTop]; omega) | (simp only [depth_under_make, depth_under_kw, depth_in1, depth_deeper, depth_caller]; (try dsimp only [ktrTop]); omega)); (case ku => first | (dsimp only [ktrTop]; omega) | (simp only [units_in1, units_deeper, Around.mark_units, units_caller]; (try dsimp only [ktrTop]); omega)); (case ko => first | exact List.forall_mem_nil _ | k_sub); k_whole; intro r' tl' h' tk' F' N' hne' hst' hr'; obtain ⟨kx, kd, hE, hK⟩ := hr'; subst hE))
  k_with "call ref" => (k_here; (with_reducible show wpAny _ _ (call (Value.ref 245) [Value.bytes _ _, Value.int _ _, Value.int _ _]) _ _ _); k_dflt (refine' new_key3 ?k1 ?k2 ?k3 ?k4 ?k5 ?kK ?kd ?ku ?_; (case k1 => k_asm); (case k2 => k_asm); (case k3 => k_asm); (case k4 => k_asm); (case k5 => k_asm); (case kK => first | exact rfl | assumption); (case kd => first | (dsimp only [ktrTop]; omega) | (simp only [depth_under_make, depth_under_kw, depth_in1, depth_deeper, depth_caller]; (try dsimp only [ktrTop]); omega)); (case ku => first | (dsimp only [ktrTop]; omega) | (simp only [units_in1, units_deeper, Around.mark_units, units_caller]; (try dsimp only [ktrTop]); omega)); k_whole); intro x' d' t1' t2' t3' t4' te' h' tk' F' N'; (try k_sweep))
  k_with "exec Raise" => (refine Hold.in ?_)
  (try unfold ConV)
  unfold Con
  k_fill
  intro w p loose mean mg mb dp un gd cn cs a ccd cl outer A₀ base h₀ L m s Q E B F X N T hk hd hu hret
  k_dflt (refine' con_enterO (binds := [(PySem.Str.ofString "octets", .bytes b t)]) B F X N T hk hret ?k8 ?k6 ?k7 ?k9 ?kB ?_ ?c5 ?c2 ?c3 ?c4; (case k6 => k_is); (case k7 => k_is); (case k8 => omega); (case k9 => exact BindsTo.of_eq rfl); (case c5 => decide); (case kB => exact locs rfl); (case c2 => exact rfl); (case c3 => exact rfl); (case c4 => exact rfl); k_whole)
  clear hret B F N T X hk
  intro g' L' h' tk' F' N' B' X' T' l1 hret
  (try k_lt l1)
  (try simp only [List.reverse_cons, List.reverse_nil, List.nil_append, List.cons_append] at F')
  (try k_fold)
  k_steps
  all_goals (first
    | exact absurd (rd_none (by assumption) (by assumption) (by assumption) (by assumption) (by assumption)) hsome
    | exact read_ret (s := s) hret (by assumption) (by assumption) (rd_tab (by assumption) (by assumption) (by assumption) (by assumption)) (by exact rfl)
    | exact read_ret (s := s) hret (by assumption) (by assumption) (rd_name (by assumption) (by assumption) (by assumption) (by assumption) (by assumption) (by assumption)) (by exact rfl)
    | exact read_retS (s := s) hret (by assumption) (by assumption) (rd_space (by assumption) (by assumption) (by assumption) (by assumption) (by assumption) (by assumption)) (by assumption)
    | exact read_retS (s := s) hret (by assumption) (by assumption) (rd_sign (by assumption) (by assumption)) (by assumption))
end
end Mine
end

section
open PySem PySem.W PySem.Calls PySem.Spec PyProof.Rows
set_option maxRecDepth 100000
set_option maxHeartbeats 8000000
set_option linter.unusedSimpArgs false
set_option linter.unusedVariables false
namespace Mine

/-- a contract in one world -/
noncomputable def ConW (w : World) (f : Addr) (vs : List Value) (cost : Nat) (objs : Led) (Ret : Led → Value → Prop) : Prop :=
  ∀ (p : Program) (loose : List Str) (mean : ExcName → Option Value) (mg mb : Str → Option Value) (dp un : Nat) (gd : Option (List Code)) (cn : Str) (cs : Scope) (a : Addr) (ccd : Value) (cl : List (Str × Addr)) (outer : List Env) (A₀ : Around) (base h₀ : Heap) (L : Addr) (m : Str → Option Value) (s : Shared) (Q E : Value → Shared → Prop),
    Below A₀ base outer h₀ → Fr h₀ L s.heap m → (heapK w.params).In h₀ → News h₀ L s.heap objs → Top p loose mean mg mb h₀ → cs.kind = .function → dp + cost < recursionLimit → un + 8 * cost < cLine →
    (∀ r tl h' tk', s.heap.StaysIn h' → (∀ q ∈ tl, h'.get? q.1 = some q.2 ∧ s.heap.get? q.1 = none) → Ret tl r → Q r { s with heap := h', toks := tk' }) →
    wpAny (model Challenge.rw_og0251_01.row.prog w) (ktrTop dp un gd cn cs L a ccd cl outer) (call (.ref f) vs) Q E s
theorem con_useW {f : Addr} {vs : List Value} {cost : Nat} {objs : Led} {w : World} {Ret : Led → Value → Prop} (C : ConW w f vs cost objs Ret)
    {p : Program} {loose : List Str} {mean : ExcName → Option Value} {mg mb : Str → Option Value} {dp un : Nat} {gd : Option (List Code)} {cn : Str} {cs : Scope} {a : Addr} {ccd : Value} {cl : List (Str × Addr)} {outer : List Env} {A₀ : Around} {base h₀ : Heap} {L : Addr} {m : Str → Option Value} {news : Led} {s : Shared} {Q E : Value → Shared → Prop}
    (B : Below A₀ base outer h₀) (F : Fr h₀ L s.heap m) (X : (heapK w.params).In h₀) (N : News h₀ L s.heap news) (T : Top p loose mean mg mb h₀) (hk : cs.kind = .function) (hd : dp + cost < recursionLimit) (hu : un + 8 * cost < cLine) (ho : ∀ q ∈ objs, q ∈ news)
    (ret : ∀ r tl h' tk', Fr h₀ L h' m → News h₀ L h' (tl ++ news) → (∀ q ∈ news, ∀ p ∈ tl, q.1 ≠ p.1) → s.heap.StaysIn h' → Ret tl r → Q r { s with heap := h', toks := tk' }) :
    wpAny (model Challenge.rw_og0251_01.row.prog w) (ktrTop dp un gd cn cs L a ccd cl outer) (call (.ref f) vs) Q E s := by
  refine C p loose mean mg mb dp un gd cn cs a ccd cl outer A₀ base h₀ L m s Q E B F X (fun q hq => N q (ho q hq)) T hk hd hu fun r tl h' tk' hs ht hr => ?_
  obtain ⟨oL, es, ep, hL, hLd, hLk, hLf⟩ := F.ns
  refine ret r tl h' tk' ⟨⟨oL, es, ep, hs L oL hL, hLd, hLk, hLf⟩, fun b o e => hs b o (F.keep b o e), F.above⟩ (fun q hq => ?_) (fun q hq p hp e => ?_) hs hr
  · rcases List.mem_append.mp hq with hq | hq
    · refine ⟨(ht q hq).1, fun e => ?_, ?_⟩
      · have := (ht q hq).2; rw [e, hL] at this; cases this
      · cases hz : h₀.get? q.1 with
        | none => rfl
        | some o => have := (ht q hq).2; rw [F.keep _ _ hz] at this; cases this
    · exact ⟨hs _ _ (N q hq).1, (N q hq).2.1, (N q hq).2.2⟩
  · have h1 := (N q hq).1
    have h2 := (ht p hp).2
    rw [← e, h1] at h2; cases h2
abbrev ConWV (w : World) (f : Addr) (vs : List Value) (cost : Nat) (objs : Led) (RV : Value → Prop) : Prop := ConW w f vs cost objs (fun tl r => tl = [] ∧ RV r)
noncomputable def wordF (k : KeyV) : List Int :=
  (if Builtin.bitAnd k.2.2 4 ≠ 0 then [67, 45] else []) ++ (if Builtin.bitAnd k.2.2 2 ≠ 0 then [77, 45] else []) ++ (if Builtin.bitAnd k.2.2 1 ≠ 0 then [83, 45] else []) ++
    (if k.1 ≠ [] then k.1 else if k.2.1 = 32 then [83, 112, 97, 99, 101] else utf8F k.2.1)
section
variable {nb r : Array UInt8} {nm pre p4 p2 p1 : List Int} {c q : Int}
theorem add_size {b : Array UInt8} {ls : List Int} (h1 : Nat.ble (KBw.bInts b).length 16 = true) (h2 : ls.length ≤ 64) : (KBw.bInts b).length + ls.length ≤ 16777216 := by
  have := Nat.le_of_ble_eq_true h1
  omega
theorem utf8F_len (n : Int) : (utf8F n).length ≤ 64 := by
  unfold utf8F utf8G
  split <;> (repeat' split) <;> simp
theorem nb_some (hb : KBw.bInts nb = nm) (h : (nb.toList != (#[] : Array UInt8).toList) = true) : nm ≠ [] := by
  rw [bne_ints hb rfl] at h
  intro e
  rw [e] at h
  exact absurd h (by decide)
theorem nb_none (hb : KBw.bInts nb = nm) (h : (nb.toList != (#[] : Array UInt8).toList) = false) : nm = [] := by
  rw [bne_ints hb rfl] at h
  have h2 : nm = KBw.bInts #[] := by simpa using h
  exact h2
theorem wd_name (hA : KBw.bInts r = pre ++ nm) (h4 : (if Builtin.bitAnd q 4 ≠ 0 then [67, 45] else []) = p4) (h2 : (if Builtin.bitAnd q 2 ≠ 0 then [77, 45] else []) = p2) (h1 : (if Builtin.bitAnd q 1 ≠ 0 then [83, 45] else []) = p1)
    (hb : KBw.bInts nb = nm) (h : (nb.toList != (#[] : Array UInt8).toList) = true) (hp : pre = p4 ++ p2 ++ p1) : KBw.bInts r = wordF (nm, c, q) := by
  unfold wordF
  dsimp only
  rw [hA, hp, h4, h2, h1, if_pos (nb_some hb h)]
theorem wd_space (h4 : (if Builtin.bitAnd q 4 ≠ 0 then [67, 45] else []) = p4) (h2 : (if Builtin.bitAnd q 2 ≠ 0 then [77, 45] else []) = p2) (h1 : (if Builtin.bitAnd q 1 ≠ 0 then [83, 45] else []) = p1)
    (hb : KBw.bInts nb = nm) (h : (nb.toList != (#[] : Array UInt8).toList) = false) (hc : c = 32) (hA : KBw.bInts r = p4 ++ p2 ++ p1 ++ [83, 112, 97, 99, 101]) : KBw.bInts r = wordF (nm, c, q) := by
  unfold wordF
  dsimp only
  rw [hA, h4, h2, h1, if_neg (fun e => e (nb_none hb h)), if_pos hc]
theorem wd_utf (hA : KBw.bInts r = pre ++ utf8F c) (h4 : (if Builtin.bitAnd q 4 ≠ 0 then [67, 45] else []) = p4) (h2 : (if Builtin.bitAnd q 2 ≠ 0 then [77, 45] else []) = p2) (h1 : (if Builtin.bitAnd q 1 ≠ 0 then [83, 45] else []) = p1)
    (hb : KBw.bInts nb = nm) (h : (nb.toList != (#[] : Array UInt8).toList) = false) (hc : ¬ c = 32) (hp : pre = p4 ++ p2 ++ p1) : KBw.bInts r = wordF (nm, c, q) := by
  unfold wordF
  dsimp only
  rw [hA, hp, h4, h2, h1, if_neg (fun e => e (nb_none hb h)), if_neg hc]
end

section

theorem con_key_word (w : World) (nm : List Int) (c q : Int) (x d : Addr) (tl : Led) (hK : KeyIs w.params nm c q x d tl) (hc0 : 0 ≤ c) (hc1 : c < 1114112) (hq0 : 0 ≤ q) (hq7 : q ≤ 7) (hnl : nm.length ≤ 64) : ConWV w 316 [.ref x] 4 tl (fun r => ∃ b t, r = .bytes b t ∧ KBw.bInts b = wordF (nm, c, q)) := by
  w_top off
  k_with_none
  k_with "execs cons" => k_fold
  k_with "execs cons" => ((with_reducible refine st_norm (g' := s.gens) (d' := s.drawn) (os' := s.os) rfl rfl rfl fun tk => ?_); (try k_fold))
  k_with "k_room" => ((try simp only [depth_under_make, depth_under_kw, depth_in1, depth_deeper, depth_caller]); (try dsimp only [ktrTop]); omega)
  k_with "k_enter" => (refine' code_def ?k1 ?k2 ?k3 ?k4 ?k5 ?kA ?kF ?kK ?k6 ?k7 ?k8 ?k9 ?kB ?_ ?c2 ?c3 ?c4 ?c5; (case kA => exact rfl); (case kF => exact rfl); (case kK => assumption); (case k1 => k_asm); (case k2 => k_asm); (case k3 => k_asm); (case k4 => k_asm); (case k5 => k_asm); (case k6 => k_is); (case k7 => k_is); (case k8 => k_room); (case k9 => first | exact BindsTo.of_eq rfl | exact binds_K (by k_in) rfl (by k_is) rfl rfl rfl); (case c5 => decide); (case kB => exact locs rfl); (case c2 => exact rfl); (case c3 => exact rfl); (case c4 => exact rfl); k_whole; intro g' L' h' FG' F' N' B' X' T'; (try dsimp only); (try k_fold))
  k_with "UnrEndW" => k_dflt ktu_end
  k_with "subscriptTail" => (k_here; (with_reducible show wpAny _ _ (subscriptTail _ _ (Value.bytes _ _) (Value.int _ _)) _ _ _); (refine KBw.item_K (by kba_ints) (by kba_size) (by kba_idx) (by kba_idx) ?_); intro _ _ kbaLo kbaHi)
  k_with "subscriptTail" => (k_here; (with_reducible show wpAny _ _ (subscriptTail _ (Expr.Slice _ _ none _) (Value.bytes _ _) (Value.ref _)) _ _ _); (with_reducible rename Fr _ _ _ _ => F'); (with_reducible rename News _ _ _ _ => N'); (refine KBc.slice_K (s := ⟨_, _, _, _, _⟩) F' N' (by kba_ints) (by constructor) (by constructor) (by kba_size) ?_); intro _ _ _ _ _ kbcK; (try simp only [Option.elim, KBc.clip_lit, clipAt_nat, List.drop_zero, Nat.sub_zero] at kbcK))
  k_with "ite" => (k_here; (with_reducible show if ((_ : Int) == (_ : Int)) = true then _ else _); first | (refine ite_pos (by rw [beq_iff_eq]; omega) ?_; walk_say "PR") | (refine ite_neg (by rw [beq_iff_eq]; omega) ?_; walk_say "PR"))
  k_with "call ref" => (k_here; (with_reducible show wpAny _ _ (call (Value.ref 146) [Value.int _ _]) _ _ _); k_dflt (refine' con_useV (con_utf8_octets _ _ ?k0 ?k9) ?k1 ?k2 ?k3 ?k4 ?k5 ?kK ?kd ?ku ?ko ?_; (case k0 => assumption); (case k9 => assumption); (case k1 => k_asm); (case k2 => k_asm); (case k3 => k_asm); (case k4 => k_asm); (case k5 => k_asm); (case kK => first | exact rfl | assumption); (case kd => first | (dsimp only [ktrTop]; omega) | (simp only [depth_under_make, depth_under_kw, depth_in1, depth_deeper, depth_caller]; (try dsimp only [ktrTop]); omega)); (case ku => first | (dsimp only [ktrTop]; omega) | (simp only [units_in1, units_deeper, Around.mark_units, units_caller]; (try dsimp only [ktrTop]); omega)); (case ko => first | exact List.forall_mem_nil _ | k_sub); k_whole; intro r' h' tk' F' N' hst' hr'; obtain ⟨bU, tU, hE, hU⟩ := hr'; subst hE))
  k_with "binaryOp Add bytes bytes" => (k_here; (with_reducible refine KBa.add_K rfl (by with_reducible assumption) (add_size (by with_unfolding_all rfl) (by first | with_reducible assumption | exact utf8F_len _)) ?_); intro _ _ kbaApp)
  k_with "binaryOp Add bytes bytes" => (k_here; (with_reducible show wpAny _ _ (binaryOp Operator.Add (Value.bytes (List.toArray _) _) (Value.bytes (List.toArray _) _)) _ _ _); (with_reducible refine' bytes_add_K ?z ?e ?_; (case z => exact Nat.le_of_ble_eq_true rfl); (case e => exact rfl); intro _ _))
  obtain ⟨nb, tb, tc, tq, te, t1, t2, t3, t4, hnb, rfl⟩ := hK
  unfold ConWV ConW
  k_fill
  intro p loose mean mg mb dp un gd cn cs a ccd cl outer A₀ base h₀ L m s Q E B F X N T hk hd hu hret
  k_dflt (refine' con_enterV (binds := [(PySem.Str.ofString "key", .ref x)]) B F X N T hk hret ?k8 ?k6 ?k7 ?k9 ?kB ?_ ?c5 ?c2 ?c3 ?c4; (case k6 => k_is); (case k7 => k_is); (case k8 => omega); (case k9 => exact BindsTo.of_eq rfl); (case c5 => decide); (case kB => exact locs rfl); (case c2 => exact rfl); (case c3 => exact rfl); (case c4 => exact rfl); k_whole)
  clear hret B F N T X hk
  intro g' L' h' tk' F' N' B' X' T' l1 hret
  (try k_lt l1)
  (try simp only [List.reverse_cons, List.reverse_nil, List.nil_append, List.cons_append] at F')
  (try k_fold)
  k_steps
  all_goals (refine hret _ _ _ _ _ (by assumption) (by assumption) (by k_sub) ⟨_, _, rfl, ?_⟩)
  all_goals (first
    | exact wd_name (by assumption) (by first | exact if_pos (by assumption) | exact if_neg (fun h => h (by assumption))) (by first | exact if_pos (by assumption) | exact if_neg (fun h => h (by assumption))) (by first | exact if_pos (by assumption) | exact if_neg (fun h => h (by assumption))) hnb (by assumption) (by exact rfl)
    | exact wd_space (by first | exact if_pos (by assumption) | exact if_neg (fun h => h (by assumption))) (by first | exact if_pos (by assumption) | exact if_neg (fun h => h (by assumption))) (by first | exact if_pos (by assumption) | exact if_neg (fun h => h (by assumption))) hnb (by assumption) (by assumption) (by exact rfl)
    | exact wd_utf (by assumption) (by first | exact if_pos (by assumption) | exact if_neg (fun h => h (by assumption))) (by first | exact if_pos (by assumption) | exact if_neg (fun h => h (by assumption))) (by first | exact if_pos (by assumption) | exact if_neg (fun h => h (by assumption))) hnb (by assumption) (by assumption) (by exact rfl))
end
end Mine
end

section
open PySem PySem.W PySem.Calls PySem.Spec PyProof.Rows
set_option maxRecDepth 100000
set_option maxHeartbeats 8000000
set_option linter.unusedSimpArgs false
set_option linter.unusedVariables false
namespace Mine
noncomputable def BM : List Value := [.ref 39, .type "Exception", .type "BaseException", .type "object"]
theorem cls52 {P : Params} {h : Heap} (X : (heapK P).In h) : ∃ nm q sn sub ab col dd k0 k1 k2 k3 k5, h.get? 52 = some (excClassObj nm q 52 51 [.ref 39] BM true sn sub ab col dd k0 k1 k2 k3 k5 "Exception.__new__") :=
  ⟨_, _, _, _, _, _, _, _, _, _, _, _, X 52 _ rfl⟩
/-- the exception's object, and with its dict -/
abbrev excObj (C t : Addr) (dd : Option Addr) : Obj := { cls := .ref C, dict := dd, data := .fields #[.ref t, .none, .none, .none, .bool false, .none] }
abbrev tupObj (vs : List Value) : Obj := { cls := .type "tuple", data := .seq vs.toArray }
section
variable {prog : Program} {w : World} {A : Around} {h : Heap} {g : Array GenState} {d : Drawn} {t : Nat} {os : OsState} {nm q : Str} {sn : List Str} {sub : List Value} {ab : Bool} {col : Option Bool} {dd : Option Addr} {k0 k1 k2 k3 k5 : Option Value}
theorem has52 (x : Value) (b : Bool) (e : (Value.ref 52 :: BM).contains x = b) : (Value.ref 52 :: BM).contains x = b := e
theorem bk_check {M : Model} {E : Value → Shared → Prop} {rest : List Value} {Q : Unit → Shared → Prop} (hC : h.get? 52 = some (excClassObj nm q 52 51 [.ref 39] BM true sn sub ab col dd k0 k1 k2 k3 k5 "Exception.__new__"))
    (hq : Q () ⟨h, g, d, t, os⟩) : wpAny M A (checkBuiltinCall "Exception.__new__" ⟨.ref 52 :: rest, []⟩) Q E ⟨h, g, d, t, os⟩ := by
  have F := PySem.F.excBase_Exception
  have hB : (Value.ref 52 :: BM).contains (.type "Exception") = true := by decide
  have hstar := F.noStar
  simp only [checkBuiltinCall, F.newKind, F.newSplit, F.newRow]
  repeat (first | refine wpAny_loadPart_at hC ?_ | (refine wpAny_isSubtype_exc hC ?_; rw [hB]) | refine wpAny_staticBase_exc hC ?_ | refine wpAny_madeBy_exc hC ?_ | simp only [bne_self_eq_false, Bool.false_eq_true, if_false] | wp_step)
  exact hq
theorem bk_new {R : Result → Shared → Prop} {rest : List Value} (hC : h.get? 52 = some (excClassObj nm q 52 51 [.ref 39] BM true sn sub ab col dd k0 k1 k2 k3 k5 "Exception.__new__"))
    (hq : R (.ok (.ret (.ref (h.objs.size + 1)))) ⟨(h.push (tupObj rest)).push (excObj 52 h.objs.size none), g, d, t, os⟩) (hrest : rest.length ≤ sizeLine) :
    codeAny (model prog w) A (.builtin "Exception.__new__" ⟨.ref 52 :: rest, []⟩) R ⟨h, g, d, t, os⟩ := by
  have F := PySem.F.excBase_Exception
  have hends := F.ends
  have hB : (Value.ref 52 :: BM).contains (.type "Exception") = true := by decide
  have hA : (Value.ref 52 :: BM).contains (.type "AttributeError") = false := by decide
  have hN : (Value.ref 52 :: BM).contains (.type "NameError") = false := by decide
  refine codeAny_builtinAt F.entry ?_
  unfold Builtin.«BaseException.__new__»
  refine PySem.wpAt_bind ?_
  show PySem.wpAt _ _ _ (stack >>= _) _ _ _
  refine PySem.wpAt_bind (PySem.wpAt_stack fun p below => PySem.wpAt_of_wpAny ?_)
  wp_walk
  refine PySem.wpAt_of_wpAny ?_
  rw [F.owner]
  repeat (first | with_reducible refine wpAny_madeHere_exc F.canon hC ?_ | with_reducible refine wpAny_loadPart_at hC ?_ | (with_reducible refine wpAny_isSubtype_exc hC ?_; first | rw [hB] | rw [hA] | rw [hN]) | wp_step)
  show R _ _
  rw [Heap.size_push]
  exact hq
theorem find_init {P : Params} : findIn (heapK P) (.ref 52) "__init__" = some (some (.ref 36)) := rfl
/-- BadKey(..): the new exception's __init__ is called -/
theorem bk_call {E : Value → Shared → Prop} {rest : List Value} {Q : Value → Shared → Prop} (X : (heapK w.params).In h) (hrest : rest.length ≤ sizeLine)
    (hq : wpAny (model prog w) (A.under (.builtin "type.__call__" ⟨.ref 52 :: rest, []⟩)) (call (.ref 36) (.ref (h.objs.size + 1) :: rest)) (fun r s' => r = .none ∧ Q (.ref (h.objs.size + 1)) s') E ⟨(h.push (tupObj rest)).push (excObj 52 h.objs.size none), g, d, t, os⟩) :
    wpAny (model prog w) A (call (.ref 52) rest) Q E ⟨h, g, d, t, os⟩ := by
  obtain ⟨nm, q, sn, sub, ab, col, dd, k0, k1, k2, k3, k5, hC⟩ := cls52 X
  have f1 := tc_lookup
  have f2 := tc_bind (.ref 52)
  have hT : (⟨h, g, d, t, os⟩ : Shared).TypeIs (.ref 52) "type" := ⟨_, hC, rfl⟩
  refine wpAny_call (codeAny_of_tree ?_)
  show wpAny _ _ (callAny (.ref 52) _) _ _ _
  repeat (any_goals (first | assumption | with_reducible refine wpAny_loadPart_at hC ?_ | wp_step))
  refine ⟨rfl, ?_⟩
  refine codeAny_call_builtin_at (Code.quiet_builtin _ (by decide +kernel)) entry_typeCall (wpAny_check_type_call_sub hC ?_)
  repeat (first | with_reducible refine wpAny_loadPart_at hC ?_ | with_reducible refine wpAny_madeBy_exc hC ?_ | wp_step)
  refine codeAny_call_builtin_code (Code.quiet_builtin _ PySem.F.excBase_Exception.quiet) (bk_check hC ?_)
  refine bk_new hC ?_ hrest
  show wpAny _ _ _ _ _ _
  have k1 : ∀ b o, h.get? b = some o → ((h.push (tupObj rest)).push (excObj 52 h.objs.size none)).get? b = some o := fun b o e => Heap.get?_push_of_some _ (Heap.get?_push_of_some _ e)
  have hC₁ := k1 _ _ hC
  have X₁ : (heapK w.params).In ((h.push (tupObj rest)).push (excObj 52 h.objs.size none)) := X.keeps k1
  have hget : ((h.push (tupObj rest)).push (excObj 52 h.objs.size none)).get? (h.objs.size + 1) = some (excObj 52 h.objs.size none) := by
    have := Heap.get?_push_size (h.push (tupObj rest)) (o := excObj 52 h.objs.size none) rfl
    rw [Heap.size_push] at this; exact this
  have hcC : (Value.ref 52 :: BM).contains (.ref 52) = true := by decide
  unfold isInstance
  repeat (first | with_reducible refine wpAny_loadPart_at hget ?_ | (with_reducible refine wpAny_isSubtype_exc hC₁ ?_; rw [hcC]) | wp_step)
  show wpAny _ _ (isSubtype (.ref 52) (.ref 52)) _ _ _
  refine wpAny_isSubtype_exc hC₁ ?_
  rw [hcC]
  repeat (first | with_reducible refine wpAny_loadPart_at hget ?_ | wp_step)
  show wpAny _ _ (typeLookup (.ref 52) _) _ _ _
  refine (looks_findIn X₁ find_init).here ?_
  refine wpAny_holding (wpAny_bind ?_)
  unfold bindSpecial
  have h36 : ∃ o, ((h.push (tupObj rest)).push (excObj 52 h.objs.size none)).get? 36 = some o ∧ o.cls = .type "function" := ⟨_, X₁ 36 _ rfl, rfl⟩
  refine wpAny_bind (wpAny_typeOf (T := "function") h36 ?_)
  rw [if_pos (by decide)]
  refine wpAny_pure (wpAny_bind (wpAny_mono hq (fun r s' hr => ?_) fun _ _ x => x))
  obtain ⟨rfl, hQ⟩ := hr
  wp_walk
  exact hQ
end
end Mine
end

section
open PySem PySem.W PySem.Calls PySem.Spec PyProof.Rows
set_option maxRecDepth 100000
set_option maxHeartbeats 8000000
set_option linter.unusedSimpArgs false
set_option linter.unusedVariables false
namespace Mine
abbrev TOLD : Str := Str.ofString "told"
theorem find_set {P : Params} : findIn (heapK P) (.ref 52) "__setattr__" = some (some (.builtin "object.__setattr__")) := by kernel_rfl
theorem find_told {P : Params} : findIn (heapK P) (.ref 52) TOLD = some none := by kernel_rfl
theorem cls_bk {P : Params} : ∃ cd, clsIn (heapK P) 52 = some cd ∧ cd.mro = .ref 52 :: BM ∧ cd.hasDict = true := ⟨_, rfl, rfl, rfl⟩
theorem mro_obj {P : Params} : mroIn (heapK P) 52 (.type "object") = some true := by kernel_rfl
theorem bk_refuse (self : Value) : refuseLoop self "__setattr__" (.ref 52 :: BM) = pure () := by
  unfold BM
  rw [refuseLoop_ref, refuseLoop_ref]; exact PySem.F.store_Exception.passes self
theorem bk_store {prog : Program} {w : World} {A : Around} {E : Value → Shared → Prop} {s : Shared} {h₀ : Heap} {L : Addr} {m : Str → Option Value} {news : Led} {Q : Unit → Shared → Prop} {e t : Addr} {v : Value}
    (F : Fr h₀ L s.heap m) (X : (heapK w.params).In s.heap) (N : News h₀ L s.heap ((e, excObj 52 t none) :: news)) (hne : ∀ p ∈ news, p.1 ≠ e)
    (h : ∀ d h' tk t1, Fr h₀ L h' m → News h₀ L h' ((d, dictOf [⟨PyData.keyHash w.params TOLD, .str TOLD t1, v⟩] 1) :: (e, excObj 52 t (some d)) :: news) → d ≠ e → s.heap.get? d = none → (∀ b o, b ≠ e → s.heap.get? b = some o → h'.get? b = some o) → Q () { s with heap := h', toks := tk }) :
    wpAny (model prog w) A (setAttr (.ref e) TOLD v) Q E s := by
  have I : InstAt s.heap e (excObj 52 t none) 52 none := ⟨(N _ (.head _)).1, rfl, rfl, trivial⟩
  have SF := PySem.F.store_object
  obtain ⟨cd, hc, hmro, hhd⟩ := cls_bk (P := w.params)
  refine set_plain X I find_set ?_
  have X1 : (heapK w.params).In ({ s with toks := s.toks + 1 } : Shared).heap := X
  have I1 : InstAt ({ s with toks := s.toks + 1 } : Shared).heap e (excObj 52 t none) 52 none := I
  have sub : Looks (model prog w) ({ s with toks := s.toks + 1 } : Shared).heap (isInstance (.ref e) (.type "object")) true := I1.type.andThen (looks_mroIn X1 mro_obj)
  refine codeAny_call_builtin SF.slot.plain SF.entry (@check_slot (model prog w) _ _ { s with toks := s.toks + 1 } "object.__setattr__" "object" "__setattr__" (.ref e) [.str TOLD s.toks, v] [] _ SF.kind SF.split sub (SF.args (.ref e) (.str TOLD s.toks) v) ?_)
  have hm : Looks (model prog w) ({ s with toks := s.toks + 1 } : Shared).heap (mroOf (.ref 52)) (.ref 52 :: BM) := hmro ▸ (looks_clsIn X1 hc).andThen .now
  rw [osa_eq, refuse_eq]
  refine wpAny_bind (wpAny_bind (I1.type.here (wpAny_bind (hm.here ?_))))
  rw [bk_refuse]
  refine wpAny_pure (wpAny_bind (I1.type.here (wpAny_bind ((looks_findIn X1 find_told).here (wpAny_bind (wpAny_pure ?_))))))
  dsimp only
  unfold Builtin.ObjectAttr.storeInOwnDict Builtin.ObjectAttr.ownDictForStores instanceDict
  have hx := I1.at_
  refine wpAny_bind (wpAny_pure (wpAny_bind ?_))
  refine wpAny_bind (wpAny_loadPart hx ?_)
  refine wpAny_bind ((looks_clsIn X1 hc).here ?_)
  rw [hhd]
  refine wpAny_bind (wpAny_alloc' ?_)
  have hx1 : (s.heap.push emptyDict).get? e = some (excObj 52 t none) := Heap.get?_push_of_some _ hx
  have hlt : e < s.heap.objs.size := Heap.lt_size hx
  refine wpAny_bind (wpAny_update' hx1 ?_)
  refine wpAny_pure ?_
  have F₁ : Fr h₀ L (s.heap.push emptyDict) m := F.push _
  have N₁ : News h₀ L (s.heap.push emptyDict) ([(s.heap.objs.size, emptyDict)] ++ (e, excObj 52 t none) :: news) := N.push F emptyDict
  have hde : ∀ p ∈ [(s.heap.objs.size, emptyDict)], p.1 ≠ e := fun p hp => by
    rw [List.mem_singleton.mp hp]; exact Nat.ne_of_gt hlt
  obtain ⟨F₂, N₂⟩ := news_upd (f := fun o => { o with dict := some s.heap.objs.size }) (o' := excObj 52 t (some s.heap.objs.size)) F₁ N₁ hde hne rfl rfl
  have hpost : ∀ p ∈ (e, excObj 52 t (some s.heap.objs.size)) :: news, p.1 ≠ s.heap.objs.size := fun p hp => by
    rcases List.mem_cons.mp hp with rfl | hp
    · exact Nat.ne_of_lt hlt
    · exact Nat.ne_of_lt (Heap.lt_size (N p (.tail _ hp)).1)
  have D := (N₂ (s.heap.objs.size, emptyDict) (.head _)).1
  have ep : Obj.putName TOLD (PyData.keyHash w.params TOLD) (.str TOLD (s.toks + 1)) v emptyDict = dictOf [⟨PyData.keyHash w.params TOLD, .str TOLD (s.toks + 1), v⟩] 1 := putName_dict TOLD _ _ v [] 0
  obtain ⟨U1, U2⟩ := news_upd (pre := []) (f := Obj.putName TOLD (PyData.keyHash w.params TOLD) (.str TOLD (s.toks + 1)) v) F₂ N₂ (fun _ h => nomatch h) hpost ep rfl
  have D' := (U2 (s.heap.objs.size, _) (.head _)).1
  show wpAny _ _ (Builtin.ObjectAttr.storeInDict s.heap.objs.size (.str TOLD s.toks) TOLD v) _ _ _
  unfold Builtin.ObjectAttr.storeInDict Builtin.ObjectAttr.newKeyGuard
  refine wpAny_bind (wpAny_pure (wpAny_bind ?_))
  unfold nsSet
  refine wpAny_bind (wpAny_bind (wpAny_askSetting (wpAny_pure (wpAny_bind (wpAny_mkText (wpAny_bind (wpAny_loadPart D ?_)))))))
  dsimp only
  have c : (!(#[] : Array DictEntry).any (·.key.isStr TOLD) && (#[] : Array DictEntry).any (·.refKey)) = false := by simp
  rw [aRefKeyMayBeTheName_at, c]
  refine wpAny_updatePart D ?_
  refine wpAny_bind (wpAny_lookBehind D' (by exact pastItsLine_dict (by rw [List.size_toArray, sizeLine_eq]; exact (by decide : 1 ≤ 16777216 + 1))) ?_)
  refine wpAny_pure (h _ _ _ _ U1 U2 (Nat.ne_of_gt hlt) (Heap.get?_none_of_le (Nat.le_refl _)) fun b o hb hbo => ?_)
  have hbs : b < s.heap.objs.size := Heap.lt_size hbo
  exact (Heap.get?_update_other _ _ (Nat.ne_of_gt hbs)).trans ((Heap.get?_update_other _ _ (fun q => hb q.symm)).trans (Heap.get?_push_of_some _ hbo))
end Mine
end

section
open PySem PySem.W PySem.Calls PySem.Spec PyProof.Rows
set_option maxRecDepth 100000
set_option maxHeartbeats 8000000
set_option linter.unusedSimpArgs false
set_option linter.unusedVariables false
namespace Mine

theorem bk_callK {prog : Program} {w : World} {A : Around} {E : Value → Shared → Prop} {s : Shared} {h₀ : Heap} {L : Addr} {m : Str → Option Value} {news : Led} {Q : Value → Shared → Prop} {rest : List Value}
    (F : Fr h₀ L s.heap m) (X : (heapK w.params).In h₀) (N : News h₀ L s.heap news) (hrest : rest.length ≤ sizeLine)
    (h : ∀ e t h', Fr h₀ L h' m → News h₀ L h' ((e, excObj 52 t none) :: (t, tupObj rest) :: news) → @LT.lt Nat _ t e → (∀ p ∈ news, p.1 ≠ e) →
      wpAny (model prog w) (A.under (.builtin "type.__call__" ⟨.ref 52 :: rest, []⟩)) (call (.ref 36) (.ref e :: rest)) (fun r s' => r = .none ∧ Q (.ref e) s') E { s with heap := h' }) :
    wpAny (model prog w) A (call (.ref 52) rest) Q E s := by
  obtain ⟨hp, g, d, t, os⟩ := s
  refine bk_call (X.keeps F.keep) hrest ?_
  have N₁ : News h₀ L (hp.push (tupObj rest)) ((hp.objs.size, tupObj rest) :: news) := N.push F (tupObj rest)
  have N₂ := N₁.push (F.push (tupObj rest)) (excObj 52 hp.objs.size none)
  rw [Heap.size_push] at N₂
  exact h (hp.objs.size + 1) hp.objs.size _ ((F.push _).push _) N₂ (Nat.lt_succ_self _) fun p hq => Nat.ne_of_lt (Nat.lt_succ_of_lt (Heap.lt_size (N p hq).1))
theorem bk_storeK {prog : Program} {w : World} {A : Around} {E : Value → Shared → Prop} {s : Shared} {h₀ : Heap} {L : Addr} {m : Str → Option Value} {news : Led} {Q : Unit → Shared → Prop} {e t : Addr} {v : Value}
    (F : Fr h₀ L s.heap m) (X : (heapK w.params).In h₀) (N : News h₀ L s.heap ((e, excObj 52 t none) :: news)) (hne : ∀ p ∈ news, p.1 ≠ e)
    (h : ∀ d h' tk t1, Fr h₀ L h' m → News h₀ L h' ((d, dictOf [⟨PyData.keyHash w.params TOLD, .str TOLD t1, v⟩] 1) :: (e, excObj 52 t (some d)) :: news) → Q () { s with heap := h', toks := tk }) :
    wpAny (model prog w) A (setAttr (.ref e) TOLD v) Q E s :=
  bk_store F (X.keeps F.keep) N hne fun d h' tk t1 F' N' _ _ _ => h d h' tk t1 F' N'
section

theorem new_badkey {w : World} {p : Program} {loose : List Str} {mean : ExcName → Option Value} {mg mb : Str → Option Value} {dp un : Nat} {gd : Option (List Code)} {cn : Str} {cs : Scope} {a : Addr} {ccd : Value} {cl : List (Str × Addr)} {outer : List Env} {A₀ : Around} {base h₀ : Heap} {L : Addr} {m : Str → Option Value} {news : Led} {s : Shared} {Q E : Value → Shared → Prop} {b : Array UInt8} {tb : Tok}
    (B : Below A₀ base outer h₀) (F : Fr h₀ L s.heap m) (X : (heapK w.params).In h₀) (N : News h₀ L s.heap news) (T : Top p loose mean mg mb h₀) (hk : cs.kind = .function) (hd : dp + 3 < recursionLimit) (hu : un + 24 < cLine)
    (ret : ∀ e d t t1 h' tk', Fr h₀ L h' m → News h₀ L h' ((d, dictOf [⟨PyData.keyHash w.params TOLD, .str TOLD t1, .bytes b tb⟩] 1) :: (e, excObj 52 t (some d)) :: (t, tupObj [.bytes b tb]) :: news) → Q (.ref e) { s with heap := h', toks := tk' }) :
    wpAny (model Challenge.rw_og0251_01.row.prog w) (ktrTop dp un gd cn cs L a ccd cl outer) (call (.ref 52) [.bytes b tb]) Q E s := by
  w_top off
  k_with_none
  k_with "execs cons" => k_fold
  k_with "execs cons" => ((with_reducible refine st_norm (g' := s.gens) (d' := s.drawn) (os' := s.os) rfl rfl rfl fun tk => ?_); (try k_fold))
  k_with "k_room" => ((try simp only [depth_under_make, depth_under_kw, depth_in1, depth_deeper, depth_caller]); (try dsimp only [ktrTop]); omega)
  k_with "k_enter" => (refine' code_def ?k1 ?k2 ?k3 ?k4 ?k5 ?kA ?kF ?kK ?k6 ?k7 ?k8 ?k9 ?kB ?_ ?c2 ?c3 ?c4 ?c5; (case kA => exact rfl); (case kF => exact rfl); (case kK => assumption); (case k1 => k_asm); (case k2 => k_asm); (case k3 => k_asm); (case k4 => k_asm); (case k5 => k_asm); (case k6 => k_is); (case k7 => k_is); (case k8 => k_room); (case k9 => first | exact BindsTo.of_eq rfl | exact binds_K (by k_in) rfl (by k_is) rfl rfl rfl); (case c5 => decide); (case kB => exact locs rfl); (case c2 => exact rfl); (case c3 => exact rfl); (case c4 => exact rfl); k_whole; intro g' L' h' FG' F' N' B' X' T'; (try dsimp only); (try k_fold))
  k_with "call ref" => (k_here; (with_reducible show wpAny _ _ (call (Value.ref 52) [Value.bytes _ _]) _ _ _); k_dflt (refine' bk_callK ?k1 ?k2 ?k3 ?k4 ?_; (case k1 => k_asm); (case k2 => k_asm); (case k3 => k_asm); (case k4 => size_fits); k_whole); intro e' t' h' F' N' l1 l2)
  k_with "k_all" => assumption
  k_with "setAttr ref" => (k_here; k_dflt (refine' bk_storeK ?k1 ?k2 ?k3 ?k4 ?_; (case k1 => k_asm); (case k2 => k_asm); (case k3 => k_asm); (case k4 => k_all); k_whole); intro d' h' tk' t1' F' N'; (try k_sweep))
  revert X; k_fill; intro X
  k_steps
  
  all_goals exact ret _ _ _ _ _ _ (by assumption) (by assumption)
end
end Mine
end

section
open PySem PySem.W PySem.Calls PySem.Spec PyProof.Rows
set_option maxRecDepth 100000
set_option maxHeartbeats 8000000
set_option linter.unusedSimpArgs false
set_option linter.unusedVariables false
namespace Mine
theorem raise_bk {prog : Program} {w : World} {A : Around} {env : Env} {E : Value → Shared → Prop} {s : Shared} {e : PySem.Expr} {pos : Pos} {Q : Flow → Shared → Prop} (hh : A.handled = none)
    (h : wpAny (model prog w) A (eval e env) (fun v s₁ => ∃ a t d, v = .ref a ∧ (heapK w.params).In s₁.heap ∧ s₁.heap.get? a = some (excObj 52 t d) ∧ E (.ref a) s₁) E s) :
    wpAny (model prog w) A (exec (.Raise (some e) none pos) env) Q E s := by
  show wpAny _ A (do standAt pos; raiseStmt env (some (do let v ← eval e env; standAt pos; pure v)) none) Q E s
  refine wpAny_bind (wpAny_standAt ?_)
  unfold raiseStmt
  dsimp only
  refine wpAny_bind (wpAny_bind (wpAny_mono h (fun v s₁ h₁ => wpAny_bind (wpAny_standAt (wpAny_pure ?_))) fun _ _ x => x))
  obtain ⟨a, t, d, rfl, X, he, hE⟩ := h₁
  obtain ⟨hp, g, dr, tk, os⟩ := s₁
  dsimp only at X he
  obtain ⟨nm, q, sn, sub, ab, col, dd, k0, k1, k2, k3, k5, hC⟩ := cls52 X
  have hB : (Value.ref 52 :: BM).contains (.type "BaseException") = true := by decide
  repeat (first | with_reducible refine wpAny_loadPart_at he ?_ | with_reducible refine wpAny_loadPart_at hC ?_ | (with_reducible refine wpAny_isSubtype_exc hC ?_; rw [hB]) | wp_step)
  exact wpAny_raiseNew_none hh hE
/-- an exception that has been noted; its dict is kept -/
noncomputable def TrX (h base : Heap) (e : Addr) (dd : Option Addr) (fl : Value) : Prop :=
  ∃ oe vs T oT ts, h.get? e = some oe ∧ oe.cls = .ref 52 ∧ oe.dict = dd ∧ oe.data = .fields vs ∧ vs[1]? = some (.ref T) ∧ base.get? T = none ∧ T ≠ e ∧ h.get? T = some oT ∧ oT.data = .fields ts ∧ ts[3]? = some fl
theorem dict_mapFields (o : Obj) (f : Array Value → Array Value) : (o.mapFields f).dict = o.dict := by
  obtain ⟨c, d, dt, sl⟩ := o; cases dt <;> rfl
section
variable {M : Model} {A : Around} {E : Value → Shared → Prop} {s : Shared} {base : Heap} {env : Env} {outer l : List Env} {L e : Addr} {dd : Option Addr} {Q : Unit → Shared → Prop}
/-- a new entry at an exception: what it writes -/
theorem entryX {oe : Obj} {vs : Array Value} {head : Value} {b : Bool}
    (hfr : A.frames = some (env :: outer)) (hl : s.heap.FunFrames base (env :: outer)) (hf : env.frame = some L) (he : s.heap.get? e = some oe) (hc : oe.cls = .ref 52) (hdd : oe.dict = dd)
    (hkb : base.StaysIn s.heap) (hen : base.get? e = none) (hd : oe.data = .fields vs) (hsz : 1 < vs.size)
    (h : ∀ h', base.StaysIn h' → h'.FunFrames base (env :: outer) → TrX h' base e dd (rawInt L) → s.heap.UpToSlots h' → Q () { s with heap := h' }) :
    wpAny M A (do let a ← frameOf env; let pl ← entryPlaceOf L b; let x ← EntryCells.newEntry head a .none (rawInt L) .none pl; setField (.ref e) 1 x) Q E s := by
  have hne : e ∉ (env :: outer).filterMap (·.frame) := fun hm => by
    obtain ⟨_, o, ho, hnf⟩ := hl.mem hm
    rw [he] at ho
    cases ho
    exact hnf vs hd
  refine wpAny_bind (wpAny_frameOf_fun hfr hl hf fun h₁ hs₁ => wpAny_bind (wpAny_entryPlaceOf fun pl hpl => ?_))
  unfold EntryCells.newEntry newFields
  refine wpAny_bind (wpAny_newObj_type ?_ (hpl.sizeOk5 _ _ _ _ _))
  generalize hts : ([head, Value.ref L, .none, rawInt L, .none] ++ (if pl.isEmpty then List.replicate 6 Value.none else pl)).toArray = ts
  have hts3 : ts[3]? = some (rawInt L) := by rw [← hts]; simp
  have he₁ : h₁.get? e = some oe := (hs₁.2.1 e hne).trans he
  have kb₁ : base.StaysIn h₁ := fun b o hb => (hs₁.2.1 b fun hm => by rw [(hl.mem hm).1] at hb; cases hb).trans (hkb b o hb)
  have he₂ := Heap.get?_push_of_some (h := h₁) { cls := .type "traceback", dict := none, data := .fields ts } he₁
  refine wpAny_setField he₂ hd hsz ?_
  have hTe : h₁.objs.size ≠ e := Nat.ne_of_gt (Heap.lt_size he₁)
  have hd₃ := Obj.data_mapFields hd (·.setIfInBounds 1 (Value.ref h₁.objs.size))
  have keep : ∀ b o, b ≠ e → h₁.get? b = some o → ((h₁.push { cls := .type "traceback", dict := none, data := .fields ts }).update e (Obj.mapFields (·.setIfInBounds 1 (Value.ref h₁.objs.size)))).get? b = some o := fun b o hb hbo =>
    (Heap.get?_update_other _ _ (Ne.symm hb)).trans (Heap.get?_push_of_some _ hbo)
  have notE : ∀ b o, s.heap.get? b = some o → (∀ vs, o.data ≠ .fields vs) → b ≠ e := fun b o hb hnf q => by
    rw [q, he] at hb; cases hb; exact hnf vs hd
  refine h _ (fun b o hb => keep b o (fun q => by rw [q, hen] at hb; cases hb) (kb₁ b o hb)) (hl.of_keeps fun b o hb hnf => ?_) ?_ fun b o hb hnf => ?_
  · obtain ⟨sl, hs⟩ := hs₁.2.2 b o hb
    exact ⟨_, keep b _ (notE b o hb hnf) hs, rfl⟩
  · refine ⟨_, _, h₁.objs.size, { cls := .type "traceback", dict := none, data := .fields ts }, ts, Heap.get?_update_self _ he₂ (Obj.isFreed_of_fields hd₃), (Obj.cls_mapFields _ _).trans hc, (dict_mapFields _ _).trans hdd, hd₃, by simp [hsz], kb₁.fresh, hTe, ?_, rfl, hts3⟩
    exact (Heap.get?_update_other _ _ (Ne.symm hTe)).trans (Heap.get?_push_size h₁ rfl)
  · obtain ⟨sl, hs⟩ := hs₁.2.2 b o hb
    exact ⟨sl, keep b _ (notE b o hb hnf) hs⟩
theorem flightX {fl : Value} (hkb : base.StaysIn s.heap) (hl : s.heap.FunFrames base l) (ht : TrX s.heap base e dd fl)
    (h : ∀ h', base.StaysIn h' → h'.FunFrames base l → TrX h' base e dd .none → s.heap.UpToSlots h' → Q () { s with heap := h' }) : wpAny M A (setFlight (.ref e) none) Q E s := by
  obtain ⟨oe, vs, T, oT, ts, he, hc, hdd, hd, h1, hnT, hTe, hT, hdT, h3⟩ := ht
  have hs3 : 3 < ts.size := (Array.getElem?_eq_some_iff.mp h3).1
  have other : ∀ b, b ≠ T → (s.heap.update T (Obj.mapFields (·.setIfInBounds 3 ((none : Option Addr).elim Value.none fun f => rawInt f)))).get? b = s.heap.get? b := fun b hb => Heap.get?_update_other _ _ (Ne.symm hb)
  have notT : ∀ b o, s.heap.get? b = some o → (∀ vs, o.data ≠ .fields vs) → b ≠ T := fun b o hb hnf q => by
    rw [q, hT] at hb; cases hb; exact hnf ts hdT
  unfold setFlight
  refine wpAny_bind (wpAny_field he hd h1 ?_)
  rw [if_pos (show (Value.ref T != Value.none) = true from by simp)]
  refine wpAny_setField hT hdT hs3 (h _ (fun b o hb => (other b fun q => by rw [q, hnT] at hb; cases hb).trans (hkb b o hb)) (hl.of_keeps fun b o hb hnf => ⟨o, (other b (notT b o hb hnf)).trans hb, rfl⟩) ?_
    fun b o hb hnf => ⟨o.slots, (other b (notT b o hb hnf)).trans hb⟩)
  exact ⟨oe, vs, T, _, _, (other e (Ne.symm hTe)).trans he, hc, hdd, hd, h1, hnT, hTe, Heap.get?_update_self _ hT (Obj.isFreed_of_fields (Obj.data_mapFields hdT _)), Obj.data_mapFields hdT _, by simp [hs3]⟩
/-- the exception leaves the frame that raised it -/
theorem leaveX {t : Addr} (hfr : A.frames = some (env :: outer)) (hl : s.heap.FunFrames base (env :: outer)) (hf : env.frame = some L) (he : s.heap.get? e = some (excObj 52 t dd)) (hkb : base.StaysIn s.heap) (hen : base.get? e = none)
    (h : ∀ h', base.StaysIn h' → h'.FunFrames base (env :: outer) → TrX h' base e dd .none → s.heap.UpToSlots h' → Q () { s with heap := h' }) : wpAny M A (leaving env (.ref e)) Q E s := by
  unfold leaving noteFrame
  simp only [hf]
  refine wpAny_bind (wpAny_bind (wpAny_field he rfl (x := .none) rfl ?_))
  rw [if_neg (by decide)]
  refine entryX hfr hl hf he rfl rfl hkb hen rfl (by exact (by decide : 1 < 6)) fun h₁ k1 k2 k3 k4 => ?_
  exact flightX k1 k2 k3 fun h₂ j1 j2 j3 j4 => h h₂ j1 j2 j3 (k4.trans j4)
/-- it is noted at the next frame -/
theorem looksX (hfr : A.frames = some (env :: outer)) (hl : s.heap.FunFrames base (env :: outer)) (hf : env.frame = some L) (ht : TrX s.heap base e dd .none) (hkb : base.StaysIn s.heap) (hen : base.get? e = none)
    (h : ∀ h', base.StaysIn h' → h'.FunFrames base (env :: outer) → TrX h' base e dd (rawInt L) → s.heap.UpToSlots h' → Q () { s with heap := h' }) : wpAny M A (noteFrame (.ref e) env) Q E s := by
  obtain ⟨oe, vs, T, oT, ts, he, hc, hdd, hd, h1, hnT, hTe, hT, hdT, h3⟩ := ht
  unfold noteFrame
  simp only [hf]
  refine wpAny_bind (wpAny_field he hd h1 ?_)
  rw [if_pos (show (Value.ref T != Value.none) = true from by simp)]
  refine wpAny_bind (wpAny_field hT hdT h3 ?_)
  rw [if_neg (show ¬ ((Value.none == rawInt L) = true) from by simp [rawInt])]
  refine wpAny_bind (wpAny_setField hT hdT (Array.getElem?_eq_some_iff.mp h3).1 ?_)
  have other : ∀ b, b ≠ T → (s.heap.update T (Obj.mapFields (·.setIfInBounds 3 Value.none))).get? b = s.heap.get? b := fun b hb => Heap.get?_update_other _ _ (Ne.symm hb)
  have notT : ∀ b o, s.heap.get? b = some o → (∀ vs, o.data ≠ .fields vs) → b ≠ T := fun b o hb hnf q => by
    rw [q, hT] at hb; cases hb; exact hnf ts hdT
  exact entryX hfr (hl.of_keeps fun b o hb hnf => ⟨o, (other b (notT b o hb hnf)).trans hb, rfl⟩) hf ((other e (Ne.symm hTe)).trans he) hc hdd
    (fun b o hb => (other b fun q => by rw [q, hnT] at hb; cases hb).trans (hkb b o hb)) hen hd (Array.getElem?_eq_some_iff.mp h1).1
    fun h' x1 x2 x3 x4 => h h' x1 x2 x3 fun b o hb hnf => x4 b o ((other b (notT b o hb hnf)).trans hb) hnf
end
end Mine
end

section
open PySem PySem.W PySem.Calls PySem.Spec PyProof.Rows
set_option maxRecDepth 100000
set_option maxHeartbeats 8000000
set_option linter.unusedSimpArgs false
set_option linter.unusedVariables false
namespace Mine

/-- the heap in which an exception (with a dict) flies past the frames l; g stood before -/
noncomputable def Rx (g : Heap) (l : List Env) (e d : Addr) (od : Obj) (h' : Heap) : Prop :=
  ∃ Bs : Heap, (∀ b o, g.get? b = some o → b ∉ l.filterMap (·.frame) → Bs.get? b = some o) ∧ Bs.get? d = some od ∧ Bs.StaysIn h' ∧ Bs.get? e = none ∧ h'.FunFrames Bs l ∧ TrX h' Bs e (some d) .none ∧ g.UpToSlots h' ∧ g.get? d = none ∧ g.get? e = none
theorem leave_rx {M : Model} {A : Around} {E : Value → Shared → Prop} {s' : Shared} {base g : Heap} {env : Env} {outer : List Env} {L e d t : Addr} {od : Obj} {m : Str → Option Value} {Q : Unit → Shared → Prop}
    (hfr : A.frames = some (env :: outer)) (hks : env.scope.kind ≠ .module) (hf : env.frame = some L) (K : g.FunFrames base outer) (F : Fr g L s'.heap m)
    (he : s'.heap.get? e = some (excObj 52 t (some d))) (hd : s'.heap.get? d = some od) (ge : g.get? e = none) (gd : g.get? d = none) (hde : d ≠ e) (hdL : d ≠ L) (heL : e ≠ L)
    (hQ : ∀ h', Rx g outer e d od h' → Q () { s' with heap := h' }) : wpAny M A (leaving env (.ref e)) Q E s' := by
  have gL : g.get? L = none := by
    cases q : g.get? L with
    | none => rfl
    | some o => exact absurd (Nat.lt_of_lt_of_le (Heap.lt_size q) F.above) (Nat.lt_irrefl _)
  have K1 : s'.heap.FunFrames base outer := K.of_keeps fun b o hb _ => ⟨o, F.keep b o hb, rfl⟩
  have hfs : ∀ b, b ∈ outer.filterMap (·.frame) → ∃ o, g.get? b = some o := fun b hb => by
    obtain ⟨_, o, ho, _⟩ := K.mem hb
    exact ⟨o, ho⟩
  generalize hfsd : outer.filterMap (·.frame) = fs at hfs
  have K2 : s'.heap.FunFrames (hideAll s'.heap (e :: L :: fs)) outer := by
    have := funFrames_hide (as := e :: L :: fs) (h := s'.heap) (base := base) (l := outer)
    -- frames of the callers
    have go : ∀ l : List Env, s'.heap.FunFrames base l → (∀ x ∈ l, ∀ a, x.frame = some a → a ∈ e :: L :: fs) → s'.heap.FunFrames (hideAll s'.heap (e :: L :: fs)) l := by
      intro l
      induction l with
      | nil => intro _ _; trivial
      | cons x r ih =>
        rintro ⟨hk, ⟨L', o, hf', hn, ho, hd'⟩, hr⟩ hin
        exact ⟨hk, ⟨L', o, hf', hideAll_none _ (hin x (.head _) L' hf'), ho, hd'⟩, ih hr fun y hy => hin y (.tail _ hy)⟩
    refine go outer K1 fun x hx a ha => ?_
    refine .tail _ (.tail _ ?_)
    rw [← hfsd]
    exact List.mem_filterMap.mpr ⟨x, hx, ha⟩
  obtain ⟨oL, es, ep, hL, hLd, r⟩ := F.ns
  have K3 : s'.heap.FunFrames (hideAll s'.heap (e :: L :: fs)) (env :: outer) :=
    ⟨hks, ⟨L, oL, hf, hideAll_none _ (.tail _ (.head _)), hL, fun vs q => by rw [hLd] at q; cases q⟩, K2⟩
  refine leaveX hfr K3 hf he (fun b o q => of_hideAll _ q) (hideAll_none _ (.head _)) fun h' k1 k2 k3 k4 => hQ h' ?_
  refine ⟨hideAll s'.heap (e :: L :: fs), fun b o hb hn => hideAll_get _ (F.keep b o hb) ?_, hideAll_get _ hd ?_, k1, hideAll_none _ (.head _), k2.2.2, k3, (Heap.UpToSlots.of_keeps F.keep).trans k4, gd, ge⟩
  · rw [hfsd] at hn
    intro hm
    rcases List.mem_cons.mp hm with q | hm
    · rw [q, ge] at hb; cases hb
    · rcases List.mem_cons.mp hm with q | hm
      · rw [q, gL] at hb; cases hb
      · exact hn hm
  · intro hm
    rcases List.mem_cons.mp hm with q | hm
    · exact hde q
    · rcases List.mem_cons.mp hm with q | hm
      · exact hdL q
      · obtain ⟨o, ho⟩ := hfs d hm
        rw [gd] at ho; cases ho
/-- a call is entered: nothing is said of its end -/
theorem enterX {w : World} {p : Program} {loose : List Str} {mean : ExcName → Option Value} {mg mb : Str → Option Value} {dp un : Nat} {gd : Option (List Code)} {cn : Str} {cs : Scope} {a : Addr} {ccd : Value} {cl : List (Str × Addr)} {outer : List Env} {A₀ : Around} {base h₀ : Heap} {L : Addr} {m : Str → Option Value} {s : Shared} {Q E : Value → Shared → Prop} {K : Frag}
    {name qual : Str} {params : Arguments} {body : List Stmt} {scope : Scope} {dV kV doc pm cdv ct oc : Value} {an od : Option Addr} {osl : Array (Option Value)} {f : Addr} {vs : List Value} {binds : List (Str × Value)}
    (B : Below A₀ base outer h₀) (F : Fr h₀ L s.heap m) (X : K.In h₀) (T : Top p loose mean mg mb h₀) (hke : cs.kind = .function)
    (hroom : dp < recursionLimit)
    (ho : K.lookup f = some ⟨oc, od, .func (fnOf name qual params body scope dV kV doc pm an cdv ct), osl⟩) (hcd : codeIn K cdv qual = true)
    (hbind : BindsTo s (fnOf name qual params body scope dV kV doc pm an cdv ct) ⟨vs, []⟩ binds) (hloc : ∀ y ∈ binds, scope.names.lookup y.1 = some .local)
    (h : ∀ L' h₁ tk, Fr s.heap L' h₁ (fun y => binds.reverse.lookup y) → News s.heap L' h₁ [] → Below (ktrTop dp un gd cn cs L a ccd cl outer) base (envX cn cs L a ccd cl :: outer) s.heap → K.In s.heap → Top p loose mean mg mb s.heap →
      wpAny (model PR w) ((ktrTop dp un gd cn cs L a ccd cl outer).deeper (envX qual scope L' f cdv [])) (execs body (envX qual scope L' f cdv []))
        (fun fl s' => Q (match fl with | .ret v => v | _ => .none) s')
        (fun e s' => wpAny (model PR w) ((ktrTop dp un gd cn cs L a ccd cl outer).deeper (envX qual scope L' f cdv [])) (leaving (envX qual scope L' f cdv []) e) (fun _ s'' => E e s'') (fun e' s'' => E e' s'') s')
        { s with heap := h₁, toks := tk })
    (hcell : ∀ x ∈ scope.names, x.2 ≠ .cell) (hco : scope.isCoroutine = false) (hgen : scope.isGenerator = false) (hk : scope.kind = .function) :
    wpAny (model PR w) (ktrTop dp un gd cn cs L a ccd cl outer) (call (.ref f) vs) Q E s := by
  refine wpAny_call ?_
  obtain ⟨FG, BG, _, _⟩ := groundX (A := ktrTop dp un gd cn cs L a ccd cl outer) (R := fun _ _ => True) (news := []) B F (fun _ h => nomatch h) rfl rfl hke
  refine codeAny_call_def (fd := fnOf name qual params body scope dV kV doc pm an cdv ct) (body := body) (binds := binds) hroom (F.keep _ _ (X _ _ ho)) rfl (T.nolimit.keeps F.keep) (codeRec_of (X.keeps F.keep) hcd) rfl hbind hcell hloc (fun h₁ hns hk₁ => ?_) hco hgen hk
  exact h s.heap.objs.size h₁ _ ⟨hns, fun b o e => hk₁ b o e, Nat.le_refl _⟩ (fun _ h => nomatch h) BG (X.keeps F.keep) (T.keeps F.keep)

theorem no_some {o : Option KeyV} {x : KeyV} (h1 : o = some x) (h2 : o = none) : False := by rw [h1] at h2; cases h2
theorem lt_ne {a b : Nat} (h : a < b) : a ≠ b := Nat.ne_of_lt h
section

theorem raise_read_key {w : World} {p : Program} {loose : List Str} {mean : ExcName → Option Value} {mg mb : Str → Option Value} {dp un : Nat} {gd : Option (List Code)} {cn : Str} {cs : Scope} {a : Addr} {ccd : Value} {cl : List (Str × Addr)} {outer : List Env} {A₀ : Around} {base h₀ : Heap} {L : Addr} {m : Str → Option Value} {s : Shared} {Q E : Value → Shared → Prop} (ks : List Int) (b : Array UInt8) (t : Tok) (hb : KBw.bInts b = ks) (hl : ks.length ≤ 64) (hnone : readF ks = none)
    (B : Below A₀ base outer h₀) (F : Fr h₀ L s.heap m) (X : (heapK w.params).In h₀) (T : Top p loose mean mg mb h₀) (hk : cs.kind = .function) (hd : dp + 8 < recursionLimit) (hu : un + 64 < cLine)
    (hE : ∀ e d t1 h' tk', Rx s.heap (envX cn cs L a ccd cl :: outer) e d (dictOf [⟨PyData.keyHash w.params TOLD, .str TOLD t1, .bytes b t⟩] 1) h' → E (.ref e) { s with heap := h', toks := tk' }) :
    wpAny (model Challenge.rw_og0251_01.row.prog w) (ktrTop dp un gd cn cs L a ccd cl outer) (call (.ref 309) [.bytes b t]) Q E s := by
  w_top off
  k_with_none
  k_with "execs cons" => k_fold
  k_with "execs cons" => ((with_reducible refine st_norm (g' := s.gens) (d' := s.drawn) (os' := s.os) rfl rfl rfl fun tk => ?_); (try k_fold))
  k_with "k_room" => ((try simp only [depth_under_make, depth_under_kw, depth_in1, depth_deeper, depth_caller]); (try dsimp only [ktrTop]); omega)
  k_with "k_enter" => (refine' code_def ?k1 ?k2 ?k3 ?k4 ?k5 ?kA ?kF ?kK ?k6 ?k7 ?k8 ?k9 ?kB ?_ ?c2 ?c3 ?c4 ?c5; (case kA => exact rfl); (case kF => exact rfl); (case kK => assumption); (case k1 => k_asm); (case k2 => k_asm); (case k3 => k_asm); (case k4 => k_asm); (case k5 => k_asm); (case k6 => k_is); (case k7 => k_is); (case k8 => k_room); (case k9 => first | exact BindsTo.of_eq rfl | exact binds_K (by k_in) rfl (by k_is) rfl rfl rfl); (case c5 => decide); (case kB => exact locs rfl); (case c2 => exact rfl); (case c3 => exact rfl); (case c4 => exact rfl); k_whole; intro g' L' h' FG' F' N' B' X' T'; (try dsimp only); (try k_fold))
  k_with "UnrEndW" => k_dflt ktu_end
  k_with "subscriptTail" => (k_here; (with_reducible show wpAny _ _ (subscriptTail _ _ (Value.bytes _ _) (Value.int _ _)) _ _ _); (refine KBw.item_K (by kba_ints) (by kba_size) (by kba_idx) (by kba_idx) ?_); intro _ _ kbaLo kbaHi)
  k_with "subscriptTail" => (k_here; (with_reducible show wpAny _ _ (subscriptTail _ (Expr.Slice _ _ none _) (Value.bytes _ _) (Value.ref _)) _ _ _); (with_reducible rename Fr _ _ _ _ => F'); (with_reducible rename News _ _ _ _ => N'); (refine KBc.slice_K (s := ⟨_, _, _, _, _⟩) F' N' (by kba_ints) (by constructor) (by constructor) (by kba_size) ?_); intro _ _ _ _ _ kbcK; (try simp only [Option.elim, KBc.clip_lit, clipAt_nat, List.drop_zero, Nat.sub_zero] at kbcK))
  k_with "ite" => (k_here; (with_reducible show if ((_ : Int) == (_ : Int)) = true then _ else _); first | (refine ite_pos (by rw [beq_iff_eq]; omega) ?_; walk_say "PR") | (refine ite_neg (by rw [beq_iff_eq]; omega) ?_; walk_say "PR"))
  k_with "call ref" => (k_here; (with_reducible show wpAny _ _ (call (Value.ref 302) [_]) _ _ _); k_dflt (refine' con_use (con_key_split _ _ _ ?kb ?kl) ?k1 ?k2 ?k3 ?k4 ?k5 ?kK ?kd ?ku ?ko ?_; (case kb => assumption); (case kl => assumption); (case k1 => k_asm); (case k2 => k_asm); (case k3 => k_asm); (case k4 => k_asm); (case k5 => k_asm); (case kK => first | exact rfl | assumption); (case kd => first | (dsimp only [ktrTop]; omega) | (simp only [depth_under_make, depth_under_kw, depth_in1, depth_deeper, depth_caller]; (try dsimp only [ktrTop]); omega)); (case ku => first | (dsimp only [ktrTop]; omega) | (simp only [units_in1, units_deeper, Around.mark_units, units_caller]; (try dsimp only [ktrTop]); omega)); (case ko => first | exact List.forall_mem_nil _ | k_sub); k_whole; intro r' tl' h' tk' F' N' hne' hst' hr'; obtain ⟨sq, so, sz, sD, stq, st, hS, hS0, hS7, hSl, hSO, hE1, hE2⟩ := hr'; subst hE1 hE2; (simp only [List.nil_append, List.cons_append] at N')))
  k_with "call ref" => (k_here; (with_reducible show wpAny _ _ (call (Value.ref 295) [_]) _ _ _); k_dflt (refine' con_useV (con_key_one_sign _ _ _ ?kb ?kl) ?k1 ?k2 ?k3 ?k4 ?k5 ?kK ?kd ?ku ?ko ?_; (case kb => assumption); (case kl => assumption); (case k1 => k_asm); (case k2 => k_asm); (case k3 => k_asm); (case k4 => k_asm); (case k5 => k_asm); (case kK => first | exact rfl | assumption); (case kd => first | (dsimp only [ktrTop]; omega) | (simp only [depth_under_make, depth_under_kw, depth_in1, depth_deeper, depth_caller]; (try dsimp only [ktrTop]); omega)); (case ku => first | (dsimp only [ktrTop]; omega) | (simp only [units_in1, units_deeper, Around.mark_units, units_caller]; (try dsimp only [ktrTop]); omega)); (case ko => first | exact List.forall_mem_nil _ | k_sub); k_whole; intro r' h' tk' F' N' hst' hr'; obtain ⟨hG, hE⟩ | ⟨gn, gt, hG, hE⟩ := hr' <;> subst hE))
  k_with "call ref" => (k_here; (with_reducible show wpAny _ _ (call (Value.ref 276) [_]) _ _ _); k_dflt (refine' con_useV (con_key_lower _ _ _ ?kb ?kl) ?k1 ?k2 ?k3 ?k4 ?k5 ?kK ?kd ?ku ?ko ?_; (case kb => assumption); (case kl => assumption); (case k1 => k_asm); (case k2 => k_asm); (case k3 => k_asm); (case k4 => k_asm); (case k5 => k_asm); (case kK => first | exact rfl | assumption); (case kd => first | (dsimp only [ktrTop]; omega) | (simp only [depth_under_make, depth_under_kw, depth_in1, depth_deeper, depth_caller]; (try dsimp only [ktrTop]); omega)); (case ku => first | (dsimp only [ktrTop]; omega) | (simp only [units_in1, units_deeper, Around.mark_units, units_caller]; (try dsimp only [ktrTop]); omega)); (case ko => first | exact List.forall_mem_nil _ | k_sub); k_whole; intro r' h' tk' F' N' hst' hr'; obtain ⟨bl, tl, hE, hbl⟩ := hr'; subst hE))
  k_with "call ref" => (k_here; (with_reducible show wpAny _ _ (call (Value.ref 288) [_]) _ _ _); k_dflt (refine' con_useV (con_key_named _ _ _ ?kb ?kl) ?k1 ?k2 ?k3 ?k4 ?k5 ?kK ?kd ?ku ?ko ?_; (case kb => assumption); (case kl => assumption); (case k1 => k_asm); (case k2 => k_asm); (case k3 => k_asm); (case k4 => k_asm); (case k5 => k_asm); (case kK => first | exact rfl | assumption); (case kd => first | (dsimp only [ktrTop]; omega) | (simp only [depth_under_make, depth_under_kw, depth_in1, depth_deeper, depth_caller]; (try dsimp only [ktrTop]); omega)); (case ku => first | (dsimp only [ktrTop]; omega) | (simp only [units_in1, units_deeper, Around.mark_units, units_caller]; (try dsimp only [ktrTop]); omega)); (case ko => first | exact List.forall_mem_nil _ | k_sub); k_whole; intro r' h' tk' F' N' hst' hr'; obtain ⟨hM, hE⟩ | ⟨mc, mt, hM, hE⟩ := hr' <;> subst hE))
  k_with "call ref" => ((with_reducible show wpAny _ _ (call (Value.ref 271) _) _ _ _); refine Hold.in ?_)
  k_with "call ref" => ((with_reducible show wpAny _ _ (call (Value.ref 245) _) _ _ _); refine Hold.in ?_)
  k_with "call ref" => (k_here; (with_reducible show wpAny _ _ (call (Value.ref 52) [Value.bytes _ _]) _ _ _); k_dflt (refine' new_badkey ?k1 ?k2 ?k3 ?k4 ?k5 ?kK ?kd ?ku ?_; (case k1 => k_asm); (case k2 => k_asm); (case k3 => k_asm); (case k4 => k_asm); (case k5 => k_asm); (case kK => first | exact rfl | assumption); (case kd => first | (dsimp only [ktrTop]; omega) | (simp only [depth_under_make, depth_under_kw, depth_in1, depth_deeper, depth_caller]; (try dsimp only [ktrTop]); omega)); (case ku => first | (dsimp only [ktrTop]; omega) | (simp only [units_in1, units_deeper, Around.mark_units, units_caller]; (try dsimp only [ktrTop]); omega)); k_whole); refine Hold.in ?_)
  k_with "exec Raise some none" => (k_here; k_dflt (refine raise_bk rfl ?_))
  revert X; k_fill; intro X
  k_dflt (refine' enterX (binds := [(PySem.Str.ofString "octets", .bytes b t)]) B F X T hk ?k8 ?k6 ?k7 ?k9 ?kB ?_ ?c5 ?c2 ?c3 ?c4; (case k6 => k_is); (case k7 => k_is); (case k8 => omega); (case k9 => exact BindsTo.of_eq rfl); (case c5 => decide); (case kB => exact locs rfl); (case c2 => exact rfl); (case c3 => exact rfl); (case c4 => exact rfl); k_whole)
  clear B F T X hk
  intro L' h' tk' F' N' B' X' T'
  (try simp only [List.reverse_cons, List.reverse_nil, List.nil_append, List.cons_append] at F')
  (try k_fold)
  k_steps
  all_goals (first
    | exact (no_some (rd_sign (by assumption) (by assumption)) hnone).elim
    | exact (no_some (rd_tab (by assumption) (by assumption) (by assumption) (by assumption)) hnone).elim
    | exact (no_some (rd_space (by assumption) (by assumption) (by assumption) (by assumption) (by assumption) (by assumption)) hnone).elim
    | exact (no_some (rd_name (by assumption) (by assumption) (by assumption) (by assumption) (by assumption) (by assumption)) hnone).elim
    | with_reducible refine Hold.out ?_)
  intro e d t₁ t1 h₂ tk₂ F₂ N₂
  have Ne := N₂ (e, _) (.tail _ (.head _))
  have Nd := N₂ (d, _) (.head _)
  refine ⟨_, _, _, rfl, X'.keeps F₂.keep, Ne.1, ?_⟩
  have hde : d ≠ e := fun q => by
    have h1 := Nd.1
    rw [q, Ne.1] at h1
    cases h1
  refine leave_rx (Around.frames_deeper rfl) (fun q => by cases q) rfl B'.frames F₂ Ne.1 Nd.1 Ne.2.2 Nd.2.2 hde Nd.2.1 Ne.2.1 fun h₃ R => ?_
  exact hE e d t1 h₃ _ R
end
end Mine
end

section
open PySem PySem.W PySem.Calls PySem.Spec PyProof.Rows
set_option maxRecDepth 100000
set_option maxHeartbeats 8000000
set_option linter.unusedSimpArgs false
set_option linter.unusedVariables false
namespace Mine
theorem find_ga {P : Params} : findIn (heapK P) (.ref 52) "__getattribute__" = some (some (.builtin "BaseException.__getattribute__")) := by kernel_rfl
theorem find_gattr {P : Params} : findIn (heapK P) (.ref 52) "__getattr__" = some none := by kernel_rfl
theorem mro_be {P : Params} : mroIn (heapK P) 52 (.type "BaseException") = some true := by kernel_rfl
theorem get_dict {P : Params} : hasDictIn (heapK P) 52 = true := by kernel_rfl
theorem get_noget {P : Params} : noGet (heapK P) none = true := by kernel_rfl
theorem told_get {prog : Program} {w : World} {A : Around} {E : Value → Shared → Prop} {s : Shared} {h₀ : Heap} {L e d : Addr} {oe : Obj} {m : Str → Option Value} {Q : Value → Shared → Prop} {hs : Int} {t1 tb : Tok} {b : Array UInt8} {ctx : Bool}
    (F : Fr h₀ L s.heap m) (X : (heapK w.params).In h₀) (N : News h₀ L s.heap [(e, oe), (d, dictOf [⟨hs, .str TOLD t1, .bytes b tb⟩] 1)]) (hc : oe.cls = .ref 52) (hdd : oe.dict = some d) (hn : notCls oe = true)
    (h : Q (.bytes b tb) { s with toks := s.toks + 1 }) : wpAny (model prog w) A (getAttr (.ref e) TOLD ctx) Q E s := by
  have hd := (N (d, _) (.tail _ (.head _))).1
  have I : InstAt s.heap e oe 52 (some (dictOf [⟨hs, .str TOLD t1, .bytes b tb⟩] 1)) := ⟨(N (e, oe) (.head _)).1, hc, hn, by rw [hdd]; exact hd⟩
  have X1 := X.keeps F.keep
  obtain ⟨hh, g, dr, t, os⟩ := s
  dsimp only at I X1
  have L0 := I.type (M := model prog w)
  have L1 := looks_findIn (M := model prog w) X1 find_ga
  have L2 := looks_findIn (M := model prog w) X1 find_gattr
  have hf : findObj (heapK w.params) 52 (some (dictOf [⟨hs, .str TOLD t1, .bytes b tb⟩] 1)) TOLD = some (.value (.bytes b tb)) := findObj_own get_dict find_told get_noget rfl
  have L3 := looks_find (M := model prog w) X1 I hf
  have f3 := PySem.F.attr_Exception.ga.bind (.ref e)
  have hx0 : (ctx && onTheHeap (Value.builtin "BaseException.__getattribute__")) = false := by cases ctx <;> rfl
  have hx2 : (Value.builtin "BaseException.__getattribute__" == Value.builtin "object.__getattribute__") = false := by decide +kernel
  have hx1 : (onTheHeap (Value.ref 52) && Value.builtin "BaseException.__getattribute__" == Value.builtin "object.__getattribute__") = false := by rw [hx2]; rfl
  unfold getAttr
  refine wpAny_bind (wpAny_mkText ?_)
  unfold getAttrBy
  refine wpAny_holding (wpAny_bind (L0.at (wpAny_bind (L1.at ?_))))
  dsimp only
  rw [if_neg (by rw [hx1]; exact Bool.false_ne_true)]
  unfold getAttrByItsOwn hookBefore
  rw [if_pos (show onTheHeap (Value.ref 52) = true from rfl)]
  refine wpAny_bind (L2.at ?_)
  dsimp only [Option.toList]
  unfold callGetattribute
  rw [hx0]
  simp only [Bool.false_eq_true, if_false]
  unfold boundAndCalled
  rw [f3]
  have sub : Looks (model prog w) hh (isInstance (.ref e) (.type "BaseException")) true := I.type.andThen (looks_mroIn X1 mro_be)
  have hk : builtinKind "BaseException.__getattribute__" = some .slot := by decide +kernel
  have hsplit : splitId "BaseException.__getattribute__" = some ("BaseException", "__getattribute__") := by decide +kernel
  refine wpAny_bind (wpAny_attempt (wpAny_holding (wpAny_bind (wpAny_pure (wpAny_call ?_)))))
  refine codeAny_call_builtin PySem.F.attr_Exception.ga.plain PySem.F.entry_bexc_ga (@check_slot (model prog w) _ _ { heap := hh, gens := g, drawn := dr, toks := t + 1, os := os } "BaseException.__getattribute__" "BaseException" "__getattribute__" (.ref e) [.str TOLD t] [] _ hk hsplit sub (PySem.F.args_bexc_ga (.ref e) (.str TOLD t)) ?_)
  unfold Builtin.«object.__getattribute__»
  refine wpAny_bind (wpAny_pure (wpAny_bind (wpAny_pure (wpAny_bind (L0.at (wpAny_bind (L3.at ?_)))))))
  refine wpAny_pure ?_
  show wpAny _ _ (handedOut (.bytes b tb)) _ _ _
  rw [handedOut_of rfl]
  exact wpAny_pure h
end Mine
end

section
open PySem PySem.W PySem.Calls PySem.Spec PyProof.Rows
set_option maxRecDepth 100000
set_option maxHeartbeats 8000000
set_option linter.unusedSimpArgs false
set_option linter.unusedVariables false
namespace Mine

/-- what the suite has in hand -/
structure Caught (g : Heap) (L e d : Addr) (od : Obj) (h : Heap) : Prop where
  there : ∃ oe, h.get? e = some oe ∧ oe.cls = .ref 52 ∧ oe.dict = some d ∧ notCls oe = true
  dict : h.get? d = some od
  eL : e ≠ L
  dL : d ≠ L
  ge : g.get? e = none
  gd : g.get? d = none
theorem Caught.news {g h : Heap} {L e d : Addr} {od : Obj} (c : Caught g L e d od h) : ∃ oe, News g L h [(e, oe), (d, od)] ∧ oe.cls = .ref 52 ∧ oe.dict = some d ∧ notCls oe = true := by
  obtain ⟨oe, h1, h2, h3, h4⟩ := c.there
  refine ⟨oe, fun q hq => ?_, h2, h3, h4⟩
  rcases List.mem_cons.mp hq with rfl | hq
  · exact ⟨h1, c.eL, c.ge⟩
  · rw [List.mem_singleton.mp hq]; exact ⟨c.dict, c.dL, c.gd⟩
theorem notCls_fields {o : Obj} {vs : Array Value} (h : o.data = .fields vs) : notCls o = true := by
  obtain ⟨c, d, dt, sl⟩ := o
  dsimp only at h
  subst h; rfl
theorem caught_rx {w : World} {prog : Program} {A₀ : Around} {E : Value → Shared → Prop} {s' : Shared} {base g G : Heap} {outer : List Env} {L a e d : Addr} {od : Obj} {m : Str → Option Value} {name : Str} {scope : Scope} {cd : Value}
    {n : Str} {b₀ : Stmt} {suite : List Stmt} {pos np : Pos} {rest : List ExceptHandler} {Q : Flow → Shared → Prop} {p : Program} {loose : List Str} {mean : ExcName → Option Value} {mg mb : Str → Option Value} {x : Str}
    (R : Rx G (envOf name scope L a cd :: outer) e d od s'.heap) (F : Fr g L G m) (K : Below A₀ base outer g) (XB : (heapK w.params).In base) (TB : Top p loose mean mg mb base)
    (ex : nsIn (heapK w.params) mainGlobals x = some (some (.ref 52)))
    (k : ∀ h' g' oe tk, KtsTurn (outer.filterMap (·.frame)) g g' → Fr g' L h' (fun y => if y = n then some (.ref e) else m y) → News g' L h' [(e, oe), (d, od)] → oe.cls = .ref 52 → oe.dict = some d → notCls oe = true → Below A₀ base outer g' → (heapK w.params).In g' → Top p loose mean mg mb g' →
      wpAny (model prog w) ((A₀.deeper (envOf name scope L a cd)).mark (some (.ref e))) (execs (b₀ :: suite) (envOf name scope L a cd))
        (fun f s₄ => wpAny (model prog w) (A₀.deeper (envOf name scope L a cd)) (do bindName (envOf name scope L a cd) n .none; unbindBehindTheSuite (envOf name scope L a cd) n pos) (fun _ s₅ => Q f s₅) E s₄)
        (AsSuiteRaised (model prog w) ((A₀.deeper (envOf name scope L a cd)).mark (some (.ref e))) (envOf name scope L a cd) n pos (notedBy (model prog w) ((A₀.deeper (envOf name scope L a cd)).mark (some (.ref e))) (envOf name scope L a cd) (cameBackBy (model prog w) (A₀.deeper (envOf name scope L a cd)) (envOf name scope L a cd) E)))
        { s' with heap := h', toks := tk })
    (hk : scope.kind = .function) (hlo : (envOf name scope L a cd).kindOf n = some .local) (hx : (envOf name scope L a cd).kindOf x = some .globalImplicit) (hd : (x == ("__debug__" : Str)) = false) :
    wpAny (model prog w) (A₀.deeper (envOf name scope L a cd)) (noteFrame (.ref e) (envOf name scope L a cd))
      (fun _ s₂ => wpAny (model prog w) (A₀.deeper (envOf name scope L a cd)) (setFlight (.ref e) none) (fun _ s₃ =>
        wpAny (model prog w) (A₀.deeper (envOf name scope L a cd)) (handleBy (.ref e) (envOf name scope L a cd) (.ExceptHandler (some (.Name x np)) (some n) (b₀ :: suite) pos :: rest)) Q E s₃) E s₂) E s' := by
  obtain ⟨Bs, hBG, hBd, hst, hBe, hfr, htr, hsm, Gd, Ge⟩ := R
  have hBL : Bs.get? L = none := by
    obtain ⟨_, ⟨L', _, hf, hn', _⟩, _⟩ := hfr
    obtain rfl : L = L' := Option.some.inj hf
    exact hn'
  refine looksX (Around.frames_deeper K.stack) hfr rfl htr hst hBe fun h₄ st₄ fr₄ tr₄ sm₄ => ?_
  refine flightX st₄ fr₄ tr₄ fun h₅ st₅ fr₅ tr₅ sm₅ => ?_
  have sm5 := hsm.trans (sm₄.trans sm₅)
  obtain ⟨g₅, T₅, F₅, K₅⟩ := kts_ground K F hBG st₅ sm5
  have X₅ : (heapK w.params).In g₅ := XB.keeps K₅.stays
  have P₅ : TopRead p loose mg mb g₅ := topRead_of (TB.keeps K₅.stays)
  obtain ⟨nm, q', sn, sub, ab, col, dd, k0, k1, k2, k3, k5, hC⟩ := cls52 X₅
  have hC₅ := F₅.keep _ _ hC
  have tr₅' := tr₅
  obtain ⟨oe, vs, T, oT, ts, he, hc, hdd, hda, h1, hnT, hTe, hT, hdT, h3⟩ := tr₅
  refine wpAny_handleBy_cons (codeAny_handlers_test (name_K F₅ X₅ P₅ ex ?_ hk hx hd)) (by intro q; cases q)
  refine wpAny_excMatches_sub_self hC₅ he hc (by decide) (codeAny_handlers_suite_as ?_)
  refine flightX st₅ fr₅ tr₅' fun h₆ st₆ fr₆ tr₆ sm₆ => ?_
  obtain ⟨g₆, T₆, F₆, K₆⟩ := kts_ground K F hBG st₆ (sm5.trans sm₆)
  obtain ⟨oe6, vs6, _, _, _, he6, hc6, hdd6, hda6, _⟩ := tr₆
  have heL : e ≠ L := fun q => by
    obtain ⟨_, ⟨L', o, hf, _, ho, hnf⟩, _⟩ := fr₆
    obtain rfl : L = L' := Option.some.inj hf
    rw [← q, he6] at ho
    cases ho
    exact hnf vs6 hda6
  have hdL : d ≠ L := fun q => by rw [q, hBL] at hBd; cases hBd
  have N₆ : News g₆ L h₆ [(e, oe6), (d, od)] := fun q hq => by
    rcases List.mem_cons.mp hq with rfl | hq
    · exact ⟨he6, heL, T₆.none_ _ (kts_none F.keep Ge)⟩
    · rw [List.mem_singleton.mp hq]; exact ⟨st₆ _ _ hBd, hdL, T₆.none_ _ (kts_none F.keep Gd)⟩
  refine stN F₆ N₆ (fun h₇ F₇ N₇ => ?_) hk hlo
  exact k h₇ g₆ oe6 _ T₆ F₇ N₇ hc6 hdd6 (notCls_fields hda6) K₆ (XB.keeps K₆.stays) (TB.keeps K₆.stays)
theorem turn_back {g g' h h₀ : Heap} {L L' : Addr} {m m' : Str → Option Value} {fs : List Addr} (F : Fr h₀ L g m) (T : KtsTurn fs g g') (hfs : ∀ b ∈ fs, b = L) (F' : Fr g' L' h m') : Fr h₀ L h m ∧ ∀ news, News h₀ L g news → News h₀ L h news := by
  obtain ⟨oL, es, ep, hL, hLd, r⟩ := F.ns
  obtain ⟨sl, hs⟩ := T.up hL
  have hk : ∀ b o, g.get? b = some o → b ≠ L → h.get? b = some o := fun b o e hb => F'.keep b o (T.other b o e fun hm => hb (hfs b hm))
  have h0 : ∀ b o, h₀.get? b = some o → b ≠ L := fun b o e q => by
    rw [q] at e
    exact absurd (Nat.lt_of_lt_of_le (Heap.lt_size e) F.above) (Nat.lt_irrefl _)
  refine ⟨⟨⟨_, es, ep, F'.keep _ _ hs, hLd, r⟩, fun b o e => hk b o (F.keep b o e) (h0 b o e), F.above⟩, fun news N q hq => ?_⟩
  exact ⟨hk _ _ (N q hq).1 (N q hq).2.1, (N q hq).2.1, (N q hq).2.2⟩

section

theorem law_refused {w : World} {p : Program} {loose : List Str} {mean : ExcName → Option Value} {mg mb : Str → Option Value} {dp un : Nat} {gd : Option (List Code)} {cn : Str} {cs : Scope} {a : Addr} {ccd : Value} {cl : List (Str × Addr)} {A₀ : Around} {base h₀ : Heap} {L : Addr} {m : Str → Option Value} {s : Shared} {Q E : Value → Shared → Prop} {news : Led} (b : Array UInt8) (t : Tok) (hl : (KBw.bInts b).length ≤ 64) (hnone : readF (KBw.bInts b) = none)
    (B : Below A₀ base [] h₀) (F : Fr h₀ L s.heap m) (X : (heapK w.params).In h₀) (N : News h₀ L s.heap news) (T : Top p loose mean mg mb h₀) (hk : cs.kind = .function) (hd : dp + 10 < recursionLimit) (hu : un + 80 < cLine)
    (XB : (heapK w.params).In base) (TB : Top p loose mean mg mb base)
    (ret : ∀ h' tk', Fr h₀ L h' m → News h₀ L h' news → Q (.bool true) { s with heap := h', toks := tk' }) :
    wpAny (model Challenge.rw_og0251_01.row.prog w) (ktrTop dp un gd cn cs L a ccd cl []) (call (.ref 370) [.bytes b t]) Q E s := by
  w_top off
  k_with_none
  k_with "execs cons" => k_fold
  k_with "execs cons" => ((with_reducible refine st_norm (g' := s.gens) (d' := s.drawn) (os' := s.os) rfl rfl rfl fun tk => ?_); (try k_fold))
  k_with "k_room" => ((try simp only [depth_under_make, depth_under_kw, depth_in1, depth_deeper, depth_caller]); (try dsimp only [ktrTop]); omega)
  k_with "k_enter" => (refine' code_def ?k1 ?k2 ?k3 ?k4 ?k5 ?kA ?kF ?kK ?k6 ?k7 ?k8 ?k9 ?kB ?_ ?c2 ?c3 ?c4 ?c5; (case kA => exact rfl); (case kF => exact rfl); (case kK => assumption); (case k1 => k_asm); (case k2 => k_asm); (case k3 => k_asm); (case k4 => k_asm); (case k5 => k_asm); (case k6 => k_is); (case k7 => k_is); (case k8 => k_room); (case k9 => first | exact BindsTo.of_eq rfl | exact binds_K (by k_in) rfl (by k_is) rfl rfl rfl); (case c5 => decide); (case kB => exact locs rfl); (case c2 => exact rfl); (case c3 => exact rfl); (case c4 => exact rfl); k_whole; intro g' L' h' FG' F' N' B' X' T'; (try dsimp only); (try k_fold))
  k_with "UnrEndW" => k_dflt ktu_end
  k_with "subscriptTail" => (k_here; (with_reducible show wpAny _ _ (subscriptTail _ _ (Value.bytes _ _) (Value.int _ _)) _ _ _); (refine KBw.item_K (by kba_ints) (by kba_size) (by kba_idx) (by kba_idx) ?_); intro _ _ kbaLo kbaHi)
  k_with "subscriptTail" => (k_here; (with_reducible show wpAny _ _ (subscriptTail _ (Expr.Slice _ _ none _) (Value.bytes _ _) (Value.ref _)) _ _ _); (with_reducible rename Fr _ _ _ _ => F'); (with_reducible rename News _ _ _ _ => N'); (refine KBc.slice_K (s := ⟨_, _, _, _, _⟩) F' N' (by kba_ints) (by constructor) (by constructor) (by kba_size) ?_); intro _ _ _ _ _ kbcK; (try simp only [Option.elim, KBc.clip_lit, clipAt_nat, List.drop_zero, Nat.sub_zero] at kbcK))
  k_with "ite" => (k_here; (with_reducible show if ((_ : Int) == (_ : Int)) = true then _ else _); first | (refine ite_pos (by rw [beq_iff_eq]; omega) ?_; walk_say "PR") | (refine ite_neg (by rw [beq_iff_eq]; omega) ?_; walk_say "PR"))
  k_with "call ref" => (k_here; (with_reducible show wpAny _ _ (call (Value.ref 309) [Value.bytes _ _]) _ _ _); k_dflt (refine' raise_read_key _ _ _ rfl ?kl ?kn ?k1 ?k2 ?k3 ?k5 ?kK ?kd ?ku ?_; (case kl => assumption); (case kn => assumption); (case k1 => k_asm); (case k2 => k_asm); (case k3 => k_asm); (case k5 => k_asm); (case kK => first | exact rfl | assumption); (case kd => first | (dsimp only [ktrTop]; omega) | (simp only [depth_under_make, depth_under_kw, depth_in1, depth_deeper, depth_caller]; (try dsimp only [ktrTop]); omega)); (case ku => first | (dsimp only [ktrTop]; omega) | (simp only [units_in1, units_deeper, Around.mark_units, units_caller]; (try dsimp only [ktrTop]); omega)); k_whole); intro e' d' t1' h' tk' R')
  k_with "exec Try" => (k_here; refine wpAny_Try_except ?_)
  k_with "noteFrame ref" => (k_here; (k_dflt (refine' caught_rx ?R ?F ?K ?XB ?TB ?ex ?_ ?h1 ?h2 ?h3 ?h4; (case R => assumption); (case F => k_asm); (case K => assumption); (case XB => assumption); (case TB => assumption); (case ex => k_is); (case h1 => exact rfl); (case h2 => exact rfl); (case h3 => exact rfl); (case h4 => decide); k_whole)); intro h' g' oe' tk' T' F' N' c1' c2' c3' K' X' P')
  k_with "getAttr ref" => (k_here; (k_dflt (refine' told_get ?k1 ?k2 ?k3 ?k4 ?k5 ?k6 ?_; (case k1 => k_asm); (case k2 => k_asm); (case k3 => k_asm); (case k4 => assumption); (case k5 => assumption); (case k6 => assumption); k_whole)))
  revert X; k_fill; intro X
  have FL := F
  have NL := N
  k_dflt (refine' enterX (binds := [(PySem.Str.ofString "word", .bytes b t)]) B F X T hk ?k8 ?k6 ?k7 ?k9 ?kB ?_ ?c5 ?c2 ?c3 ?c4; (case k6 => k_is); (case k7 => k_is); (case k8 => omega); (case k9 => exact BindsTo.of_eq rfl); (case c5 => decide); (case kB => exact locs rfl); (case c2 => exact rfl); (case c3 => exact rfl); (case c4 => exact rfl); k_whole)
  clear B F N T X hk
  intro L' h' tk' F' N' B' X' T'
  (try simp only [List.reverse_cons, List.reverse_nil, List.nil_append, List.cons_append] at F')
  (try k_fold)
  k_steps
  have e1 : (b.toList == b.toList) = true := beq_self_eq_true _
  rename KtsTurn _ _ _ => kT
  show Q (.bool (b.toList == b.toList)) _
  rw [e1]
  have hfs : ∀ x ∈ ([envX cn cs L a ccd cl] : List Env).filterMap (·.frame), x = L := fun x hx => List.mem_singleton.mp hx
  exact ret _ _ (turn_back FL kT hfs (by assumption)).1 ((turn_back FL kT hfs (by assumption)).2 _ NL)
end
end Mine
end

section
open PySem PySem.W PySem.Calls PySem.Spec PyProof.Rows
set_option maxRecDepth 100000
set_option maxHeartbeats 8000000
set_option linter.unusedSimpArgs false
set_option linter.unusedVariables false
namespace Mine

theorem sg2 {n : Int} (h : ¬ n < 128) (h' : n < 2048) : [192 + n.fdiv 64, 128 + n.fmod 64] = utf8G n := by
  unfold utf8G; rw [if_neg h, if_pos h', Int.fdiv_eq_ediv_of_nonneg _ (by decide), Int.fmod_eq_emod_of_nonneg _ (by decide)]
theorem sg3 {n : Int} (h : ¬ n < 2048) (h' : n < 65536) : [224 + n.fdiv 4096, 128 + (n.fdiv 64).fmod 64, 128 + n.fmod 64] = utf8G n := by
  unfold utf8G; rw [if_neg (by omega), if_neg h, if_pos h', Int.fdiv_eq_ediv_of_nonneg _ (by decide), Int.fdiv_eq_ediv_of_nonneg _ (by decide), Int.fmod_eq_emod_of_nonneg _ (by decide), Int.fmod_eq_emod_of_nonneg _ (by decide)]
theorem sg4 {n : Int} (h : ¬ n < 65536) : [240 + n.fdiv 262144, 128 + (n.fdiv 4096).fmod 64, 128 + (n.fdiv 64).fmod 64, 128 + n.fmod 64] = utf8G n := by
  unfold utf8G; rw [if_neg (by omega), if_neg (by omega), if_neg h, Int.fdiv_eq_ediv_of_nonneg _ (by decide), Int.fdiv_eq_ediv_of_nonneg _ (by decide), Int.fdiv_eq_ediv_of_nonneg _ (by decide), Int.fmod_eq_emod_of_nonneg _ (by decide), Int.fmod_eq_emod_of_nonneg _ (by decide), Int.fmod_eq_emod_of_nonneg _ (by decide)]
abbrev isLetter (c : Int) : Prop := (65 ≤ c ∧ c ≤ 90) ∨ (97 ≤ c ∧ c ≤ 122)
noncomputable def lawSetF (c q : Int) : Int × Int :=
  if isLetter c ∧ q / 4 = 1 then (if c ≤ 90 then c + 32 else c, q) else if isLetter c ∧ q % 2 = 1 then (if 97 ≤ c then c - 32 else c, q - 1) else (c, q)
section
variable {c q : Int}
theorem fd4 : q.fdiv 4 = q / 4 := Int.fdiv_eq_ediv_of_nonneg _ (by decide)
theorem fm2 : q.fmod 2 = q % 2 := Int.fmod_eq_emod_of_nonneg _ (by decide)
theorem ls1 (h1 : isLetter c) (h2 : q.fdiv 4 = 1) (h3 : c ≤ 90) : lawSetF c q = (c + 32, q) := by
  unfold lawSetF; rw [if_pos ⟨h1, fd4 ▸ h2⟩, if_pos h3]
theorem ls2 (h1 : isLetter c) (h2 : q.fdiv 4 = 1) (h3 : ¬ c ≤ 90) : lawSetF c q = (c, q) := by
  unfold lawSetF; rw [if_pos ⟨h1, fd4 ▸ h2⟩, if_neg h3]
theorem ls3 (h1 : isLetter c) (h2 : ¬ q.fdiv 4 = 1) (h4 : q.fmod 2 = 1) (h3 : 97 ≤ c) : lawSetF c q = (c - 32, q - 1) := by
  rw [fd4] at h2; rw [fm2] at h4
  unfold lawSetF; rw [if_neg (fun h => h2 h.2), if_pos ⟨h1, h4⟩, if_pos h3]
theorem ls4 (h1 : isLetter c) (h2 : ¬ q.fdiv 4 = 1) (h4 : q.fmod 2 = 1) (h3 : ¬ 97 ≤ c) : lawSetF c q = (c, q - 1) := by
  rw [fd4] at h2; rw [fm2] at h4
  unfold lawSetF; rw [if_neg (fun h => h2 h.2), if_pos ⟨h1, h4⟩, if_neg h3]
theorem ls5 (h2 : ¬ q.fdiv 4 = 1) (h4 : ¬ q.fmod 2 = 1) : lawSetF c q = (c, q) := by
  rw [fd4] at h2; rw [fm2] at h4
  unfold lawSetF; rw [if_neg (fun h => h2 h.2), if_neg (fun h => h4 h.2)]
theorem ls6 (h1 : ¬ isLetter c) : lawSetF c q = (c, q) := by
  unfold lawSetF; rw [if_neg (fun h => h1 h.1), if_neg (fun h => h1 h.1)]
end
/-- a tuple of a name, a code and what is held -/
noncomputable def DueIs (nb : Array UInt8) (c q : Int) (tl : Led) (r : Value) : Prop := ∃ (D : Addr) (t u v : Tok), r = .ref D ∧ tl = [(D, { cls := Value.type "tuple", data := Data.seq #[.bytes nb t, .int c u, .int q v] })]
theorem due_ret {nb : Array UInt8} {c q c' q' : Int} {g h' : Heap} {L' D : Addr} {m' : Str → Option Value} {s : Shared} {tk' : Nat} {Q : Value → Shared → Prop} {t u v : Tok} {rest : Led}
    (hret : ∀ r (tl : Led) h' tk' m' (news' : Led), Fr g L' h' m' → News g L' h' news' → (∀ q ∈ tl, q ∈ news') → (∀ q ∈ ([] : Led), q ∈ news') → (∀ q ∈ tl, ∀ z ∈ ([] : Led), q.1 ≠ z.1) → DueIs nb (lawSetF c q).1 (lawSetF c q).2 tl r → Q r { s with heap := h', toks := tk' })
    (F : Fr g L' h' m') (N : News g L' h' ((D, { cls := Value.type "tuple", data := Data.seq #[.bytes nb t, .int c' u, .int q' v] }) :: rest)) (e : lawSetF c q = (c', q')) : Q (.ref D) { s with heap := h', toks := tk' } :=
  hret (.ref D) [_] h' tk' m' _ F N (fun z hz => by rw [List.mem_singleton.mp hz]; exact List.mem_cons_self ..) (List.forall_mem_nil _) (fun _ _ _ h => nomatch h) ⟨D, t, u, v, rfl, by rw [e]⟩
section

theorem con_law_sign (n : Int) (t : Tok) (h0 : 0 ≤ n) (h1 : n < 1114112) : ConV 328 [.int n t] 3 [] (fun r => ∃ b' t', r = .bytes b' t' ∧ KBw.bInts b' = utf8G n) := by
  w_top off
  k_with_none
  k_with "execs cons" => k_fold
  k_with "execs cons" => ((with_reducible refine st_norm (g' := s.gens) (d' := s.drawn) (os' := s.os) rfl rfl rfl fun tk => ?_); (try k_fold))
  k_with "k_room" => ((try simp only [depth_under_make, depth_under_kw, depth_in1, depth_deeper, depth_caller]); (try dsimp only [ktrTop]); omega)
  k_with "k_enter" => (refine' code_def ?k1 ?k2 ?k3 ?k4 ?k5 ?kA ?kF ?kK ?k6 ?k7 ?k8 ?k9 ?kB ?_ ?c2 ?c3 ?c4 ?c5; (case kA => exact rfl); (case kF => exact rfl); (case kK => assumption); (case k1 => k_asm); (case k2 => k_asm); (case k3 => k_asm); (case k4 => k_asm); (case k5 => k_asm); (case k6 => k_is); (case k7 => k_is); (case k8 => k_room); (case k9 => first | exact BindsTo.of_eq rfl | exact binds_K (by k_in) rfl (by k_is) rfl rfl rfl); (case c5 => decide); (case kB => exact locs rfl); (case c2 => exact rfl); (case c3 => exact rfl); (case c4 => exact rfl); k_whole; intro g' L' h' FG' F' N' B' X' T'; (try dsimp only); (try k_fold))
  k_with "UnrEndW" => k_dflt ktu_end
  k_with "subscriptTail" => (k_here; (with_reducible show wpAny _ _ (subscriptTail _ _ (Value.bytes _ _) (Value.int _ _)) _ _ _); (refine KBw.item_K (by kba_ints) (by kba_size) (by kba_idx) (by kba_idx) ?_); intro _ _ kbaLo kbaHi)
  k_with "subscriptTail" => (k_here; (with_reducible show wpAny _ _ (subscriptTail _ (Expr.Slice _ _ none _) (Value.bytes _ _) (Value.ref _)) _ _ _); (with_reducible rename Fr _ _ _ _ => F'); (with_reducible rename News _ _ _ _ => N'); (refine KBc.slice_K (s := ⟨_, _, _, _, _⟩) F' N' (by kba_ints) (by constructor) (by constructor) (by kba_size) ?_); intro _ _ _ _ _ kbcK; (try simp only [Option.elim, KBc.clip_lit, clipAt_nat, List.drop_zero, Nat.sub_zero] at kbcK))
  k_with "ite" => (k_here; (with_reducible show if ((_ : Int) == (_ : Int)) = true then _ else _); first | (refine ite_pos (by rw [beq_iff_eq]; omega) ?_; walk_say "PR") | (refine ite_neg (by rw [beq_iff_eq]; omega) ?_; walk_say "PR"))
  k_with "call type:bytes" => (k_here; (with_reducible show wpAny _ _ (call (Value.type "bytes") [Value.ref _]) _ _ _); (rename Int => nQ); k_dflt (refine' bytes_as (utf8G nQ) ?k1 ?k2 ?k3 ?k4 ?k5 ?k6 ?k7 ?k8 ?_; (case k1 => k_asm); (case k2 => k_asm); (case k3 => exact rfl); (case k4 => k_mem); (case k5 => first | exact .cons _ _ .nil | exact .cons _ _ (.cons _ _ .nil) | exact .cons _ _ (.cons _ _ (.cons _ _ .nil)) | exact .cons _ _ (.cons _ _ (.cons _ _ (.cons _ _ .nil)))); (case k6 => first | exact utf8_1 (by assumption) | exact sg2 (by assumption) (by assumption) | exact sg3 (by assumption) (by assumption) | exact sg4 (by assumption)); (case k7 => exact in_utf8G (by assumption) (by assumption)); (case k8 => exact Nat.le_trans len_utf8G (by decide)); k_whole); intro h' b' t' k' F' N' hr')
  (try unfold ConV)
  unfold Con
  k_fill
  intro w p loose mean mg mb dp un gd cn cs a ccd cl outer A₀ base h₀ L m s Q E B F X N T hk hd hu hret
  k_dflt (refine' con_enterV (binds := [(PySem.Str.ofString "code", .int n t)]) B F X N T hk hret ?k8 ?k6 ?k7 ?k9 ?kB ?_ ?c5 ?c2 ?c3 ?c4; (case k6 => k_is); (case k7 => k_is); (case k8 => omega); (case k9 => exact BindsTo.of_eq rfl); (case c5 => decide); (case kB => exact locs rfl); (case c2 => exact rfl); (case c3 => exact rfl); (case c4 => exact rfl); k_whole)
  clear hret B F N T X hk
  intro g' L' h' tk' F' N' B' X' T' l1 hret
  (try k_lt l1)
  (try simp only [List.reverse_cons, List.reverse_nil, List.nil_append, List.cons_append] at F')
  (try k_fold)
  k_steps
  all_goals exact hret _ _ _ _ _ (by assumption) (by assumption) (List.forall_mem_nil _) ⟨_, _, rfl, by assumption⟩
theorem con_law_settled (nb : Array UInt8) (c q : Int) (t u v : Tok) (hq0 : 0 ≤ q) (hq7 : q ≤ 7) : Con 349 [.bytes nb t, .int c u, .int q v] 2 [] (fun _ tl r => DueIs nb (lawSetF c q).1 (lawSetF c q).2 tl r) := by
  w_top off
  k_with_none
  k_with "execs cons" => k_fold
  k_with "execs cons" => ((with_reducible refine st_norm (g' := s.gens) (d' := s.drawn) (os' := s.os) rfl rfl rfl fun tk => ?_); (try k_fold))
  k_with "k_room" => ((try simp only [depth_under_make, depth_under_kw, depth_in1, depth_deeper, depth_caller]); (try dsimp only [ktrTop]); omega)
  k_with "k_enter" => (refine' code_def ?k1 ?k2 ?k3 ?k4 ?k5 ?kA ?kF ?kK ?k6 ?k7 ?k8 ?k9 ?kB ?_ ?c2 ?c3 ?c4 ?c5; (case kA => exact rfl); (case kF => exact rfl); (case kK => assumption); (case k1 => k_asm); (case k2 => k_asm); (case k3 => k_asm); (case k4 => k_asm); (case k5 => k_asm); (case k6 => k_is); (case k7 => k_is); (case k8 => k_room); (case k9 => first | exact BindsTo.of_eq rfl | exact binds_K (by k_in) rfl (by k_is) rfl rfl rfl); (case c5 => decide); (case kB => exact locs rfl); (case c2 => exact rfl); (case c3 => exact rfl); (case c4 => exact rfl); k_whole; intro g' L' h' FG' F' N' B' X' T'; (try dsimp only); (try k_fold))
  k_with "UnrEndW" => k_dflt ktu_end
  k_with "subscriptTail" => (k_here; (with_reducible show wpAny _ _ (subscriptTail _ _ (Value.bytes _ _) (Value.int _ _)) _ _ _); (refine KBw.item_K (by kba_ints) (by kba_size) (by kba_idx) (by kba_idx) ?_); intro _ _ kbaLo kbaHi)
  k_with "subscriptTail" => (k_here; (with_reducible show wpAny _ _ (subscriptTail _ (Expr.Slice _ _ none _) (Value.bytes _ _) (Value.ref _)) _ _ _); (with_reducible rename Fr _ _ _ _ => F'); (with_reducible rename News _ _ _ _ => N'); (refine KBc.slice_K (s := ⟨_, _, _, _, _⟩) F' N' (by kba_ints) (by constructor) (by constructor) (by kba_size) ?_); intro _ _ _ _ _ kbcK; (try simp only [Option.elim, KBc.clip_lit, clipAt_nat, List.drop_zero, Nat.sub_zero] at kbcK))
  k_with "ite" => (k_here; (with_reducible show if ((_ : Int) == (_ : Int)) = true then _ else _); first | (refine ite_pos (by rw [beq_iff_eq]; omega) ?_; walk_say "PR") | (refine ite_neg (by rw [beq_iff_eq]; omega) ?_; walk_say "PR"))
  k_with "call type:bytes" => (k_here; (with_reducible show wpAny _ _ (call (Value.type "bytes") [Value.ref _]) _ _ _); (rename Int => nQ); k_dflt (refine' bytes_as (utf8G nQ) ?k1 ?k2 ?k3 ?k4 ?k5 ?k6 ?k7 ?k8 ?_; (case k1 => k_asm); (case k2 => k_asm); (case k3 => exact rfl); (case k4 => k_mem); (case k5 => first | exact .cons _ _ .nil | exact .cons _ _ (.cons _ _ .nil) | exact .cons _ _ (.cons _ _ (.cons _ _ .nil)) | exact .cons _ _ (.cons _ _ (.cons _ _ (.cons _ _ .nil)))); (case k6 => first | exact utf8_1 (by assumption) | exact sg2 (by assumption) (by assumption) | exact sg3 (by assumption) (by assumption) | exact sg4 (by assumption)); (case k7 => exact in_utf8G (by assumption) (by assumption)); (case k8 => exact Nat.le_trans len_utf8G (by decide)); k_whole); intro h' b' t' k' F' N' hr')
  (try unfold ConV)
  unfold Con
  k_fill
  intro w p loose mean mg mb dp un gd cn cs a ccd cl outer A₀ base h₀ L m s Q E B F X N T hk hd hu hret
  k_dflt (refine' con_enterO (binds := [(PySem.Str.ofString "name", .bytes nb t), (PySem.Str.ofString "code", .int c u), (PySem.Str.ofString "held", .int q v)]) B F X N T hk hret ?k8 ?k6 ?k7 ?k9 ?kB ?_ ?c5 ?c2 ?c3 ?c4; (case k6 => k_is); (case k7 => k_is); (case k8 => omega); (case k9 => exact BindsTo.of_eq rfl); (case c5 => decide); (case kB => exact locs rfl); (case c2 => exact rfl); (case c3 => exact rfl); (case c4 => exact rfl); k_whole)
  clear hret B F N T X hk
  intro g' L' h' tk' F' N' B' X' T' l1 hret
  (try k_lt l1)
  (try simp only [List.reverse_cons, List.reverse_nil, List.nil_append, List.cons_append] at F')
  (try k_fold)
  k_steps
  all_goals (refine due_ret (s := s) hret (by assumption) (by assumption) ?_; unfold isLetter at *; first
    | exact ls1 (by unfold isLetter; omega) (by assumption) (by omega)
    | exact ls2 (by unfold isLetter; omega) (by assumption) (by omega)
    | exact ls3 (by unfold isLetter; omega) (by assumption) (by assumption) (by omega)
    | exact ls4 (by unfold isLetter; omega) (by assumption) (by assumption) (by omega)
    | exact ls5 (by assumption) (by assumption)
    | exact ls6 (by unfold isLetter; omega))
end
noncomputable def mulF (n : Int) (x : List Int) : List Int := if n = 1 then x else []
theorem mulF_len (n : Int) (x : List Int) : (mulF n x).length ≤ x.length := by unfold mulF; split <;> simp
theorem sz_a {a b : Int} {x1 x2 y1 y2 : Int} : (mulF a [x1, x2]).length + (mulF b [y1, y2]).length ≤ 16777216 := by
  have h1 := mulF_len a [x1, x2]; have h2 := mulF_len b [y1, y2]; simp only [List.length_cons, List.length_nil] at h1 h2; omega
theorem sz_b {a b d : Int} {x1 x2 y1 y2 z1 z2 : Int} : (mulF a [x1, x2] ++ mulF b [y1, y2]).length + (mulF d [z1, z2]).length ≤ 16777216 := by
  have h1 := mulF_len a [x1, x2]; have h2 := mulF_len b [y1, y2]; have h3 := mulF_len d [z1, z2]; simp only [List.length_cons, List.length_nil] at h1 h2 h3; rw [List.length_append]; omega
theorem sz_c {a b d : Int} {x1 x2 y1 y2 z1 z2 : Int} {ls : List Int} (hl : ls.length ≤ 64) : (mulF a [x1, x2] ++ mulF b [y1, y2] ++ mulF d [z1, z2]).length + ls.length ≤ 16777216 := by
  have h1 := mulF_len a [x1, x2]; have h2 := mulF_len b [y1, y2]; have h3 := mulF_len d [z1, z2]; simp only [List.length_cons, List.length_nil] at h1 h2 h3; rw [List.length_append, List.length_append]; omega
theorem mul_01 {prog : Program} {w : World} {A : Around} {E : Value → Shared → Prop} {s : Shared} {x y : UInt8} {n : Int} {t u : Tok} {Q : Value → Shared → Prop} (hn : n = 0 ∨ n = 1)
    (h : ∀ (r : Array UInt8) t' k, KBw.bInts r = mulF n [(x.toNat : Int), (y.toNat : Int)] → Q (.bytes r t') { s with toks := k }) :
    wpAny (model prog w) A (binaryOp .Mult (.bytes #[x, y] t) (.int n u)) Q E s := by
  refine bytes_mul_any (b := [x, y]) (List.cons_ne_nil _ _) (by omega) (by omega) (by exact (by decide : 2 ≤ 16)) fun t' k => h _ t' k ?_
  rcases hn with rfl | rfl <;> rfl
theorem bit4 {q : Int} (h0 : 0 ≤ q) (h7 : q ≤ 7) : q.fdiv 4 = 0 ∨ q.fdiv 4 = 1 := by rw [fd4]; omega
theorem bit2 {q : Int} : (q.fdiv 2).fmod 2 = 0 ∨ (q.fdiv 2).fmod 2 = 1 := by rw [fm2]; omega
theorem bit1 {q : Int} : q.fmod 2 = 0 ∨ q.fmod 2 = 1 := by rw [fm2]; omega
noncomputable def tailF (nm : List Int) (c : Int) : List Int := if nm = [] then (if c = 32 then [83, 112, 97, 99, 101] else utf8G c) else nm
noncomputable def lawWordF (k : KeyV) : List Int := mulF (k.2.2.fdiv 4) [67, 45] ++ mulF ((k.2.2.fdiv 2).fmod 2) [77, 45] ++ mulF (k.2.2.fmod 2) [83, 45] ++ tailF k.1 k.2.1
section
variable {nb : Array UInt8} {nm : List Int} {c : Int}
theorem tl_1 (hb : KBw.bInts nb = nm) (h : (nb.toList == (#[] : Array UInt8).toList) = true) (hc : c = 32) : [83, 112, 97, 99, 101] = tailF nm c := by
  rw [beq_ints hb rfl] at h
  have h2 : nm = [] := of_decide_eq_true h
  unfold tailF; rw [if_pos h2, if_pos hc]
theorem tl_2 (hb : KBw.bInts nb = nm) (h : (nb.toList == (#[] : Array UInt8).toList) = true) (hc : ¬ c = 32) : utf8G c = tailF nm c := by
  rw [beq_ints hb rfl] at h
  have h2 : nm = [] := of_decide_eq_true h
  unfold tailF; rw [if_pos h2, if_neg hc]
theorem tl_3 (hb : KBw.bInts nb = nm) (h : (nb.toList == (#[] : Array UInt8).toList) = false) : nm = tailF nm c := by
  rw [beq_ints hb rfl] at h
  have h2 : ¬ nm = [] := of_decide_eq_false h
  unfold tailF; rw [if_neg h2]
theorem lw_end {r : Array UInt8} {q : Int} {x : List Int} (hA : KBw.bInts r = mulF (q.fdiv 4) [67, 45] ++ mulF ((q.fdiv 2).fmod 2) [77, 45] ++ mulF (q.fmod 2) [83, 45] ++ x) (hx : x = tailF nm c) : KBw.bInts r = lawWordF (nm, c, q) := by
  rw [hA, hx]; rfl
end
section

theorem con_law_word (D : Addr) (nb : Array UInt8) (nm : List Int) (c q : Int) (t u v : Tok) (hb : KBw.bInts nb = nm) (hl : nm.length ≤ 64) (hc0 : 0 ≤ c) (hc1 : c < 1114112) (hq0 : 0 ≤ q) (hq7 : q ≤ 7) : ConV 356 [.ref D] 4 [(D, { cls := Value.type "tuple", data := Data.seq #[.bytes nb t, .int c u, .int q v] })] (fun r => ∃ b' t', r = .bytes b' t' ∧ KBw.bInts b' = lawWordF (nm, c, q)) := by
  w_top off
  k_with_none
  k_with "execs cons" => k_fold
  k_with "execs cons" => ((with_reducible refine st_norm (g' := s.gens) (d' := s.drawn) (os' := s.os) rfl rfl rfl fun tk => ?_); (try k_fold))
  k_with "k_room" => ((try simp only [depth_under_make, depth_under_kw, depth_in1, depth_deeper, depth_caller]); (try dsimp only [ktrTop]); omega)
  k_with "k_enter" => (refine' code_def ?k1 ?k2 ?k3 ?k4 ?k5 ?kA ?kF ?kK ?k6 ?k7 ?k8 ?k9 ?kB ?_ ?c2 ?c3 ?c4 ?c5; (case kA => exact rfl); (case kF => exact rfl); (case kK => assumption); (case k1 => k_asm); (case k2 => k_asm); (case k3 => k_asm); (case k4 => k_asm); (case k5 => k_asm); (case k6 => k_is); (case k7 => k_is); (case k8 => k_room); (case k9 => first | exact BindsTo.of_eq rfl | exact binds_K (by k_in) rfl (by k_is) rfl rfl rfl); (case c5 => decide); (case kB => exact locs rfl); (case c2 => exact rfl); (case c3 => exact rfl); (case c4 => exact rfl); k_whole; intro g' L' h' FG' F' N' B' X' T'; (try dsimp only); (try k_fold))
  k_with "UnrEndW" => k_dflt ktu_end
  k_with "subscriptTail" => (k_here; (with_reducible show wpAny _ _ (subscriptTail _ _ (Value.bytes _ _) (Value.int _ _)) _ _ _); (refine KBw.item_K (by kba_ints) (by kba_size) (by kba_idx) (by kba_idx) ?_); intro _ _ kbaLo kbaHi)
  k_with "subscriptTail" => (k_here; (with_reducible show wpAny _ _ (subscriptTail _ (Expr.Slice _ _ none _) (Value.bytes _ _) (Value.ref _)) _ _ _); (with_reducible rename Fr _ _ _ _ => F'); (with_reducible rename News _ _ _ _ => N'); (refine KBc.slice_K (s := ⟨_, _, _, _, _⟩) F' N' (by kba_ints) (by constructor) (by constructor) (by kba_size) ?_); intro _ _ _ _ _ kbcK; (try simp only [Option.elim, KBc.clip_lit, clipAt_nat, List.drop_zero, Nat.sub_zero] at kbcK))
  k_with "ite" => (k_here; (with_reducible show if ((_ : Int) == (_ : Int)) = true then _ else _); first | (refine ite_pos (by rw [beq_iff_eq]; omega) ?_; walk_say "PR") | (refine ite_neg (by rw [beq_iff_eq]; omega) ?_; walk_say "PR"))
  k_with "call ref" => (k_here; (with_reducible show wpAny _ _ (call (Value.ref 328) [Value.int _ _]) _ _ _); k_dflt (refine' con_useV (con_law_sign _ _ ?k0 ?k9) ?k1 ?k2 ?k3 ?k4 ?k5 ?kK ?kd ?ku ?ko ?_; (case k0 => assumption); (case k9 => assumption); (case k1 => k_asm); (case k2 => k_asm); (case k3 => k_asm); (case k4 => k_asm); (case k5 => k_asm); (case kK => first | exact rfl | assumption); (case kd => first | (dsimp only [ktrTop]; omega) | (simp only [depth_under_make, depth_under_kw, depth_in1, depth_deeper, depth_caller]; (try dsimp only [ktrTop]); omega)); (case ku => first | (dsimp only [ktrTop]; omega) | (simp only [units_in1, units_deeper, Around.mark_units, units_caller]; (try dsimp only [ktrTop]); omega)); (case ko => first | exact List.forall_mem_nil _ | k_sub); k_whole; intro r' h' tk' F' N' hst' hr'; obtain ⟨bU, tU, hE, hU⟩ := hr'; subst hE))
  k_with "binaryOp Mult bytes int" => (k_here; k_dflt (refine mul_01 (by first | with_reducible exact bit4 (by with_reducible assumption) (by with_reducible assumption) | with_reducible exact bit2 | with_reducible exact bit1) ?_); intro r' t' k' hm')
  k_with "binaryOp Add bytes bytes" => (k_here; (refine KBa.add_K (by with_reducible assumption) (by first | with_reducible assumption | exact KBw.ints_list [83, 112, 97, 99, 101]) (by first | exact sz_a | exact sz_b | exact sz_c (by first | assumption | exact Nat.le_trans len_utf8G (by decide) | exact Nat.le_of_ble_eq_true rfl)) ?_); intro _ _ kbaApp)
  (try unfold ConV)
  unfold Con
  k_fill
  intro w p loose mean mg mb dp un gd cn cs a ccd cl outer A₀ base h₀ L m s Q E B F X N T hk hd hu hret
  k_dflt (refine' con_enterV (binds := [(PySem.Str.ofString "key", .ref D)]) B F X N T hk hret ?k8 ?k6 ?k7 ?k9 ?kB ?_ ?c5 ?c2 ?c3 ?c4; (case k6 => k_is); (case k7 => k_is); (case k8 => omega); (case k9 => exact BindsTo.of_eq rfl); (case c5 => decide); (case kB => exact locs rfl); (case c2 => exact rfl); (case c3 => exact rfl); (case c4 => exact rfl); k_whole)
  clear hret B F N T X hk
  intro g' L' h' tk' F' N' B' X' T' l1 hret
  (try k_lt l1)
  (try simp only [List.reverse_cons, List.reverse_nil, List.nil_append, List.cons_append] at F')
  (try k_fold)
  k_steps
  
  all_goals (refine hret _ _ _ _ _ (by assumption) (by assumption) (by k_sub) ⟨_, _, rfl, ?_⟩; first
    | exact lw_end (by assumption) (tl_1 hb (by assumption) (by assumption))
    | exact lw_end (by assumption) (tl_2 hb (by assumption) (by assumption))
    | exact lw_end (by assumption) (tl_3 hb (by assumption)))
end
end Mine
end

section
open PySem PySem.W PySem.Calls PySem.Spec PyProof.Rows
set_option maxRecDepth 100000
set_option maxHeartbeats 8000000
set_option linter.unusedSimpArgs false
set_option linter.unusedVariables false
namespace Mine

noncomputable def OkDue (ks nm : List Int) (c q : Int) : Prop :=
  readF ks = some (nm, c, q) ∧ readF (wordF (nm, c, q)) = some (nm, c, q) ∧ wordF (nm, c, q) = lawWordF (nm, c, q) ∧ ks.length ≤ 64 ∧ (wordF (nm, c, q)).length ≤ 64 ∧ nm.length ≤ 64 ∧ 0 ≤ c ∧ c < 1114112 ∧ 0 ≤ q ∧ q ≤ 7
theorem read_is {P : Params} {ks nm : List Int} {c q : Int} {tl : Led} {r : Value} (h : ReadIs P ks tl r) (e : readF ks = some (nm, c, q)) : ∃ x d, r = .ref x ∧ KeyIs P nm c q x d tl := by
  obtain ⟨nm', c', q', x, d, h1, h2, h3⟩ := h
  rw [h1] at e
  cases e
  exact ⟨x, d, h2, h3⟩
theorem some_ne {o : Option KeyV} {x : KeyV} (h : o = some x) : o ≠ none := by rw [h]; exact fun q => by cases q

theorem eqat_bytes {A : Around} {s : Shared} {b c : Array UInt8} {t u : Tok} : SeqAt.EqAt A s (.bytes b t) (.bytes c u) (b.toList == c.toList) := fun prog w E Q h => by
  unfold eqBool
  refine wpAny_holding ?_
  refine wpAny_ite_split (fun hab => ?_) (fun _ => ?_)
  · have e : b = c := by have := eq_of_beq hab; injection this
    subst e
    exact wpAny_bind (wpAny_rule (wpAny_pure (by simpa using h)))
  · exact wpAny_bind (W.eq_bytes (wpAny_truthy_bool h))
theorem due_at {A : Around} {s : Shared} {kb nb : Array UInt8} {t1 t2 : Tok} {c q : Int} {t3 t4 t5 t6 : Tok} (hkb : KBw.bInts kb = KBw.bInts nb) : ∀ j (h1 : j < #[Value.bytes kb t1, .int c t3, .int q t4].size) (h2 : j < #[Value.bytes nb t2, .int c t5, .int q t6].size), SeqAt.EqAt A s #[Value.bytes kb t1, .int c t3, .int q t4][j] #[Value.bytes nb t2, .int c t5, .int q t6][j] true := fun j h1 h2 => by
  have e0 : (kb.toList == nb.toList) = true := by rw [beq_ints hkb rfl]; simp
  match j, h1, h2 with
  | 0, _, _ => exact e0 ▸ eqat_bytes
  | 1, _, _ => have := SeqAt.EqAt.int_int (A := A) (s := s) c t3 c t5; rw [beq_self_eq_true] at this; exact this
  | 2, _, _ => have := SeqAt.EqAt.int_int (A := A) (s := s) q t4 q t6; rw [beq_self_eq_true] at this; exact this
theorem due_ne {prog : Program} {w : World} {A : Around} {E : Value → Shared → Prop} {s : Shared} {h₀ : Heap} {L : Addr} {news : List (Addr × Obj)} {x y : Addr} {kb nb : Array UInt8} {t1 t2 : Tok} {c q : Int} {t3 t4 t5 t6 : Tok} {nm : List Int} {Q : Value → Shared → Prop}
    (N : News h₀ L s.heap news) (mx : (x, ({ cls := Value.type "tuple", data := Data.seq #[.bytes kb t1, .int c t3, .int q t4] } : Obj)) ∈ news) (my : (y, ({ cls := Value.type "tuple", data := Data.seq #[.bytes nb t2, .int c t5, .int q t6] } : Obj)) ∈ news) (hu : A.units < cLine) (hk : KBw.bInts kb = nm) (hn : KBw.bInts nb = nm)
    (h : Q (.bool false) s) : wpAny (model prog w) A (compareOp .NotEq (.ref x) (.ref y)) Q E s :=
  SeqAt.RcNeAt.tuples ⟨_, (N.get mx), rfl, _, rfl⟩ ⟨_, (N.get my), rfl, _, rfl⟩ hu (due_at (hk.trans hn.symm)) prog w E Q h
theorem due_eq {prog : Program} {w : World} {A : Around} {E : Value → Shared → Prop} {s : Shared} {h₀ : Heap} {L : Addr} {news : List (Addr × Obj)} {x y : Addr} {kb nb : Array UInt8} {t1 t2 : Tok} {c q : Int} {t3 t4 t5 t6 : Tok} {nm : List Int} {Q : Value → Shared → Prop}
    (N : News h₀ L s.heap news) (mx : (x, ({ cls := Value.type "tuple", data := Data.seq #[.bytes kb t1, .int c t3, .int q t4] } : Obj)) ∈ news) (my : (y, ({ cls := Value.type "tuple", data := Data.seq #[.bytes nb t2, .int c t5, .int q t6] } : Obj)) ∈ news) (hu : A.units < cLine) (hk : KBw.bInts kb = nm) (hn : KBw.bInts nb = nm)
    (h : Q (.bool true) s) : wpAny (model prog w) A (compareOp .Eq (.ref x) (.ref y)) Q E s :=
  SeqAt.eq_tupleAt ⟨_, (N.get mx), rfl, _, rfl⟩ ⟨_, (N.get my), rfl, _, rfl⟩ hu (due_at (hk.trans hn.symm)) h
theorem words_same {b c : Array UInt8} {ks ls : List Int} (hb : KBw.bInts b = ks) (hc : KBw.bInts c = ls) (e : ks = ls) : (b.toList == c.toList) = true := by
  rw [beq_ints hb hc]; simp [e]

section
theorem con_law_right (w : World) (ks nm : List Int) (c q : Int) (b nb : Array UInt8) (TD : Addr) (t tn tc' tq' : Tok) (hb : KBw.bInts b = ks) (hnb : KBw.bInts nb = nm) (ok : OkDue ks nm c q) : ConWV w 377 [.bytes b t, .ref TD] 10 [(TD, { cls := Value.type "tuple", data := Data.seq #[.bytes nb tn, .int c tc', .int q tq'] })] (fun r => r = .bool true) := by
  w_top off
  k_with_none
  k_with "execs cons" => k_fold
  k_with "execs cons" => ((with_reducible refine st_norm (g' := s.gens) (d' := s.drawn) (os' := s.os) rfl rfl rfl fun tk => ?_); (try k_fold))
  k_with "k_room" => ((try simp only [depth_under_make, depth_under_kw, depth_in1, depth_deeper, depth_caller]); (try dsimp only [ktrTop]); omega)
  k_with "k_enter" => (refine' code_def ?k1 ?k2 ?k3 ?k4 ?k5 ?kA ?kF ?kK ?k6 ?k7 ?k8 ?k9 ?kB ?_ ?c2 ?c3 ?c4 ?c5; (case kA => exact rfl); (case kF => exact rfl); (case kK => assumption); (case k1 => k_asm); (case k2 => k_asm); (case k3 => k_asm); (case k4 => k_asm); (case k5 => k_asm); (case k6 => k_is); (case k7 => k_is); (case k8 => k_room); (case k9 => first | exact BindsTo.of_eq rfl | exact binds_K (by k_in) rfl (by k_is) rfl rfl rfl); (case c5 => decide); (case kB => exact locs rfl); (case c2 => exact rfl); (case c3 => exact rfl); (case c4 => exact rfl); k_whole; intro g' L' h' FG' F' N' B' X' T'; (try dsimp only); (try k_fold))
  k_with "UnrEndW" => k_dflt ktu_end
  k_with "subscriptTail" => (k_here; (with_reducible show wpAny _ _ (subscriptTail _ _ (Value.bytes _ _) (Value.int _ _)) _ _ _); (refine KBw.item_K (by kba_ints) (by kba_size) (by kba_idx) (by kba_idx) ?_); intro _ _ kbaLo kbaHi)
  k_with "subscriptTail" => (k_here; (with_reducible show wpAny _ _ (subscriptTail _ (Expr.Slice _ _ none _) (Value.bytes _ _) (Value.ref _)) _ _ _); (with_reducible rename Fr _ _ _ _ => F'); (with_reducible rename News _ _ _ _ => N'); (refine KBc.slice_K (s := ⟨_, _, _, _, _⟩) F' N' (by kba_ints) (by constructor) (by constructor) (by kba_size) ?_); intro _ _ _ _ _ kbcK; (try simp only [Option.elim, KBc.clip_lit, clipAt_nat, List.drop_zero, Nat.sub_zero] at kbcK))
  k_with "ite" => (k_here; (with_reducible show if ((_ : Int) == (_ : Int)) = true then _ else _); first | (refine ite_pos (by rw [beq_iff_eq]; omega) ?_; walk_say "PR") | (refine ite_neg (by rw [beq_iff_eq]; omega) ?_; walk_say "PR"))
  k_with "call ref" => (k_here; (with_reducible show wpAny _ _ (call (Value.ref 309) [_]) _ _ _); k_dflt (refine' con_use (con_read_key _ _ _ ?kb ?kl ?ks) ?k1 ?k2 ?k3 ?k4 ?k5 ?kK ?kd ?ku ?ko ?_; (case kb => with_reducible assumption); (case kl => with_reducible assumption); (case ks => exact some_ne (by assumption)); (case k1 => k_asm); (case k2 => k_asm); (case k3 => k_asm); (case k4 => k_asm); (case k5 => k_asm); (case kK => first | exact rfl | assumption); (case kd => first | (dsimp only [ktrTop]; omega) | (simp only [depth_under_make, depth_under_kw, depth_in1, depth_deeper, depth_caller]; (try dsimp only [ktrTop]); omega)); (case ku => first | (dsimp only [ktrTop]; omega) | (simp only [units_in1, units_deeper, Around.mark_units, units_caller]; (try dsimp only [ktrTop]); omega)); (case ko => first | exact List.forall_mem_nil _ | k_sub); k_whole; intro r' tl' h' tk' F' N' hne' hst' hr'; obtain ⟨kx, kd, hE, hK⟩ := read_is hr' (by assumption); subst hE; (have hK2 := hK); obtain ⟨kb, tb, tc, tq, te, t1, t2, t3, t4, hkb, hE2⟩ := hK2; subst hE2; (simp only [List.nil_append, List.cons_append] at N')))
  k_with "call ref" => (k_here; (with_reducible show wpAny _ _ (call (Value.ref 316) [_]) _ _ _); k_dflt (refine' con_useW (con_key_word _ _ _ _ _ _ _ ?hK ?c0 ?c1 ?q0 ?q7 ?nl) ?k1 ?k2 ?k3 ?k4 ?k5 ?kK ?kd ?ku ?ko ?_; (case hK => with_reducible assumption); (case c0 => with_reducible assumption); (case c1 => with_reducible assumption); (case q0 => with_reducible assumption); (case q7 => with_reducible assumption); (case nl => with_reducible assumption); (case k1 => k_asm); (case k2 => k_asm); (case k3 => k_asm); (case k4 => k_asm); (case k5 => k_asm); (case kK => first | exact rfl | assumption); (case kd => first | (dsimp only [ktrTop]; omega) | (simp only [depth_under_make, depth_under_kw, depth_in1, depth_deeper, depth_caller]; (try dsimp only [ktrTop]); omega)); (case ku => first | (dsimp only [ktrTop]; omega) | (simp only [units_in1, units_deeper, Around.mark_units, units_caller]; (try dsimp only [ktrTop]); omega)); (case ko => first | exact List.forall_mem_nil _ | lcg_sub); k_whole; intro r' tl' h' tk' F' N' hne' hst' hr'; obtain ⟨hE1, wb, wt, hE2, hwb⟩ := hr'; subst hE1 hE2; (simp only [List.nil_append, List.cons_append] at N')))
  k_with "call ref" => (k_here; (with_reducible show wpAny _ _ (call (Value.ref 356) [_]) _ _ _); k_dflt (refine' con_useV (con_law_word _ _ _ _ _ _ _ _ ?hb ?nl ?c0 ?c1 ?q0 ?q7) ?k1 ?k2 ?k3 ?k4 ?k5 ?kK ?kd ?ku ?ko ?_; (case k1 => k_asm); (case k2 => k_asm); (case k3 => k_asm); (case k4 => k_asm); (case k5 => k_asm); (case kK => first | exact rfl | assumption); (case kd => first | (dsimp only [ktrTop]; omega) | (simp only [depth_under_make, depth_under_kw, depth_in1, depth_deeper, depth_caller]; (try dsimp only [ktrTop]); omega)); (case ku => first | (dsimp only [ktrTop]; omega) | (simp only [units_in1, units_deeper, Around.mark_units, units_caller]; (try dsimp only [ktrTop]); omega)); (case ko => first | exact List.forall_mem_nil _ | lcg_sub);  (case hb => with_reducible assumption); (case nl => with_reducible assumption); (case c0 => with_reducible assumption); (case c1 => with_reducible assumption); (case q0 => with_reducible assumption); (case q7 => with_reducible assumption); k_whole; intro r' h' tk' F' N' hst' hr'; obtain ⟨vb, vt, hE2, hvb⟩ := hr'; subst hE2))
  k_with "compareOp NotEq ref ref" => (k_dflt (refine' due_ne ?N ?mx ?my ?hu ?hk ?hn ?_; (case N => k_asm); (case mx => k_mem); (case my => k_mem); (case hu => first | (dsimp only [ktrTop]; omega) | (simp only [units_in1, units_deeper, Around.mark_units, units_caller]; (try dsimp only [ktrTop]); omega)); (case hk => with_reducible assumption); (case hn => with_reducible assumption); k_whole))
  k_with "compareOp Eq ref ref" => (k_dflt (refine' due_eq ?N ?mx ?my ?hu ?hk ?hn ?_; (case N => k_asm); (case mx => k_mem); (case my => k_mem); (case hu => first | (dsimp only [ktrTop]; omega) | (simp only [units_in1, units_deeper, Around.mark_units, units_caller]; (try dsimp only [ktrTop]); omega)); (case hk => with_reducible assumption); (case hn => with_reducible assumption); k_whole))
  obtain ⟨hr1, hr2, hww, hl1, hl2, hnl, hc0, hc1, hq0, hq7⟩ := ok
  unfold ConWV ConW
  k_fill
  intro p loose mean mg mb dp un gd cn cs a ccd cl outer A₀ base h₀ L m s Q E B F X N T hk hd hu hret
  k_dflt (refine' con_enterV (binds := [(PySem.Str.ofString "word", .bytes b t), (PySem.Str.ofString "due", .ref TD)]) B F X N T hk hret ?k8 ?k6 ?k7 ?k9 ?kB ?_ ?c5 ?c2 ?c3 ?c4; (case k6 => k_is); (case k7 => k_is); (case k8 => omega); (case k9 => exact BindsTo.of_eq rfl); (case c5 => decide); (case kB => exact locs rfl); (case c2 => exact rfl); (case c3 => exact rfl); (case c4 => exact rfl); k_whole)
  clear hret B F N T X hk
  intro g' L' h' tk' F' N' B' X' T' l1 hret
  (try k_lt l1)
  (try simp only [List.reverse_cons, List.reverse_nil, List.nil_append, List.cons_append] at F')
  (try k_fold)
  k_steps
  all_goals first
    | exact hret _ _ _ _ _ (by with_reducible assumption) (by with_reducible assumption) (by lcg_sub) rfl
    | exact hret _ _ _ _ _ (by with_reducible assumption) (by with_reducible assumption) (by lcg_sub) (congrArg Value.bool (words_same (by with_reducible assumption) (by with_reducible assumption) hww))
end
end Mine
end

section
open PySem PySem.W PySem.Calls PySem.Spec PyProof.Rows
set_option maxRecDepth 100000
set_option maxHeartbeats 8000000
set_option linter.unusedSimpArgs false
set_option linter.unusedVariables false
namespace Mine
section
variable {prog : Program} {w : World} {A : Around} {E : Value → Shared → Prop} {s : Shared} {b : Array UInt8} {t : Tok}
theorem nextOf_bytes_item {it : Addr} {i : Nat} {c : UInt8} {Q : Value → Shared → Prop} (hit : KBw.IsBytesIter s.heap it b t i) (hx : b[i]? = some c)
    (hQ : ∀ h', KBw.IsBytesIter h' it b t (i + 1) → Heap.SameBut it s.heap h' → Q (.int (c.toNat : Int) s.toks) { s with heap := h', toks := s.toks + 1 }) : wpAny (model prog w) A (Builtin.SmallTypes.nextOf (.ref it)) Q E s := by
  obtain ⟨o, ho, hc, hd⟩ := id hit
  unfold Builtin.SmallTypes.nextOf
  refine wpAny_bind (wpAny_callSpecial?_slot (name := PySem.Str.ofString "__next__") (KBw.iter_typeIs hit) KBw.slot_next
    (wpAny_call_entry KBw.slot_next (KBw.iter_typeIs hit) KBw.entry_next ?_ (KBw.args_next _)))
  show wpAny _ _ (PySem.field (.ref it) 0 >>= _) _ _ s
  refine wpAny_bind (wpAny_field ho hd (x := .bytes b t) rfl ?_)
  show wpAny _ _ (if (Value.bytes b t == Value.none) = true then _ else _) _ _ s
  rw [if_neg (show ¬ ((Value.bytes b t == Value.none) = true) from Bool.false_ne_true)]
  show wpAny _ _ (PySem.field (.ref it) 1 >>= _) _ _ s
  refine wpAny_bind (wpAny_field ho hd (x := .int i 0) rfl ?_)
  refine wpAny_bind (wpAny_of_eq (a := b) rfl ?_)
  simp only [Int.toNat_natCast, hx]
  refine wpAny_bind (wpAny_setField ho hd (by simp) (wpAny_bind (wpAny_mkInt (wpAny_pure ⟨_, rfl, wpAny_pure (hQ _ ?_ (Heap.SameBut.update ..))⟩))))
  exact ⟨_, Heap.get?_update_self _ ho (Obj.isFreed_of_fields (Obj.data_mapFields hd _)), (Obj.cls_mapFields ..).trans hc, by
    rw [Obj.data_mapFields hd]; simp [rawInt]⟩
theorem nextOf_bytes_end {it : Addr} {i : Nat} {Q : Value → Shared → Prop} (hh : A.handled = none) (hit : KBw.IsBytesIter s.heap it b t i) (hx : b[i]? = none)
    (hE : ∀ h' e, Heap.ExtBut it s.heap h' → (∃ o, h'.get? e = some o ∧ o.cls = .type "StopIteration") → E (.ref e) { s with heap := h' }) : wpAny (model prog w) A (Builtin.SmallTypes.nextOf (.ref it)) Q E s := by
  obtain ⟨o, ho, hc, hd⟩ := id hit
  unfold Builtin.SmallTypes.nextOf
  refine wpAny_bind (wpAny_callSpecial?_slot (name := PySem.Str.ofString "__next__") (KBw.iter_typeIs hit) KBw.slot_next
    (wpAny_call_entry KBw.slot_next (KBw.iter_typeIs hit) KBw.entry_next ?_ (KBw.args_next _)))
  show wpAny _ _ (PySem.field (.ref it) 0 >>= _) _ _ s
  refine wpAny_bind (wpAny_field ho hd (x := .bytes b t) rfl ?_)
  show wpAny _ _ (if (Value.bytes b t == Value.none) = true then _ else _) _ _ s
  rw [if_neg (show ¬ ((Value.bytes b t == Value.none) = true) from Bool.false_ne_true)]
  show wpAny _ _ (PySem.field (.ref it) 1 >>= _) _ _ s
  refine wpAny_bind (wpAny_field ho hd (x := .int i 0) rfl ?_)
  refine wpAny_bind (wpAny_of_eq (a := b) rfl ?_)
  simp only [Int.toNat_natCast, hx]
  refine wpAny_bind (wpAny_rule (wpAny_bind (wpAny_setField ho hd (by simp) ?_)))
  show wpAny _ _ (newExc (.type "StopIteration") [] >>= _) _ _ _
  refine wpAny_bind ?_
  simp only [newExc, newTuple]
  refine wpAny_bind (wpAny_newObj_type ?_ (by size_fits))
  refine wpAny_bind (m := firstArgMember _ _) (wpAny_of_eq (a := Value.none) (by first | rfl | (simp only [firstArgMember]; rfl)) ?_)
  refine wpAny_newObj_type ?_ (by size_fits)
  simp only [raiseNew]
  refine wpAny_bind (wpAny_handled ?_)
  first | rw [show A.in1.handled = none from hh] | rw [hh]
  refine wpAny_bind (wpAny_pure (wpAny_throw ?_))
  exact hE _ _ (((Heap.SameBut.update ..).extBut.push _).push _) ⟨_, Heap.get?_push_size _ rfl, rfl⟩
theorem draws_bytes (hh : A.handled = none) (it : Addr) (b : Array UInt8) (t : Tok) :
    Draws prog w A it [it] b.size (fun i v => ∃ c u, b[i]? = some c ∧ v = .int (c.toNat : Int) u) (fun i h => KBw.IsBytesIter h it b t i) where
  live := fun _ _ st => let ⟨o, ho, _⟩ := st; ⟨o, ho⟩
  frame := fun _ _ _ st hk => let ⟨o, ho, r⟩ := st; ⟨o, hk it (by simp) o ho, r⟩
  item := fun i s Q E hi st hQ => by
    refine nextOf_bytes_item st (c := b[i]) (by simp [hi]) fun h' hit' hs' => ?_
    exact hQ _ h' (s.toks + 1) ⟨_, _, by simp [hi], rfl⟩ hit' hs'
  done := fun s Q E st hE => nextOf_bytes_end hh st (by simp) hE
set_option maxHeartbeats 1000000 in
theorem meets_enumerate_newB (x : Array UInt8) (t : Tok) :
    Meets (Builtin.«enumerate.__new__» ⟨[.type "enumerate", .bytes x t], []⟩) (fun _ R s =>
      R (.ok (.ret (.ref (s.heap.push { cls := .type "bytes_iterator", data := .fields #[.bytes x t, .int 0 0] }).objs.size)))
        { s with heap := (s.heap.push { cls := .type "bytes_iterator", data := .fields #[.bytes x t, .int 0 0] }).push { cls := .type "enumerate", data := .fields #[.none, .bool false, .ref s.heap.objs.size, rawInt 0, .none, .none] } }) :=
  .of_wp fun prog w A R s h => by
    obtain ⟨hp, g, d, tk, os⟩ := s
    have hsub := sub_enumerate
    wp_walk
    refine wpAny_stack_any fun st => wpAny_pure ?_
    split
    · rename_i c _ _ _ _ _
      cases (c == Value.type "enumerate")
      · wp_walk using KBw.pyIter_bytes
        exact ⟨_, rfl, h⟩
      · wp_walk using KBw.pyIter_bytes
        exact ⟨_, rfl, h⟩
    · wp_walk using KBw.pyIter_bytes
      exact ⟨_, rfl, h⟩
theorem call_enumerate_bytes {x : Array UInt8} {t : Tok} {Q : Value → Shared → Prop}
    (h : ∀ h', IsEnum h' (s.heap.objs.size + 1) s.heap.objs.size 0 .none → KBw.IsBytesIter h' s.heap.objs.size x t 0 → h'.objs.size = s.heap.objs.size + 2 →
      (∀ b o, s.heap.get? b = some o → h'.get? b = some o) → Q (.ref (s.heap.objs.size + 1)) { s with heap := h' }) :
    wpAny (model prog w) A (call (.type "enumerate") [.bytes x t]) Q E s := by
  refine callType_new F.called_enumerate (by decide) (F.typeCall_enumerate_1 _) (F.newCall_enumerate_1 _) (fun obj => F.args_object_init_2 obj _) F.entry_enumerate_new
    (meets_enumerate_newB x t) ?_
  have hz : (s.heap.push { cls := .type "bytes_iterator", data := .fields #[.bytes x t, .int 0 0] }).objs.size = s.heap.objs.size + 1 := Heap.size_push ..
  show _ ∧ _
  rw [hz]
  have he : IsEnum ((s.heap.push { cls := .type "bytes_iterator", data := .fields #[.bytes x t, .int 0 0] }).push
      { cls := .type "enumerate", data := .fields #[.none, .bool false, .ref s.heap.objs.size, rawInt 0, .none, .none] }) (s.heap.objs.size + 1) s.heap.objs.size 0 .none := by
    have := Heap.get?_push_size (s.heap.push { cls := .type "bytes_iterator", data := .fields #[.bytes x t, .int 0 0] })
      (o := { cls := .type "enumerate", data := .fields #[.none, .bool false, .ref s.heap.objs.size, rawInt 0, .none, .none] }) rfl
    rw [hz] at this; exact this
  refine ⟨⟨_, he, rfl⟩, h _ he ⟨_, Heap.get?_push_of_some _ (Heap.get?_push_size _ rfl), rfl, rfl⟩ (by rw [Heap.size_push, hz]) fun b o y => Heap.get?_push_of_some _ (Heap.get?_push_of_some _ y)⟩
end
section
variable {prog : Program} {w : World} {A : Around} {E : Value → Shared → Prop} {s : Shared} {env : Env} {h₀ : Heap} {xi xc : PySem.Str} {body : List Stmt} {Q : Flow → Shared → Prop} {b : Array UInt8} {tb : Tok}
  {m₀ : PySem.Str → Option Value} {news : Led}
theorem enum_bytes (J : Nat → (PySem.Str → Option Value) → Led → Prop) (hh : A.handled = none) (F : Fr h₀ env.locals s.heap m₀) (N : News h₀ env.locals s.heap news) (hj : J 0 m₀ news)
    (turn : ∀ i n t t' m₁ news₁ h tk own, (KBw.bInts b)[i]? = some n → news₁.map (·.1) = news.map (·.1) → OwnOff own (news.map (·.1)) → J i m₁ news₁ →
      Fr h₀ env.locals h (fun y => if y = xc then some (.int n t) else if y = xi then some (.int i t') else m₁ y) → News h₀ env.locals h (news₁ ++ own) →
      wpAny (model prog w) A (execs body env) (InvPostN h₀ env.locals (J (i + 1)) own (news.map (·.1)) { s with heap := h, toks := tk } Q) E { s with heap := h, toks := tk })
    (done : ∀ m₁ news₁ h tk, J b.size m₁ news₁ → Fr h₀ env.locals h m₁ → News h₀ env.locals h news₁ → Q .next { s with heap := h, toks := tk }) :
    wpAny (model prog w) A (call (.type "enumerate") [.bytes b tb]) (fun xv s₁ => wpAny (model prog w) A (pyIter xv) (fun it s₂ => PairAt3 prog w A h₀ env xi xc body Q E it s₂) E s₁) E s := by
  refine call_enumerate_bytes fun h' hE hI hsz hk => ?_
  have up : s.heap.StaysIn h' := hk
  have hlt : ∀ q ∈ news, q.1 < s.heap.objs.size := fun q hq => Heap.lt_size (N q hq).1
  have hnone : ∀ a, s.heap.objs.size ≤ a → h₀.get? a = none := fun a ha => by
    cases e : h₀.get? a with
    | none => rfl
    | some o => exact absurd (Heap.lt_size (F.keep _ _ e)) (Nat.not_lt.mpr ha)
  refine enumSrc (K := ItemKind.int) (as := KBw.bInts b) (draws_bytes (prog := prog) (w := w) (A := A.in1) hh s.heap.objs.size b tb) hE hI (Nat.succ_ne_self _) ?_ (by simp) ?_ (hnone _ (Nat.le_succ _)) (hnone _ (Nat.le_refl _)) ?_ (KBw.ints_length b).symm ?_ (F.keeps hk) (N.grown hk) xi xc body Q J hj ?_ ?_
  · intro hm; exact Nat.succ_ne_self _ (List.mem_singleton.mp hm)
  · intro hm
    have h1 : (env.locals : Nat) < s.heap.objs.size := F.ns.lt
    rcases List.mem_cons.mp hm with e | hm
    · rw [e] at h1; exact absurd h1 (Nat.not_lt.mpr (Nat.le_succ _))
    · rw [List.mem_singleton.mp hm] at h1; exact absurd h1 (Nat.lt_irrefl _)
  · intro a ha q hq e
    have h1 : (q.1 : Nat) < s.heap.objs.size := hlt q hq
    rw [← e] at h1
    rcases List.mem_cons.mp ha with e' | hm
    · rw [e'] at h1; exact absurd h1 (Nat.not_lt.mpr (Nat.le_succ _))
    · rw [List.mem_singleton.mp hm] at h1; exact absurd h1 (Nat.lt_irrefl _)
  · rintro i v ⟨c, u, hc, rfl⟩
    exact ⟨_, KBw.ints_get hc, u, rfl⟩
  · rintro i n t v m₁ news₁ s₁ own ⟨hp, tk, rfl⟩ hi ⟨t', rfl⟩ hJ hadr hown F₁ N₁
    have hsep : OwnOff own (news.map (·.1)) := by
      intro p hp b hb e
      obtain ⟨q, hq, rfl⟩ := List.mem_map.mp hb
      exact hown p hp q hq e
    have N₂ : News h₀ env.locals hp (news₁ ++ own) := fun p hq => N₁ p ((List.mem_append.mp hq).elim (fun h => List.mem_append.mpr (.inr h)) fun h => List.mem_append.mpr (.inl h))
    refine wpAny_mono (turn i n t' t m₁ news₁ hp tk own hi hadr hsep hJ F₁ N₂) (fun f s₂ p => ?_) fun _ _ e => e
    have fin : InvEndN h₀ env.locals (J (i + 1)) own (news.map (·.1)) { s with heap := hp, toks := tk } s₂ → LoopStep2 h₀ env.locals own news₁ (J (i + 1)) { s with heap := hp, toks := tk } .next s₂ := by
      rintro ⟨h', tk, m', news', nx, e, F', N', hn, ho, ha, hm⟩
      exact ⟨rfl, h', tk, m', nx, e, F', fun p hp => N' p ((List.mem_append.mp hp).elim (ho p) (hn p)), ha.trans hadr.symm, hm⟩
    cases f with
    | ret v => exact p
    | brk => exact p
    | next => exact fin p
    | cont => exact fin p
  · intro h'' tk m' news' F' N' hadr hJ
    rw [KBw.ints_length] at hJ
    exact done m' news' h'' tk hJ F' N'
end
end Mine
end

section
open PySem PySem.W PySem.Calls PySem.Spec PyProof.Rows
set_option maxRecDepth 100000
set_option maxHeartbeats 8000000
set_option linter.unusedSimpArgs false
set_option linter.unusedVariables false
namespace Mine

noncomputable def turn1 (how : Int) (k : Nat) (o : Int) : Int := if (how = 1 ∨ how = 2 ∧ k % 2 = 0) ∧ 65 ≤ o ∧ o ≤ 90 then o + 32 else if how = 3 ∧ 97 ≤ o ∧ o ≤ 122 then o - 32 else o
noncomputable def turnL (how : Int) : Nat → List Int → List Int
  | _, [] => []
  | k, o :: r => turn1 how k o :: turnL how (k + 1) r
noncomputable def turnF (how : Int) (ks : List Int) : List Int := turnL how 0 ks
theorem turnL_length (how : Int) : ∀ (k : Nat) (ks : List Int), (turnL how k ks).length = ks.length
  | _, [] => rfl
  | k, _ :: r => congrArg (· + 1) (turnL_length how (k + 1) r)
theorem turnL_get (how : Int) : ∀ (k i : Nat) (ks : List Int) {n : Int}, ks[i]? = some n → (turnL how k ks)[i]? = some (turn1 how (k + i) n)
  | _, _, [], _, h => by cases h
  | k, 0, o :: r, n, h => by simp at h; subst h; rfl
  | k, i + 1, o :: r, n, h => by
    have := turnL_get how (k + 1) i r (n := n) (by simpa using h)
    rw [show k + (i + 1) = k + 1 + i by omega]
    simpa [turnL] using this
theorem turn_take {how : Int} {ks : List Int} {i : Nat} {n : Int} (h : ks[i]? = some n) : (turnF how ks).take (i + 1) = (turnF how ks).take i ++ [turn1 how i n] := by
  have := turnL_get how 0 i ks h
  rw [Nat.zero_add] at this
  rw [List.take_add_one]; unfold turnF; rw [this]; rfl
theorem turn1_in {how : Int} {k : Nat} {n : Int} (h : 0 ≤ n ∧ n < 256) : 0 ≤ turn1 how k n ∧ turn1 how k n < 256 := by
  unfold turn1
  split
  · omega
  · split <;> omega
theorem turnL_in {how : Int} : ∀ (k : Nat) (ks : List Int), (∀ n ∈ ks, 0 ≤ n ∧ n < 256) → ∀ n ∈ turnL how k ks, 0 ≤ n ∧ n < 256
  | _, [], _, n, h => by cases h
  | k, o :: r, hk, n, h => by
    rcases List.mem_cons.mp h with rfl | h
    · exact turn1_in (hk o (.head _))
    · exact turnL_in (k + 1) r (fun n hn => hk n (.tail _ hn)) n h
noncomputable def TJ (how : Int) (ks : List Int) (D : Addr) (xi xc : PySem.Str) (m₀ : PySem.Str → Option Value) (i : Nat) (m : PySem.Str → Option Value) (nx : Led) : Prop :=
  ∃ vs k, nx = [(D, W.listOf vs.toArray k)] ∧ IntsAre vs ((turnF how ks).take i) ∧ ∀ z, z ≠ xi → z ≠ xc → m z = m₀ z
theorem enum_turn {prog : Program} {w : World} {A : Around} {E : Value → Shared → Prop} {s : Shared} {env : Env} {h₀ : Heap} {xi xc : PySem.Str} {body : List Stmt} {Q : Flow → Shared → Prop} {b : Array UInt8} {tb : Tok} {m₀ : PySem.Str → Option Value} {D : Addr} {ks : List Int} (how : Int) (hb : KBw.bInts b = ks) (hh : A.handled = none)
    (F : Fr h₀ env.locals s.heap m₀) (N : News h₀ env.locals s.heap [(D, W.listOf #[] 0)])
    (turn : ∀ i n t t' vs k h tk own, ks[i]? = some n → 0 ≤ n → n < 256 → IntsAre vs ((turnF how ks).take i) → OwnOff own [D] → Fr h₀ env.locals h (fun y => if y = xc then some (.int n t) else if y = xi then some (.int (i : Nat) t') else m₀ y) → News h₀ env.locals h ([(D, W.listOf vs.toArray k)] ++ own) →
      wpAny (model prog w) A (execs body env) (InvPostN h₀ env.locals (TJ how ks D xi xc m₀ (i + 1)) own [D] { s with heap := h, toks := tk } Q) E { s with heap := h, toks := tk })
    (done : ∀ (m₁ : PySem.Str → Option Value) vs k h tk, IntsAre vs (turnF how ks) → Fr h₀ env.locals h (fun y => if y = xc then m₁ y else if y = xi then m₁ y else m₀ y) → News h₀ env.locals h [(D, W.listOf vs.toArray k)] → Q .next { s with heap := h, toks := tk }) :
    wpAny (model prog w) A (call (.type "enumerate") [.bytes b tb]) (fun xv s₁ => wpAny (model prog w) A (pyIter xv) (fun it s₂ => PairAt3 prog w A h₀ env xi xc body Q E it s₂) E s₁) E s := by
  subst hb
  refine enum_bytes (TJ how (KBw.bInts b) D xi xc m₀) hh F N ⟨[], 0, rfl, .nil, fun _ _ _ => rfl⟩ ?_ ?_
  · rintro i n t t' m₁ news₁ h tk own hi _ hoff ⟨vs, k, rfl, hvs, hm⟩ F₁ N₁
    have hr := KBw.ints_in (List.mem_of_getElem? hi)
    have e : (fun y => if y = xc then some (Value.int n t) else if y = xi then some (Value.int (i : Nat) t') else m₁ y) = fun y => if y = xc then some (Value.int n t) else if y = xi then some (Value.int (i : Nat) t') else m₀ y := by
      funext z
      by_cases h1 : z = xc
      · simp [h1]
      · by_cases h2 : z = xi
        · simp [h1, h2]
        · simp only [if_neg h1, if_neg h2]; exact hm z h2 h1
    rw [e] at F₁
    exact turn i n t t' vs k h tk own hi hr.1 hr.2 hvs hoff F₁ N₁
  · rintro m₁ news₁ h tk ⟨vs, k, rfl, hvs, hm⟩ F₁ N₁
    have hl : (turnF how (KBw.bInts b)).length = b.size := (turnL_length how 0 _).trans (KBw.ints_length b)
    rw [← hl, List.take_length] at hvs
    refine done m₁ vs k h tk hvs ?_ N₁
    have e : (fun y => if y = xc then m₁ y else if y = xi then m₁ y else m₀ y) = m₁ := by
      funext z
      by_cases h1 : z = xc
      · simp [h1]
      · by_cases h2 : z = xi
        · simp [h2]
        · simp only [if_neg h1, if_neg h2]; exact (hm z h2 h1).symm
    rw [e]; exact F₁
theorem tj_on {how : Int} {ks : List Int} {D : Addr} {xi xc : PySem.Str} {m₀ m : PySem.Str → Option Value} {i : Nat} {n o : Int} {vs : List Value} {t' : Tok} {k : Nat} (hi : ks[i]? = some n) (hvs : IntsAre vs ((turnF how ks).take i)) (ho : o = turn1 how i n) (hm : ∀ z, z ≠ xi → z ≠ xc → m z = m₀ z) : TJ how ks D xi xc m₀ (i + 1) m [(D, W.listOf (vs.toArray.push (.int o t')) k)] := by
  subst ho
  rw [List.push_toArray]
  refine ⟨_, k, rfl, ?_, hm⟩
  rw [turn_take hi]
  exact IntsAre.append hvs (.cons _ _ .nil)
section

theorem con_law_turned (ks : List Int) (b : Array UInt8) (t : Tok) (how : Int) (th : Tok) (hb : KBw.bInts b = ks) (hl : ks.length ≤ 64) : ConV 335 [.bytes b t, .int how th] 3 [] (fun r => ∃ b' t', r = .bytes b' t' ∧ KBw.bInts b' = turnF how ks) := by
  w_top off
  k_with_none
  k_with "execs cons" => k_fold
  k_with "execs cons" => ((with_reducible refine st_norm (g' := s.gens) (d' := s.drawn) (os' := s.os) rfl rfl rfl fun tk => ?_); (try k_fold))
  k_with "k_room" => ((try simp only [depth_under_make, depth_under_kw, depth_in1, depth_deeper, depth_caller]); (try dsimp only [ktrTop]); omega)
  k_with "k_enter" => (refine' code_def ?k1 ?k2 ?k3 ?k4 ?k5 ?kA ?kF ?kK ?k6 ?k7 ?k8 ?k9 ?kB ?_ ?c2 ?c3 ?c4 ?c5; (case kA => exact rfl); (case kF => exact rfl); (case kK => assumption); (case k1 => k_asm); (case k2 => k_asm); (case k3 => k_asm); (case k4 => k_asm); (case k5 => k_asm); (case k6 => k_is); (case k7 => k_is); (case k8 => k_room); (case k9 => first | exact BindsTo.of_eq rfl | exact binds_K (by k_in) rfl (by k_is) rfl rfl rfl); (case c5 => decide); (case kB => exact locs rfl); (case c2 => exact rfl); (case c3 => exact rfl); (case c4 => exact rfl); k_whole; intro g' L' h' FG' F' N' B' X' T'; (try dsimp only); (try k_fold))
  k_with "UnrEndW" => k_dflt ktu_end
  k_with "subscriptTail" => (k_here; (with_reducible show wpAny _ _ (subscriptTail _ _ (Value.bytes _ _) (Value.int _ _)) _ _ _); (refine KBw.item_K (by kba_ints) (by kba_size) (by kba_idx) (by kba_idx) ?_); intro _ _ kbaLo kbaHi)
  k_with "subscriptTail" => (k_here; (with_reducible show wpAny _ _ (subscriptTail _ (Expr.Slice _ _ none _) (Value.bytes _ _) (Value.ref _)) _ _ _); (with_reducible rename Fr _ _ _ _ => F'); (with_reducible rename News _ _ _ _ => N'); (refine KBc.slice_K (s := ⟨_, _, _, _, _⟩) F' N' (by kba_ints) (by constructor) (by constructor) (by kba_size) ?_); intro _ _ _ _ _ kbcK; (try simp only [Option.elim, KBc.clip_lit, clipAt_nat, List.drop_zero, Nat.sub_zero] at kbcK))
  k_with "ite" => (k_here; (with_reducible show if ((_ : Int) == (_ : Int)) = true then _ else _); first | (refine ite_pos (by rw [beq_iff_eq]; omega) ?_; walk_say "PR") | (refine ite_neg (by rw [beq_iff_eq]; omega) ?_; walk_say "PR"))
  k_with "exec For Tuple Call" => ((with_reducible show wpAny _ _ (exec (Stmt.For (Expr.Tuple _ _ _) (Expr.Call (Expr.Name (Str.ofString "enumerate") _) _ _ _) _ _ _) _) _ _ _); (rename Fr _ _ _ _ => F'); (with_reducible apply For_pair3F); (case _F => with_unfolding_all exact F'); (case hh => with_unfolding_all rfl); (case hxi => with_unfolding_all rfl); (case hxc => with_unfolding_all rfl); (case hp => with_unfolding_all rfl); (case hs => (intro _; with_unfolding_all rfl)))
  k_with "call type:enumerate" => ((with_reducible show wpAny _ _ (call (Value.type _) [Value.bytes _ _]) _ _ _); refine Hold.in ?_)
  k_with "call builtin:list.append" => (k_here; (with_reducible show wpAny _ _ (call (Value.builtin _) [Value.ref _, _]) _ _ _); k_dflt (refine' append_K ?k1 ?k2 ?k3 ?_ ?z; (case k1 => k_asm); (case k2 => k_asm); (case k3 => exact Upd.head (by assumption)); (case z => with_reducible assumption); k_whole); intro h' F' N')
  k_with "InvEndN" => (k_dflt (refine InvEndN.intro (by assumption) (by assumption) (tj_on (by assumption) (by assumption) (by unfold turn1; (repeat' split) <;> omega) (by intro z h1 h2; simp only [if_neg h1, if_neg h2])) rfl (List.forall_mem_singleton.mpr (.head _)) (fun p hp => .tail _ hp)))
  (try unfold ConV)
  unfold Con
  k_fill
  intro w p loose mean mg mb dp un gd cn cs a ccd cl outer A₀ base h₀ L m s Q E B F X N T hk hd hu hret
  k_dflt (refine' con_enterV (binds := [(PySem.Str.ofString "octets", .bytes b t), (PySem.Str.ofString "how", .int how th)]) B F X N T hk hret ?k8 ?k6 ?k7 ?k9 ?kB ?_ ?c5 ?c2 ?c3 ?c4; (case k6 => k_is); (case k7 => k_is); (case k8 => omega); (case k9 => exact BindsTo.of_eq rfl); (case c5 => decide); (case kB => exact locs rfl); (case c2 => exact rfl); (case c3 => exact rfl); (case c4 => exact rfl); k_whole)
  clear hret B F N T X hk
  intro g' L' h' tk' F' N' B' X' T' l1 hret
  (try k_lt l1)
  (try simp only [List.reverse_cons, List.reverse_nil, List.nil_append, List.cons_append] at F')
  (try k_fold)
  have hIn : KBa.In (turnF how ks) := turnL_in 0 ks fun n hn => KBw.ints_in (hb ▸ hn)
  k_steps
  refine Hold.out ?_
  refine enum_turn how hb rfl (by assumption) (by assumption) ?_ ?_
  · intro i n t t' vs k h tk own hi hn0 hn1 hvs hoff F₀ N₁
    have F₁ : Fr g' L' h _ := F₀
    clear F₀
    have hoffD : ∀ p ∈ own, p.1 ≠ _ := fun p hp => hoff p hp _ (.head _)
    have hfm : Int.fmod (i : Int) 2 = ((i % 2 : Nat) : Int) := by rw [Int.fmod_eq_emod_of_nonneg _ (by decide)]; omega
    have hsz : vs.toArray.size ≤ sizeLine := by
      rw [sizeLine_eq, List.size_toArray, hvs.length, List.length_take]
      have : (turnF how ks).length = ks.length := turnL_length how 0 ks
      omega
    (simp only [List.nil_append, List.cons_append] at N₁)
    k_steps
  · intro m₁ vs k h tk hvs F₀ N₀
    have F₁ : Fr g' L' h _ := F₀
    have N₁ : News g' L' h _ := N₀
    clear F₀ N₀
    have hlT : (turnF how ks).length ≤ 64 := by have := turnL_length how 0 ks; unfold turnF; omega
    k_steps
    all_goals exact hret _ _ _ _ _ (by assumption) (by assumption) (List.forall_mem_nil _) ⟨_, _, rfl, KBa.ints_make hIn⟩
end
end Mine
end

section
open PySem PySem.W PySem.Calls PySem.Spec PyProof.Rows
set_option maxRecDepth 100000
set_option maxHeartbeats 8000000
set_option linter.unusedSimpArgs false
set_option linter.unusedVariables false
namespace Mine

noncomputable def heldAll : List (Int × List Int) := [(0, []), (1, [83, 45]), (2, [77, 45]), (4, [67, 45]), (3, [83, 45, 77, 45]), (5, [83, 45, 67, 45]), (3, [77, 45, 83, 45]), (6, [77, 45, 67, 45]), (5, [67, 45, 83, 45]), (6, [67, 45, 77, 45]), (7, [83, 45, 77, 45, 67, 45]), (7, [83, 45, 67, 45, 77, 45]), (7, [77, 45, 83, 45, 67, 45]), (7, [77, 45, 67, 45, 83, 45]), (7, [67, 45, 83, 45, 77, 45]), (7, [67, 45, 77, 45, 83, 45])]
noncomputable def HeldIs (tl : Led) (r : Value) : Prop := ∃ (D : Addr) (q : Int) (qt : Tok) (b : Array UInt8) (bt : Tok), r = .ref D ∧ tl = [(D, { cls := Value.type "tuple", data := Data.seq #[.int q qt, .bytes b bt] })] ∧ (q, KBw.bInts b) ∈ heldAll
theorem held_ret {g h' : Heap} {L' D : Addr} {m' : Str → Option Value} {s : Shared} {tk' : Nat} {Q : Value → Shared → Prop} {q : Int} {b : Array UInt8} {qt bt : Tok} {rest : Led}
    (hret : ∀ r (tl : Led) h' tk' m' (news' : Led), Fr g L' h' m' → News g L' h' news' → (∀ q ∈ tl, q ∈ news') → (∀ q ∈ ([] : Led), q ∈ news') → (∀ q ∈ tl, ∀ z ∈ ([] : Led), q.1 ≠ z.1) → HeldIs tl r → Q r { s with heap := h', toks := tk' })
    (F : Fr g L' h' m') (N : News g L' h' ((D, { cls := Value.type "tuple", data := Data.seq #[.int q qt, .bytes b bt] }) :: rest)) (e : (q, KBw.bInts b) ∈ heldAll) : Q (.ref D) { s with heap := h', toks := tk' } :=
  hret (.ref D) [_] h' tk' m' _ F N (fun z hz => by rw [List.mem_singleton.mp hz]; exact List.mem_cons_self ..) (List.forall_mem_nil _) (fun _ _ _ h => nomatch h) ⟨D, q, qt, b, bt, rfl, rfl, e⟩
section
variable {M : Model} {A : Around} {E : Value → Shared → Prop} {s : Shared} {Q : Value → Shared → Prop} {f x : Value} {t : Tok} {i : Int}
theorem pop_3 (a : wpAny M A (call f [x, .int 0 t]) Q E s) (b : wpAny M A (call f [x, .int 1 t]) Q E s) (c : wpAny M A (call f [x, .int 2 t]) Q E s) : wpAny M A (call f [x, .int (i.fmod 3) t]) Q E s := by
  have h1 := Int.fmod_nonneg_of_pos i (b := 3) (by decide)
  have h2 := Int.fmod_lt_of_pos i (b := 3) (by decide)
  rcases (by omega : i.fmod 3 = 0 ∨ i.fmod 3 = 1 ∨ i.fmod 3 = 2) with h | h | h <;> (rw [h]; assumption)
theorem pop_2 (a : wpAny M A (call f [x, .int 0 t]) Q E s) (b : wpAny M A (call f [x, .int 1 t]) Q E s) : wpAny M A (call f [x, .int (i.fmod 2) t]) Q E s := by
  have h1 := Int.fmod_nonneg_of_pos i (b := 2) (by decide)
  have h2 := Int.fmod_lt_of_pos i (b := 2) (by decide)
  rcases (by omega : i.fmod 2 = 0 ∨ i.fmod 2 = 1) with h | h <;> (rw [h]; assumption)
theorem pop_1 (a : wpAny M A (call f [x, .int 0 t]) Q E s) : wpAny M A (call f [x, .int (i.fmod 1) t]) Q E s := by
  have h1 := Int.fmod_nonneg_of_pos i (b := 1) (by decide)
  have h2 := Int.fmod_lt_of_pos i (b := 1) (by decide)
  rw [(by omega : i.fmod 1 = 0)]; exact a
theorem range_4 (a : wpAny M A (call f [.int 0 t]) Q E s) (b : wpAny M A (call f [.int 1 t]) Q E s) (c : wpAny M A (call f [.int 2 t]) Q E s) (d : wpAny M A (call f [.int 3 t]) Q E s) : wpAny M A (call f [.int (i.fmod 4) t]) Q E s := by
  have h1 := Int.fmod_nonneg_of_pos i (b := 4) (by decide)
  have h2 := Int.fmod_lt_of_pos i (b := 4) (by decide)
  rcases (by omega : i.fmod 4 = 0 ∨ i.fmod 4 = 1 ∨ i.fmod 4 = 2 ∨ i.fmod 4 = 3) with h | h | h | h <;> (rw [h]; assumption)
end
section

theorem con_law_held (n : Int) (t : Tok) : Con 342 [.int n t] 2 [] (fun _ tl r => HeldIs tl r) := by
  w_top off
  k_with_none
  k_with "execs cons" => k_fold
  k_with "execs cons" => ((with_reducible refine st_norm (g' := s.gens) (d' := s.drawn) (os' := s.os) rfl rfl rfl fun tk => ?_); (try k_fold))
  k_with "k_room" => ((try simp only [depth_under_make, depth_under_kw, depth_in1, depth_deeper, depth_caller]); (try dsimp only [ktrTop]); omega)
  k_with "k_enter" => (refine' code_def ?k1 ?k2 ?k3 ?k4 ?k5 ?kA ?kF ?kK ?k6 ?k7 ?k8 ?k9 ?kB ?_ ?c2 ?c3 ?c4 ?c5; (case kA => exact rfl); (case kF => exact rfl); (case kK => assumption); (case k1 => k_asm); (case k2 => k_asm); (case k3 => k_asm); (case k4 => k_asm); (case k5 => k_asm); (case k6 => k_is); (case k7 => k_is); (case k8 => k_room); (case k9 => first | exact BindsTo.of_eq rfl | exact binds_K (by k_in) rfl (by k_is) rfl rfl rfl); (case c5 => decide); (case kB => exact locs rfl); (case c2 => exact rfl); (case c3 => exact rfl); (case c4 => exact rfl); k_whole; intro g' L' h' FG' F' N' B' X' T'; (try dsimp only); (try k_fold))
  k_with "UnrEndW" => k_dflt ktu_end
  k_with "subscriptTail" => (k_here; (with_reducible show wpAny _ _ (subscriptTail _ _ (Value.bytes _ _) (Value.int _ _)) _ _ _); (refine KBw.item_K (by kba_ints) (by kba_size) (by kba_idx) (by kba_idx) ?_); intro _ _ kbaLo kbaHi)
  k_with "subscriptTail" => (k_here; (with_reducible show wpAny _ _ (subscriptTail _ (Expr.Slice _ _ none _) (Value.bytes _ _) (Value.ref _)) _ _ _); (with_reducible rename Fr _ _ _ _ => F'); (with_reducible rename News _ _ _ _ => N'); (refine KBc.slice_K (s := ⟨_, _, _, _, _⟩) F' N' (by kba_ints) (by constructor) (by constructor) (by kba_size) ?_); intro _ _ _ _ _ kbcK; (try simp only [Option.elim, KBc.clip_lit, clipAt_nat, List.drop_zero, Nat.sub_zero] at kbcK))
  k_with "ite" => (k_here; (with_reducible show if ((_ : Int) == (_ : Int)) = true then _ else _); first | (refine ite_pos (by rw [beq_iff_eq]; omega) ?_; walk_say "PR") | (refine ite_neg (by rw [beq_iff_eq]; omega) ?_; walk_say "PR"))
  k_with "call type:range" => (k_here; (with_reducible show wpAny _ _ (call (Value.type "range") [Value.int (Int.fmod _ 4) _]) _ _ _); (with_reducible refine range_4 ?_ ?_ ?_ ?_))
  k_with "call builtin:list.pop" => (k_here; (with_reducible show wpAny _ _ (call (Value.builtin "list.pop") [Value.ref _, Value.int (Int.fmod _ _) _]) _ _ _); first | (with_reducible refine pop_3 ?_ ?_ ?_) | (with_reducible refine pop_2 ?_ ?_) | (with_reducible refine pop_1 ?_))
  k_with "binaryOp Add bytes bytes" => (k_here; (with_reducible show wpAny _ _ (binaryOp Operator.Add (Value.bytes (List.toArray _) _) (Value.bytes (List.toArray _) _)) _ _ _); (with_reducible refine' bytes_add_K ?z ?e ?_; (case z => exact Nat.le_of_ble_eq_true rfl); (case e => exact rfl); intro _ _))
  (try unfold ConV)
  unfold Con
  k_fill
  intro w p loose mean mg mb dp un gd cn cs a ccd cl outer A₀ base h₀ L m s Q E B F X N T hk hd hu hret
  k_dflt (refine' con_enterO (binds := [(PySem.Str.ofString "cell", .int n t)]) B F X N T hk hret ?k8 ?k6 ?k7 ?k9 ?kB ?_ ?c5 ?c2 ?c3 ?c4; (case k6 => k_is); (case k7 => k_is); (case k8 => omega); (case k9 => exact BindsTo.of_eq rfl); (case c5 => decide); (case kB => exact locs rfl); (case c2 => exact rfl); (case c3 => exact rfl); (case c4 => exact rfl); k_whole)
  clear hret B F N T X hk
  intro g' L' h' tk' F' N' B' X' T' l1 hret
  (try k_lt l1)
  (try simp only [List.reverse_cons, List.reverse_nil, List.nil_append, List.cons_append] at F')
  (try k_fold)
  k_steps
  all_goals exact held_ret (s := s) hret (by with_reducible assumption) (by with_reducible assumption) (by decide)
end
end Mine
end

section
open PySem PySem.W PySem.Calls PySem.Spec PyProof.Rows
open LCg (CompRest CompEnd NsObj lst Off3 Off1 block_U)
set_option maxRecDepth 100000
set_option maxHeartbeats 8000000
set_option linter.unusedSimpArgs false
set_option linter.unusedVariables false
namespace Mine
abbrev tupO (xs : Array Value) : Obj := { cls := .type "tuple", data := .seq xs }
/-- v is a pair of bytes that the ledger bears -/
noncomputable def PairIn (nw : Led) (v : Value) (p : List Int × List Int) : Prop := ∃ a b c t u, v = .ref a ∧ (a, tupO #[.bytes b t, .bytes c u]) ∈ nw ∧ KBw.bInts b = p.1 ∧ KBw.bInts c = p.2
inductive PairsAre (nw : Led) : List Value → List (List Int × List Int) → Prop
  | nil : PairsAre nw [] []
  | cons {v : Value} {p : List Int × List Int} {vs : List Value} {ps : List (List Int × List Int)} : PairIn nw v p → PairsAre nw vs ps → PairsAre nw (v :: vs) (p :: ps)
theorem PairIn.mono {nw nw' : Led} {v : Value} {p : List Int × List Int} (h : PairIn nw v p) (s : ∀ q ∈ nw, q ∈ nw') : PairIn nw' v p := by
  obtain ⟨a, b, c, t, u, h1, h2, h3⟩ := h
  exact ⟨a, b, c, t, u, h1, s _ h2, h3⟩
theorem PairsAre.mono {nw nw' : Led} {vs : List Value} {ps : List (List Int × List Int)} (h : PairsAre nw vs ps) (s : ∀ q ∈ nw, q ∈ nw') : PairsAre nw' vs ps := by
  induction h with
  | nil => exact .nil
  | cons h _ ih => exact .cons (h.mono s) ih
theorem PairsAre.append {nw : Led} {vs ws : List Value} {ps qs : List (List Int × List Int)} (h : PairsAre nw vs ps) (k : PairsAre nw ws qs) : PairsAre nw (vs ++ ws) (ps ++ qs) := by
  induction h with
  | nil => exact k
  | cons h _ ih => exact .cons h ih
theorem PairsAre.length {nw : Led} {vs : List Value} {ps : List (List Int × List Int)} (h : PairsAre nw vs ps) : vs.length = ps.length := by
  induction h with
  | nil => rfl
  | cons _ _ ih => exact congrArg (· + 1) ih
theorem PairsAre.get {nw : Led} {vs : List Value} {ps : List (List Int × List Int)} (h : PairsAre nw vs ps) : ∀ (i : Nat) (v : Value), vs[i]? = some v → ∃ p, ps[i]? = some p ∧ PairIn nw v p := by
  induction h with
  | nil => intro i v e; simp at e
  | cons h _ ih =>
    intro i v e
    cases i with
    | zero => simp at e; subst e; exact ⟨_, rfl, h⟩
    | succ i => exact ih i v (by simpa using e)
inductive WordsAre : List Value → List (List Int) → Prop
  | nil : WordsAre [] []
  | cons {b : Array UInt8} {t : Tok} {k : List Int} {vs : List Value} {ks : List (List Int)} : KBw.bInts b = k → WordsAre vs ks → WordsAre (.bytes b t :: vs) (k :: ks)
theorem WordsAre.length {vs : List Value} {ks : List (List Int)} (h : WordsAre vs ks) : vs.length = ks.length := by
  induction h with
  | nil => rfl
  | cons _ _ ih => exact congrArg (· + 1) ih
theorem WordsAre.get {vs : List Value} {ks : List (List Int)} (h : WordsAre vs ks) : ∀ (i : Nat) (v : Value), vs[i]? = some v → ∃ b t k, v = .bytes b t ∧ ks[i]? = some k ∧ KBw.bInts b = k := by
  induction h with
  | nil => intro i v e; simp at e
  | cons h _ ih =>
    intro i v e
    cases i with
    | zero => simp at e; subst e; exact ⟨_, _, _, rfl, rfl, h⟩
    | succ i => exact ih i v (by simpa using e)
section
variable {prog : Program} {w : World} {A : Around} {E : Value → Shared → Prop} {s : Shared} {h₀ : Heap} {L : Addr} {m : Str → Option Value} {env : Env}
theorem elt_pair {C : Addr} {oC : Obj} {m₂ : Str → Option Value} {nw : Led} {scope : Scope} {cl : List (Str × Addr)} {x : Str} {v : Value} {p1 p2 tp : Pos} {k : Nat} {Q : Value → Shared → Prop}
    (F : Fr h₀ L s.heap m) (N : News h₀ L s.heap nw) (hm : (C, oC) ∈ nw) (hC : NsObj oC m₂) (hx : m₂ x = some v)
    (hk : scope.kind = .function) (hl : scope.names.lookup x = some .local) (hd : (x == ("__debug__" : Str)) = false)
    (h : ∀ h', Fr h₀ L h' m → News h₀ L h' ((s.heap.objs.size, tupO #[v, v]) :: nw) → Q (.ref s.heap.objs.size) { s with heap := h' }) :
    wpAny (model prog w) A (eval (.Tuple [.Name x p1, .Name x p2] k tp) (compEnvC scope cl C env)) Q E s := by
  have hl' : (compEnvC scope cl C env).kindOf x = some .local := lookup_relabel_local hl
  refine Tuple_ (spliced_more (ldVarK (hC.ns (N _ hm).1) hx (spliced_more (ldVarK (hC.ns (N _ hm).1) hx (spliced_none ?_) hk hl' hd)) hk hl' hd))
  exact newTuple_N F N h
theorem rest_pairs {items : List Value} {kk : List (List Int)} (hb : WordsAre items kk) {x : Str} {scope : Scope} {cl : List (Str × Addr)} {p1 p2 tp : Pos} {kt : Nat} {T : Addr} {oT : Obj} {Fin : List Value → Led → Prop} {news : Led}
    (hk : scope.kind = .function) (hl : scope.names.lookup x = some .local) (hd : (x == ("__debug__" : Str)) = false) (hT : (T, oT) ∈ news)
    (fin : ∀ ys nw, (∀ q ∈ news, q ∈ nw) → PairsAre nw ys (kk.map fun k => (k, k)) → Fin ys nw) :
    ∀ n i ys nw, i + n = items.length → PairsAre nw ys ((kk.take i).map fun k => (k, k)) → (∀ q ∈ news, q ∈ nw) →
      CompRest prog w A h₀ L m env (.Tuple [.Name x p1, .Name x p2] kt tp) x scope cl s (fun nw => (T, oT) ∈ nw) (fun i v => items.toArray[i]? = some v) Fin n i ys nw := by
  intro n
  induction n with
  | zero =>
    intro i ys nw hi hp hs
    refine CompRest.zero (fin ys nw hs ?_)
    rwa [List.take_of_length_le (by rw [← hb.length]; omega)] at hp
  | succ n ih =>
    intro i ys nw hi hp hs
    refine CompRest.succ fun v I oI C oC D m₂ h tk E' hP hC hx F N off hne => ?_
    obtain ⟨b, t, k, rfl, hki, hbk⟩ := hb.get i v (by simpa using hP)
    refine elt_pair F N (List.mem_cons_of_mem _ List.mem_cons_self) hC hx hk hl hd fun h' F' N' => ?_
    have lt : ∀ q ∈ (I, oI) :: (C, oC) :: (D, lst ys) :: nw, @Ne Nat h.objs.size q.1 := fun q hq => Nat.ne_of_gt (Heap.lt_size (N q hq).1)
    refine CompEnd.intro F' N' ((h.objs.size, tupO #[.bytes b t, .bytes b t]) :: nw) ?_ ⟨⟨lt _ List.mem_cons_self, lt _ (List.mem_cons_of_mem _ List.mem_cons_self), lt _ (List.mem_cons_of_mem _ (List.mem_cons_of_mem _ List.mem_cons_self))⟩, off⟩ (List.mem_cons_of_mem _ (hs _ hT)) (ih (i + 1) _ _ (by omega) ?_ fun q hq => List.mem_cons_of_mem _ (hs q hq))
    · intro p hp
      simp only [List.mem_cons] at hp ⊢
      rcases hp with hp | hp | hp | hp | hp <;> simp [hp]
    · rw [List.take_add_one, hki, List.map_append]
      exact (hp.mono fun q hq => List.mem_cons_of_mem _ hq).append (.cons ⟨_, _, _, _, _, rfl, List.mem_cons_self, hbk, hbk⟩ .nil)
/-- the source of a comprehension of pairs, and what follows -/
noncomputable def PairSrc (h₀ : Heap) (L : Addr) (m : Str → Option Value) (Fin : Shared → Led → List (List Int) → Prop) (xv : Value) (s₁ : Shared) : Prop :=
  ∃ T its kk news, xv = .ref T ∧ Fr h₀ L s₁.heap m ∧ News h₀ L s₁.heap ((T, tupO (List.toArray its)) :: news) ∧ WordsAre its kk ∧ its.length ≤ 4096 ∧ Fin s₁ news kk
noncomputable def PFinE (h₀ : Heap) (L : Addr) (m : Str → Option Value) (Q : Value → Shared → Prop) (s : Shared) (news : Led) (kk : List (List Int)) : Prop :=
  ∀ D h tk ys nw, Fr h₀ L h m → News h₀ L h ((D, W.listOf (List.toArray ys) ys.length) :: nw) → (∀ q ∈ news, q ∈ nw) → PairsAre nw ys (kk.map fun k => (k, k)) → Q (.ref D) { s with heap := h, toks := tk }
noncomputable def PFinA (h₀ : Heap) (L : Addr) (m : Str → Option Value) (y : Str) (Q : Flow → Shared → Prop) (s : Shared) (news : Led) (kk : List (List Int)) : Prop :=
  ∀ D h tk ys nw, Fr h₀ L h (fun z => if z = y then some (.ref D) else m z) → News h₀ L h ((D, W.listOf (List.toArray ys) ys.length) :: nw) → (∀ q ∈ news, q ∈ nw) → PairsAre nw ys (kk.map fun k => (k, k)) → Q .next { s with heap := h, toks := tk }
theorem block_pairs {x : Str} {px p1 p2 tp : Pos} {kt : Nat} {iter : PySem.Expr} {scope : Scope} {cl : List (Str × Addr)} {pos : Pos} {T : Addr} {its : List Value} {kk : List (List Int)} {news : Led} {RR : Value → Addr → Result → Shared → Prop}
    (hh : A.handled = none) (F : Fr h₀ L s.heap m) (N : News h₀ L s.heap ((T, tupO its.toArray) :: news)) (hb : WordsAre its kk) (hsz : its.length ≤ 4096)
    (hcell : ∀ y ∈ scope.names, y.2 ≠ .cell) (hkind : scope.kind = .function) (hx : scope.names.lookup x = some .local) (hd : (x == ("__debug__" : Str)) = false)
    (hRR : ∀ D C h tk m' ys nw, Fr h₀ L h m → News h₀ L h ((D, lst ys) :: nw) → h.Ns C m' → h₀.get? C = none → C ≠ L → C ≠ D → (∀ p ∈ nw, p.1 ≠ C) → (∀ q ∈ news, q ∈ nw) → PairsAre nw ys (kk.map fun k => (k, k)) → RR (.ref D) C (.ok .next) { s with heap := h, toks := tk }) :
    wpAny (model prog w) A (pyIter (.ref T)) (fun it s₂ => wpAny (model prog w) A (newList []) (fun acc s₃ => wpAny (model prog w) A (newFunctionEnv scope env.globals cl [] env.qual none .none (some env)) (fun cenv s₄ =>
      codeAny (model prog w) A (.compStart (.ListComp (.Tuple [.Name x p1, .Name x p2] kt tp) [⟨.Name x px, iter, [], 0⟩] scope pos) 0 it acc { cenv with scope := relabel scope env }) (RR acc cenv.locals) s₄) E s₃) E s₂) E s := by
  have hT : IsTup s.heap T its.toArray := ⟨_, (N _ List.mem_cons_self).1, rfl, _, rfl⟩
  have hlt : T < s.heap.objs.size := Heap.lt_size (N _ List.mem_cons_self).1
  refine wpAny_pyIter_tuple hT ?_
  have up : ∀ b o, s.heap.get? b = some o → (s.heap.push { cls := .type "tuple_iterator", data := .fields #[.ref T, .int 0 0] }).get? b = some o := fun b o e => Heap.get?_push_of_some _ e
  refine block_U (Walks.tuple hh s.heap.objs.size T (Nat.ne_of_lt hlt) its.toArray) (n := its.toArray.size) (S := fun nw => (T, tupO its.toArray) ∈ nw) (Fin := fun ys nw => (∀ q ∈ (T, tupO its.toArray) :: news, q ∈ nw) ∧ PairsAre nw ys (kk.map fun k => (k, k))) (by rw [sizeLine_eq, List.size_toArray]; omega) (fun i h st => by obtain ⟨o, e, _⟩ := st.1; exact ⟨o, e⟩) ?_ hcell hkind hx ⟨⟨_, Heap.get?_push_size _ rfl, rfl, rfl⟩, Heap.IsTuple.push hT _⟩ (fun b hb' => ?_)
    (F.keeps up) (N.grown up) (Nat.ne_of_lt F.ns.lt) (next_is_new F) (fun p hp => Nat.ne_of_lt (Heap.lt_size (N p hp).1)) List.mem_cons_self ?_ ?_
  · intro i h h' o nw st e e' k N' S
    refine ⟨?_, ⟨_, (N' _ S).1, rfl, _, rfl⟩⟩
    obtain ⟨o', q, r⟩ := st.1
    rw [e] at q; cases q; exact ⟨o, e', r⟩
  · show b < (s.heap.push _).objs.size
    rw [Heap.size_push]
    rcases List.mem_cons.mp hb' with rfl | hb'
    · exact Nat.lt_succ_self _
    · rw [List.mem_singleton.mp hb']; exact Nat.lt_succ_of_lt hlt
  · exact rest_pairs hb hkind hx hd List.mem_cons_self (fun ys nw h1 h2 => ⟨h1, h2⟩) _ 0 [] _ (by rw [List.size_toArray]; omega) .nil fun q hq => hq
  · intro D C h tk m' ys nw F' N' o1 hn hC₀ hD₀ hCL hDL hCD offC fin
    exact hRR D C h tk m' ys nw F' N' hn hC₀ hCL hCD offC (fun q hq => fin.1 q (List.mem_cons_of_mem _ hq)) fin.2
theorem comp_pairs {x : Str} {px p1 p2 tp : Pos} {kt : Nat} {iter : PySem.Expr} {scope : Scope} {pos : Pos} {Q : Value → Shared → Prop}
    (F₀ : Fr h₀ L s.heap m) (hh : A.handled = none) (hclos : closureFor scope env = pure []) (hcell : ∀ y ∈ scope.names, y.2 ≠ .cell) (hkind : scope.kind = .function)
    (hnames : ∀ y ∈ scope.names, y.2 = .local → scope.names.lookup y.1 = some .local) (hx : scope.names.lookup x = some .local) (hd : (x == ("__debug__" : Str)) = false)
    (hs : ∀ x, foldedSetIterable iter env x = pure x)
    (h : wpAny (model prog w) A (eval iter env) (PairSrc h₀ L m (PFinE h₀ L m Q)) E s) :
    wpAny (model prog w) A (eval (.ListComp (.Tuple [.Name x p1, .Name x p2] kt tp) [⟨.Name x px, iter, [], 0⟩] scope pos) env) Q E s := by
  rw [eval_ListComp]
  refine wpAny_comprehension_free (use := none) rfl hs hclos hkind hnames (wpAny_mono h (fun xv s₁ h₁ => ?_) fun _ _ e => e)
  obtain ⟨T, its, kk, news, rfl, F, N, hb, hsz, fin⟩ := h₁
  refine block_pairs hh F N hb hsz hcell hkind hx hd fun D C h' tk m' ys nw F' N' hn hC₀ hCL hCD offC hsub hp => ?_
  refine ⟨m', hn, fun h'' hs'' => fin D h'' tk ys nw (F'.change hs'' hCL hC₀) (fun p hp => ?_) hsub hp⟩
  refine ⟨hs''.extBut _ _ ?_ (N' p hp).1, (N' p hp).2⟩
  rcases List.mem_cons.mp hp with rfl | hp
  · exact Ne.symm hCD
  · exact offC p hp
theorem assign_pairs {x y : Str} {px py p1 p2 tp : Pos} {kt : Nat} {iter : PySem.Expr} {scope : Scope} {pos spos : Pos} {Q : Flow → Shared → Prop}
    (F₀ : Fr h₀ L s.heap m) (hLe : env.locals = L) (hsw : swapsWith (.ListComp (.Tuple [.Name x p1, .Name x p2] kt tp) [⟨.Name x px, iter, [], 0⟩] scope pos) (some (.Name y py)) spos.line env = pure true)
    (hh : A.handled = none) (hclos : closureFor scope env = pure []) (hcell : ∀ y ∈ scope.names, y.2 ≠ .cell) (hkind : scope.kind = .function)
    (hnames : ∀ y ∈ scope.names, y.2 = .local → scope.names.lookup y.1 = some .local) (hx : scope.names.lookup x = some .local) (hd : (x == ("__debug__" : Str)) = false)
    (hy : env.kindOf y = some .local) (hp : (env.scope.kind == .class || (env.scope.kind == .module && env.locals != env.globals)) = false)
    (hs : ∀ x, foldedSetIterable iter env x = pure x)
    (h : wpAny (model prog w) A (eval iter env) (PairSrc h₀ L m (PFinA h₀ L m y Q)) E s) :
    wpAny (model prog w) A (exec (.Assign [.Name y py] (.ListComp (.Tuple [.Name x p1, .Name x p2] kt tp) [⟨.Name x px, iter, [], 0⟩] scope pos) spos) env) Q E s := by
  subst hLe
  rw [exec_Assign_Name_used _ _ _ _ hsw]
  refine wpAny_bind (wpAny_standAt (wpAny_bind ?_))
  show wpAny _ A (do let _ ← comprehension (.ListComp (.Tuple [.Name x p1, .Name x p2] kt tp) [⟨.Name x px, iter, [], 0⟩] scope pos) scope env _ (newList []) false (eval iter env) (some (assign (.Name y py) env))) _ _ s
  refine wpAny_bind (wpAny_mono (wpAny_comprehension_free (use := some (assign (.Name y py) env)) (Q := fun _ s' => Q .next s') rfl hs hclos hkind hnames
    (wpAny_mono h (fun xv s₁ h₁ => ?_) fun _ _ e => e)) (fun _ s' hq => wpAny_pure (wpAny_pure hq)) fun _ _ e => e)
  obtain ⟨T, its, kk, news, rfl, F, N, hb, hsz, fin⟩ := h₁
  refine block_pairs hh F N hb hsz hcell hkind hx hd fun D C h' tk m' ys nw F' N' hn hC₀ hCL hCD offC hsub hps => ?_
  show wpAny _ A (assign (.Name y py) env (.ref D)) _ _ _
  refine wpAny_assign_Name (wpAny_storeName_local hy F'.ns (fun h₂ hn₂ hs₂ => ?_) hp)
  have hL₀ : h₀.get? env.locals = none := Heap.get?_none_of_le F'.above
  have F₂ : Fr h₀ env.locals h₂ (fun z => if z = y then some (.ref D) else m z) := ⟨hn₂, fun b o e => hs₂.extBut b o (fun q => by rw [q, hL₀] at e; cases e) (F'.keep b o e), F'.above⟩
  refine ⟨m', hn.sameBut hs₂ hCL, fun h'' hs'' => fin D h'' _ ys nw (F₂.change hs'' hCL hC₀) (fun p hp => ?_) hsub hps⟩
  have z : h₂.get? p.1 = some p.2 := hs₂.extBut _ _ (N' p hp).2.1 (N' p hp).1
  refine ⟨hs''.extBut _ _ ?_ z, (N' p hp).2⟩
  rcases List.mem_cons.mp hp with rfl | hp
  · exact Ne.symm hCD
  · exact offC p hp
/-- two lists of pairs glued -/
theorem add_pairs {a b : Addr} {vs ws : List Value} {k j : Nat} {news : Led} {ps qs : List (List Int × List Int)} {Q : Value → Shared → Prop}
    (F : Fr h₀ L s.heap m) (N : News h₀ L s.heap news) (ha : (a, W.listOf vs.toArray k) ∈ news) (hb : (b, W.listOf ws.toArray j) ∈ news) (hv : PairsAre news vs ps) (hw : PairsAre news ws qs) (hz : ps.length + qs.length ≤ 4096)
    (h : ∀ D h', Fr h₀ L h' m → News h₀ L h' ((D, W.listOf (vs ++ ws).toArray 0) :: news) → PairsAre news (vs ++ ws) (ps ++ qs) → Q (.ref D) { s with heap := h' }) : wpAny (model prog w) A (binaryOp .Add (.ref a) (.ref b)) Q E s :=
  add_lists F N ⟨_, N.get ha, rfl, _, rfl⟩ ⟨_, N.get hb, rfl, _, rfl⟩ (fun h' F' N' => h _ h' F' N' (hv.append hw)) (by rw [sizeLine_eq, hv.length, hw.length]; omega)
end
end Mine
end

section
open PySem PySem.W PySem.Calls PySem.Spec PyProof.Rows
set_option maxRecDepth 100000
set_option maxHeartbeats 8000000
set_option linter.unusedSimpArgs false
set_option linter.unusedVariables false
namespace Mine

noncomputable def lawNames : List (List Int × List Int) := [([85, 112], [85, 112]), ([68, 111, 119, 110], [68, 111, 119, 110]), ([76, 101, 102, 116], [76, 101, 102, 116]), ([82, 105, 103, 104, 116], [82, 105, 103, 104, 116]), ([72, 111, 109, 101], [72, 111, 109, 101]), ([69, 110, 100], [69, 110, 100]), ([73, 110, 115, 101, 114, 116], [73, 110, 115, 101, 114, 116]), ([68, 101, 108, 101, 116, 101], [68, 101, 108, 101, 116, 101]), ([80, 97, 103, 101, 85, 112], [80, 97, 103, 101, 85, 112]), ([73, 67], [73, 110, 115, 101, 114, 116]), ([68, 67], [68, 101, 108, 101, 116, 101]), ([80, 80, 97, 103, 101], [80, 97, 103, 101, 85, 112]), ([80, 103, 85, 112], [80, 97, 103, 101, 85, 112]), ([80, 103, 68, 110], [80, 97, 103, 101, 68, 111, 119, 110]), ([80, 97, 103, 101, 68, 111, 119, 110], [80, 97, 103, 101, 68, 111, 119, 110]), ([70, 49], [70, 49]), ([70, 57], [70, 57]), ([70, 49, 48], [70, 49, 48]), ([70, 50, 48], [70, 50, 48]), ([84, 97, 98], [84, 97, 98]), ([69, 110, 116, 101, 114], [69, 110, 116, 101, 114]), ([69, 115, 99, 97, 112, 101], [69, 115, 99, 97, 112, 101]), ([66, 83, 112, 97, 99, 101], [66, 83, 112, 97, 99, 101]), ([75, 80, 48], [75, 80, 48]), ([75, 80, 57], [75, 80, 57]), ([75, 80, 46], [75, 80, 46]), ([75, 80, 45], [75, 80, 45]), ([75, 80, 43], [75, 80, 43]), ([75, 80, 42], [75, 80, 42]), ([75, 80, 47], [75, 80, 47]), ([75, 80, 61], [75, 80, 61]), ([75, 80, 69, 110, 116, 101, 114], [75, 80, 69, 110, 116, 101, 114])]
noncomputable def midNames : List (List Int × List Int) := [([73, 67], [73, 110, 115, 101, 114, 116]), ([68, 67], [68, 101, 108, 101, 116, 101]), ([80, 80, 97, 103, 101], [80, 97, 103, 101, 85, 112]), ([80, 103, 85, 112], [80, 97, 103, 101, 85, 112]), ([80, 103, 68, 110], [80, 97, 103, 101, 68, 111, 119, 110])]
noncomputable def LNamesIs (tl : Led) (r : Value) : Prop := ∃ (D : Addr) (vs : List Value) (k : Nat), r = .ref D ∧ (D, W.listOf vs.toArray k) ∈ tl ∧ PairsAre tl vs lawNames
theorem lnames_ret {g h' : Heap} {L' D : Addr} {m' : Str → Option Value} {s : Shared} {tk' k : Nat} {Q : Value → Shared → Prop} {vs : List Value} {rest : Led} {ps : List (List Int × List Int)}
    (hret : ∀ r (tl : Led) h' tk' m' (news' : Led), Fr g L' h' m' → News g L' h' news' → (∀ q ∈ tl, q ∈ news') → (∀ q ∈ ([] : Led), q ∈ news') → (∀ q ∈ tl, ∀ z ∈ ([] : Led), q.1 ≠ z.1) → LNamesIs tl r → Q r { s with heap := h', toks := tk' })
    (F : Fr g L' h' m') (N : News g L' h' ((D, W.listOf vs.toArray k) :: rest)) (hp : PairsAre rest vs ps) (e : ps = lawNames) : Q (.ref D) { s with heap := h', toks := tk' } :=
  hret (.ref D) _ h' tk' m' _ F N (fun z hz => hz) (List.forall_mem_nil _) (fun _ _ _ h => nomatch h) ⟨D, vs, k, rfl, List.mem_cons_self, e ▸ hp.mono fun q hq => List.mem_cons_of_mem _ hq⟩
section

theorem con_law_names : Con 321 [] 2 [] (fun _ tl r => LNamesIs tl r) := by
  w_top off
  k_with_none
  k_with "execs cons" => k_fold
  k_with "execs cons" => ((with_reducible refine st_norm (g' := s.gens) (d' := s.drawn) (os' := s.os) rfl rfl rfl fun tk => ?_); (try k_fold))
  k_with "k_room" => ((try simp only [depth_under_make, depth_under_kw, depth_in1, depth_deeper, depth_caller]); (try dsimp only [ktrTop]); omega)
  k_with "k_enter" => (refine' code_def ?k1 ?k2 ?k3 ?k4 ?k5 ?kA ?kF ?kK ?k6 ?k7 ?k8 ?k9 ?kB ?_ ?c2 ?c3 ?c4 ?c5; (case kA => exact rfl); (case kF => exact rfl); (case kK => assumption); (case k1 => k_asm); (case k2 => k_asm); (case k3 => k_asm); (case k4 => k_asm); (case k5 => k_asm); (case k6 => k_is); (case k7 => k_is); (case k8 => k_room); (case k9 => first | exact BindsTo.of_eq rfl | exact binds_K (by k_in) rfl (by k_is) rfl rfl rfl); (case c5 => decide); (case kB => exact locs rfl); (case c2 => exact rfl); (case c3 => exact rfl); (case c4 => exact rfl); k_whole; intro g' L' h' FG' F' N' B' X' T'; (try dsimp only); (try k_fold))
  k_with "UnrEndW" => k_dflt ktu_end
  k_with "subscriptTail" => (k_here; (with_reducible show wpAny _ _ (subscriptTail _ _ (Value.bytes _ _) (Value.int _ _)) _ _ _); (refine KBw.item_K (by kba_ints) (by kba_size) (by kba_idx) (by kba_idx) ?_); intro _ _ kbaLo kbaHi)
  k_with "subscriptTail" => (k_here; (with_reducible show wpAny _ _ (subscriptTail _ (Expr.Slice _ _ none _) (Value.bytes _ _) (Value.ref _)) _ _ _); (with_reducible rename Fr _ _ _ _ => F'); (with_reducible rename News _ _ _ _ => N'); (refine KBc.slice_K (s := ⟨_, _, _, _, _⟩) F' N' (by kba_ints) (by constructor) (by constructor) (by kba_size) ?_); intro _ _ _ _ _ kbcK; (try simp only [Option.elim, KBc.clip_lit, clipAt_nat, List.drop_zero, Nat.sub_zero] at kbcK))
  k_with "ite" => (k_here; (with_reducible show if ((_ : Int) == (_ : Int)) = true then _ else _); first | (refine ite_pos (by rw [beq_iff_eq]; omega) ?_; walk_say "PR") | (refine ite_neg (by rw [beq_iff_eq]; omega) ?_; walk_say "PR"))
  k_with "exec Assign cons ListComp" => (k_here; (with_reducible show wpAny _ _ (exec (Stmt.Assign [Expr.Name _ _] (Expr.ListComp (Expr.Tuple [_, _] _ _) _ _ _) _) _) _ _ _); (with_reducible rename Fr _ _ _ _ => F'); k_dflt (refine' assign_pairs ?kF ?k1 ?k2 ?k3 ?k4 ?k5 ?k6 ?k7 ?k8 ?k9 ?k10 ?k11 ?k12 ?_; (case kF => exact F'); (case k1 => exact rfl); (case k2 => with_unfolding_all rfl); (case k3 => exact rfl); (case k4 => with_unfolding_all rfl); (case k5 => decide); (case k6 => exact rfl); (case k7 => decide); (case k8 => exact rfl); (case k9 => exact rfl); (case k10 => exact rfl); (case k11 => exact rfl); (case k12 => intro _; with_unfolding_all rfl); k_whole))
  k_with "eval ListComp" => (k_here; (with_reducible show wpAny _ _ (eval (Expr.ListComp (Expr.Tuple [_, _] _ _) _ _ _) _) _ _ _); (with_reducible rename Fr _ _ _ _ => F'); k_dflt (refine' comp_pairs ?kF ?k3 ?k4 ?k5 ?k6 ?k7 ?k8 ?k9 ?k12 ?_; (case kF => exact F'); (case k3 => exact rfl); (case k4 => with_unfolding_all rfl); (case k5 => decide); (case k6 => exact rfl); (case k7 => decide); (case k8 => exact rfl); (case k9 => exact rfl); (case k12 => intro _; with_unfolding_all rfl); k_whole))
  k_with "PairSrc" => (k_here; (k_dflt (refine ⟨_, _, _, _, rfl, by with_reducible assumption, by with_reducible assumption, .cons rfl (.cons rfl (.cons rfl (.cons rfl (.cons rfl (.cons rfl (.cons rfl (.cons rfl (.cons rfl (.nil))))))))), Nat.le_of_ble_eq_true rfl, ?_⟩)); intro D' h' tk' ys' nw' F' N' hs' hp')
  k_with "binaryOp Add ref ref" => (k_here; (rename (∀ (q : Addr × Obj), q ∈ _ → q ∈ _) => hsub); k_dflt (refine' add_pairs ?k1 ?k2 ?k3 ?k4 ?k5 ?k6 ?k7 ?_; (case k1 => k_asm); (case k2 => k_asm); (case k3 => first | k_mem | exact List.mem_cons_of_mem _ (hsub _ (by k_mem))); (case k4 => k_mem); (case k5 => exact PairsAre.mono (by with_reducible assumption) (by (intro q hq; repeat (first | exact hq | with_reducible refine List.mem_cons_of_mem _ ?_ | with_reducible refine hsub q ?_)))); (case k6 => first | exact (show PairsAre _ _ midNames from .cons ⟨_, _, _, _, _, rfl, by k_mem, rfl, rfl⟩ (.cons ⟨_, _, _, _, _, rfl, by k_mem, rfl, rfl⟩ (.cons ⟨_, _, _, _, _, rfl, by k_mem, rfl, rfl⟩ (.cons ⟨_, _, _, _, _, rfl, by k_mem, rfl, rfl⟩ (.cons ⟨_, _, _, _, _, rfl, by k_mem, rfl, rfl⟩ (.nil)))))) | exact PairsAre.mono (by with_reducible assumption) (by (intro q hq; repeat (first | exact hq | with_reducible refine List.mem_cons_of_mem _ ?_ | with_reducible refine hsub q ?_)))); (case k7 => exact Nat.le_of_ble_eq_true rfl); k_whole); intro D' h' F' N' hp')
  (try unfold ConV)
  unfold Con
  k_fill
  intro w p loose mean mg mb dp un gd cn cs a ccd cl outer A₀ base h₀ L m s Q E B F X N T hk hd hu hret
  k_dflt (refine' con_enterO (binds := []) B F X N T hk hret ?k8 ?k6 ?k7 ?k9 ?kB ?_ ?c5 ?c2 ?c3 ?c4; (case k6 => k_is); (case k7 => k_is); (case k8 => omega); (case k9 => exact BindsTo.of_eq rfl); (case c5 => decide); (case kB => exact locs rfl); (case c2 => exact rfl); (case c3 => exact rfl); (case c4 => exact rfl); k_whole)
  clear hret B F N T X hk
  intro g' L' h' tk' F' N' B' X' T' l1 hret
  (try k_lt l1)
  (try simp only [List.reverse_cons, List.reverse_nil, List.nil_append, List.cons_append] at F')
  (try k_fold)
  k_steps
  all_goals exact lnames_ret (s := s) hret (by with_reducible assumption) (by with_reducible assumption) (by with_reducible assumption) (by exact rfl)
end
end Mine
end

section
set_option maxRecDepth 100000
namespace Mine
noncomputable def okDue (ks nm : List Int) (c q : Int) : Bool :=
  decide (readF ks = some (nm, c, q)) && decide (readF (wordF (nm, c, q)) = some (nm, c, q)) && decide (wordF (nm, c, q) = lawWordF (nm, c, q)) && decide (ks.length ≤ 64) && decide ((wordF (nm, c, q)).length ≤ 64) && decide (nm.length ≤ 64) && decide (0 ≤ c) && decide (c < 1114112) && decide (0 ≤ q) && decide (q ≤ 7)
theorem okDue_iff {ks nm : List Int} {c q : Int} (h : okDue ks nm c q = true) : OkDue ks nm c q := by
  simpa [okDue, OkDue, and_assoc] using h

noncomputable def badWords : List (List Int) := [[], [67, 45], [85, 112, 112], [70, 48], [70, 50, 49], [97, 98], [77, 45, 83, 45, 97, 98], [1], [75, 80], [255], [67, 45, 127], [83, 45, 77, 45]]
theorem plain_names : (lawNames.all fun p => heldAll.all fun a => [0, 1, 2, 3].all fun how => okDue (a.2 ++ turnF how p.1) p.2 0 a.1) = true := by decide +kernel
theorem plain_codes : (heldAll.all fun a => [97, 65, 122, 90, 109, 77, 107].all fun c => okDue (a.2 ++ [c]) [] (lawSetF c a.1).1 (lawSetF c a.1).2) = true := by decide +kernel
theorem plain_btab : (heldAll.all fun a => [0, 1, 2].all fun how => okDue (a.2 ++ turnF how [66, 84, 97, 98]) [84, 97, 98] 0 (a.1 + 1 - a.1 % 2)) = true := by decide +kernel
theorem plain_space : (heldAll.all fun a => [0, 1, 2, 3].all fun how => okDue (a.2 ++ turnF how [83, 112, 97, 99, 101]) [] 32 a.1) = true := by decide +kernel
theorem plain_caret : ([99, 91, 63, 50].all fun c => okDue (94 :: [c]) [] c 4) = true := by decide +kernel
theorem plain_signs : (heldAll.all fun a => [49, 45, 94, 126, 33, 233, 8364, 128512, 39].all fun c => okDue (a.2 ++ utf8G c) [] c a.1) = true := by decide +kernel
theorem plain_bad : (badWords.all fun k => decide (readF k = none)) = true := by decide +kernel
theorem plain_own : (names.all fun n => decide ((readF n).map wordF = some n)) = true := by decide +kernel
theorem plain_known : (lawNames.all fun p => names.contains p.2) = true := by decide +kernel
end Mine
end

section
open PySem PySem.W PySem.Calls PySem.Spec PyProof.Rows
set_option maxRecDepth 100000
set_option maxHeartbeats 8000000
set_option linter.unusedSimpArgs false
set_option linter.unusedVariables false
namespace Mine

theorem held_facts {q : Int} {ks : List Int} (h : (q, ks) ∈ heldAll) : 0 ≤ q ∧ q ≤ 7 ∧ ks.length ≤ 6 := by
  have h1 : heldAll.all (fun a => decide (0 ≤ a.1 ∧ a.1 ≤ 7 ∧ a.2.length ≤ 6)) = true := by decide
  exact of_decide_eq_true (List.all_eq_true.mp h1 _ h)
theorem name_facts {p : List Int × List Int} (h : p ∈ lawNames) : p.1.length ≤ 64 ∧ p.2.length ≤ 64 := by
  have h1 : lawNames.all (fun p => decide (p.1.length ≤ 64 ∧ p.2.length ≤ 64)) = true := by decide
  exact of_decide_eq_true (List.all_eq_true.mp h1 _ h)
noncomputable def IntEnd (h₀ : Heap) (L : Addr) (m : Str → Option Value) (news : Led) (s : Shared) (v : Value) (s' : Shared) : Prop := ∃ n t h' tk, v = .int n t ∧ s' = { s with heap := h', toks := tk } ∧ Fr h₀ L h' m ∧ News h₀ L h' news
theorem cut_int {M : Model} {A : Around} {tree : Sem Value} {E : Value → Shared → Prop} {s : Shared} {Q : Value → Shared → Prop} {h₀ : Heap} {L : Addr} {m : Str → Option Value} {news : Led} (F : Fr h₀ L s.heap m) (N : News h₀ L s.heap news)
    (ha : wpAny M A tree (IntEnd h₀ L m news s) E s) (h : ∀ n t h' tk, Fr h₀ L h' m → News h₀ L h' news → Q (.int n t) { s with heap := h', toks := tk }) : wpAny M A tree Q E s := by
  refine wpAny_mono ha (fun v s' hv => ?_) fun _ _ e => e
  obtain ⟨n, t, h', tk, rfl, rfl, F', N'⟩ := hv
  exact h n t h' tk F' N'
section
variable {prog : Program} {w : World} {A : Around} {E : Value → Shared → Prop} {s : Shared} {h₀ : Heap} {L : Addr} {m : Str → Option Value} {news tl base : Led} {Q : Value → Shared → Prop}
theorem ints_at {vs : List Value} {ns : List Int} (hi : IntsAre vs ns) : ∀ (j : Nat) (v : Value), vs[j]? = some v → ∃ c t, c ∈ ns ∧ v = .int c t := by
  induction hi with
  | nil => intro j v hv; simp at hv
  | cons c t _ ih =>
    intro j v hv
    cases j with
    | zero => simp at hv; exact ⟨c, t, .head _, hv.symm⟩
    | succ j =>
      obtain ⟨c', t', hc, e⟩ := ih j v (by simpa using hv)
      exact ⟨c', t', .tail _ hc, e⟩
theorem menu_item {value slice : PySem.Expr} {l : Addr} {vs : List Value} {k : Nat} {ns : List Int} {i : Int} {u : Tok} (N : News h₀ L s.heap news) (hm : (l, W.listOf vs.toArray k) ∈ news) (hi : IntsAre vs ns) (h0 : 0 ≤ i) (h1 : i < (ns.length : Nat)) (hz : ns.length ≤ 4096)
    (h : ∀ c t, c ∈ ns → Q (.int c t) s)
    (hs : subscripted slice false (.ref l) (.int i u) = operate [.ref l, .int i u] (getItem (.ref l) (.int i u))) : wpAny (model prog w) A (subscriptTail value slice (.ref l) (.int i u)) Q E s := by
  have hl := hi.length
  obtain ⟨v, hv⟩ : ∃ v, vs[i.toNat]? = some v := ⟨vs[i.toNat]'(by omega), List.getElem?_eq_getElem _⟩
  obtain ⟨c, t, hc, rfl⟩ : ∃ c t, c ∈ ns ∧ v = .int c t := by
    exact ints_at hi _ v hv
  exact item_litK (N.isList hm) h0 (by omega) hv (h c t hc) hs
theorem cells_at {value slice : PySem.Expr} {l : Addr} {vs : List Value} {k : Nat} {i : Int} {u : Tok} {v : Value} (N : News h₀ L s.heap news) (hm : (l, W.listOf vs.toArray k) ∈ news) (h0 : 0 ≤ i) (h1 : i < 2 ^ 63) (hv : vs[i.toNat]? = some v) (h : Q v s)
    (hs : subscripted slice false (.ref l) (.int i u) = operate [.ref l, .int i u] (getItem (.ref l) (.int i u))) : wpAny (model prog w) A (subscriptTail value slice (.ref l) (.int i u)) Q E s :=
  item_litK (N.isList hm) h0 h1 hv h hs
theorem names_item {value slice : PySem.Expr} {D : Addr} {vs : List Value} {k : Nat} {i : Int} {u : Tok} (N : News h₀ L s.heap news) (hm : (D, W.listOf vs.toArray k) ∈ tl) (ht : ∀ q ∈ tl, q ∈ news) (hp : PairsAre tl vs lawNames) (h0 : 0 ≤ i) (h1 : i < 32) (hb : ∀ q ∈ base, q ∈ news)
    (h : ∀ a b c t u (p : List Int × List Int), p ∈ lawNames → KBw.bInts b = p.1 → KBw.bInts c = p.2 → p.1.length ≤ 64 → p.2.length ≤ 64 → News h₀ L s.heap ((a, tupO #[.bytes b t, .bytes c u]) :: base) → Q (.ref a) s)
    (hs : subscripted slice false (.ref D) (.int i u) = operate [.ref D, .int i u] (getItem (.ref D) (.int i u))) : wpAny (model prog w) A (subscriptTail value slice (.ref D) (.int i u)) Q E s := by
  have hl : vs.length = 32 := hp.length
  obtain ⟨v, hv⟩ : ∃ v, vs[i.toNat]? = some v := ⟨vs[i.toNat]'(by omega), List.getElem?_eq_getElem _⟩
  obtain ⟨p, hpi, a, b, c, t, u', rfl, hm', e1, e2⟩ := hp.get _ _ hv
  have hp' := List.mem_of_getElem? hpi
  refine item_litK (N.isList (ht _ hm)) h0 (by omega) hv (h a b c t u' p hp' e1 e2 (name_facts hp').1 (name_facts hp').2 fun q hq => ?_) hs
  rcases List.mem_cons.mp hq with rfl | hq
  · exact N _ (ht _ hm')
  · exact N _ (hb q hq)
theorem len_names {D : Addr} {vs : List Value} {k : Nat} (N : News h₀ L s.heap news) (hm : (D, W.listOf vs.toArray k) ∈ tl) (ht : ∀ q ∈ tl, q ∈ news) (hp : PairsAre tl vs lawNames) (h : Q (.int 32 (s.toks + 1)) { s with toks := s.toks + 1 + 1 }) : wpAny (model prog w) A (call (.builtin "len") [.ref D]) Q E s := by
  have hl : vs.length = 32 := hp.length
  refine len_list (N.isList (ht _ hm)) (by rw [List.size_toArray, hl]; decide) ?_
  rw [List.size_toArray, hl]; exact h
end
section
variable {prog : Program} {w : World} {A : Around} {E : Value → Shared → Prop} {s : Shared} {h₀ : Heap} {L C : Addr} {news : Led} {Q : Value → Shared → Prop} {u v : Value} {k : Nat}
theorem len_c1 (N : News h₀ L s.heap news) (hm : (C, W.listOf (List.toArray [v]) k) ∈ news) (h : Q (.int 1 (s.toks + 1)) { s with toks := s.toks + 1 + 1 }) : wpAny (model prog w) A (call (.builtin "len") [.ref C]) Q E s :=
  len_list (N.isList hm) (show ((1 : Nat) : Int) < 2 ^ 63 by decide) h
theorem len_c2 (N : News h₀ L s.heap news) (hm : (C, W.listOf (List.toArray [u, v]) k) ∈ news) (h : Q (.int 2 (s.toks + 1)) { s with toks := s.toks + 1 + 1 }) : wpAny (model prog w) A (call (.builtin "len") [.ref C]) Q E s :=
  len_list (N.isList hm) (show ((2 : Nat) : Int) < 2 ^ 63 by decide) h
end
theorem ints_nil : KBw.bInts #[] = [] := rfl
theorem ints_tab : KBw.bInts #[84, 97, 98] = [84, 97, 98] := rfl
theorem ints_btab : KBw.bInts #[66, 84, 97, 98] = [66, 84, 97, 98] := rfl
theorem ints_space : KBw.bInts #[83, 112, 97, 99, 101] = [83, 112, 97, 99, 101] := rfl
theorem ints_caret : KBw.bInts #[94] = [94] := rfl
theorem in_one {c : Int} {ns : List Int} (hc : c ∈ ns) (h : (ns.all fun c => decide (0 ≤ c ∧ c < 256)) = true) : KBa.In [c] := fun k hk => by
  rw [List.mem_singleton.mp hk]; exact of_decide_eq_true (List.all_eq_true.mp h _ hc)
theorem in_rng {c : Int} {ns : List Int} (hc : c ∈ ns) (h : (ns.all fun c => decide (0 ≤ c ∧ c < 1114112)) = true) : 0 ≤ c ∧ c < 1114112 := of_decide_eq_true (List.all_eq_true.mp h _ hc)
theorem sz_1 {x ks : List Int} {how : Int} (hx : x.length ≤ 6) (hk : ks.length ≤ 64) : x.length + (turnF how ks).length ≤ 16777216 := by
  have := turnL_length how 0 ks; unfold turnF; omega
theorem sz_2 {x : List Int} {c : Int} (hx : x.length ≤ 6) : x.length + [c].length ≤ 16777216 := by simp only [List.length_cons, List.length_nil]; omega
theorem sz_3 {x : List Int} {c : Int} (hx : x.length ≤ 6) : x.length + (utf8G c).length ≤ 16777216 := by
  have := len_utf8G (n := c); omega
theorem fm_4 (n : Int) : Int.fmod n 4 ∈ ([0, 1, 2, 3] : List Int) := by
  have h1 := Int.fmod_nonneg_of_pos n (b := 4) (by decide); have h2 := Int.fmod_lt_of_pos n (b := 4) (by decide)
  simp only [List.mem_cons, List.not_mem_nil, or_false]; omega
theorem fm_3 (n : Int) : Int.fmod n 3 ∈ ([0, 1, 2] : List Int) := by
  have h1 := Int.fmod_nonneg_of_pos n (b := 3) (by decide); have h2 := Int.fmod_lt_of_pos n (b := 3) (by decide)
  simp only [List.mem_cons, List.not_mem_nil, or_false]; omega
section
variable {q n c : Int} {hw : List Int} (ha : (q, hw) ∈ heldAll)
theorem ok_names {p : List Int × List Int} (ha : (q, hw) ∈ heldAll) (hp : p ∈ lawNames) : OkDue (hw ++ turnF (Int.fmod n 4) p.1) p.2 0 q :=
  okDue_iff (List.all_eq_true.mp (List.all_eq_true.mp (List.all_eq_true.mp plain_names p hp) _ ha) _ (fm_4 n))
theorem ok_codes (ha : (q, hw) ∈ heldAll) (hc : c ∈ ([97, 65, 122, 90, 109, 77, 107] : List Int)) : OkDue (hw ++ [c]) [] (lawSetF c q).1 (lawSetF c q).2 :=
  okDue_iff (List.all_eq_true.mp (List.all_eq_true.mp plain_codes _ ha) _ hc)
theorem ok_btab (ha : (q, hw) ∈ heldAll) : OkDue (hw ++ turnF (Int.fmod n 3) [66, 84, 97, 98]) [84, 97, 98] 0 (q + 1 - Int.fmod q 2) := by
  rw [fm2]; exact okDue_iff (List.all_eq_true.mp (List.all_eq_true.mp plain_btab _ ha) _ (fm_3 n))
theorem ok_space (ha : (q, hw) ∈ heldAll) : OkDue (hw ++ turnF (Int.fmod n 4) [83, 112, 97, 99, 101]) [] 32 q :=
  okDue_iff (List.all_eq_true.mp (List.all_eq_true.mp plain_space _ ha) _ (fm_4 n))
theorem ok_caret (hc : c ∈ ([99, 91, 63, 50] : List Int)) : OkDue ([94] ++ [c]) [] c 4 := okDue_iff (List.all_eq_true.mp plain_caret _ hc)
theorem ok_signs (ha : (q, hw) ∈ heldAll) (hc : c ∈ ([49, 45, 94, 126, 33, 233, 8364, 128512, 39] : List Int)) : OkDue (hw ++ utf8G c) [] c q :=
  okDue_iff (List.all_eq_true.mp (List.all_eq_true.mp plain_signs _ ha) _ hc)
end
noncomputable def DrawnIs (tl : Led) (r : Value) : Prop := ∃ (D TD : Addr) (b nb : Array UInt8) (t tn tc tq : Tok) (c q : Int) (ks nm : List Int), r = .ref D ∧ tl = [(D, tupO #[.bytes b t, .ref TD]), (TD, tupO #[.bytes nb tn, .int c tc, .int q tq])] ∧ KBw.bInts b = ks ∧ KBw.bInts nb = nm ∧ OkDue ks nm c q
theorem drawn_ret {g h' : Heap} {L' D TD C : Addr} {oC : Obj} {m' : Str → Option Value} {s : Shared} {tk' : Nat} {Q : Value → Shared → Prop} {b nb : Array UInt8} {t tn tc tq : Tok} {c q : Int} {ks nm : List Int} {rest : Led}
    (hret : ∀ r (tl : Led) h' tk' m' (news' : Led), Fr g L' h' m' → News g L' h' news' → (∀ q ∈ tl, q ∈ news') → (∀ q ∈ ([(C, oC)] : Led), q ∈ news') → (∀ q ∈ tl, ∀ z ∈ ([(C, oC)] : Led), q.1 ≠ z.1) → DrawnIs tl r → Q r { s with heap := h', toks := tk' })
    (F : Fr g L' h' m') (N : News g L' h' rest) (h1 : (D, tupO #[.bytes b t, .ref TD]) ∈ rest) (h2 : (TD, tupO #[.bytes nb tn, .int c tc, .int q tq]) ∈ rest) (h3 : (C, oC) ∈ rest) (hC : oC.cls = .type "list")
    (hb : KBw.bInts b = ks) (hn : KBw.bInts nb = nm) (ok : OkDue ks nm c q) : Q (.ref D) { s with heap := h', toks := tk' } := by
  have ne : ∀ {x : Addr} {xs : Array Value}, (x, tupO xs) ∈ rest → x ≠ C := by
    rintro x xs hx rfl
    have e1 := (N _ hx).1
    have e2 := (N _ h3).1
    rw [e1] at e2
    have := congrArg Obj.cls (Option.some.inj e2)
    rw [hC] at this
    injection this with this
    exact absurd this (by decide)
  refine hret (.ref D) [_, _] h' tk' m' _ F N ?_ (List.forall_mem_singleton.mpr h3) ?_ ⟨D, TD, b, nb, t, tn, tc, tq, c, q, ks, nm, rfl, rfl, hb, hn, ok⟩
  · intro z hz
    rcases List.mem_cons.mp hz with rfl | hz
    · exact h1
    · rw [List.mem_singleton.mp hz]; exact h2
  · intro z hz y hy
    rw [List.mem_singleton.mp hy]
    rcases List.mem_cons.mp hz with rfl | hz
    · exact ne h1
    · rw [List.mem_singleton.mp hz]; exact ne h2

section








theorem con_law_drawn (C : Addr) (k : Nat) (n0 : Int) (t0 : Tok) (cs : List Value) (hcs : cs = [] ∨ ∃ n1 t1, cs = [Value.int n1 t1]) : Con 363 [.ref C] 6 [(C, W.listOf (Value.int n0 t0 :: cs).toArray k)] (fun _ tl r => DrawnIs tl r) := by
  w_top off
  k_with_none
  k_with "execs cons" => k_fold
  k_with "execs cons" => ((with_reducible refine st_norm (g' := s.gens) (d' := s.drawn) (os' := s.os) rfl rfl rfl fun tk => ?_); (try k_fold))
  k_with "k_room" => ((try simp only [depth_under_make, depth_under_kw, depth_in1, depth_deeper, depth_caller]); (try dsimp only [ktrTop]); omega)
  k_with "k_enter" => (refine' code_def ?k1 ?k2 ?k3 ?k4 ?k5 ?kA ?kF ?kK ?k6 ?k7 ?k8 ?k9 ?kB ?_ ?c2 ?c3 ?c4 ?c5; (case kA => exact rfl); (case kF => exact rfl); (case kK => assumption); (case k1 => k_asm); (case k2 => k_asm); (case k3 => k_asm); (case k4 => k_asm); (case k5 => k_asm); (case k6 => k_is); (case k7 => k_is); (case k8 => k_room); (case k9 => first | exact BindsTo.of_eq rfl | exact binds_K (by k_in) rfl (by k_is) rfl rfl rfl); (case c5 => decide); (case kB => exact locs rfl); (case c2 => exact rfl); (case c3 => exact rfl); (case c4 => exact rfl); k_whole; intro g' L' h' FG' F' N' B' X' T'; (try dsimp only); (try k_fold))
  k_with "UnrEndW" => k_dflt ktu_end
  k_with "subscriptTail" => (k_here; (with_reducible show wpAny _ _ (subscriptTail _ _ (Value.bytes _ _) (Value.int _ _)) _ _ _); (refine KBw.item_K (by kba_ints) (by kba_size) (by kba_idx) (by kba_idx) ?_); intro _ _ kbaLo kbaHi)
  k_with "subscriptTail" => (k_here; (with_reducible show wpAny _ _ (subscriptTail _ (Expr.Slice _ _ none _) (Value.bytes _ _) (Value.ref _)) _ _ _); (with_reducible rename Fr _ _ _ _ => F'); (with_reducible rename News _ _ _ _ => N'); (refine KBc.slice_K (s := ⟨_, _, _, _, _⟩) F' N' (by kba_ints) (by constructor) (by constructor) (by kba_size) ?_); intro _ _ _ _ _ kbcK; (try simp only [Option.elim, KBc.clip_lit, clipAt_nat, List.drop_zero, Nat.sub_zero] at kbcK))
  k_with "ite" => (k_here; (with_reducible show if ((_ : Int) == (_ : Int)) = true then _ else _); first | (refine ite_pos (by rw [beq_iff_eq]; omega) ?_; walk_say "PR") | (refine ite_neg (by rw [beq_iff_eq]; omega) ?_; walk_say "PR"))
  k_with "call ref" => (k_here; (with_reducible show wpAny _ _ (call (Value.ref 342) [Value.int _ _]) _ _ _); k_dflt (refine' con_use (con_law_held _ _) ?k1 ?k2 ?k3 ?k4 ?k5 ?kK ?kd ?ku ?ko ?_; (case k1 => k_asm); (case k2 => k_asm); (case k3 => k_asm); (case k4 => k_asm); (case k5 => k_asm); (case kK => first | exact rfl | assumption); (case kd => first | (dsimp only [ktrTop]; omega) | (simp only [depth_under_make, depth_under_kw, depth_in1, depth_deeper, depth_caller]; (try dsimp only [ktrTop]); omega)); (case ku => first | (dsimp only [ktrTop]; omega) | (simp only [units_in1, units_deeper, Around.mark_units, units_caller]; (try dsimp only [ktrTop]); omega)); (case ko => first | exact List.forall_mem_nil _ | k_sub); k_whole; intro r' tl' h' tk' F' N' hne' hst' hr'; obtain ⟨hD, hq, hqt, hb, hbt, hE, hE2, hIn⟩ := hr'; subst hE; subst hE2; (simp only [List.nil_append, List.cons_append] at N'); obtain ⟨hw, hhw⟩ : ∃ hw, KBw.bInts hb = hw := ⟨_, rfl⟩; rw [hhw] at hIn; obtain ⟨hq0, hq7, hwl⟩ := held_facts hIn))
  k_with "call ref" => (k_here; (with_reducible show wpAny _ _ (call (Value.ref 321) _) _ _ _); k_dflt (refine' con_use con_law_names ?k1 ?k2 ?k3 ?k4 ?k5 ?kK ?kd ?ku ?ko ?_; (case k1 => k_asm); (case k2 => k_asm); (case k3 => k_asm); (case k4 => k_asm); (case k5 => k_asm); (case kK => first | exact rfl | assumption); (case kd => first | (dsimp only [ktrTop]; omega) | (simp only [depth_under_make, depth_under_kw, depth_in1, depth_deeper, depth_caller]; (try dsimp only [ktrTop]); omega)); (case ku => first | (dsimp only [ktrTop]; omega) | (simp only [units_in1, units_deeper, Around.mark_units, units_caller]; (try dsimp only [ktrTop]); omega)); (case ko => first | exact List.forall_mem_nil _ | k_sub); k_whole; intro r' tl' h' tk' F' N' hne' hst' hr'; obtain ⟨nD, nvs, nk, hE, hnm, hnp⟩ := hr'; subst hE))
  k_with "call ref" => (k_here; (with_reducible show wpAny _ _ (call (Value.ref 335) [Value.bytes _ _, Value.int _ _]) _ _ _); k_dflt (refine' con_useV (con_law_turned _ _ _ _ _ ?hb ?hl) ?k1 ?k2 ?k3 ?k4 ?k5 ?kK ?kd ?ku ?ko ?_; (case hb => first | with_reducible assumption | exact ints_btab | exact ints_space); (case hl => first | with_reducible assumption | exact Nat.le_of_ble_eq_true rfl); (case k1 => k_asm); (case k2 => k_asm); (case k3 => k_asm); (case k4 => k_asm); (case k5 => k_asm); (case kK => first | exact rfl | assumption); (case kd => first | (dsimp only [ktrTop]; omega) | (simp only [depth_under_make, depth_under_kw, depth_in1, depth_deeper, depth_caller]; (try dsimp only [ktrTop]); omega)); (case ku => first | (dsimp only [ktrTop]; omega) | (simp only [units_in1, units_deeper, Around.mark_units, units_caller]; (try dsimp only [ktrTop]); omega)); (case ko => first | exact List.forall_mem_nil _ | k_sub); k_whole; intro r' h' tk' F' N' hst' hr'; obtain ⟨bU, tU, hE, hU⟩ := hr'; subst hE))
  k_with "call ref" => (k_here; (with_reducible show wpAny _ _ (call (Value.ref 328) [Value.int _ _]) _ _ _); k_dflt (refine' con_useV (con_law_sign _ _ ?k0 ?k9) ?k1 ?k2 ?k3 ?k4 ?k5 ?kK ?kd ?ku ?ko ?_; (case k0 => exact (in_rng (by with_reducible assumption) rfl).1); (case k9 => exact (in_rng (by with_reducible assumption) rfl).2); (case k1 => k_asm); (case k2 => k_asm); (case k3 => k_asm); (case k4 => k_asm); (case k5 => k_asm); (case kK => first | exact rfl | assumption); (case kd => first | (dsimp only [ktrTop]; omega) | (simp only [depth_under_make, depth_under_kw, depth_in1, depth_deeper, depth_caller]; (try dsimp only [ktrTop]); omega)); (case ku => first | (dsimp only [ktrTop]; omega) | (simp only [units_in1, units_deeper, Around.mark_units, units_caller]; (try dsimp only [ktrTop]); omega)); (case ko => first | exact List.forall_mem_nil _ | k_sub); k_whole; intro r' h' tk' F' N' hst' hr'; obtain ⟨bU, tU, hE, hU⟩ := hr'; subst hE))
  k_with "call ref" => (k_here; (with_reducible show wpAny _ _ (call (Value.ref 349) [Value.bytes _ _, Value.int _ _, Value.int _ _]) _ _ _); k_dflt (refine' con_use (con_law_settled _ _ _ _ _ _ ?q0 ?q7) ?k1 ?k2 ?k3 ?k4 ?k5 ?kK ?kd ?ku ?ko ?_; (case q0 => with_reducible assumption); (case q7 => with_reducible assumption); (case k1 => k_asm); (case k2 => k_asm); (case k3 => k_asm); (case k4 => k_asm); (case k5 => k_asm); (case kK => first | exact rfl | assumption); (case kd => first | (dsimp only [ktrTop]; omega) | (simp only [depth_under_make, depth_under_kw, depth_in1, depth_deeper, depth_caller]; (try dsimp only [ktrTop]); omega)); (case ku => first | (dsimp only [ktrTop]; omega) | (simp only [units_in1, units_deeper, Around.mark_units, units_caller]; (try dsimp only [ktrTop]); omega)); (case ko => first | exact List.forall_mem_nil _ | k_sub); k_whole; intro r' tl' h' tk' F' N' hne' hst' hr'; obtain ⟨sD, st, su, sv, hE, hE2⟩ := hr'; subst hE; subst hE2; (simp only [List.nil_append, List.cons_append] at N')))
  k_with "call type:bytes" => (k_here; (with_reducible show wpAny _ _ (call (Value.type "bytes") [Value.ref _]) _ _ _); (rename (_ ∈ (_ : List Int)) => hMem); k_dflt (refine' bytes_as [_] ?k1 ?k2 ?k3 ?k4 ?k5 ?k6 ?k7 ?k8 ?_; (case k1 => k_asm); (case k2 => k_asm); (case k3 => exact rfl); (case k4 => k_mem); (case k5 => exact .cons _ _ .nil); (case k6 => exact rfl); (case k7 => exact in_one hMem rfl); (case k8 => exact Nat.le_of_ble_eq_true rfl); k_whole); intro h' b' t' k' F' N' hr')
  k_with "call builtin:len" => (k_here; (with_reducible show wpAny _ _ (call (Value.builtin "len") [Value.ref _]) _ _ _); k_dflt (refine' len_names ?k1 ?k2 ?k3 ?k4 ?_; (case k1 => k_asm); (case k2 => with_reducible assumption); (case k3 => exact (by first | exact fun q hq => List.mem_append_left _ hq | exact fun q hq => List.mem_append_right _ (List.mem_append_left _ hq))); (case k4 => with_reducible assumption); k_whole))
  k_with "call builtin:len" => (k_here; (with_reducible show wpAny _ _ (call (Value.builtin "len") [Value.ref _]) _ _ _); k_dflt (first | (refine' len_c1 ?k1 ?k2 ?_; (case k1 => k_asm); (case k2 => k_mem); k_whole) | (refine' len_c2 ?k1 ?k2 ?_; (case k1 => k_asm); (case k2 => k_mem); k_whole)))
  k_with "subscriptTail" => (k_here; (with_reducible show wpAny _ _ (subscriptTail _ _ (Value.ref _) (Value.int (Int.fmod _ 32) _)) _ _ _); k_dflt (refine' names_item ?k1 ?k2 ?k3 ?k4 ?k5 ?k6 ?k7 ?_ ?k8; (case k1 => k_asm); (case k2 => with_reducible assumption); (case k3 => exact (by first | exact fun q hq => List.mem_append_left _ hq | exact fun q hq => List.mem_append_right _ (List.mem_append_left _ hq))); (case k4 => with_reducible assumption); (case k5 => exact Int.fmod_nonneg_of_pos _ (by decide)); (case k6 => exact Int.fmod_lt_of_pos _ (by decide)); (case k7 => exact fun q hq => List.mem_append_right _ (List.mem_append_right _ hq)); (case k8 => with_unfolding_all rfl); k_whole); intro nA nB nC nT nU nP hP hP1 hP2 hP3 hP4 N')
  k_with "subscriptTail" => (k_here; (first | (with_reducible show wpAny _ _ (subscriptTail _ _ (Value.ref _) (Value.int (Int.fmod _ 7) _)) _ _ _) | (with_reducible show wpAny _ _ (subscriptTail _ _ (Value.ref _) (Value.int (Int.fmod _ 4) _)) _ _ _) | (with_reducible show wpAny _ _ (subscriptTail _ _ (Value.ref _) (Value.int (Int.fmod _ 9) _)) _ _ _)); k_dflt (refine' menu_item ?k1 ?k2 ?k3 ?k5 ?k6 ?k7 ?_ ?k8; (case k1 => k_asm); (case k2 => k_mem); (case k3 => first | exact .cons _ _ (.cons _ _ (.cons _ _ (.cons _ _ (.cons _ _ (.cons _ _ (.cons _ _ (.nil))))))) | exact .cons _ _ (.cons _ _ (.cons _ _ (.cons _ _ (.nil)))) | exact .cons _ _ (.cons _ _ (.cons _ _ (.cons _ _ (.cons _ _ (.cons _ _ (.cons _ _ (.cons _ _ (.cons _ _ (.nil)))))))))); (case k5 => exact Int.fmod_nonneg_of_pos _ (by decide)); (case k6 => exact Int.fmod_lt_of_pos _ (by decide)); (case k7 => exact Nat.le_of_ble_eq_true rfl); (case k8 => with_unfolding_all rfl); k_whole); intro nC nT hMem)
  k_with "subscriptTail Name Constant ref int" => (k_here; (first | (with_reducible show wpAny _ _ (subscriptTail _ _ (Value.ref _) (Value.int 0 _)) _ _ _) | (with_reducible show wpAny _ _ (subscriptTail _ _ (Value.ref _) (Value.int 1 _)) _ _ _)); k_dflt (refine' cells_at ?k1 ?k2 ?k3 ?k4 ?k5 ?_ ?k6; (case k1 => k_asm); (case k2 => k_mem); (case k3 => decide); (case k4 => decide); (case k5 => exact rfl); (case k6 => with_unfolding_all rfl); k_whole))
  k_with "eval IfExp" => (k_here; (rename (_ = [] ∨ _) => hcs); k_dflt (refine cut_int (by k_asm) (by k_asm) ?_ ?_); rotate_left; (intro n1 t1 h1 tk1 F1 N1); rotate_left; (rcases hcs with hcs1 | ⟨n1, t1, hcs1⟩ <;> subst hcs1))
  k_with "IntEnd" => (exact ⟨_, _, _, _, rfl, rfl, by with_reducible assumption, by with_reducible assumption⟩)
  k_with "binaryOp Add bytes bytes" => (k_here; (refine KBa.add_K (by first | with_reducible assumption | exact ints_caret) (by with_reducible assumption) (by first | exact sz_1 (by with_reducible assumption) (by first | with_reducible assumption | exact Nat.le_of_ble_eq_true rfl) | exact sz_2 (by first | with_reducible assumption | exact Nat.le_of_ble_eq_true rfl) | exact sz_3 (by with_reducible assumption)) ?_); intro _ _ kbaApp)
  (try unfold ConV)
  unfold Con
  k_fill
  intro w p loose mean mg mb dp un gd cn cs a ccd cl outer A₀ base h₀ L m s Q E B F X N T hk hd hu hret
  k_dflt (refine' con_enterO (binds := [(PySem.Str.ofString "cells", .ref C)]) B F X N T hk hret ?k8 ?k6 ?k7 ?k9 ?kB ?_ ?c5 ?c2 ?c3 ?c4; (case k6 => k_is); (case k7 => k_is); (case k8 => omega); (case k9 => exact BindsTo.of_eq rfl); (case c5 => decide); (case kB => exact locs rfl); (case c2 => exact rfl); (case c3 => exact rfl); (case c4 => exact rfl); k_whole)
  clear hret B F N T X hk
  intro g' L' h' tk' F' N' B' X' T' l1 hret
  (try k_lt l1)
  (try simp only [List.reverse_cons, List.reverse_nil, List.nil_append, List.cons_append] at F')
  (try k_fold)
  k_steps
  all_goals (refine drawn_ret (s := s) hret (by with_reducible assumption) (by with_reducible assumption) (by k_mem) (by k_mem) (by k_mem) rfl (by with_reducible assumption) (by first | with_reducible assumption | exact ints_nil | exact ints_tab) ?_; first
    | with_reducible exact ok_names (by with_reducible assumption) (by with_reducible assumption)
    | with_reducible exact ok_codes (by with_reducible assumption) (by with_reducible assumption)
    | with_reducible exact ok_btab (by with_reducible assumption)
    | with_reducible exact ok_space (by with_reducible assumption)
    | with_reducible exact ok_caret (by with_reducible assumption)
    | with_reducible exact ok_signs (by with_reducible assumption) (by with_reducible assumption))
end
end Mine
end

section
open PySem PySem.W PySem.Calls PySem.Spec PyProof.Rows
open LCg (NsObj lst Off3 Off1 SrcAt FinE CompEnd)
open LCt (CompRestT CompSrcT)
set_option maxRecDepth 100000
set_option maxHeartbeats 4000000
set_option linter.unusedSimpArgs false
set_option linter.unusedVariables false
namespace Mine
/-- a loop that stores three names alone -/
noncomputable def LJ (x y z : PySem.Str) (m₀ : PySem.Str → Option Value) (news : Led) (m : PySem.Str → Option Value) (nx : Led) : Prop :=
  nx = news ∧ ∀ q, q ≠ x → q ≠ y → q ≠ z → m q = m₀ q
theorem range2 : ∀ n : Fin 9, Builtin.Range.small 0 ((n.val : Nat) : Int) 2 = true ∧ Builtin.Range.rangeSize 0 ((n.val : Nat) : Int) 2 = (((n.val + 1) / 2 : Nat) : Int) := by decide
section
variable {prog : Program} {w : World} {A : Around} {h₀ : Heap} {env : Env} {body : List Stmt} {Q : Flow → Shared → Prop} {E : Value → Shared → Prop} {s : Shared} {m₀ : PySem.Str → Option Value} {news : Led}
theorem three_on {x y z : PySem.Str} {m₁ : PySem.Str → Option Value} {v : Value} (hm : ∀ q, q ≠ x → q ≠ y → q ≠ z → m₁ q = m₀ q) : (fun q => if q = x then some v else m₁ q) = fun q => if q = x then some v else if q = y then m₁ q else if q = z then m₁ q else m₀ q := by
  funext q
  by_cases h1 : q = x
  · simp [h1]
  · by_cases h2 : q = y
    · simp [h2]
    · by_cases h3 : q = z
      · simp [h3]
      · simp only [if_neg h1, if_neg h2, if_neg h3]; exact hm q h1 h2 h3
theorem three_off {x y z : PySem.Str} {m₁ : PySem.Str → Option Value} (hm : ∀ q, q ≠ x → q ≠ y → q ≠ z → m₁ q = m₀ q) : (fun q => if q = x then m₁ q else if q = y then m₁ q else if q = z then m₁ q else m₀ q) = m₁ := by
  funext q
  by_cases h1 : q = x
  · simp [h1]
  · by_cases h2 : q = y
    · simp [h2]
    · by_cases h3 : q = z
      · simp [h3]
      · simp only [if_neg h1, if_neg h2, if_neg h3]; exact (hm q h1 h2 h3).symm
theorem iter_step2 {x : PySem.Str} (y z : PySem.Str) {r : Addr} {n : Nat} {t u v : Tok} (hh : A.handled = none) (hr : IsRange s.heap r 0 (n : Int) 2 t u v) (hn : n ≤ 8) (F : Fr h₀ env.locals s.heap m₀) (N : News h₀ env.locals s.heap news)
    (turn : ∀ (i : Nat) t (m₁ : PySem.Str → Option Value) h tk own, 2 * i < n → OwnOff own (news.map (·.1)) → Fr h₀ env.locals h (fun q => if q = x then some (.int ((2 * i : Nat) : Int) t) else if q = y then m₁ q else if q = z then m₁ q else m₀ q) → News h₀ env.locals h (news ++ own) →
      wpAny (model prog w) A (execs body env) (InvPostN h₀ env.locals (LJ x y z m₀ news) own (news.map (·.1)) { s with heap := h, toks := tk } Q) E { s with heap := h, toks := tk })
    (done : ∀ (m₁ : PySem.Str → Option Value) h tk, Fr h₀ env.locals h (fun q => if q = x then m₁ q else if q = y then m₁ q else if q = z then m₁ q else m₀ q) → News h₀ env.locals h news → Q .next { s with heap := h, toks := tk }) :
    wpAny (model prog w) A (pyIter (.ref r)) (fun it s₂ => LoopAtV prog w A h₀ env x body Q E it s₂) E s := by
  obtain ⟨hsm, hsz⟩ := range2 ⟨n, by omega⟩
  refine wpAny_pyIter_range hr hsm ?_
  have W := Walks.range (prog := prog) (w := w) hh s.heap.objs.size 0 2 ((n + 1) / 2)
  refine loop_invN (fun _ => LJ x y z m₀ news) W ?_ ?_ ?_ ?_ (by show IsRangeIter _ _ _ _ _; rw [hsz]; simpa using Heap.get?_push_size _ rfl) (F.push _) (fun q hq => ⟨Heap.get?_push_of_some _ (N q hq).1, (N q hq).2⟩) ⟨rfl, fun _ _ _ _ => rfl⟩ ?_ ?_
  · intro hm
    exact absurd F.ns.lt ((List.mem_singleton.mp hm) ▸ Nat.lt_irrefl _)
  · intro b hb
    rw [List.mem_singleton.mp hb]
    exact next_is_new F
  · intro q hq hI
    exact absurd (Heap.lt_size (N q hq).1) ((List.mem_singleton.mp hI) ▸ Nat.lt_irrefl _)
  · intro q hq hI
    exact absurd (Heap.lt_size (N q hq).1) ((List.mem_singleton.mp hI) ▸ Nat.lt_irrefl _)
  · rintro i v m₁ news₁ h tk own hi ⟨t, rfl⟩ _ hoff ⟨rfl, hm⟩ F₁ N₁
    have e : (0 + (i : Int) * 2) = ((2 * i : Nat) : Int) := by push_cast; omega
    rw [e] at F₁
    rw [three_on hm] at F₁
    exact turn i t m₁ h tk own (by omega) hoff F₁ N₁
  · rintro m₁ news₁ h tk ⟨rfl, hm⟩ F₁ N₁
    exact done m₁ h tk (by rw [three_off hm]; exact F₁) N₁
noncomputable def TurnEnd (h₀ : Heap) (L : Addr) (xi xc : PySem.Str) (m₀ : PySem.Str → Option Value) (all : Led) (s₁ : Shared) (f : Flow) (s₂ : Shared) : Prop :=
  f = .next ∧ ∃ h' tk' m₂, s₂ = { s₁ with heap := h', toks := tk' } ∧ Fr h₀ L h' m₂ ∧ News h₀ L h' all ∧ ∀ q, q ≠ xi → q ≠ xc → m₂ q = m₀ q
/-- for a, b in a list of pairs of bytes; the turn stores nothing -/
theorem iter_pairs {xi xc : PySem.Str} {p1 p2 tp : Pos} {kt : Nat} {D : Addr} {vs : List Value} {k : Nat} {tl base : Led} {ps : List (List Int × List Int)} (hh : A.handled = none) (hkf : env.scope.kind = .function) (hxi : env.kindOf xi = some .local) (hxc : env.kindOf xc = some .local)
    (F : Fr h₀ env.locals s.heap m₀) (N : News h₀ env.locals s.heap news) (hm : (D, W.listOf vs.toArray k) ∈ tl) (ht : ∀ q ∈ tl, q ∈ news) (hb : ∀ q ∈ base, q ∈ news) (hp : PairsAre tl vs ps)
    (turn : ∀ (p : List Int × List Int) c u (m₁ : PySem.Str → Option Value) h tk (all : Led), p ∈ ps → KBw.bInts c = p.2 → (∀ q ∈ base, q ∈ all) → Fr h₀ env.locals h (fun q => if q = xc then some (.bytes c u) else if q = xi then m₁ q else m₀ q) → News h₀ env.locals h all →
      wpAny (model prog w) A (execs body env) (TurnEnd h₀ env.locals xi xc m₀ all { s with heap := h, toks := tk }) E { s with heap := h, toks := tk })
    (done : ∀ (m₁ : PySem.Str → Option Value) h tk, Fr h₀ env.locals h (fun q => if q = xc then m₁ q else if q = xi then m₁ q else m₀ q) → News h₀ env.locals h base → Q .next { s with heap := h, toks := tk }) :
    wpAny (model prog w) A (pyIter (.ref D)) (fun it s₂ => TurnsAt prog w A h₀ env (.Tuple [.Name xi p1, .Name xc p2] kt tp) body Q E it s₂) E s := by
  have hL : s.heap.IsList D vs.toArray := N.isList (ht _ hm)
  have hlt : D < s.heap.objs.size := Heap.lt_size (N _ (ht _ hm)).1
  refine wpAny_pyIter_list hL ?_
  have W := Walks.list (prog := prog) (w := w) hh s.heap.objs.size D (Nat.ne_of_lt hlt) vs.toArray
  have up : ∀ b o, s.heap.get? b = some o → (s.heap.push { cls := .type "list_iterator", data := .fields #[.ref D, .int 0 0] }).get? b = some o := fun b o e => Heap.get?_push_of_some _ e
  have Wn : ∀ q ∈ news, q.1 ∉ [s.heap.objs.size] := fun q hq hI => absurd (Heap.lt_size (N q hq).1) ((List.mem_singleton.mp hI) ▸ Nat.lt_irrefl _)
  refine ⟨_, _, _, _, _, _, _, m₀, news, fun i m nx => nx = news ∧ ∀ q, q ≠ xi → q ≠ xc → m q = m₀ q, rfl, KTurns.ofWalks W (fun i v s Q E st hQ => ?_), ?_, ?_, Wn, ⟨⟨_, Heap.get?_push_size _ rfl, rfl, rfl⟩, hL.at fun o e => up D o e⟩, F.keeps up, N.grown up, ⟨rfl, fun _ _ _ => rfl⟩, ?_, ?_⟩
  · cases v with
    | ref T => exact wpAny_letOwnedTupleGo_listiter st.1 hQ
    | _ => exact wpAny_pure hQ
  · intro hm'
    rcases List.mem_cons.mp hm' with e | hm'
    · exact absurd F.ns.lt (e ▸ Nat.lt_irrefl _)
    · exact (N _ (ht _ hm)).2.1 (List.mem_singleton.mp hm').symm
  · intro b hb'
    rw [List.mem_singleton.mp hb']
    exact next_is_new F
  · rintro i v m₁ news₁ h₁ tk₁ own hi hv ⟨rfl, hma⟩ hwr hof hown hin st F₁ N₁
    obtain ⟨p, hpi, a, b, c, t, u, rfl, hma', e1, e2⟩ := hp.get i v (by simpa using hv)
    have hpc : (env.scope.kind == .class || (env.scope.kind == .module && env.locals != env.globals)) = false := by rw [hkf]; rfl
    refine assign_Tuple_tuple hh ⟨_, (N₁ _ (List.mem_append_right own (ht _ hma'))).1, rfl, _, rfl⟩ rfl rfl fun h' ext => ?_
    have up' : ∀ b o, h₁.get? b = some o → h'.get? b = some o := fun b o e => ext b o (Nat.ne_of_lt (Heap.lt_size e)) e
    have F' := F₁.keeps up'
    have N' := N₁.grown up'
    refine assignInOrder_cons (wpAny_assign_Name (wpAny_storeName_local hxi F'.ns (fun h₂ hn₂ hs₂ => ?_) hpc))
    have F₂ := F'.set hn₂ hs₂
    have N₂ := N'.set hs₂
    refine assignInOrder_cons (wpAny_assign_Name (wpAny_storeName_local hxc F₂.ns (fun h₃ hn₃ hs₃ => assignInOrder_nil ?_) hpc))
    have F₃ := F₂.set hn₃ hs₃
    have N₃ := N₂.set hs₃
    have e : (fun q => if q = xc then some (Value.bytes c u) else if q = xi then some (Value.bytes b t) else m₁ q) = fun q => if q = xc then some (Value.bytes c u) else if q = xi then (fun q => if q = xi then some (Value.bytes b t) else m₁ q) q else m₀ q := by
      funext q
      by_cases h1 : q = xc
      · simp [h1]
      · by_cases h2 : q = xi
        · simp [h2]
        · simp only [if_neg h1, if_neg h2]; exact hma q h2 h1
    refine wpAny_mono (turn p c u (fun q => if q = xi then some (Value.bytes b t) else m₁ q) h₃ _ _ (List.mem_of_getElem? hpi) e2 (fun q hq => List.mem_append_right own (hb q hq)) (by rw [← e]; exact F₃) N₃) (fun f s₂ hT => ?_) fun _ _ e => e
    obtain ⟨rfl, h₄, tk₄, m₄, rfl, F₄, N₄, hm₄⟩ := hT
    exact LoopStepV.next ⟨rfl, h₄, tk₄, m₄, _, rfl, F₄, N₄, hwr, rfl, hm₄⟩
  · rintro h' tk m' news' F' N' hwr ⟨rfl, hma⟩
    refine done m' h' tk ?_ fun q hq => N' q (hb q hq)
    have e : (fun q => if q = xc then m' q else if q = xi then m' q else m₀ q) = m' := by
      funext q
      by_cases h1 : q = xc
      · simp [h1]
      · by_cases h2 : q = xi
        · simp [h2]
        · simp only [if_neg h1, if_neg h2]; exact (hma q h2 h1).symm
    rw [e]; exact F'
end
section
variable {prog : Program} {w : World} {A : Around} {h₀ : Heap} {L : Addr} {E : Value → Shared → Prop} {s : Shared} {news : Led}
theorem vals_get {vs : List Value} {ns : List (List Int)} (hv : BytesAre vs ns) {y : Value} (h : y ∈ vs) : ∃ c t, y = .bytes c t ∧ KBw.bInts c ∈ ns := by
  obtain ⟨i, hi⟩ := List.getElem?_of_mem h
  obtain ⟨c, t, e, hn⟩ := hv.get i y hi
  exact ⟨c, t, e, List.mem_of_getElem? hn⟩
theorem vals_has {vs : List Value} {ns : List (List Int)} (hv : BytesAre vs ns) : ∀ {n : List Int}, n ∈ ns → ∃ c t, Value.bytes c t ∈ vs ∧ KBw.bInts c = n := by
  induction hv with
  | nil => intro n h; cases h
  | cons c t r ih =>
    intro n h
    rcases List.mem_cons.mp h with rfl | h
    · exact ⟨c, t, .head _, rfl⟩
    · obtain ⟨c', t', h1, h2⟩ := ih h
      exact ⟨c', t', .tail _ h1, h2⟩
noncomputable def sameBytes (c : Array UInt8) (y : Value) : Bool := match y with
  | .bytes b _ => b.toList == c.toList
  | _ => false
theorem not_in_vals {K : Addr} {vs : List Value} {ns : List (List Int)} {kk : Nat} {c : Array UInt8} {u : Tok} {R : Value → Shared → Prop} (N : News h₀ L s.heap news) (hm : (K, W.listOf vs.toArray kk) ∈ news) (hv : BytesAre vs ns) (hc : KBw.bInts c ∈ ns) (h : R (.bool false) s) :
    wpAny (model prog w) A (compareOp .NotIn (.bytes c u) (.ref K)) R E s := by
  refine SeqAt.notIn_listAt (sameBytes c) (N.isList hm) (fun y hy => ?_) ?_
  · obtain ⟨b, t, rfl, _⟩ := vals_get hv (by simpa using hy)
    exact eqat_bytes
  · have e : vs.toArray.any (sameBytes c) = true := by
      obtain ⟨b, t, hb, e⟩ := vals_has hv hc
      have h1 : vs.any (sameBytes c) = true := List.any_eq_true.mpr ⟨_, hb, by show (b.toList == c.toList) = true; rw [beq_ints e rfl]; simp⟩
      simpa using h1
    rw [e]; exact h
theorem item_vals {value slice : PySem.Expr} {K : Addr} {vs : List Value} {ns : List (List Int)} {kk : Nat} {i : Int} {u : Tok} {R : Value → Shared → Prop} (N : News h₀ L s.heap news) (hm : (K, W.listOf vs.toArray kk) ∈ news) (hv : BytesAre vs ns) (h0 : 0 ≤ i) (h1 : i < (ns.length : Nat)) (hz : ns.length ≤ 4096)
    (h : ∀ c t, KBw.bInts c ∈ ns → R (.bytes c t) s)
    (hs : subscripted slice false (.ref K) (.int i u) = operate [.ref K, .int i u] (getItem (.ref K) (.int i u))) : wpAny (model prog w) A (subscriptTail value slice (.ref K) (.int i u)) R E s := by
  have hl := hv.length
  obtain ⟨v, hvv⟩ : ∃ v, vs[i.toNat]? = some v := ⟨vs[i.toNat]'(by omega), List.getElem?_eq_getElem _⟩
  obtain ⟨c, t, rfl, hc⟩ := vals_get hv (List.mem_of_getElem? hvv)
  exact item_litK (N.isList hm) h0 (by omega) hvv (h c t hc) hs
end
noncomputable def ownOk (n : List Int) : Bool := match readF n with
  | some (nm, c, q) => decide (wordF (nm, c, q) = n ∧ 0 ≤ c ∧ c < 1114112 ∧ 0 ≤ q ∧ q ≤ 7 ∧ nm.length ≤ 64 ∧ n.length ≤ 64)
  | none => false
theorem plain_owns : names.all ownOk = true := by decide +kernel
theorem own_facts {n : List Int} (h : n ∈ names) : ∃ nm c q, readF n = some (nm, c, q) ∧ wordF (nm, c, q) = n ∧ 0 ≤ c ∧ c < 1114112 ∧ 0 ≤ q ∧ q ≤ 7 ∧ nm.length ≤ 64 ∧ n.length ≤ 64 := by
  have h1 := List.all_eq_true.mp plain_owns n h
  unfold ownOk at h1
  split at h1
  · rename_i nm c q e
    exact ⟨nm, c, q, e, of_decide_eq_true h1⟩
  · cases h1
theorem known_of {p : List Int × List Int} (h : p ∈ lawNames) : p.2 ∈ names := by
  have h1 := List.all_eq_true.mp plain_known p h
  exact List.elem_iff.mp h1

section
variable {prog : Program} {w : World} {A : Around} {h₀ : Heap} {L : Addr} {env : Env} {E : Value → Shared → Prop} {m : PySem.Str → Option Value} {s : Shared}
theorem rest_bad {ct elt : PySem.Expr} {x : PySem.Str} {scope : Scope} {cl : List (PySem.Str × Addr)} {S : Led → Prop} {P : Nat → Value → Prop} {Fin : List Value → Led → Prop} {news : Led} (hS : S news) (fin : Fin [] news)
    (test : ∀ i v I oI C oC D m₂ h tk (E' : Value → Shared → Prop) (R : Bool → Shared → Prop), P i v → NsObj oC m₂ → m₂ x = some v → Fr h₀ L h m → News h₀ L h ((I, oI) :: (C, oC) :: (D, lst []) :: news) →
      (∀ h' tk', Fr h₀ L h' m → News h₀ L h' ((I, oI) :: (C, oC) :: (D, lst []) :: news) → R false { s with heap := h', toks := tk' }) →
      wpAny (model prog w) A (isTrue ct (compEnvC scope cl C env) (eval ct (compEnvC scope cl C env))) R E' { s with heap := h, toks := tk }) :
    ∀ n i, CompRestT prog w A h₀ L m env ct elt x scope cl s S P Fin n i [] news := by
  intro n
  induction n with
  | zero => intro i; exact CompRestT.zero fin
  | succ n ih =>
    intro i
    refine CompRestT.succ fun v I oI C oC D m₂ h tk E' hP hC hx F N off hne => ?_
    refine test i v I oI C oC D m₂ h tk E' _ hP hC hx F N fun h' tk' F' N' => ?_
    rw [if_neg Bool.false_ne_true]
    exact CompEnd.intro F' N' news (fun p hp => hp) off hS (ih (i + 1))
end
theorem two_of {vs : List Value} {ns : List Int} (h : IntsAre vs ns) (h1 : 1 ≤ ns.length) (h2 : ns.length ≤ 2) : ∃ n0 t0 cs, vs = Value.int n0 t0 :: cs ∧ (cs = [] ∨ ∃ n1 t1, cs = [Value.int n1 t1]) := by
  cases h with
  | nil => simp at h1
  | cons n t r =>
    refine ⟨n, t, _, rfl, ?_⟩
    cases r with
    | nil => exact .inl rfl
    | cons n' t' r' =>
      cases r' with
      | nil => exact .inr ⟨n', t', rfl⟩
      | cons _ _ _ => simp at h2
theorem iter_cells {prog : Program} {w : World} {A : Around} {h₀ : Heap} {env : Env} {body : List Stmt} {Q : Flow → Shared → Prop} {E : Value → Shared → Prop} {s : Shared} {m₀ : PySem.Str → Option Value} {news : Led} {ys : List Value} {ns : List Int} {x : PySem.Str} (y z : PySem.Str) {r : Addr} {t u v : Tok} (hh : A.handled = none) (hI : IntsAre ys ns) (hr : IsRange s.heap r 0 (ns.length : Nat) 2 t u v) (hn : ns.length ≤ 8) (F : Fr h₀ env.locals s.heap m₀) (N : News h₀ env.locals s.heap news)
    (turn : ∀ nsX : List Int, IntsAre ys nsX → nsX.length ≤ 8 → ∀ (i : Nat) t (m₁ : PySem.Str → Option Value) h tk own, 2 * i < nsX.length → OwnOff own (news.map (·.1)) → Fr h₀ env.locals h (fun q => if q = x then some (.int ((2 * i : Nat) : Int) t) else if q = y then m₁ q else if q = z then m₁ q else m₀ q) → News h₀ env.locals h (news ++ own) →
      wpAny (model prog w) A (execs body env) (InvPostN h₀ env.locals (LJ x y z m₀ news) own (news.map (·.1)) { s with heap := h, toks := tk } Q) E { s with heap := h, toks := tk })
    (done : ∀ nsX : List Int, IntsAre ys nsX → nsX.length ≤ 8 → ∀ (m₁ : PySem.Str → Option Value) h tk, Fr h₀ env.locals h (fun q => if q = x then m₁ q else if q = y then m₁ q else if q = z then m₁ q else m₀ q) → News h₀ env.locals h news → Q .next { s with heap := h, toks := tk }) :
    wpAny (model prog w) A (pyIter (.ref r)) (fun it s₂ => LoopAtV prog w A h₀ env x body Q E it s₂) E s :=
  iter_step2 y z hh hr hn F N (turn ns hI hn) (done ns hI hn)
section
variable {prog : Program} {w : World} {A : Around} {h₀ : Heap} {L : Addr} {E : Value → Shared → Prop} {s : Shared} {news : Led} {R : Value → Shared → Prop}
theorem ne_same {b c : Array UInt8} {t u : Tok} (e : KBw.bInts b = KBw.bInts c) (h : R (.bool false) s) : wpAny (model prog w) A (compareOp .NotEq (.bytes b t) (.bytes c u)) R E s := by
  refine ne_bytes ?_
  have h1 : (b.toList == c.toList) = true := by rw [beq_ints e rfl]; simp
  rw [show (b.toList != c.toList) = false from by rw [bne, h1]; rfl]
  exact h
theorem eq_nils {a b : Addr} {j k : Nat} (N : News h₀ L s.heap news) (ha : (a, W.listOf (List.toArray []) j) ∈ news) (hb : (b, W.listOf (List.toArray []) k) ∈ news) (hu : A.units < cLine) (h : R (.bool true) s) : wpAny (model prog w) A (compareOp .Eq (.ref a) (.ref b)) R E s :=
  SeqAt.eq_listAt (e := fun _ => true) (N.isList ha) (N.isList hb) rfl hu (fun j h1 _ => absurd h1 (Nat.not_lt_zero _)) h
theorem len_known {K : Addr} {vs : List Value} {kk : Nat} (N : News h₀ L s.heap news) (hm : (K, W.listOf vs.toArray kk) ∈ news) (hv : BytesAre vs names) (h : R (.int 53 (s.toks + 1)) { s with toks := s.toks + 1 + 1 }) :
    wpAny (model prog w) A (call (.builtin "len") [.ref K]) R E s := by
  have e : vs.toArray.size = 53 := by rw [List.size_toArray, hv.length]; rfl
  refine len_list (N.isList hm) (by rw [e]; decide) ?_
  rw [e]; exact h
end
noncomputable def badAre : List (List Int) := badWords
theorem bad_facts {k : List Int} {i : Nat} (h : badWords[i]? = some k) : readF k = none ∧ k.length ≤ 64 := by
  have hm := List.mem_of_getElem? h
  refine ⟨of_decide_eq_true (List.all_eq_true.mp plain_bad k hm), ?_⟩
  have h1 : badWords.all (fun k => decide (k.length ≤ 64)) = true := by decide
  exact of_decide_eq_true (List.all_eq_true.mp h1 k hm)
theorem bad_at {vs : List Value} (h : WordsAre vs badWords) {i : Nat} {v : Value} (e : vs.toArray[i]? = some v) : ∃ b t, v = .bytes b t ∧ readF (KBw.bInts b) = none ∧ (KBw.bInts b).length ≤ 64 := by
  obtain ⟨b, t, k, rfl, hk, hb⟩ := h.get i v (by simpa using e)
  obtain ⟨h1, h2⟩ := bad_facts hk
  exact ⟨b, t, rfl, hb ▸ h1, hb ▸ h2⟩
theorem bad_in {vs : List Value} {i : Nat} {v : Value} (e : vs.toArray[i]? = some v) (h : WordsAre vs badWords) : ∃ b t, v = .bytes b t ∧ readF (KBw.bInts b) = none ∧ (KBw.bInts b).length ≤ 64 := bad_at h e
end Mine
end

section
open PySem PySem.W PySem.Calls PySem.Spec PyProof.Rows
set_option maxRecDepth 100000
set_option maxHeartbeats 8000000
set_option linter.unusedSimpArgs false
set_option linter.unusedVariables false
namespace Mine

section



theorem law_holds : PySem.Challenge.rw_og0251_01.Holds := by
  w_top off
  k_with_none
  k_with "execs cons" => k_fold
  k_with "execs cons" => ((with_reducible refine st_norm (g' := s.gens) (d' := s.drawn) (os' := s.os) rfl rfl rfl fun tk => ?_); (try k_fold))
  k_with "UnrEndW" => k_dflt ktu_end
  k_with "subscriptTail" => (k_here; (with_reducible show wpAny _ _ (subscriptTail _ _ (Value.bytes _ _) (Value.int _ _)) _ _ _); (refine KBw.item_K (by kba_ints) (by kba_size) (by kba_idx) (by kba_idx) ?_); intro _ _ kbaLo kbaHi)
  k_with "subscriptTail" => (k_here; (with_reducible show wpAny _ _ (subscriptTail _ (Expr.Slice _ _ none _) (Value.bytes _ _) (Value.ref _)) _ _ _); (with_reducible rename Fr _ _ _ _ => F'); (with_reducible rename News _ _ _ _ => N'); (refine KBc.slice_K (s := ⟨_, _, _, _, _⟩) F' N' (by kba_ints) (by constructor) (by constructor) (by kba_size) ?_); intro _ _ _ _ _ kbcK; (try simp only [Option.elim, KBc.clip_lit, clipAt_nat, List.drop_zero, Nat.sub_zero] at kbcK))
  k_with "ite" => (k_here; (with_reducible show if ((_ : Int) == (_ : Int)) = true then _ else _); first | (refine ite_pos (by rw [beq_iff_eq]; omega) ?_; walk_say "PR") | (refine ite_neg (by rw [beq_iff_eq]; omega) ?_; walk_say "PR"))
  k_with "call ref" => (k_here; (with_reducible show wpAny _ _ (call (Value.ref 363) [Value.ref _]) _ _ _); (rename IntsAre _ _ => hIs); (obtain ⟨n0, t0, cs, hE, hcs⟩ := two_of hIs (by first | (rw [List.length_take, List.length_drop]; omega) | omega) (by first | (rw [List.length_take, List.length_drop]; omega) | omega)); (subst hE); k_dflt (refine' con_use (con_law_drawn _ _ _ _ _ hcs) ?k1 ?k2 ?k3 ?k4 ?k5 ?kK ?kd ?ku ?ko ?_; (case k2 => k_asm); (case k1 => k_asm); (case k3 => k_asm); (case k4 => k_asm); (case k5 => k_asm); (case kK => first | exact rfl | assumption); (case kd => first | (simp only [depth_under_make, depth_under_kw, depth_in1, depth_deeper, depth_caller, recursionLimit]; omega) | (simp only [depth_under_make, depth_under_kw, depth_in1, depth_deeper, depth_caller, recursionLimit]; decide) | (dsimp only [ktrTop]; omega) | (simp only [depth_under_make, depth_under_kw, depth_in1, depth_deeper, depth_caller]; (try dsimp only [ktrTop]); omega)); (case ku => first | (simp only [units_in1, units_deeper, Around.mark_units, units_caller, cLine]; omega) | (simp only [units_in1, units_deeper, Around.mark_units, units_caller, cLine]; decide) | (dsimp only [ktrTop]; omega) | (simp only [units_in1, units_deeper, Around.mark_units, units_caller]; (try dsimp only [ktrTop]); omega)); (case ko => first | exact List.forall_mem_nil _ | lcg_sub); k_whole; intro r' tl' h' tk' F' N' hne' hst' hr'; obtain ⟨dD, dTD, db, dnb, dt, dtn, dtc, dtq, dc, dq, dks, dnm, hE, hE2, hdb, hdnb, hok⟩ := hr'; subst hE; subst hE2; (simp only [List.nil_append, List.cons_append] at N')))
  k_with "call ref" => (k_here; (with_reducible show wpAny _ _ (call (Value.ref 377) [Value.bytes _ _, Value.ref _]) _ _ _); k_dflt (refine' con_useW (con_law_right _ _ _ _ _ _ _ _ _ _ _ _ ?hb ?hnb ?ok) ?k1 ?k2 ?k3 ?k4 ?k5 ?kK ?kd ?ku ?ko ?_; (case k2 => k_asm); (case k1 => k_asm); (case k3 => k_asm); (case k4 => k_asm); (case k5 => k_asm); (case kK => first | exact rfl | assumption); (case kd => first | (simp only [depth_under_make, depth_under_kw, depth_in1, depth_deeper, depth_caller, recursionLimit]; omega) | (simp only [depth_under_make, depth_under_kw, depth_in1, depth_deeper, depth_caller, recursionLimit]; decide) | (dsimp only [ktrTop]; omega) | (simp only [depth_under_make, depth_under_kw, depth_in1, depth_deeper, depth_caller]; (try dsimp only [ktrTop]); omega)); (case ku => first | (simp only [units_in1, units_deeper, Around.mark_units, units_caller, cLine]; omega) | (simp only [units_in1, units_deeper, Around.mark_units, units_caller, cLine]; decide) | (dsimp only [ktrTop]; omega) | (simp only [units_in1, units_deeper, Around.mark_units, units_caller]; (try dsimp only [ktrTop]); omega)); (case ko => first | exact List.forall_mem_nil _ | lcg_sub); (case ok => with_reducible assumption); (case hb => with_reducible assumption); (case hnb => with_reducible assumption); k_whole; intro r' tl' h' tk' F' N' hne' hst' hr'; obtain ⟨hE1, hE2⟩ := hr'; subst hE1; subst hE2; (simp only [List.nil_append, List.cons_append] at N')))
  k_with "call ref" => (k_here; (with_reducible show wpAny _ _ (call (Value.ref 281) _) _ _ _); k_dflt (refine' con_use con_key_names ?k1 ?k2 ?k3 ?k4 ?k5 ?kK ?kd ?ku ?ko ?_; (case k2 => k_asm); (case k1 => k_asm); (case k3 => k_asm); (case k4 => k_asm); (case k5 => k_asm); (case kK => first | exact rfl | assumption); (case kd => first | (simp only [depth_under_make, depth_under_kw, depth_in1, depth_deeper, depth_caller, recursionLimit]; omega) | (simp only [depth_under_make, depth_under_kw, depth_in1, depth_deeper, depth_caller, recursionLimit]; decide) | (dsimp only [ktrTop]; omega) | (simp only [depth_under_make, depth_under_kw, depth_in1, depth_deeper, depth_caller]; (try dsimp only [ktrTop]); omega)); (case ku => first | (simp only [units_in1, units_deeper, Around.mark_units, units_caller, cLine]; omega) | (simp only [units_in1, units_deeper, Around.mark_units, units_caller, cLine]; decide) | (dsimp only [ktrTop]; omega) | (simp only [units_in1, units_deeper, Around.mark_units, units_caller]; (try dsimp only [ktrTop]); omega)); (case ko => first | exact List.forall_mem_nil _ | lcg_sub); k_whole; intro r' tl' h' tk' F' N' hne' hst' hr'; obtain ⟨Dn, tn, kn, hE1, hE2⟩ := hr'; subst hE1 hE2; (simp only [List.nil_append, List.cons_append] at N')))
  k_with "call ref" => (k_here; (with_reducible show wpAny _ _ (call (Value.ref 321) _) _ _ _); k_dflt (refine' con_use con_law_names ?k1 ?k2 ?k3 ?k4 ?k5 ?kK ?kd ?ku ?ko ?_; (case k2 => k_asm); (case k1 => k_asm); (case k3 => k_asm); (case k4 => k_asm); (case k5 => k_asm); (case kK => first | exact rfl | assumption); (case kd => first | (simp only [depth_under_make, depth_under_kw, depth_in1, depth_deeper, depth_caller, recursionLimit]; omega) | (simp only [depth_under_make, depth_under_kw, depth_in1, depth_deeper, depth_caller, recursionLimit]; decide) | (dsimp only [ktrTop]; omega) | (simp only [depth_under_make, depth_under_kw, depth_in1, depth_deeper, depth_caller]; (try dsimp only [ktrTop]); omega)); (case ku => first | (simp only [units_in1, units_deeper, Around.mark_units, units_caller, cLine]; omega) | (simp only [units_in1, units_deeper, Around.mark_units, units_caller, cLine]; decide) | (dsimp only [ktrTop]; omega) | (simp only [units_in1, units_deeper, Around.mark_units, units_caller]; (try dsimp only [ktrTop]); omega)); (case ko => first | exact List.forall_mem_nil _ | lcg_sub); k_whole; intro r' tl' h' tk' F' N' hne' hst' hr'; obtain ⟨nD, nvs, nk, hE, hnm, hnp⟩ := hr'; subst hE))
  k_with "call ref" => (k_here; (with_reducible show wpAny _ _ (call (Value.ref 309) [Value.bytes _ _]) _ _ _); k_dflt (refine' con_use (con_read_key _ _ _ rfl ?kl ?ks) ?k1 ?k2 ?k3 ?k4 ?k5 ?kK ?kd ?ku ?ko ?_; (case kl => with_reducible assumption); (case ks => exact some_ne (by with_reducible assumption)); (case k2 => k_asm); (case k1 => k_asm); (case k3 => k_asm); (case k4 => k_asm); (case k5 => k_asm); (case kK => first | exact rfl | assumption); (case kd => first | (simp only [depth_under_make, depth_under_kw, depth_in1, depth_deeper, depth_caller, recursionLimit]; omega) | (simp only [depth_under_make, depth_under_kw, depth_in1, depth_deeper, depth_caller, recursionLimit]; decide) | (dsimp only [ktrTop]; omega) | (simp only [depth_under_make, depth_under_kw, depth_in1, depth_deeper, depth_caller]; (try dsimp only [ktrTop]); omega)); (case ku => first | (simp only [units_in1, units_deeper, Around.mark_units, units_caller, cLine]; omega) | (simp only [units_in1, units_deeper, Around.mark_units, units_caller, cLine]; decide) | (dsimp only [ktrTop]; omega) | (simp only [units_in1, units_deeper, Around.mark_units, units_caller]; (try dsimp only [ktrTop]); omega)); (case ko => first | exact List.forall_mem_nil _ | lcg_sub); k_whole; intro r' tl' h' tk' F' N' hne' hst' hr'; obtain ⟨kx, kd, hE, hK⟩ := read_is hr' (by with_reducible assumption); subst hE; (have hK2 := hK); obtain ⟨kb, tb, tc, tq, te, t1, t2, t3, t4, hkb, hE2⟩ := hK2; subst hE2; (simp only [List.nil_append, List.cons_append] at N')))
  k_with "call ref" => (k_here; (with_reducible show wpAny _ _ (call (Value.ref 316) [Value.ref _]) _ _ _); k_dflt (refine' con_useW (con_key_word _ _ _ _ _ _ _ ?hK ?c0 ?c1 ?q0 ?q7 ?nl) ?k1 ?k2 ?k3 ?k4 ?k5 ?kK ?kd ?ku ?ko ?_; (case hK => with_reducible assumption); (case c0 => with_reducible assumption); (case c1 => with_reducible assumption); (case q0 => with_reducible assumption); (case q7 => with_reducible assumption); (case nl => with_reducible assumption); (case k2 => k_asm); (case k1 => k_asm); (case k3 => k_asm); (case k4 => k_asm); (case k5 => k_asm); (case kK => first | exact rfl | assumption); (case kd => first | (simp only [depth_under_make, depth_under_kw, depth_in1, depth_deeper, depth_caller, recursionLimit]; omega) | (simp only [depth_under_make, depth_under_kw, depth_in1, depth_deeper, depth_caller, recursionLimit]; decide) | (dsimp only [ktrTop]; omega) | (simp only [depth_under_make, depth_under_kw, depth_in1, depth_deeper, depth_caller]; (try dsimp only [ktrTop]); omega)); (case ku => first | (simp only [units_in1, units_deeper, Around.mark_units, units_caller, cLine]; omega) | (simp only [units_in1, units_deeper, Around.mark_units, units_caller, cLine]; decide) | (dsimp only [ktrTop]; omega) | (simp only [units_in1, units_deeper, Around.mark_units, units_caller]; (try dsimp only [ktrTop]); omega)); (case ko => first | exact List.forall_mem_nil _ | lcg_sub); k_whole; intro r' tl' h' tk' F' N' hne' hst' hr'; obtain ⟨hE1, wb, wt, hE2, hwb⟩ := hr'; subst hE1 hE2; (simp only [List.nil_append, List.cons_append] at N')))
  k_with "call ref" => (k_here; (with_reducible show wpAny _ _ (call (Value.ref 370) [Value.bytes _ _]) _ _ _); k_dflt (refine' law_refused _ _ ?kl ?kn ?k1 ?k2 ?k3 ?k4 ?k5 ?kK ?kd ?ku ?kXB ?kTB ?_; (case kl => with_reducible assumption); (case kn => with_reducible assumption); (case k2 => k_asm); (case k1 => k_asm); (case k3 => k_asm); (case k4 => k_asm); (case k5 => k_asm); (case kK => first | exact rfl | assumption); (case kd => first | (simp only [depth_under_make, depth_under_kw, depth_in1, depth_deeper, depth_caller, recursionLimit]; omega) | (simp only [depth_under_make, depth_under_kw, depth_in1, depth_deeper, depth_caller, recursionLimit]; decide) | (dsimp only [ktrTop]; omega) | (simp only [depth_under_make, depth_under_kw, depth_in1, depth_deeper, depth_caller]; (try dsimp only [ktrTop]); omega) | decide); (case ku => first | (simp only [units_in1, units_deeper, Around.mark_units, units_caller, cLine]; omega) | (simp only [units_in1, units_deeper, Around.mark_units, units_caller, cLine]; decide) | (dsimp only [ktrTop]; omega) | (simp only [units_in1, units_deeper, Around.mark_units, units_caller]; (try dsimp only [ktrTop]); omega) | decide); (case kXB => k_asm); (case kTB => k_asm); k_whole); intro h' tk' F' N')
  k_with "pyIter ref" => (k_here; (with_reducible show wpAny _ _ (pyIter (Value.ref _)) (fun it s₂ => LoopAtV _ _ _ _ _ _ _ _ _ it s₂) _ _); refine Hold.in ?_)
  k_with "pyIter ref" => (k_here; (with_reducible show wpAny _ _ (pyIter (Value.ref _)) (fun it s₂ => TurnsAt _ _ _ _ _ _ _ _ _ it s₂) _ _); refine Hold.in ?_)
  k_with "exec For Tuple Call" => (k_here; (with_reducible show wpAny _ _ (exec (Stmt.For (Expr.Tuple _ _ _) (Expr.Call _ _ _ _) _ _ _) _) _ _ _); (with_reducible rename Fr _ _ _ _ => F'); k_dflt (refine' For_turns ?F ?_ ?hs; (case F => exact F'); (case hs => intro _; with_unfolding_all rfl); k_whole))
  k_with "InvEndN" => (k_dflt (refine InvEndN.intro (by with_reducible assumption) (by with_reducible assumption) ⟨rfl, by (intro q h1 h2 h3; simp only [if_neg h1, if_neg h2, if_neg h3])⟩ rfl (by lcg_sub) (by (intro p hp; repeat (first | exact hp | with_reducible refine List.mem_cons_of_mem _ ?_)))))
  k_with "TurnEnd" => (k_dflt (exact ⟨rfl, _, _, _, rfl, by assumption, by assumption, by (intro q h1 h2; simp only [if_neg h1, if_neg h2])⟩))
  k_with "compareOp NotIn" => (k_here; (with_reducible show wpAny _ _ (compareOp CmpOp.NotIn (Value.bytes _ _) (Value.ref _)) _ _ _); (rename (∀ (q : Addr × Obj), q ∈ _ → q ∈ _) => hsub); k_dflt (refine' not_in_vals ?k1 ?k2 (nameVals_are _) ?k3 ?_; (case k1 => k_asm); (case k2 => exact hsub _ (by k_mem)); (case k3 => with_reducible assumption); k_whole))
  k_with "call builtin:len" => (k_here; (with_reducible show wpAny _ _ (call (Value.builtin "len") [Value.ref _]) _ _ _); k_dflt (refine' len_known ?k1 ?k2 (nameVals_are _) ?_; (case k1 => k_asm); (case k2 => k_mem); k_whole))
  k_with "subscriptTail" => (k_here; (with_reducible show wpAny _ _ (subscriptTail _ _ (Value.ref _) (Value.int (Int.fmod _ 53) _)) _ _ _); k_dflt (refine' item_vals ?k1 ?k2 (nameVals_are _) ?k5 ?k6 ?k7 ?_ ?k8; (case k1 => k_asm); (case k2 => k_mem); (case k5 => exact Int.fmod_nonneg_of_pos _ (by decide)); (case k6 => exact Int.fmod_lt_of_pos _ (by decide)); (case k7 => exact Nat.le_of_ble_eq_true rfl); (case k8 => with_unfolding_all rfl); k_whole); intro oc ot hcm; obtain ⟨onm, oco, oq, or, ow, o0, o1, o2, o3, o4, o5⟩ := own_facts hcm)
  k_with "compareOp NotEq bytes bytes" => (k_here; (refine ne_same (by exact Eq.trans (by with_reducible assumption) (by with_reducible assumption)) ?_); (try (rename (_ ∈ names) => hz; clear hz)); (try (rename (readF _ = some _) => hz; clear hz)); (try (rename (KBw.bInts _ = wordF _) => hz; clear hz)); (try (rename (wordF _ = KBw.bInts _) => hz; clear hz)); (try (rename KeyIs _ _ _ _ _ _ _ => hz; clear hz)))
  k_with "ite" => (k_here; (with_reducible show if (false = true) then _ else _); (refine ite_neg Bool.false_ne_true ?_); walk_say "FF")
  k_with "compareOp Eq ref ref" => (k_here; k_dflt (refine' eq_nils ?k1 ?k2 ?k3 ?ku ?_; (case k1 => k_asm); (case k2 => k_mem); (case k3 => k_mem); (case ku => first | (dsimp only [ktrTop]; omega) | (simp only [units_in1, units_deeper, Around.mark_units, units_caller]; (try dsimp only [ktrTop]); omega) | decide); k_whole))
  k_with "eval ListComp" => (k_here; (with_reducible show wpAny _ _ (eval (Expr.ListComp (Expr.Name _ _) _ _ _) _) _ _ _); (with_reducible rename Fr _ _ _ _ => F'); k_dflt (refine' LCt.ListComp_T ?kF ?k4 ?k5 ?k6 ?k7 ?k8 ?_ ?k12; (case kF => exact F'); (case k4 => with_unfolding_all rfl); (case k5 => decide); (case k6 => exact rfl); (case k7 => decide); (case k8 => exact rfl); (case k12 => intro _; with_unfolding_all rfl); k_whole))
  k_with "subscriptTail Name Slice ref ref" => (k_here; (with_reducible show wpAny _ _ (subscriptTail _ (PySem.Expr.Slice (some _) _ none _) (Value.ref _) (Value.ref _)) _ _ _); k_dflt (refine' kmk_slice_ints ?F ?N ?l ?p ?q ?i ?m ?c ?_ ?s ?t ?z; (case F => k_asm); (case N => k_asm); (case l => kmk_list); (case p => kmk_part); (case q => kmk_part); (case i => with_reducible assumption); (case m => exact kmk_run (by with_reducible assumption) (by omega) (by omega)); (case c => kmk_len); (case s => with_unfolding_all rfl); (case t => kmk_pure); (case z => kmk_size)); intro D' ws' h' F' N' l1 hI' hC' hL'; clear hC' hL'; (try k_lt l1))
  k_with "CompSrcT" => (k_here; refine Hold.in ?_)
  w_on
  refine holds_law well fun said => ?_
  refine holds_open (q := view) (loose := [Str.ofString "TermError", Str.ofString "KEY_MODIFIERS", Str.ofString "Key", Str.ofString "key_settled"]) (Xt := fun s => xlAt view [(Str.ofString "KEY_MODIFIERS", WData.tuple [.tuple [.int 67, .int 4], .tuple [.int 77, .int 2], .tuple [.int 83, .int 1]])] s && recOk (RowW.records rowW) s) (XP := XL view [(Str.ofString "KEY_MODIFIERS", WData.tuple [.tuple [.int 67, .int 4], .tuple [.int 77, .int 2], .tuple [.int 83, .int 1]])]) (Yf := Hook.obs (kHook heapK asK asK_eq)) (Ya := Hook.val (kHook heapK asK asK_eq)) (YP := Hook.says (kHook heapK asK asK_eq)) (N := 4884) (d := ?d) (kwd := ?kwd) left (Hook.of (kHook heapK asK asK_eq)) (Hook.keeps (kHook heapK asK asK_eq)) (fun s e => xl_of s (Bool.and_eq_true_iff.mp e).1) XL.keeps ?a1 ?a2 ?a3 (fun s e => recFacts_of (Bool.and_eq_true_iff.mp e).2) ?a4 ?a5 ?a6 ?a7 ?hw ?hc
  case a1 => rfl
  case a2 => rfl
  case a3 => rfl
  case a4 => rfl
  case a5 => assumption
  case a6 => decide +kernel
  case a7 => exact ⟨rfl, rfl, rfl, rfl, rfl, by decide +kernel⟩
  case hw => w_witness2
  clear said
  w_top off
  k_go0
  all_goals (try k_fold)
  k_steps
  refine Hold.out ?_
  rename IntsAre _ (List.map _ _) => hI8
  refine iter_cells (x := PySem.Str.ofString "k") (PySem.Str.ofString "word") (PySem.Str.ofString "due") rfl hI8 (by assumption) (by rw [List.length_map, List.length_take]; omega) (by assumption) (by assumption) ?_ ?_
  · clear hI8
    intro nsX hIX hX8 i tI m₁ h tk own hi hoff F₀ N₀
    dsimp only [envOf] at F₀ N₀ hoff
    simp only [List.cons_append, List.nil_append] at N₀
    k_steps
  · clear hI8
    intro nsX hIX hX8 m₁ h tk F₀ N₀
    dsimp only [envOf] at F₀ N₀
    k_steps
    refine Hold.out ?_
    refine iter_pairs (xi := PySem.Str.ofString "word") (xc := PySem.Str.ofString "name") rfl rfl rfl rfl (by assumption) (by assumption) (by with_reducible assumption) (fun q hq => List.mem_append_left _ hq) (fun q hq => List.mem_append_right _ hq) (by with_reducible assumption) ?_ ?_
    · intro p c u m₁ h tk all hp hc hb F₀ N₀
      dsimp only [envOf] at F₀ N₀
      have hcn : KBw.bInts c ∈ names := by rw [hc]; exact known_of hp
      k_steps
    · intro m₁ h tk F₀ N₀
      dsimp only [envOf] at F₀ N₀
      k_steps
      
      refine Hold.out ?_
      refine LCt.CompSrcT.ledger rfl (by assumption) (by assumption) (by k_mem) (Nat.le_of_ble_eq_true rfl) (fun g => rest_bad (Or.inr ⟨_, by k_mem, rfl, _, rfl⟩) ?_ ?_ _ 0)
      · intro D h tk F₀ N₀ o1
        k_steps
        
      · intro i v I oI C oC D m₂ h tk E' R hP hC hx F₀ N₀ hR
        obtain ⟨bb, bt, hv, hbn, hbl⟩ := bad_in hP (.cons rfl (.cons rfl (.cons rfl (.cons rfl (.cons rfl (.cons rfl (.cons rfl (.cons rfl (.cons rfl (.cons rfl (.cons rfl (.cons rfl (.nil)))))))))))))
        subst hv
        k_steps
        all_goals exact hR _ _ (by assumption) (by assumption)
end
end Mine
end

open PySem PySem.W PyProof.Rows
theorem PySem.Challenge.cw_og0251_01_holds : PySem.Challenge.rw_og0251_01.Holds := by
  exact Mine.law_holds
