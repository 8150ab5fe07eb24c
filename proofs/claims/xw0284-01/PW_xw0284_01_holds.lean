import PyProof.Rows.All
import Wide.All
import OpenK.AllK
import Wide.FinOn
import PySem.Challenge.RW_xw0284_01
set_option Elab.async false
set_option maxRecDepth 100000
set_option linter.all false
section
set_option maxHeartbeats 4000000
set_option compiler.extract_closed false
set_option genSizeOfSpec false
open PySem PySem.Calls PySem.W PyProof.Rows
namespace Mine
section
/-- ∃ .., .. and .. ∧ .., in one piece (smaller proofs) -/
inductive Ey1 {α : Type} (p : α → Prop) : Prop
  | mk (x1 : α) (h : p x1) : Ey1 p
inductive Ey2 {α β : Type} (p : α → β → Prop) : Prop
  | mk (x1 : α) (x2 : β) (h : p x1 x2) : Ey2 p
inductive Ey3 {α β γ : Type} (p : α → β → γ → Prop) : Prop
  | mk (x1 : α) (x2 : β) (x3 : γ) (h : p x1 x2 x3) : Ey3 p
inductive Ey4 {α β γ δ : Type} (p : α → β → γ → δ → Prop) : Prop
  | mk (x1 : α) (x2 : β) (x3 : γ) (x4 : δ) (h : p x1 x2 x3 x4) : Ey4 p
inductive Ey5 {α β γ δ ε : Type} (p : α → β → γ → δ → ε → Prop) : Prop
  | mk (x1 : α) (x2 : β) (x3 : γ) (x4 : δ) (x5 : ε) (h : p x1 x2 x3 x4 x5) : Ey5 p
inductive Ey6 {α β γ δ ε ζ : Type} (p : α → β → γ → δ → ε → ζ → Prop) : Prop
  | mk (x1 : α) (x2 : β) (x3 : γ) (x4 : δ) (x5 : ε) (x6 : ζ) (h : p x1 x2 x3 x4 x5 x6) : Ey6 p
inductive Ey8 {α β γ δ ε ζ η θ : Type} (p : α → β → γ → δ → ε → ζ → η → θ → Prop) : Prop
  | mk (x1 : α) (x2 : β) (x3 : γ) (x4 : δ) (x5 : ε) (x6 : ζ) (x7 : η) (x8 : θ) (h : p x1 x2 x3 x4 x5 x6 x7 x8) : Ey8 p
inductive Ey10 {α β γ δ ε ζ η θ ι κ : Type} (p : α → β → γ → δ → ε → ζ → η → θ → ι → κ → Prop) : Prop
  | mk (x1 : α) (x2 : β) (x3 : γ) (x4 : δ) (x5 : ε) (x6 : ζ) (x7 : η) (x8 : θ) (x9 : ι) (x10 : κ) (h : p x1 x2 x3 x4 x5 x6 x7 x8 x9 x10) : Ey10 p
inductive Ay2 (P1 P2 : Prop) : Prop
  | mk (h1 : P1) (h2 : P2) : Ay2 P1 P2
inductive Ay3 (P1 P2 P3 : Prop) : Prop
  | mk (h1 : P1) (h2 : P2) (h3 : P3) : Ay3 P1 P2 P3
inductive Ay4 (P1 P2 P3 P4 : Prop) : Prop
  | mk (h1 : P1) (h2 : P2) (h3 : P3) (h4 : P4) : Ay4 P1 P2 P3 P4
inductive Ay5 (P1 P2 P3 P4 P5 : Prop) : Prop
  | mk (h1 : P1) (h2 : P2) (h3 : P3) (h4 : P4) (h5 : P5) : Ay5 P1 P2 P3 P4 P5
inductive Ay6 (P1 P2 P3 P4 P5 P6 : Prop) : Prop
  | mk (h1 : P1) (h2 : P2) (h3 : P3) (h4 : P4) (h5 : P5) (h6 : P6) : Ay6 P1 P2 P3 P4 P5 P6
inductive Ay7 (P1 P2 P3 P4 P5 P6 P7 : Prop) : Prop
  | mk (h1 : P1) (h2 : P2) (h3 : P3) (h4 : P4) (h5 : P5) (h6 : P6) (h7 : P7) : Ay7 P1 P2 P3 P4 P5 P6 P7
inductive Ay8 (P1 P2 P3 P4 P5 P6 P7 P8 : Prop) : Prop
  | mk (h1 : P1) (h2 : P2) (h3 : P3) (h4 : P4) (h5 : P5) (h6 : P6) (h7 : P7) (h8 : P8) : Ay8 P1 P2 P3 P4 P5 P6 P7 P8
inductive Ay9 (P1 P2 P3 P4 P5 P6 P7 P8 P9 : Prop) : Prop
  | mk (h1 : P1) (h2 : P2) (h3 : P3) (h4 : P4) (h5 : P5) (h6 : P6) (h7 : P7) (h8 : P8) (h9 : P9) : Ay9 P1 P2 P3 P4 P5 P6 P7 P8 P9
inductive Ay12 (P1 P2 P3 P4 P5 P6 P7 P8 P9 P10 P11 P12 : Prop) : Prop
  | mk (h1 : P1) (h2 : P2) (h3 : P3) (h4 : P4) (h5 : P5) (h6 : P6) (h7 : P7) (h8 : P8) (h9 : P9) (h10 : P10) (h11 : P11) (h12 : P12) : Ay12 P1 P2 P3 P4 P5 P6 P7 P8 P9 P10 P11 P12
inductive Ay15 (P1 P2 P3 P4 P5 P6 P7 P8 P9 P10 P11 P12 P13 P14 P15 : Prop) : Prop
  | mk (h1 : P1) (h2 : P2) (h3 : P3) (h4 : P4) (h5 : P5) (h6 : P6) (h7 : P7) (h8 : P8) (h9 : P9) (h10 : P10) (h11 : P11) (h12 : P12) (h13 : P13) (h14 : P14) (h15 : P15) : Ay15 P1 P2 P3 P4 P5 P6 P7 P8 P9 P10 P11 P12 P13 P14 P15
theorem sz2 {a b c d : Nat} (e : a = b) (h : b ≤ c) (h2 : c ≤ d) : a ≤ d := by rw [e]; exact Nat.le_trans h h2
theorem lt7 {i : Nat} (h : i < 7) : i = 0 ∨ i = 1 ∨ i = 2 ∨ i = 3 ∨ i = 4 ∨ i = 5 ∨ i = 6 := by lia
theorem le6 {i : Int} (h : 0 ≤ i ∧ i ≤ 6) : i = 0 ∨ i = 1 ∨ i = 2 ∨ i = 3 ∨ i = 4 ∨ i = 5 ∨ i = 6 := by lia
theorem cl1 {a b c d : Nat} (h : a + b ≤ d) (h2 : c < b) : a + 1 + c ≤ d := by lia
theorem cl2 {a b n k m : Nat} (h : a + b ≤ n) (h2 : n ≤ k) (h3 : k < m) : a < m := by lia
theorem last_at {n : Nat} (h : 0 < n) : ((-1 : Int) + (n : Int)).toNat = n - 1 := by lia
theorem lmap_lt {α β : Type} {f : α → β} {l : List α} {n : Nat} (h : l.length < n) : (l.map f).length < n := by rw [List.length_map]; exact h
theorem lmap_le {α β : Type} {f : α → β} {l : List α} {n : Nat} (h : l.length ≤ n) : (l.map f).length ≤ n := by rw [List.length_map]; exact h
theorem leB {a b : Nat} (h : Nat.ble a b = true) : a ≤ b := Nat.le_of_ble_eq_true h
noncomputable abbrev prg : Program := Challenge.pw_xw0284_01
noncomputable def stAt (k : Nat) : Stmt := prg.main.body.getD k (.Pass ⟨0, 0, 0, 0⟩)
noncomputable def meth : Stmt → Stmt
  | .ClassDef _ _ _ (s :: _) .. => s
  | s => s
noncomputable def fO (s : Stmt) (q : Str) (df : Value) (m : Str) (mt : Tok) (c : Addr) : Obj := match s with
  | .FunctionDef nm ar b _ _ _ sc _ _ _ => { cls := .type "function", data := .func { name := nm, qualname := q, params := ar, body := .stmts b, scope := sc, globals := 3, closure := [], defaults := df, kwdefaults := .none, pyModule := .str m mt, code := .ref c } }
  | _ => { cls := .none }
noncomputable def cO (vs : List Value) : Obj := { cls := .type "code", data := .fields vs.toArray }
noncomputable abbrev kH := PyData.keyHash
noncomputable def KK (P : Params) : Frag := [
(2, { cls := .none, data := .dict #[] }),
(3, { cls := .type "dict", data := .dict #[{ hash := kH P "__name__", key := .str "__name__" 165, val := .str "law_xw0284_01" 537 }, { hash := kH P "__doc__", key := .str "__doc__" 166, val := .none }, { hash := kH P "__package__", key := .str "__package__" 167, val := .none }, { hash := kH P "__loader__", key := .str "__loader__" 168, val := .builtin "__main__.__loader__#opaque" }, { hash := kH P "__spec__", key := .str "__spec__" 169, val := .none }, { hash := kH P "__annotations__", key := .str "__annotations__" 170, val := .ref 6 }, { hash := kH P "__builtins__", key := .str "__builtins__" 171, val := .ref 4 }, { hash := kH P "__file__", key := .str "__file__" 173, val := .str "/claim/cut.py" 172 }, { hash := kH P "__cached__", key := .str "__cached__" 174, val := .none }, { hash := kH P "INST_ALT", key := .str "INST_ALT" 188, val := .int 0 187 }, { hash := kH P "INST_RANGE", key := .str "INST_RANGE" 190, val := .int 1 189 }, { hash := kH P "INST_CAPTURE", key := .str "INST_CAPTURE" 192, val := .int 2 191 }, { hash := kH P "INST_EMPTY", key := .str "INST_EMPTY" 194, val := .int 3 193 }, { hash := kH P "INST_MATCH", key := .str "INST_MATCH" 196, val := .int 4 195 }, { hash := kH P "INST_NOP", key := .str "INST_NOP" 198, val := .int 5 197 }, { hash := kH P "INST_FAIL", key := .str "INST_FAIL" 200, val := .int 6 199 }, { hash := kH P "EMPTY_BEGIN_LINE", key := .str "EMPTY_BEGIN_LINE" 202, val := .int 1 201 }, { hash := kH P "EMPTY_END_LINE", key := .str "EMPTY_END_LINE" 204, val := .int 2 203 }, { hash := kH P "EMPTY_BEGIN_TEXT", key := .str "EMPTY_BEGIN_TEXT" 206, val := .int 4 205 }, { hash := kH P "EMPTY_END_TEXT", key := .str "EMPTY_END_TEXT" 208, val := .int 8 207 }, { hash := kH P "EMPTY_WORD", key := .str "EMPTY_WORD" 210, val := .int 16 209 }, { hash := kH P "EMPTY_NO_WORD", key := .str "EMPTY_NO_WORD" 212, val := .int 32 211 }, { hash := kH P "EMPTY_ALL", key := .str "EMPTY_ALL" 214, val := .int 63 213 }, { hash := kH P "PROGRAM_FIGURES", key := .str "PROGRAM_FIGURES" 218, val := .str "0123456789abcdef" 217 }, { hash := kH P "PROGRAM_ASKED", key := .str "PROGRAM_ASKED" 225, val := .ref 21 }, { hash := kH P "Inst", key := .str "Inst" 269, val := .ref 39 }, { hash := kH P "Program", key := .str "Program" 307, val := .ref 60 }, { hash := kH P "program_twin", key := .str "program_twin" 315, val := .ref 71 }, { hash := kH P "program_ways", key := .str "program_ways" 325, val := .ref 78 }, { hash := kH P "program_closure", key := .str "program_closure" 337, val := .ref 85 }, { hash := kH P "program_reached", key := .str "program_reached" 351, val := .ref 92 }, { hash := kH P "program_captures", key := .str "program_captures" 360, val := .ref 99 }, { hash := kH P "program_counts", key := .str "program_counts" 370, val := .ref 106 }, { hash := kH P "program_fanouts", key := .str "program_fanouts" 376, val := .ref 111 }, { hash := kH P "program_fanout", key := .str "program_fanout" 386, val := .ref 118 }, { hash := kH P "program_octet_text", key := .str "program_octet_text" 393, val := .ref 125 }, { hash := kH P "program_asked_text", key := .str "program_asked_text" 399, val := .ref 130 }, { hash := kH P "inst_text", key := .str "inst_text" 408, val := .ref 137 }, { hash := kH P "program_dump", key := .str "program_dump" 421, val := .ref 145 }, { hash := kH P "program_heads", key := .str "program_heads" 430, val := .ref 152 }, { hash := kH P "inst_fault", key := .str "inst_fault" 437, val := .ref 159 }, { hash := kH P "program_ways_fault", key := .str "program_ways_fault" 448, val := .ref 166 }, { hash := kH P "program_faults", key := .str "program_faults" 461, val := .ref 173 }, { hash := kH P "FLATTEN_STEPS", key := .str "FLATTEN_STEPS" 464, val := .ref 174 }, { hash := kH P "flatten_ways", key := .str "flatten_ways" 471, val := .ref 181 }, { hash := kH P "first_roots", key := .str "first_roots" 483, val := .ref 188 }, { hash := kH P "shared_ways", key := .str "shared_ways" 496, val := .ref 195 }, { hash := kH P "all_roots", key := .str "all_roots" 506, val := .ref 202 }, { hash := kH P "flatten_key", key := .str "flatten_key" 513, val := .ref 209 }, { hash := kH P "flatten_list", key := .str "flatten_list" 530, val := .ref 216 }, { hash := kH P "flattened", key := .str "flattened" 536, val := .ref 221 }, { hash := kH P "_law_digits", key := .str "_law_digits" 548, val := .ref 228 }, { hash := kH P "_law_inst", key := .str "_law_inst" 568, val := .ref 235 }, { hash := kH P "_law_ways", key := .str "_law_ways" 578, val := .ref 242 }, { hash := kH P "_law_down", key := .str "_law_down" 588, val := .ref 249 }, { hash := kH P "_law_outs", key := .str "_law_outs" 594, val := .ref 254 }, { hash := kH P "_law_places", key := .str "_law_places" 605, val := .ref 261 }, { hash := kH P "_law_powers", key := .str "_law_powers" 611, val := .ref 266 }, { hash := kH P "_law_reached", key := .str "_law_reached" 624, val := .ref 273 }, { hash := kH P "_law_is_dumped", key := .str "_law_is_dumped" 630, val := .ref 278 }, { hash := kH P "_law_is_told_well", key := .str "_law_is_told_well" 636, val := .ref 283 }, { hash := kH P "_law_turn", key := .str "_law_turn" 651, val := .ref 290 }, { hash := kH P "_law_is_right", key := .str "_law_is_right" 657, val := .ref 295 }, { hash := kH P "law", key := .str "law" 663, val := .ref 300 }] 64 }),
(15, { cls := .type "tuple", data := .seq #[.int 1 201, .str "begin of a line" 219] }),
(16, { cls := .type "tuple", data := .seq #[.int 2 203, .str "end of a line" 220] }),
(17, { cls := .type "tuple", data := .seq #[.int 4 205, .str "begin of the text" 221] }),
(18, { cls := .type "tuple", data := .seq #[.int 8 207, .str "end of the text" 222] }),
(19, { cls := .type "tuple", data := .seq #[.int 16 209, .str "border of a word" 223] }),
(20, { cls := .type "tuple", data := .seq #[.int 32 211, .str "no border of a word" 224] }),
(21, { cls := .type "tuple", data := .seq #[.ref 15, .ref 16, .ref 17, .ref 18, .ref 19, .ref 20] }),
(29, { cls := .type "tuple", data := .seq #[.int 0 238, .int 0 239, .int 0 240, .int 0 241, .bool false] }),
(35, cO [.str "__init__" 242, .str "Inst.__init__" 243, .str "/claim/cut.py" 244, .int 20 0, .int 7 0, .int 0 0, .int 0 0, .int 3 0, .ref 30, .bool true, .int 181 0, .ref 31, .none, .ref 32, .ref 33, .ref 34, .int 252 0, .int 20 0, .str "/claim/cut.py" 253]),
(36, fO (meth (stAt 17)) "Inst.__init__" (.ref 29) "recore.program" 215 35),
(37, { cls := .type "tuple", data := .seq #[.str "arg" 255, .str "high" 256, .str "is_folded" 257, .str "is_last" 258, .str "low" 259, .str "op" 260, .str "out" 261] }),
(38, { cls := .type "dict", data := .dict #[{ hash := kH P "__module__", key := .str "__module__" 233, val := .str "recore.program" 215 }, { hash := kH P "__firstlineno__", key := .str "__firstlineno__" 237, val := .int 18 236 }, { hash := kH P "__init__", key := .str "__init__" 254, val := .ref 36 }, { hash := kH P "__static_attributes__", key := .str "__static_attributes__" 262, val := .ref 37 }, { hash := kH P "__dict__", key := .str "__dict__" 264, val := .ref 40 }, { hash := kH P "__weakref__", key := .str "__weakref__" 266, val := .ref 41 }, { hash := kH P "__doc__", key := .str "__doc__" 267, val := .none }] 4 }),
(39, { cls := .type "type", data := .cls { name := "Inst", bases := [.type "object"], mro := [.ref 39, .type "object"], ns := 38, qualname := "Inst" }, slots := #[none, none, some (.str "Inst" 226), some (.str "Inst" 234), some (.builtin "object.__new__"), some (.bool true)] }),
(40, { cls := .type "getset_descriptor", data := .fields #[.str "__dict__" 263, .ref 39, .builtin "function.__dict__", .builtin "function.__dict__#set"] }),
(41, { cls := .type "getset_descriptor", data := .fields #[.str "__weakref__" 265, .ref 39, .builtin "ExceptionGroup.__weakref__", .none] }),
(56, cO [.str "__init__" 282, .str "Program.__init__" 283, .str "/claim/cut.py" 284, .int 30 0, .int 1 0, .int 0 0, .int 0 0, .int 3 0, .ref 51, .bool true, .int 181 0, .ref 52, .none, .ref 53, .ref 54, .ref 55, .int 286 0, .int 30 0, .str "/claim/cut.py" 287]),
(57, fO (meth (stAt 18)) "Program.__init__" .none "recore.program" 215 56),
(58, { cls := .type "tuple", data := .seq #[.str "byte_cuts" 289, .str "heads" 290, .str "insts" 291, .str "is_anchored_end" 292, .str "is_anchored_start" 293, .str "is_flat" 294, .str "is_prefix_folded" 295, .str "is_reversed" 296, .str "prefix" 297, .str "start" 298, .str "start_loose" 299] }),
(59, { cls := .type "dict", data := .dict #[{ hash := kH P "__module__", key := .str "__module__" 277, val := .str "recore.program" 215 }, { hash := kH P "__firstlineno__", key := .str "__firstlineno__" 281, val := .int 28 280 }, { hash := kH P "__init__", key := .str "__init__" 288, val := .ref 57 }, { hash := kH P "__static_attributes__", key := .str "__static_attributes__" 300, val := .ref 58 }, { hash := kH P "__dict__", key := .str "__dict__" 302, val := .ref 61 }, { hash := kH P "__weakref__", key := .str "__weakref__" 304, val := .ref 62 }, { hash := kH P "__doc__", key := .str "__doc__" 305, val := .none }] 4 }),
(60, { cls := .type "type", data := .cls { name := "Program", bases := [.type "object"], mro := [.ref 60, .type "object"], ns := 59, qualname := "Program" }, slots := #[none, none, some (.str "Program" 270), some (.str "Program" 278), some (.builtin "object.__new__"), some (.bool true)] }),
(61, { cls := .type "getset_descriptor", data := .fields #[.str "__dict__" 301, .ref 60, .builtin "function.__dict__", .builtin "function.__dict__#set"] }),
(62, { cls := .type "getset_descriptor", data := .fields #[.str "__weakref__" 303, .ref 60, .builtin "ExceptionGroup.__weakref__", .none] }),
(70, cO [.str "program_twin" 308, .str "program_twin" 309, .str "/claim/cut.py" 310, .int 42 0, .int 1 0, .int 0 0, .int 0 0, .int 3 0, .ref 65, .bool true, .int 181 0, .ref 66, .none, .ref 67, .ref 68, .ref 69, .int 313 0, .int 42 0, .str "/claim/cut.py" 314]),
(71, fO (stAt 19) "program_twin" .none "recore.program" 215 70),
(77, cO [.str "program_ways" 316, .str "program_ways" 317, .str "/claim/cut.py" 318, .int 50 0, .int 2 0, .int 0 0, .int 0 0, .int 3 0, .ref 72, .bool true, .int 181 0, .ref 73, .none, .ref 74, .ref 75, .ref 76, .int 323 0, .int 50 0, .str "/claim/cut.py" 324]),
(78, fO (stAt 20) "program_ways" .none "recore.program" 215 77),
(84, cO [.str "program_closure" 326, .str "program_closure" 327, .str "/claim/cut.py" 328, .int 60 0, .int 2 0, .int 0 0, .int 0 0, .int 3 0, .ref 79, .bool true, .int 181 0, .ref 80, .none, .ref 81, .ref 82, .ref 83, .int 335 0, .int 60 0, .str "/claim/cut.py" 336]),
(85, fO (stAt 21) "program_closure" .none "recore.program" 215 84),
(91, cO [.str "program_reached" 338, .str "program_reached" 339, .str "/claim/cut.py" 340, .int 69 0, .int 2 0, .int 0 0, .int 0 0, .int 3 0, .ref 86, .bool true, .int 181 0, .ref 87, .none, .ref 88, .ref 89, .ref 90, .int 349 0, .int 69 0, .str "/claim/cut.py" 350]),
(92, fO (stAt 22) "program_reached" .none "recore.program" 215 91),
(98, cO [.str "program_captures" 352, .str "program_captures" 353, .str "/claim/cut.py" 354, .int 82 0, .int 1 0, .int 0 0, .int 0 0, .int 3 0, .ref 93, .bool true, .int 181 0, .ref 94, .none, .ref 95, .ref 96, .ref 97, .int 358 0, .int 82 0, .str "/claim/cut.py" 359]),
(99, fO (stAt 23) "program_captures" .none "recore.program" 215 98),
(105, cO [.str "program_counts" 361, .str "program_counts" 362, .str "/claim/cut.py" 363, .int 88 0, .int 1 0, .int 0 0, .int 0 0, .int 3 0, .ref 100, .bool true, .int 181 0, .ref 101, .none, .ref 102, .ref 103, .ref 104, .int 368 0, .int 88 0, .str "/claim/cut.py" 369]),
(106, fO (stAt 24) "program_counts" .none "recore.program" 215 105),
(110, cO [.str "program_fanouts" 371, .str "program_fanouts" 372, .str "/claim/cut.py" 373, .int 95 0, .int 1 0, .int 0 0, .int 0 0, .int 3 0, .ref 107, .bool true, .int 181 0, .ref 108, .none, .none, .none, .ref 109, .int 374 0, .int 95 0, .str "/claim/cut.py" 375]),
(111, fO (stAt 25) "program_fanouts" .none "recore.program" 215 110),
(117, cO [.str "program_fanout" 377, .str "program_fanout" 378, .str "/claim/cut.py" 379, .int 105 0, .int 1 0, .int 0 0, .int 0 0, .int 3 0, .ref 112, .bool true, .int 181 0, .ref 113, .none, .ref 114, .ref 115, .ref 116, .int 384 0, .int 105 0, .str "/claim/cut.py" 385]),
(118, fO (stAt 26) "program_fanout" .none "recore.program" 215 117),
(124, cO [.str "program_octet_text" 387, .str "program_octet_text" 388, .str "/claim/cut.py" 389, .int 113 0, .int 1 0, .int 0 0, .int 0 0, .int 3 0, .ref 119, .bool true, .int 181 0, .ref 120, .none, .ref 121, .ref 122, .ref 123, .int 391 0, .int 113 0, .str "/claim/cut.py" 392]),
(125, fO (stAt 27) "program_octet_text" .none "recore.program" 215 124),
(129, cO [.str "program_asked_text" 394, .str "program_asked_text" 395, .str "/claim/cut.py" 396, .int 115 0, .int 1 0, .int 0 0, .int 0 0, .int 3 0, .ref 126, .bool true, .int 181 0, .ref 127, .none, .none, .none, .ref 128, .int 397 0, .int 115 0, .str "/claim/cut.py" 398]),
(130, fO (stAt 28) "program_asked_text" .none "recore.program" 215 129),
(136, cO [.str "inst_text" 400, .str "inst_text" 401, .str "/claim/cut.py" 402, .int 117 0, .int 1 0, .int 0 0, .int 0 0, .int 3 0, .ref 131, .bool true, .int 181 0, .ref 132, .none, .ref 133, .ref 134, .ref 135, .int 406 0, .int 117 0, .str "/claim/cut.py" 407]),
(137, fO (stAt 29) "inst_text" .none "recore.program" 215 136),
(138, { cls := .type "tuple", data := .seq #[.bool false] }),
(144, cO [.str "program_dump" 409, .str "program_dump" 410, .str "/claim/cut.py" 411, .int 133 0, .int 2 0, .int 0 0, .int 0 0, .int 3 0, .ref 139, .bool true, .int 181 0, .ref 140, .none, .ref 141, .ref 142, .ref 143, .int 419 0, .int 133 0, .str "/claim/cut.py" 420]),
(145, fO (stAt 30) "program_dump" (.ref 138) "recore.program" 215 144),
(151, cO [.str "program_heads" 422, .str "program_heads" 423, .str "/claim/cut.py" 424, .int 143 0, .int 1 0, .int 0 0, .int 0 0, .int 3 0, .ref 146, .bool true, .int 181 0, .ref 147, .none, .ref 148, .ref 149, .ref 150, .int 428 0, .int 143 0, .str "/claim/cut.py" 429]),
(152, fO (stAt 31) "program_heads" .none "recore.program" 215 151),
(158, cO [.str "inst_fault" 431, .str "inst_fault" 432, .str "/claim/cut.py" 433, .int 149 0, .int 1 0, .int 0 0, .int 0 0, .int 3 0, .ref 153, .bool true, .int 181 0, .ref 154, .none, .ref 155, .ref 156, .ref 157, .int 435 0, .int 149 0, .str "/claim/cut.py" 436]),
(159, fO (stAt 32) "inst_fault" .none "recore.program" 215 158),
(165, cO [.str "program_ways_fault" 438, .str "program_ways_fault" 439, .str "/claim/cut.py" 440, .int 159 0, .int 3 0, .int 0 0, .int 0 0, .int 3 0, .ref 160, .bool true, .int 181 0, .ref 161, .none, .ref 162, .ref 163, .ref 164, .int 446 0, .int 159 0, .str "/claim/cut.py" 447]),
(166, fO (stAt 33) "program_ways_fault" .none "recore.program" 215 165),
(172, cO [.str "program_faults" 449, .str "program_faults" 450, .str "/claim/cut.py" 451, .int 169 0, .int 1 0, .int 0 0, .int 0 0, .int 3 0, .ref 167, .bool true, .int 181 0, .ref 168, .none, .ref 169, .ref 170, .ref 171, .int 459 0, .int 169 0, .str "/claim/cut.py" 460]),
(173, fO (stAt 34) "program_faults" .none "recore.program" 215 172),
(174, { cls := .type "tuple", data := .seq #[.int 1 189, .int 2 191, .int 3 193] }),
(180, cO [.str "flatten_ways" 465, .str "flatten_ways" 466, .str "/claim/cut.py" 467, .int 192 0, .int 1 0, .int 0 0, .int 0 0, .int 3 0, .ref 175, .bool true, .int 181 0, .ref 176, .none, .ref 177, .ref 178, .ref 179, .int 469 0, .int 192 0, .str "/claim/cut.py" 470]),
(181, fO (stAt 37) "flatten_ways" .none "recore.flatten" 462 180),
(187, cO [.str "first_roots" 472, .str "first_roots" 473, .str "/claim/cut.py" 474, .int 198 0, .int 1 0, .int 0 0, .int 0 0, .int 3 0, .ref 182, .bool true, .int 181 0, .ref 183, .none, .ref 184, .ref 185, .ref 186, .int 481 0, .int 198 0, .str "/claim/cut.py" 482]),
(188, fO (stAt 38) "first_roots" .none "recore.flatten" 462 187),
(194, cO [.str "shared_ways" 484, .str "shared_ways" 485, .str "/claim/cut.py" 486, .int 212 0, .int 2 0, .int 0 0, .int 0 0, .int 3 0, .ref 189, .bool true, .int 181 0, .ref 190, .none, .ref 191, .ref 192, .ref 193, .int 494 0, .int 212 0, .str "/claim/cut.py" 495]),
(195, fO (stAt 39) "shared_ways" .none "recore.flatten" 462 194),
(201, cO [.str "all_roots" 497, .str "all_roots" 498, .str "/claim/cut.py" 499, .int 226 0, .int 1 0, .int 0 0, .int 0 0, .int 3 0, .ref 196, .bool true, .int 181 0, .ref 197, .none, .ref 198, .ref 199, .ref 200, .int 504 0, .int 226 0, .str "/claim/cut.py" 505]),
(202, fO (stAt 40) "all_roots" .none "recore.flatten" 462 201),
(208, cO [.str "flatten_key" 507, .str "flatten_key" 508, .str "/claim/cut.py" 509, .int 234 0, .int 1 0, .int 0 0, .int 0 0, .int 3 0, .ref 203, .bool true, .int 181 0, .ref 204, .none, .ref 205, .ref 206, .ref 207, .int 511 0, .int 234 0, .str "/claim/cut.py" 512]),
(209, fO (stAt 41) "flatten_key" .none "recore.flatten" 462 208),
(215, cO [.str "flatten_list" 514, .str "flatten_list" 515, .str "/claim/cut.py" 516, .int 236 0, .int 3 0, .int 0 0, .int 0 0, .int 3 0, .ref 210, .bool true, .int 181 0, .ref 211, .none, .ref 212, .ref 213, .ref 214, .int 528 0, .int 236 0, .str "/claim/cut.py" 529]),
(216, fO (stAt 42) "flatten_list" .none "recore.flatten" 462 215),
(220, cO [.str "flattened" 531, .str "flattened" 532, .str "/claim/cut.py" 533, .int 259 0, .int 1 0, .int 0 0, .int 0 0, .int 3 0, .ref 217, .bool true, .int 181 0, .ref 218, .none, .none, .none, .ref 219, .int 534 0, .int 259 0, .str "/claim/cut.py" 535]),
(221, fO (stAt 43) "flattened" .none "recore.flatten" 462 220),
(227, cO [.str "_law_digits" 539, .str "_law_digits" 540, .str "/claim/cut.py" 541, .int 278 0, .int 2 0, .int 0 0, .int 0 0, .int 3 0, .ref 222, .bool true, .int 181 0, .ref 223, .none, .ref 224, .ref 225, .ref 226, .int 546 0, .int 278 0, .str "/claim/cut.py" 547]),
(228, fO (stAt 45) "_law_digits" .none "law_xw0284_01" 537 227),
(234, cO [.str "_law_inst" 549, .str "_law_inst" 550, .str "/claim/cut.py" 551, .int 284 0, .int 3 0, .int 0 0, .int 0 0, .int 3 0, .ref 229, .bool true, .int 181 0, .ref 230, .none, .ref 231, .ref 232, .ref 233, .int 566 0, .int 284 0, .str "/claim/cut.py" 567]),
(235, fO (stAt 46) "_law_inst" .none "law_xw0284_01" 537 234),
(241, cO [.str "_law_ways" 569, .str "_law_ways" 570, .str "/claim/cut.py" 571, .int 303 0, .int 2 0, .int 0 0, .int 0 0, .int 3 0, .ref 236, .bool true, .int 181 0, .ref 237, .none, .ref 238, .ref 239, .ref 240, .int 576 0, .int 303 0, .str "/claim/cut.py" 577]),
(242, fO (stAt 47) "_law_ways" .none "law_xw0284_01" 537 241),
(248, cO [.str "_law_down" 579, .str "_law_down" 580, .str "/claim/cut.py" 581, .int 312 0, .int 3 0, .int 0 0, .int 0 0, .int 3 0, .ref 243, .bool true, .int 181 0, .ref 244, .none, .ref 245, .ref 246, .ref 247, .int 586 0, .int 312 0, .str "/claim/cut.py" 587]),
(249, fO (stAt 48) "_law_down" .none "law_xw0284_01" 537 248),
(253, cO [.str "_law_outs" 589, .str "_law_outs" 590, .str "/claim/cut.py" 591, .int 318 0, .int 2 0, .int 0 0, .int 0 0, .int 3 0, .ref 250, .bool true, .int 181 0, .ref 251, .none, .none, .none, .ref 252, .int 592 0, .int 318 0, .str "/claim/cut.py" 593]),
(254, fO (stAt 49) "_law_outs" .none "law_xw0284_01" 537 253),
(260, cO [.str "_law_places" 595, .str "_law_places" 596, .str "/claim/cut.py" 597, .int 321 0, .int 1 0, .int 0 0, .int 0 0, .int 3 0, .ref 255, .bool true, .int 181 0, .ref 256, .none, .ref 257, .ref 258, .ref 259, .int 603 0, .int 321 0, .str "/claim/cut.py" 604]),
(261, fO (stAt 50) "_law_places" .none "law_xw0284_01" 537 260),
(265, cO [.str "_law_powers" 606, .str "_law_powers" 607, .str "/claim/cut.py" 608, .int 330 0, .int 1 0, .int 0 0, .int 0 0, .int 3 0, .ref 262, .bool true, .int 181 0, .ref 263, .none, .none, .none, .ref 264, .int 609 0, .int 330 0, .str "/claim/cut.py" 610]),
(266, fO (stAt 51) "_law_powers" .none "law_xw0284_01" 537 265),
(272, cO [.str "_law_reached" 612, .str "_law_reached" 613, .str "/claim/cut.py" 614, .int 335 0, .int 2 0, .int 0 0, .int 0 0, .int 3 0, .ref 267, .bool true, .int 181 0, .ref 268, .none, .ref 269, .ref 270, .ref 271, .int 622 0, .int 335 0, .str "/claim/cut.py" 623]),
(273, fO (stAt 52) "_law_reached" .none "law_xw0284_01" 537 272),
(277, cO [.str "_law_is_dumped" 625, .str "_law_is_dumped" 626, .str "/claim/cut.py" 627, .int 349 0, .int 1 0, .int 0 0, .int 0 0, .int 3 0, .ref 274, .bool true, .int 181 0, .ref 275, .none, .none, .none, .ref 276, .int 628 0, .int 349 0, .str "/claim/cut.py" 629]),
(278, fO (stAt 53) "_law_is_dumped" .none "law_xw0284_01" 537 277),
(282, cO [.str "_law_is_told_well" 631, .str "_law_is_told_well" 632, .str "/claim/cut.py" 633, .int 358 0, .int 2 0, .int 0 0, .int 0 0, .int 3 0, .ref 279, .bool true, .int 181 0, .ref 280, .none, .none, .none, .ref 281, .int 634 0, .int 358 0, .str "/claim/cut.py" 635]),
(283, fO (stAt 54) "_law_is_told_well" .none "law_xw0284_01" 537 282),
(289, cO [.str "_law_turn" 637, .str "_law_turn" 638, .str "/claim/cut.py" 639, .int 373 0, .int 4 0, .int 0 0, .int 0 0, .int 3 0, .ref 284, .bool true, .int 181 0, .ref 285, .none, .ref 286, .ref 287, .ref 288, .int 649 0, .int 373 0, .str "/claim/cut.py" 650]),
(290, fO (stAt 55) "_law_turn" .none "law_xw0284_01" 537 289),
(294, cO [.str "_law_is_right" 652, .str "_law_is_right" 653, .str "/claim/cut.py" 654, .int 401 0, .int 1 0, .int 0 0, .int 0 0, .int 3 0, .ref 291, .bool true, .int 181 0, .ref 292, .none, .none, .none, .ref 293, .int 655 0, .int 401 0, .str "/claim/cut.py" 656]),
(295, fO (stAt 56) "_law_is_right" .none "law_xw0284_01" 537 294),
(299, cO [.str "law" 658, .str "law" 659, .str "/claim/cut.py" 660, .int 420 0, .int 1 0, .int 0 0, .int 0 0, .int 3 0, .ref 296, .bool true, .int 181 0, .ref 297, .none, .none, .none, .ref 298, .int 661 0, .int 420 0, .str "/claim/cut.py" 662]),
(300, fO (stAt 57) "law" .none "law_xw0284_01" 537 299)]
end
local macro_rules | `(tactic| kspl_open wln) => `(tactic| first
  | assumption
  | exact Nat.le_trans (by assumption) (by decide)
  | exact Nat.lt_of_le_of_lt (by assumption) (by decide)
  | exact Nat.le_trans (by assumption) (by assumption)
  | exact Nat.lt_of_lt_of_le (by assumption) (by assumption)
  | exact Nat.not_lt.mp (by assumption)
  | exact cl2 (by assumption) (by assumption) (by decide)
  | exact Nat.lt_of_le_of_lt (Nat.le_trans (by assumption) (by assumption)) (by decide)
  | exact cl1 (by assumption) (by assumption)
  | exact sz2 (by assumption) (by assumption) (by decide)
  | lia)
local macro_rules | `(tactic| kspl_open wmm) => `(tactic| first | exact List.Mem.head _ | exact List.Mem.tail _ (by kspl_open wmm))
section
noncomputable def er : Value → Value
  | .int i _ => .int i 0
  | .float b _ => .float b 0
  | .str s _ => .str s 0
  | .bytes b _ => .bytes b 0
  | v => v

set_option genInjectivity false in
structure Cx where
  w : World
  b : Heap
  os : OsState
  dr : Drawn
  gn : Array GenState

structure Cx.Ok (c : Cx) : Prop where
  K : (KK c.w.params).In c.b
  lim : c.b.NoLimit
  g : ∃ mg, c.b.Ns mainGlobals mg
  bi : ∃ mb, c.b.Ns builtinsNs mb ∧ ∀ x : Str, x ≠ "__name__" → mb x = bootBuiltins x

inductive AO where
  | list (xs : List Value)
  | tup (xs : List Value)
  | dic (kvs : List (Int × Value))
  | inst (C d : Addr)
  | ns (fs : List (Str × Value))
  | rng (n : Int)
  | obj (ob : Obj)

noncomputable abbrev St := Addr → Option AO
noncomputable def St.set (σ : St) (a : Addr) (o : AO) : St := fun b => if b = a then some o else σ b
theorem St.set_same (σ : St) (a : Addr) (o : AO) : σ.set a o a = some o := by simp [St.set]
theorem St.set_ne (σ : St) {a b : Addr} (o : AO) (h : b ≠ a) : σ.set a o b = σ b := by simp [St.set, h]

noncomputable def ORel (c : Cx) : AO → Obj → Prop
  | .list xs, o => ∃ its n, o = listOf its n ∧ its.toList.map er = xs ∧ xs.length ≤ 1000000
  | .tup xs, o => ∃ its : Array Value, o = { cls := .type "tuple", data := .seq its } ∧ its.toList.map er = xs ∧ xs.length ≤ 1000000
  | .dic kvs, o => ∃ raw, o.IsDictOf (intKind prg c.w) raw ∧ raw.map (fun p => (p.1, er p.2)) = kvs ∧ kvs.length ≤ 1000000
  | .inst C d, o => o = instObj C d
  | .ns fs, o => ∃ es n, o = dictOf es n ∧ es.map (fun e => (er e.key, er e.val)) = fs.map (fun p => (Value.str p.1 0, p.2)) ∧ (fs.map (·.1)).Nodup ∧ fs.length ≤ 100
  | .rng n, o => ∃ t u v, o = { cls := .type "range", data := .fields #[.int 0 t, .int n u, .int 1 v] } ∧ n ≤ 1000000 ∧ -1000000 ≤ n
  | .obj ob, o => o = ob

structure Rep (c : Cx) (σ : St) (h : Heap) : Prop where
  base : ∀ a o, c.b.get? a = some o → h.get? a = some o
  obj : ∀ a o, σ a = some o → ∃ ob, h.get? a = some ob ∧ ORel c o ob
  new : ∀ a o, σ a = some o → c.b.get? a = none
  dm : ∀ a kvs, σ a = some (.dic kvs) → (a == sysModules) = false

noncomputable abbrev Loc := List (Str × Option Value)

set_option genInjectivity false in
structure Fx where
  c : Cx
  n : Nat
  fz : Addr → Prop
  env : Env
  gl : List Str
  cl : List Str

structure EnvR (f : Fx) (names : List Str) : Prop where
  kind : f.env.scope.kind = .function
  gs : f.env.globals = mainGlobals
  bs : f.env.builtins = builtinsNs
  glob : ∀ x ∈ f.gl, f.env.kindOf x = some .globalImplicit
  nd : names.Nodup
  kinds : ∀ x ∈ names, f.env.kindOf x = some .local ∨ ((f.env.kindOf x = some .cell ∨ f.env.kindOf x = some .free) ∧ ∃ cc, f.env.cells.lookup x = some cc)
  apart : f.env.cells.Pairwise fun x y => x.2 ≠ y.2
  cls : ∀ x ∈ f.cl, f.env.kindOf x ≠ some .local ∧ ∃ cc, f.env.cells.lookup x = some cc
  dbg : ∀ x ∈ names ++ f.gl, (x == ("__debug__" : Str)) = false ∧ (x == ("__classdict__" : Str)) = false
structure EnvOk (f : Fx) (names : List Str) : Prop extends EnvR f names where
  lc : ∀ x cc, f.env.cells.lookup x = some cc → cc ≠ f.env.locals
  lb : f.c.b.get? f.env.locals = none
  cb : ∀ x cc, f.env.cells.lookup x = some cc → f.c.b.get? cc = none

structure FRr (env : Env) (ρ : Loc) (h : Heap) : Prop where
  loc : ∃ m, h.Ns env.locals m ∧ ∀ x v, (x, some v) ∈ ρ → env.kindOf x = some .local → ∃ u, m x = some u ∧ er u = v
  cell : ∀ x cc, env.cells.lookup x = some cc → ∃ u, h.IsCell cc u
  celv : ∀ x v cc, (x, some v) ∈ ρ → env.kindOf x ≠ some .local → env.cells.lookup x = some cc → ∃ u, h.IsCell cc (some u) ∧ er u = v
structure FR (env : Env) (ρ : Loc) (σ : St) (h : Heap) : Prop extends FRr env ρ h where
  lo : σ env.locals = none
  co : ∀ x cc, env.cells.lookup x = some cc → σ cc = none

noncomputable def Room (n : Nat) (A : Around) : Prop := A.depth + 2 * n + 10 ≤ recursionLimit ∧ A.units + 20 * n + 100 ≤ cLine ∧ A.handled = none

noncomputable def Kp (fz : Addr → Prop) (σ : St) (h : Heap) (σ' : St) (h' : Heap) : Prop := ∀ a o, h.get? a = some o → (σ a = none ∨ fz a) → h'.get? a = some o ∧ σ' a = σ a
noncomputable def fa (env : Env) (a : Addr) : Prop := a = env.locals ∨ ∃ x, env.cells.lookup x = some a
noncomputable def KpS (fz : Addr → Prop) (env : Env) (σ : St) (h : Heap) (σ' : St) (h' : Heap) : Prop := ∀ a o, h.get? a = some o → (σ a = none ∨ fz a) → ¬ fa env a → h'.get? a = some o ∧ σ' a = σ a
noncomputable def Ka (s s' : Shared) : Prop := ∀ b o, s.heap.get? b = some o → s'.heap.get? b = some o
theorem Ka.refl (s : Shared) : Ka s s := fun _ _ e => e
theorem Ka.trans {s s₁ s₂ : Shared} (x : Ka s s₁) (y : Ka s₁ s₂) : Ka s s₂ := fun b o e => y b o (x b o e)
theorem Ka.kp {fz : Addr → Prop} {σ : St} {s s' : Shared} (x : Ka s s') : Kp fz σ s.heap σ s'.heap := fun a o e _ => ⟨x a o e, rfl⟩

theorem Kp.refl {fz : Addr → Prop} (σ : St) (h : Heap) : Kp fz σ h σ h := fun _ _ e _ => ⟨e, rfl⟩
theorem Kp.trans {fz : Addr → Prop} {σ σ₁ σ₂ : St} {h h₁ h₂ : Heap} (x : Kp fz σ h σ₁ h₁) (y : Kp fz σ₁ h₁ σ₂ h₂) : Kp fz σ h σ₂ h₂ :=
  fun a o e n => let ⟨p, q⟩ := x a o e n; let ⟨p', q'⟩ := y a o p (q.symm ▸ n); ⟨p', q'.trans q⟩
theorem Kp.s {fz : Addr → Prop} {env : Env} {σ σ₁ : St} {h h₁ : Heap} (x : Kp fz σ h σ₁ h₁) : KpS fz env σ h σ₁ h₁ := fun a o e n _ => x a o e n
theorem KpS.refl {fz : Addr → Prop} (env : Env) (σ : St) (h : Heap) : KpS fz env σ h σ h := fun _ _ e _ _ => ⟨e, rfl⟩
theorem KpS.trans {fz : Addr → Prop} {env : Env} {σ σ₁ σ₂ : St} {h h₁ h₂ : Heap} (x : KpS fz env σ h σ₁ h₁) (y : KpS fz env σ₁ h₁ σ₂ h₂) : KpS fz env σ h σ₂ h₂ :=
  fun a o e n f => let ⟨p, q⟩ := x a o e n f; let ⟨p', q'⟩ := y a o p (q.symm ▸ n) f; ⟨p', q'.trans q⟩

/-- the frame stands when nothing outside the state is turned -/
theorem FR.kp {fz : Addr → Prop} {env : Env} {ρ : Loc} {σ σ' : St} {h h' : Heap} (F : FR env ρ σ h) (k : Kp fz σ h σ' h') : FR env ρ σ' h' := by
  obtain ⟨⟨⟨m, hm, hv⟩, cell, celv⟩, lo, co⟩ := F
  obtain ⟨o, es, ep, ho, r⟩ := id hm
  refine ⟨⟨⟨m, ⟨o, es, ep, (k _ _ ho (.inl lo)).1, r⟩, hv⟩, fun x cc hp => ?_, fun x v cc hx hk hc => ?_⟩, (k _ _ ho (.inl lo)).2.trans lo, fun x cc hp => ?_⟩
  · obtain ⟨u, o, ho, hd⟩ := cell x cc hp
    exact ⟨u, o, (k _ _ ho (.inl (co x cc hp))).1, hd⟩
  · obtain ⟨u, ⟨o, ho, hd⟩, e⟩ := celv x v cc hx hk hc
    exact ⟨u, ⟨o, (k _ _ ho (.inl (co x cc hc))).1, hd⟩, e⟩
  · obtain ⟨u, o, ho, hd⟩ := cell x cc hp
    exact (k _ _ ho (.inl (co x cc hp))).2.trans (co x cc hp)
theorem FRr.ka {env : Env} {ρ : Loc} {s s' : Shared} (F : FRr env ρ s.heap) (k : Ka s s') : FRr env ρ s'.heap := by
  obtain ⟨⟨m, hm, hv⟩, cell, celv⟩ := F
  obtain ⟨o, es, ep, ho, r⟩ := id hm
  refine ⟨⟨m, ⟨o, es, ep, k _ _ ho, r⟩, hv⟩, fun x cc hp => ?_, fun x v cc hx hk hc => ?_⟩
  · obtain ⟨u, o, ho, hd⟩ := cell x cc hp
    exact ⟨u, o, k _ _ ho, hd⟩
  · obtain ⟨u, ⟨o, ho, hd⟩, e⟩ := celv x v cc hx hk hc
    exact ⟨u, ⟨o, k _ _ ho, hd⟩, e⟩

structure Sh (c : Cx) (s : Shared) : Prop where
  gens : s.gens = c.gn
  os : s.os = c.os
  dr : s.drawn = c.dr
theorem Sh.heap {c : Cx} {s : Shared} (x : Sh c s) (h : Heap) (t : Nat) : Sh c { s with heap := h, toks := t } := ⟨x.gens, x.os, x.dr⟩

noncomputable def Post {α : Type} (c : Cx) (fz : Addr → Prop) (σ : St) (s : Shared) (Q : α → St → Prop) (a : α) (s' : Shared) : Prop :=
  (Ey1 fun σ' => Ay4 (Rep c σ' s'.heap) (Kp fz σ s.heap σ' s'.heap) (Sh c s') (Q a σ'))
noncomputable def PostS {α : Type} (c : Cx) (fz : Addr → Prop) (env : Env) (ρ : Loc) (σ : St) (s : Shared) (Q : α → Loc → St → Prop) (a : α) (s' : Shared) : Prop :=
  (Ey2 fun ρ' σ' => Ay6 (Rep c σ' s'.heap) (FR env ρ' σ' s'.heap) (ρ'.map (·.1) = ρ.map (·.1)) (KpS fz env σ s.heap σ' s'.heap) (Sh c s') (Q a ρ' σ'))
noncomputable abbrev NoE : Value → Shared → Prop := fun _ _ => False

/-- the state of the machine at hand, to read it -/
structure AtR (f : Fx) (ρ : Loc) (σ : St) (A : Around) (s : Shared) : Prop where
  ok : f.c.Ok
  env : EnvR f (ρ.map (·.1))
  room : Room f.n A
  rep : Rep f.c σ s.heap
  fr : FRr f.env ρ s.heap
  sh : Sh f.c s
/-- the state of the machine at hand -/
structure At (f : Fx) (ρ : Loc) (σ : St) (A : Around) (s : Shared) : Prop where
  ok : f.c.Ok
  env : EnvOk f (ρ.map (·.1))
  room : Room f.n A
  rep : Rep f.c σ s.heap
  fr : FR f.env ρ σ s.heap
  sh : Sh f.c s

theorem At.r {f : Fx} {ρ : Loc} {σ : St} {A : Around} {s : Shared} (X : At f ρ σ A s) : AtR f ρ σ A s := ⟨X.ok, X.env.toEnvR, X.room, X.rep, X.fr.toFRr, X.sh⟩

noncomputable def WX {α : Type} (f : Fx) (ρ : Loc) (σ : St) (t : Sem α) (Q : α → St → Prop) : Prop :=
  ∀ A s, At f ρ σ A s → wpAny (model prg f.c.w) A t (Post f.c f.fz σ s Q) NoE s
noncomputable def WS {α : Type} (f : Fx) (ρ : Loc) (σ : St) (t : Sem α) (Q : α → Loc → St → Prop) : Prop :=
  ∀ A s, At f ρ σ A s → wpAny (model prg f.c.w) A t (PostS f.c f.fz f.env ρ σ s Q) NoE s

theorem At.step {f : Fx} {fz : Addr → Prop} {ρ : Loc} {σ σ' : St} {A : Around} {s s' : Shared} (x : At f ρ σ A s) (r : Rep f.c σ' s'.heap) (k : Kp fz σ s.heap σ' s'.heap) (g : Sh f.c s') : At f ρ σ' A s' :=
  ⟨x.ok, x.env, x.room, r, x.fr.kp k, g⟩

theorem WX.use {α : Type} {f : Fx} {ρ : Loc} {σ : St} {t : Sem α} {Q : α → St → Prop} {P : α → Shared → Prop} {A : Around} {s : Shared} (h : WX f ρ σ t Q) (x : At f ρ σ A s)
    (k : ∀ a s' σ', At f ρ σ' A s' → Kp f.fz σ s.heap σ' s'.heap → Q a σ' → P a s') : wpAny (model prg f.c.w) A t P NoE s :=
  wpAny_mono (h A s x) (fun a s' ⟨σ', r, kp, g, q⟩ => k a s' σ' (x.step r kp g) kp q) fun _ _ e => e
theorem WS.use {α : Type} {f : Fx} {ρ : Loc} {σ : St} {t : Sem α} {Q : α → Loc → St → Prop} {P : α → Shared → Prop} {A : Around} {s : Shared} (h : WS f ρ σ t Q) (x : At f ρ σ A s)
    (k : ∀ a s' ρ' σ', At f ρ' σ' A s' → ρ'.map (·.1) = ρ.map (·.1) → KpS f.fz f.env σ s.heap σ' s'.heap → Q a ρ' σ' → P a s') : wpAny (model prg f.c.w) A t P NoE s :=
  wpAny_mono (h A s x) (fun a s' ⟨ρ', σ', r, fr, nm, kp, g, q⟩ => k a s' ρ' σ' ⟨x.ok, nm ▸ x.env, x.room, r, fr, g⟩ nm kp q) fun _ _ e => e

theorem At.post {α : Type} {f : Fx} {fz : Addr → Prop} {ρ : Loc} {σ σ' : St} {A : Around} {s s' : Shared} {Q : α → St → Prop} {a : α} (y : At f ρ σ' A s') (k : Kp fz σ s.heap σ' s'.heap) (q : Q a σ') : Post f.c fz σ s Q a s' :=
  ⟨σ', y.rep, k, y.sh, q⟩
theorem At.postS {α : Type} {f : Fx} {fz : Addr → Prop} {ρ ρ' : Loc} {σ σ' : St} {A : Around} {s s' : Shared} {Q : α → Loc → St → Prop} {a : α} (y : At f ρ' σ' A s') (nm : ρ'.map (·.1) = ρ.map (·.1)) (k : KpS fz f.env σ s.heap σ' s'.heap) (q : Q a ρ' σ') : PostS f.c fz f.env ρ σ s Q a s' :=
  ⟨ρ', σ', y.rep, y.fr, nm, k, y.sh, q⟩

theorem WX.mono {α : Type} {f : Fx} {ρ : Loc} {σ : St} {t : Sem α} {Q Q' : α → St → Prop} (h : WX f ρ σ t Q) (k : ∀ a σ', Q a σ' → Q' a σ') : WX f ρ σ t Q' :=
  fun _ _ x => h.use x fun a _ σ' y kp q => y.post kp (k a σ' q)
theorem WS.mono {α : Type} {f : Fx} {ρ : Loc} {σ : St} {t : Sem α} {Q Q' : α → Loc → St → Prop} (h : WS f ρ σ t Q) (k : ∀ a ρ' σ', ρ'.map (·.1) = ρ.map (·.1) → Q a ρ' σ' → Q' a ρ' σ') : WS f ρ σ t Q' :=
  fun _ _ x => h.use x fun a _ ρ' σ' y nm kp q => y.postS nm kp (k a ρ' σ' nm q)

theorem WS.pure {α : Type} {f : Fx} {ρ : Loc} {σ : St} {a : α} {Q : α → Loc → St → Prop} (h : Q a ρ σ) : WS f ρ σ (pure a) Q := fun _ s x => wpAny_pure (x.postS rfl (KpS.refl _ σ s.heap) h)
theorem WS.bind {α β : Type} {f : Fx} {ρ : Loc} {σ : St} {t : Sem α} {k : α → Sem β} {Q : β → Loc → St → Prop} (h : WS f ρ σ t fun a ρ' σ' => WS f ρ' σ' (k a) Q) : WS f ρ σ (t >>= k) Q :=
  fun _ _ x => wpAny_bind (h.use x fun _ _ _ _ y nm kp q => q.use y fun _ _ _ _ z nm' kp' q' => z.postS (nm'.trans nm) (kp.trans kp') q')
theorem WX.ws {α : Type} {f : Fx} {ρ : Loc} {σ : St} {t : Sem α} {Q : α → Loc → St → Prop} (h : WX f ρ σ t fun a σ' => Q a ρ σ') : WS f ρ σ t Q :=
  fun _ _ x => h.use x fun _ _ _ y kp q => y.postS rfl kp.s q
theorem WS.holding {α : Type} {f : Fx} {ρ : Loc} {σ : St} {vs : List Value} {t : Sem α} {Q : α → Loc → St → Prop} (h : WS f ρ σ t Q) : WS f ρ σ (holding vs t) Q := fun _ _ x => wpAny_holding (h _ _ x)

/-- values without their tokens -/
noncomputable def WV (f : Fx) (ρ : Loc) (σ : St) (t : Sem Value) (Q : Value → St → Prop) : Prop := WX f ρ σ t fun v σ' => Q (er v) σ'
theorem er_int {v : Value} {i : Int} {t : Tok} (h : er v = .int i t) : ∃ u, v = .int i u := by cases v <;> simp [er] at h; exact ⟨_, by rw [h.1]⟩
theorem er_str {v : Value} {x : Str} {t : Tok} (h : er v = .str x t) : ∃ u, v = .str x u := by cases v <;> simp [er] at h; exact ⟨_, by rw [h.1]⟩
theorem er_ref {v : Value} {a : Addr} (h : er v = .ref a) : v = .ref a := by cases v <;> simp [er] at h; rw [h]
theorem er_bool {v : Value} {b : Bool} (h : er v = .bool b) : v = .bool b := by cases v <;> simp [er] at h; rw [h]
theorem er_none {v : Value} (h : er v = .none) : v = .none := by cases v <;> simp [er] at h; rfl
theorem er_builtin {v : Value} {b : String} (h : er v = .builtin b) : v = .builtin b := by cases v <;> simp [er] at h; rw [h]
theorem er_type {v : Value} {b : String} (h : er v = .type b) : v = .type b := by cases v <;> simp [er] at h; rw [h]
end
section
variable {f : Fx} {ρ : Loc} {σ : St}

theorem Rep.ka {c : Cx} {σ : St} {s s' : Shared} (r : Rep c σ s.heap) (k : Ka s s') : Rep c σ s'.heap :=
  ⟨fun b o e => k b o (r.base b o e), fun b o e => let ⟨ob, h1, h2⟩ := r.obj b o e; ⟨ob, k _ _ h1, h2⟩, r.new, r.dm⟩
theorem AtR.ka {A : Around} {s s' : Shared} (X : AtR f ρ σ A s) (k : Ka s s') (h : Sh f.c s') : AtR f ρ σ A s' := ⟨X.ok, X.env, X.room, X.rep.ka k, X.fr.ka k, h⟩
/-- everything that stood stands -/
theorem At.ka {A : Around} {s s' : Shared} (X : At f ρ σ A s) (k : Ka s s') (h : Sh f.c s') : At f ρ σ A s' := X.step (fz := fun _ => False) (X.rep.ka k) k.kp h
theorem AtR.kin {A : Around} {s : Shared} (x : AtR f ρ σ A s) : (KK f.c.w.params).In s.heap := x.ok.K.keeps x.rep.base
theorem AtR.lim {A : Around} {s : Shared} (x : AtR f ρ σ A s) : s.heap.NoLimit := x.ok.lim.keeps x.rep.base
theorem AtR.glb {A : Around} {s : Shared} (x : AtR f ρ σ A s) : ∃ mg, s.heap.Ns mainGlobals mg := let ⟨mg, h⟩ := x.ok.g; ⟨mg, h.keeps x.rep.base⟩
theorem AtR.bi {A : Around} {s : Shared} (x : AtR f ρ σ A s) : ∃ mb, s.heap.Ns builtinsNs mb ∧ ∀ x : Str, x ≠ "__name__" → mb x = bootBuiltins x := let ⟨mg, h, r⟩ := x.ok.bi; ⟨mg, h.keeps x.rep.base, r⟩
theorem At.kin {A : Around} {s : Shared} (x : At f ρ σ A s) : (KK f.c.w.params).In s.heap := x.r.kin
theorem At.lim {A : Around} {s : Shared} (x : At f ρ σ A s) : s.heap.NoLimit := x.r.lim
theorem mem_nm {x : Str} {v : Option Value} {ρ : Loc} (h : (x, v) ∈ ρ) : x ∈ ρ.map (·.1) := List.mem_map.mpr ⟨_, h, rfl⟩

theorem AtR.load {A : Around} {s : Shared} (X : AtR f ρ σ A s) {x : Str} {v : Value} {P : Value → Shared → Prop} (hm : (x, some v) ∈ ρ) (h : ∀ u, er u = v → P u s) :
    wpAny (model prg f.c.w) A (loadName f.env x) P NoE s := by
  have nm := mem_nm hm
  obtain ⟨m, hns, hv⟩ := X.fr.loc
  rcases X.env.kinds x nm with hk | ⟨hk, cc, hc⟩
  · obtain ⟨u, hu, e⟩ := hv x v hm hk
    exact wpAny_loadName_local X.env.kind hk hns hu (h u e)
  · obtain ⟨u, hu, e⟩ := X.fr.celv x v cc hm (by rcases hk with hk | hk <;> rw [hk] <;> simp) hc
    rcases hk with hk | hk
    · exact wpAny_loadName_cell X.env.kind hk hc hu (h u e)
    · exact wpAny_loadName_free X.env.kind hk hc hu (h u e) (X.env.dbg x (List.mem_append_left _ nm)).2

inductive SetAt (x : Str) (v : Value) : Loc → Loc → Prop
  | here (o : Option Value) (r : Loc) : SetAt x v ((x, o) :: r) ((x, some v) :: r)
  | there (p : Str × Option Value) {r r' : Loc} : SetAt x v r r' → SetAt x v (p :: r) (p :: r')
theorem SetAt.names {x : Str} {v : Value} {r r' : Loc} (h : SetAt x v r r') : r'.map (·.1) = r.map (·.1) := by induction h with | here => rfl | there _ _ ih => simp [ih]
theorem SetAt.has {x : Str} {v : Value} {r r' : Loc} (h : SetAt x v r r') : x ∈ r.map (·.1) := by induction h with | here => simp | there _ _ ih => exact List.mem_cons_of_mem _ ih
theorem SetAt.mem {x : Str} {v : Value} {r r' : Loc} (h : SetAt x v r r') (nd : (r.map (·.1)).Nodup) : ∀ y u, (y, u) ∈ r' → (y = x ∧ u = some v) ∨ (y ≠ x ∧ (y, u) ∈ r) := by
  induction h with
  | here o r =>
    intro y u hy
    rcases List.mem_cons.mp hy with e | hz
    · cases e; exact .inl ⟨rfl, rfl⟩
    · refine .inr ⟨?_, List.mem_cons_of_mem _ hz⟩
      intro e
      have := mem_nm hz
      rw [e] at this
      exact (List.nodup_cons.mp nd).1 this
  | there p h ih =>
    intro y u hy
    obtain ⟨n1, n2⟩ := List.nodup_cons.mp nd
    rcases List.mem_cons.mp hy with e | hy
    · refine .inr ⟨?_, e ▸ List.mem_cons_self⟩
      intro e2
      apply n1
      subst e2
      have := h.has
      rw [← e]; exact this
    · rcases ih n2 y u hy with e | ⟨e1, e2⟩
      · exact .inl e
      · exact .inr ⟨e1, List.mem_cons_of_mem _ e2⟩

theorem ne_base {b : Heap} {a x : Addr} {o : Obj} (h : b.get? a = none) (e : b.get? x = some o) : x ≠ a := by rintro rfl; rw [h] at e; cases e
theorem At.same {A : Around} {s : Shared} {a : Addr} {h' : Heap} (X : At f ρ σ A s) (hs : Heap.SameBut a s.heap h') (hb : f.c.b.get? a = none) (hn : σ a = none) : Rep f.c σ h' :=
  ⟨fun b o e => (hs.2 b (ne_base hb e)).trans (X.rep.base b o e),
   fun b o e => let ⟨ob, h1, h2⟩ := X.rep.obj b o e; ⟨ob, (hs.2 b (by rintro rfl; rw [hn] at e; cases e)).trans h1, h2⟩, X.rep.new, X.rep.dm⟩
theorem At.store {A : Around} {s : Shared} (X : At f ρ σ A s) {x : Str} {v : Value} {ρ' : Loc} {P : Unit → Shared → Prop} (hs : SetAt x (er v) ρ ρ')
    (h : ∀ s', At f ρ' σ A s' → KpS f.fz f.env σ s.heap σ s'.heap → P () s') : wpAny (model prg f.c.w) A (storeName f.env x v) P NoE s := by
  have nm := hs.has
  have hmem := hs.mem X.env.nd
  obtain ⟨m, hns, hv⟩ := X.fr.loc
  have Xf := X.fr
  rcases X.env.kinds x nm with hk | ⟨hk, cc, hc⟩
  · refine wpAny_storeName_local hk hns (fun h' hn' sb => ?_) (by rw [X.env.kind]; rfl)
    refine h _ ⟨X.ok, hs.names ▸ X.env, X.room, X.same sb X.env.lb Xf.lo, ⟨⟨⟨_, hn', fun y u hy hky => ?_⟩, fun z zc hp => ?_, fun y u cc' hy hky hc' => ?_⟩, Xf.lo, Xf.co⟩, X.sh.heap _ _⟩ ?_
    · rcases hmem _ _ hy with ⟨rfl, e⟩ | ⟨e1, e2⟩
      · exact ⟨v, by simp, by simpa using e.symm⟩
      · obtain ⟨u', h1, h2⟩ := hv y u e2 hky
        exact ⟨u', by simp [e1, h1], h2⟩
    · obtain ⟨u, hu⟩ := Xf.cell z zc hp
      exact ⟨u, hu.sameBut sb (X.env.lc z zc hp)⟩
    · rcases hmem _ _ hy with ⟨rfl, e⟩ | ⟨e1, e2⟩
      · exact absurd hk hky
      · obtain ⟨u', h1, h2⟩ := Xf.celv y u cc' e2 hky hc'
        exact ⟨u', h1.sameBut sb (X.env.lc _ _ hc'), h2⟩
    · intro a o e n hf
      exact ⟨(sb.2 a (fun e => hf (.inl e))).trans e, rfl⟩
  · have hcm := mem_of_lookup hc
    obtain ⟨u₀, hu₀⟩ := Xf.cell _ _ hc
    have go : ∀ h', h'.IsCell cc (some v) → Heap.SameBut cc s.heap h' → P () { s with heap := h' } := by
      intro h' hc1 sb
      refine h _ ⟨X.ok, hs.names ▸ X.env, X.room, X.same sb (X.env.cb _ _ hc) (Xf.co _ _ hc), ⟨⟨⟨m, hns.sameBut sb (fun e => X.env.lc _ _ hc e.symm), fun y u hy hky => ?_⟩, fun z zc hp => ?_, fun y u cc' hy hky hc' => ?_⟩, Xf.lo, Xf.co⟩, X.sh.heap _ _⟩ ?_
      · rcases hmem _ _ hy with ⟨rfl, e⟩ | ⟨e1, e2⟩
        · rcases hk with hk | hk <;> rw [hk] at hky <;> cases hky
        · exact hv y u e2 hky
      · obtain ⟨u, hu⟩ := Xf.cell z zc hp
        by_cases e : zc = cc
        · exact ⟨_, e ▸ hc1⟩
        · exact ⟨u, hu.sameBut sb e⟩
      · rcases hmem _ _ hy with ⟨rfl, e⟩ | ⟨e1, e2⟩
        · rw [hc] at hc'; cases hc'
          exact ⟨v, hc1, by simpa using e.symm⟩
        · obtain ⟨u', h1, h2⟩ := Xf.celv y u cc' e2 hky hc'
          refine ⟨u', h1.sameBut sb ?_, h2⟩
          rintro rfl
          exact e1 (name_of_addr X.env.apart (mem_of_lookup hc') hcm)
      · intro a o e n hf
        exact ⟨(sb.2 a (fun e => hf (.inr ⟨x, e ▸ hc⟩))).trans e, rfl⟩
    rcases hk with hk | hk
    · exact wpAny_storeName_cell X.env.kind hk hc hu₀ go
    · unfold storeName
      simp only [hk, X.env.kind]
      exact wpAny_bind (wpAny_cellOf hc (wpAny_cellSet hu₀ go))

theorem WS.bindName {x : Str} {v : Value} {ρ' : Loc} {Q : Unit → Loc → St → Prop} (hs : SetAt x (er v) ρ ρ') (h : Q () ρ' σ) : WS f ρ σ (bindName f.env x v) Q :=
  fun _ _ X => wpAny_bindName (X.store hs fun _ Y k => Y.postS hs.names k h)
end
section
variable {f : Fx} {ρ : Loc} {σ : St}

/-- a tree that gives the value c and turns nothing -/
noncomputable def Pr (f : Fx) (ρ : Loc) (σ : St) (t : Sem Value) (c : Value) : Prop :=
  ∀ A s (P : Value → Shared → Prop), AtR f ρ σ A s → (∀ u s', AtR f ρ σ A s' → Ka s s' → er u = c → P u s') → wpAny (model prg f.c.w) A t P NoE s
noncomputable def Pb {α : Type} (f : Fx) (ρ : Loc) (σ : St) (t : Sem α) (b : α) : Prop :=
  ∀ A s (P : α → Shared → Prop), AtR f ρ σ A s → (∀ s', AtR f ρ σ A s' → Ka s s' → P b s') → wpAny (model prg f.c.w) A t P NoE s
noncomputable abbrev PE (f : Fx) (ρ : Loc) (σ : St) (e : Expr) (c : Value) : Prop := Pr f ρ σ (eval e f.env) c
noncomputable abbrev PT (f : Fx) (ρ : Loc) (σ : St) (e : Expr) (b : Bool) : Prop := Pb f ρ σ (isTrue e f.env (eval e f.env)) b

theorem Pr.use {t : Sem Value} {c : Value} {A : Around} {s : Shared} {P : Value → Shared → Prop} (h : Pr f ρ σ t c) (X : AtR f ρ σ A s) (k : ∀ u s', AtR f ρ σ A s' → Ka s s' → er u = c → P u s') :
    wpAny (model prg f.c.w) A t P NoE s := h A s P X k
theorem Pb.use {α : Type} {t : Sem α} {c : α} {A : Around} {s : Shared} {P : α → Shared → Prop} (h : Pb f ρ σ t c) (X : AtR f ρ σ A s) (k : ∀ s', AtR f ρ σ A s' → Ka s s' → P c s') :
    wpAny (model prg f.c.w) A t P NoE s := h A s P X k
theorem Pr.useW {t : Sem Value} {c : Value} {A : Around} {s : Shared} {P : Value → Shared → Prop} (h : Pr f ρ σ t c) (X : At f ρ σ A s) (k : ∀ u s', At f ρ σ A s' → Ka s s' → er u = c → P u s') :
    wpAny (model prg f.c.w) A t P NoE s := h A s P X.r fun u s' Y ka e => k u s' (X.ka ka Y.sh) ka e
theorem Pb.useW {α : Type} {t : Sem α} {c : α} {A : Around} {s : Shared} {P : α → Shared → Prop} (h : Pb f ρ σ t c) (X : At f ρ σ A s) (k : ∀ s', At f ρ σ A s' → Ka s s' → P c s') :
    wpAny (model prg f.c.w) A t P NoE s := h A s P X.r fun s' Y ka => k s' (X.ka ka Y.sh) ka
theorem WV.of_pr {t : Sem Value} {c : Value} {Q : Value → St → Prop} (h : Pr f ρ σ t c) (q : Q c σ) : WV f ρ σ t Q := fun A s X => h.useW X fun u s' y kp e => y.post kp.kp (by rw [e]; exact q)
theorem WX.of_pb {α : Type} {t : Sem α} {b : α} {Q : α → St → Prop} (h : Pb f ρ σ t b) (q : Q b σ) : WX f ρ σ t Q := fun A s X => h.useW X fun s' y kp => y.post kp.kp q
theorem Pr.mk {t : Sem Value} {c : Value} (h : ∀ A s (P : Value → Shared → Prop), AtR f ρ σ A s → (∀ u s', AtR f ρ σ A s' → Ka s s' → er u = c → P u s') → wpAny (model prg f.c.w) A t P NoE s) : Pr f ρ σ t c := h
theorem Pb.mk {α : Type} {t : Sem α} {c : α} (h : ∀ A s (P : α → Shared → Prop), AtR f ρ σ A s → (∀ s', AtR f ρ σ A s' → Ka s s' → P c s') → wpAny (model prg f.c.w) A t P NoE s) : Pb f ρ σ t c := h
theorem AtR.tok {A : Around} {s : Shared} (X : AtR f ρ σ A s) (t : Nat) : AtR f ρ σ A { s with toks := t } := ⟨X.ok, X.env, X.room, X.rep, X.fr, X.sh.heap _ _⟩
theorem At.tok {A : Around} {s : Shared} (X : At f ρ σ A s) (t : Nat) : At f ρ σ A { s with toks := t } := ⟨X.ok, X.env, X.room, X.rep, X.fr, X.sh.heap _ _⟩

theorem PE.name {x : Str} {p : Pos} {v : Value} (hm : (x, some v) ∈ ρ) : PE f ρ σ (.Name x p) v :=
  fun _ s _ X k => wpAny_Name (X.load hm fun u e => k u s X (Ka.refl _) e) (X.env.dbg x (List.mem_append_left _ (mem_nm hm))).1
theorem PE.glob {x : Str} {p : Pos} {v c : Value} (hm : x ∈ f.gl) (hv : ∀ P, nsIn (KK P) mainGlobals x = some (some v)) (hc : er v = c) : PE f ρ σ (.Name x p) c := fun _ s _ X k => by
  obtain ⟨mg, hg⟩ := X.glb
  exact Name_function_global X.env.kind (X.env.glob x hm) (loadGlobal_global (by rw [X.env.gs]; exact hg) (mg_of X.kin hg (hv _)) (k _ _ X (Ka.refl _) hc)) (X.env.dbg x (List.mem_append_right _ hm)).1
theorem PE.built {x : Str} {p : Pos} {v c : Value} (hm : x ∈ f.gl) (hv : ∀ P, nsIn (KK P) mainGlobals x = some none) (hb : bootBuiltins x = some v) (hn : x ≠ "__name__") (hc : er v = c) : PE f ρ σ (.Name x p) c := fun _ s _ X k => by
  obtain ⟨mg, hg⟩ := X.glb
  obtain ⟨mb, hb', hbb⟩ := X.bi
  exact Name_function_global X.env.kind (X.env.glob x hm) (loadGlobal_builtin (by rw [X.env.gs]; exact hg) (mg_none_of X.kin hg (hv _)) (by rw [X.env.bs]; exact hb') ((hbb x hn).trans hb) (k _ _ X (Ka.refl _) hc)) (X.env.dbg x (List.mem_append_right _ hm)).1
theorem PE.int {i : Int} {k : Nat} {p : Pos} : PE f ρ σ (.Constant (.int i) k p) (.int i 0) := Pr.mk fun _ s _ X k => wpAny_Constant_int (k _ _ (X.tok _) (Ka.refl _) rfl)
theorem PE.str {x : Str} {k : Nat} {p : Pos} : PE f ρ σ (.Constant (.str x) k p) (.str x 0) := Pr.mk fun _ s _ X k => Constant_str (k _ _ (X.tok _) (Ka.refl _) rfl)
theorem PE.bool {b : Bool} {k : Nat} {p : Pos} : PE f ρ σ (.Constant (.bool b) k p) (.bool b) := Pr.mk fun _ s _ X k => Constant_bool (k _ _ X (Ka.refl _) rfl)
theorem PE.none {k : Nat} {p : Pos} : PE f ρ σ (.Constant .none k p) .none := Pr.mk fun _ s _ X k => Constant_none (k _ _ X (Ka.refl _) rfl)
theorem PE.bytes {x : List UInt8} {k : Nat} {p : Pos} : PE f ρ σ (.Constant (.bytes x) k p) (.bytes x.toArray 0) := Pr.mk fun _ s _ X k => (fun _ _ _ => k (.bytes x.toArray s.toks) { s with toks := s.toks + 1 } (X.tok _) (Ka.refl _) rfl)

noncomputable def Bin (f : Fx) (ρ : Loc) (σ : St) (op : Operator) (a b c : Value) : Prop := ∀ u v, er u = a → er v = b → Pr f ρ σ (binaryOp op u v) c
noncomputable def Cmp (f : Fx) (ρ : Loc) (σ : St) (op : CmpOp) (a b : Value) (c : Bool) : Prop := ∀ u v, er u = a → er v = b → Pr f ρ σ (compareOp op u v) (.bool c)
noncomputable def Tru (f : Fx) (ρ : Loc) (σ : St) (a : Value) (c : Bool) : Prop := ∀ u, er u = a → Pb f ρ σ (truthy u) c

theorem PE.bin {l r : Expr} {op : Operator} {p : Pos} {a b c : Value} (hl : PE f ρ σ l a) (hr : PE f ρ σ r b) (ho : Bin f ρ σ op a b c) : PE f ρ σ (.BinOp l op r p) c :=
  Pr.mk fun _ _ _ X k => wpAny_BinOp (hl.use X fun u _ X1 k1 e1 => hr.use X1 fun v _ X2 k2 e2 => (ho u v e1 e2).use X2 fun w _ X3 k3 e3 => k w _ X3 (k1.trans (k2.trans k3)) e3)

theorem Bin.add {i j : Int} : Bin f ρ σ .Add (.int i 0) (.int j 0) (.int (i + j) 0) := fun u v e1 e2 => by
  obtain ⟨t, rfl⟩ := er_int e1; obtain ⟨t', rfl⟩ := er_int e2
  exact Pr.mk fun _ s _ X k => wpAny_add_int (k _ _ (X.tok _) (Ka.refl _) rfl)
theorem Bin.sub {i j : Int} : Bin f ρ σ .Sub (.int i 0) (.int j 0) (.int (i - j) 0) := fun u v e1 e2 => by
  obtain ⟨t, rfl⟩ := er_int e1; obtain ⟨t', rfl⟩ := er_int e2
  exact Pr.mk fun _ s _ X k => sub_int' (k _ _ (X.tok _) (Ka.refl _) rfl)
theorem Bin.mod {i j : Int} (hj : j ≠ 0) : Bin f ρ σ .Mod (.int i 0) (.int j 0) (.int (i.fmod j) 0) := fun u v e1 e2 => by
  obtain ⟨t, rfl⟩ := er_int e1; obtain ⟨t', rfl⟩ := er_int e2
  exact Pr.mk fun _ s _ X k => mod_int' hj (k _ _ (X.tok _) (Ka.refl _) rfl)
theorem Bin.div {i j : Int} (hj : j ≠ 0) (hp : j.natAbs < 2 ^ 29) : Bin f ρ σ .FloorDiv (.int i 0) (.int j 0) (.int (i.fdiv j) 0) := fun u v e1 e2 => by
  obtain ⟨t, rfl⟩ := er_int e1; obtain ⟨t', rfl⟩ := er_int e2
  exact Pr.mk fun _ s _ X k => floordiv_int hj (k _ _ (X.tok _) (Ka.refl _) rfl) (Or.inl (PyProof.noPylong_small (by kspl_open wln)))
theorem Bin.and {i j : Int} : Bin f ρ σ .BitAnd (.int i 0) (.int j 0) (.int (Builtin.bitAnd i j) 0) := fun u v e1 e2 => by
  obtain ⟨t, rfl⟩ := er_int e1; obtain ⟨t', rfl⟩ := er_int e2
  exact Pr.mk fun _ s _ X k => and_int (k _ _ (X.tok _) (Ka.refl _) rfl)
theorem Bin.pow {i j : Int} (h0 : 0 ≤ j) (h1 : j ≤ 1000) (h2 : i.natAbs < 2 ^ 64) : Bin f ρ σ .Pow (.int i 0) (.int j 0) (.int (i ^ j.toNat) 0) := fun u v e1 e2 => by
  obtain ⟨t, rfl⟩ := er_int e1; obtain ⟨t', rfl⟩ := er_int e2
  exact Pr.mk fun _ s _ X k => pow_int_small h0 (by kspl_open wln) h2 (k _ _ (X.tok _) (Ka.refl _) rfl)

theorem Cmp.eqI {i j : Int} : Cmp f ρ σ .Eq (.int i 0) (.int j 0) (i == j) := fun u v e1 e2 => by
  obtain ⟨t, rfl⟩ := er_int e1; obtain ⟨t', rfl⟩ := er_int e2
  exact Pr.mk fun _ s _ X k => cmp_ofEq (wpAny_eq_int (k _ _ X (Ka.refl _) rfl))
theorem Cmp.ltI {i j : Int} : Cmp f ρ σ .Lt (.int i 0) (.int j 0) (decide (i < j)) := fun u v e1 e2 => by
  obtain ⟨t, rfl⟩ := er_int e1; obtain ⟨t', rfl⟩ := er_int e2
  exact Pr.mk fun _ s _ X k => wpAny_lt_int (k _ _ X (Ka.refl _) rfl)
theorem Cmp.leI {i j : Int} : Cmp f ρ σ .LtE (.int i 0) (.int j 0) (decide (i ≤ j)) := fun u v e1 e2 => by
  obtain ⟨t, rfl⟩ := er_int e1; obtain ⟨t', rfl⟩ := er_int e2
  exact Pr.mk fun _ s _ X k => le_int (k _ _ X (Ka.refl _) rfl)
theorem Cmp.eqB {i j : Bool} : Cmp f ρ σ .Eq (.bool i) (.bool j) (i == j) := fun u v e1 e2 => by
  rw [er_bool e1, er_bool e2]
  exact Pr.mk fun _ s _ X k => eq_bool (k _ _ X (Ka.refl _) rfl)

theorem Tru.bool {b : Bool} : Tru f ρ σ (.bool b) b := fun u e => by rw [er_bool e]; exact Pb.mk fun _ s _ X k => wpAny_truthy_bool (k _ X (Ka.refl _))

theorem PE.cmp {l r : Expr} {op : CmpOp} {p : Pos} {a b : Value} {c : Bool} (hl : PE f ρ σ l a) (hr : PE f ρ σ r b) (ho : Cmp f ρ σ op a b c) (hm : behindInMarks op r = false := by rfl) : PE f ρ σ (.Compare l [op] [r] p) (.bool c) :=
  Pr.mk fun _ _ _ X k => wpAny_Compare1 (hl.use X fun u _ X1 k1 e1 => hr.use X1 fun v _ X2 k2 e2 => (ho u v e1 e2).use X2 fun w _ X3 k3 e3 => k w _ X3 (k1.trans (k2.trans k3)) e3) hm
theorem PT.cmp {l r : Expr} {op : CmpOp} {p : Pos} {a b : Value} {c : Bool} (hl : PE f ρ σ l a) (hr : PE f ρ σ r b) (ho : Cmp f ρ σ op a b c) (hm : behindInMarks op r = false := by rfl) : PT f ρ σ (.Compare l [op] [r] p) c :=
  Pb.mk fun _ _ _ X k => wpAny_isTrue_Compare1 (hl.use X fun u _ X1 k1 e1 => hr.use X1 fun v _ X2 k2 e2 => (ho u v e1 e2).use X2 fun w _ X3 k3 e3 => by
    rw [er_bool e3]; exact wpAny_truthy_bool (k _ X3 (k1.trans (k2.trans k3)))) hm

/-- a chain of comparisons -/
noncomputable def PChain (f : Fx) (ρ : Loc) (σ : St) (a : Value) (ops : List CmpOp) (rs : List Expr) (c : Bool) : Prop :=
  ∀ pos u, er u = a → Pb f ρ σ (testChain pos u ops (markedEach ops rs (evalEach rs f.env))) c ∧ Pr f ρ σ (compareChain pos u ops (markedEach ops rs (evalEach rs f.env))) (.bool c)
theorem wpAny_rel {M : Model} {A : Around} {E : Value → Shared → Prop} {s : Shared} {vs keep : List Value} {Q : Unit → Shared → Prop} (h : Q () s) : wpAny M A (release vs keep) Q E s :=
  fun Γ p hΓ => by unfold release; rw [Sem.wp_release_go]; exact h
theorem PChain.last {a b : Value} {op : CmpOp} {r : Expr} {c : Bool} (hr : PE f ρ σ r b) (ho : Cmp f ρ σ op a b c) (hm : behindInMarks op r = false := by rfl) : PChain f ρ σ a [op] [r] c := fun pos u e1 => by
  have e : markedEach [op] [r] (evalEach [r] f.env) = [eval r f.env] := by show [markedBehindIn op r (eval r f.env)] = _; rw [markedBehindIn_of_false hm]
  rw [e]
  refine ⟨Pb.mk fun _ _ _ X k => ?_, Pr.mk fun _ _ _ X k => ?_⟩
  · refine wpAny_bind (wpAny_holding (hr.use X fun v _ X2 k2 e2 => wpAny_bind (wpAny_standAt (wpAny_bind (wpAny_operating ((ho u v e1 e2).use X2 fun w _ X3 k3 e3 => wpAny_holding ?_))))))
    rw [er_bool e3]; exact wpAny_truthy_bool (k _ X3 (k2.trans k3))
  · exact wpAny_bind (wpAny_holding (hr.use X fun v _ X2 k2 e2 => wpAny_bind (wpAny_standAt (wpAny_operating ((ho u v e1 e2).use X2 fun w _ X3 k3 e3 => k _ _ X3 (k2.trans k3) e3)))))
theorem PChain.cons {a b : Value} {op op' : CmpOp} {ops : List CmpOp} {r r' : Expr} {rs : List Expr} {c d : Bool} (hr : PE f ρ σ r b) (ho : Cmp f ρ σ op a b c) (hn : c = true → PChain f ρ σ b (op' :: ops) (r' :: rs) d) :
    PChain f ρ σ a (op :: op' :: ops) (r :: r' :: rs) (c && d) := fun pos u e1 => by
  have e : markedEach (op :: op' :: ops) (r :: r' :: rs) (evalEach (r :: r' :: rs) f.env) = eval r f.env :: markedEach (op' :: ops) (r' :: rs) (evalEach (r' :: rs) f.env) := rfl
  rw [e]
  refine ⟨Pb.mk fun _ _ _ X k => ?_, Pr.mk fun _ _ _ X k => ?_⟩
  · refine wpAny_bind (wpAny_holding (hr.use X fun v _ X2 k2 e2 => wpAny_bind (wpAny_standAt (wpAny_bind (wpAny_holding ((ho u v e1 e2).use X2 fun w _ X3 k3 e3 => wpAny_bind (wpAny_rel (wpAny_bind (wpAny_holding ?_)))))))))
    rw [er_bool e3]
    refine wpAny_truthy_bool ?_
    cases c with
    | false => exact wpAny_pure (k _ X3 (k2.trans k3))
    | true => exact (hn rfl pos v e2).1.use X3 fun _ X4 k4 => k _ X4 (k2.trans (k3.trans k4))
  · refine wpAny_bind (wpAny_holding (hr.use X fun v _ X2 k2 e2 => wpAny_bind (wpAny_standAt (wpAny_bind (wpAny_holding ((ho u v e1 e2).use X2 fun w _ X3 k3 e3 => wpAny_bind (wpAny_rel (wpAny_bind (wpAny_holding ?_)))))))))
    rw [er_bool e3]
    refine wpAny_truthy_bool ?_
    cases c with
    | false => exact wpAny_pure (k _ _ X3 (k2.trans k3) rfl)
    | true => exact (hn rfl pos v e2).2.use X3 fun _ _ X4 k4 e4 => k _ _ X4 (k2.trans (k3.trans k4)) e4
theorem PE.chain {l : Expr} {ops : List CmpOp} {rs : List Expr} {p : Pos} {a : Value} {c : Bool} (hl : PE f ρ σ l a) (h : PChain f ρ σ a ops rs c) : PE f ρ σ (.Compare l ops rs p) (.bool c) :=
  Pr.mk fun _ _ _ X k => (show wpAny _ _ (do compareChain p (← eval l f.env) ops (markedEach ops rs (evalEach rs f.env))) _ _ _ from wpAny_bind (hl.use X fun u _ X1 k1 e1 => (h p u e1).2.use X1 fun w _ X2 k2 e2 => k _ _ X2 (k1.trans k2) e2))
theorem PT.chain {l : Expr} {ops : List CmpOp} {rs : List Expr} {p : Pos} {a : Value} {c : Bool} (hl : PE f ρ σ l a) (h : PChain f ρ σ a ops rs c) : PT f ρ σ (.Compare l ops rs p) c :=
  Pb.mk fun _ _ _ X k => (show wpAny _ _ (do testChain p (← eval l f.env) ops (markedEach ops rs (evalEach rs f.env))) _ _ _ from wpAny_bind (hl.use X fun u _ X1 k1 e1 => (h p u e1).1.use X1 fun _ X2 k2 => k _ X2 (k1.trans k2)))

theorem PE.neg {e : Expr} {p : Pos} {i : Int} (h : PE f ρ σ e (.int i 0)) : PE f ρ σ (.UnaryOp .USub e p) (.int (-i) 0) :=
  Pr.mk fun _ _ _ X k => UnaryOp_ (h.use X fun u s1 X1 k1 e1 => by obtain ⟨t, rfl⟩ := er_int e1; exact neg_int (k _ _ (X1.tok _) k1 rfl))
theorem PE.not {e : Expr} {p : Pos} {a : Value} {b : Bool} (h : PE f ρ σ e a) (ht : Tru f ρ σ a b) : PE f ρ σ (.UnaryOp .Not e p) (.bool (!b)) :=
  Pr.mk fun _ _ _ X k => UnaryOp_ (h.use X fun u s1 X1 k1 e1 => not_of ((ht u e1).use X1 fun _ X2 k2 => k _ _ X2 (k1.trans k2) rfl))
theorem PT.not {e : Expr} {p : Pos} {b : Bool} (h : PT f ρ σ e b) : PT f ρ σ (.UnaryOp .Not e p) (!b) :=
  Pb.mk fun _ _ _ X k => isTrue_not (h.use X fun _ X2 k2 => k _ X2 k2)
theorem PE.ite {t a b : Expr} {p : Pos} {c : Bool} {u v : Value} (ht : PT f ρ σ t c) (h1 : c = true → PE f ρ σ a u) (h2 : c = false → PE f ρ σ b v) : PE f ρ σ (.IfExp t a b p) (if c then u else v) :=
  Pr.mk fun _ _ _ X k => IfExp_ (ht.use X fun _ X1 k1 => by
    cases c with
    | true => exact (h1 rfl).use X1 fun _ _ X2 k2 e => k _ _ X2 (k1.trans k2) e
    | false => exact (h2 rfl).use X1 fun _ _ X2 k2 e => k _ _ X2 (k1.trans k2) e)

theorem PE.and1 {e : Expr} {p : Pos} {v : Value} (h : PE f ρ σ e v) : PE f ρ σ (.BoolOp .And [e] p) v := h
theorem PE.or1 {e : Expr} {p : Pos} {v : Value} (h : PE f ρ σ e v) : PE f ρ σ (.BoolOp .Or [e] p) v := h
theorem PE.and {e e' : Expr} {es : List Expr} {p : Pos} {a b : Bool} (h : PE f ρ σ e (.bool a)) (hn : a = true → PE f ρ σ (.BoolOp .And (e' :: es) p) (.bool b)) : PE f ρ σ (.BoolOp .And (e :: e' :: es) p) (.bool (a && b)) :=
  Pr.mk fun _ _ _ X k => BoolOp_and (h.use X fun u _ X1 k1 e1 => by
    rw [er_bool e1]; refine wpAny_truthy_bool ?_
    cases a with
    | false => exact k _ _ X1 k1 rfl
    | true => exact (hn rfl).use X1 fun _ _ X2 k2 e2 => k _ _ X2 (k1.trans k2) e2)
theorem PE.or {e e' : Expr} {es : List Expr} {p : Pos} {a b : Bool} (h : PE f ρ σ e (.bool a)) (hn : a = false → PE f ρ σ (.BoolOp .Or (e' :: es) p) (.bool b)) : PE f ρ σ (.BoolOp .Or (e :: e' :: es) p) (.bool (a || b)) :=
  Pr.mk fun _ _ _ X k => BoolOp_or (h.use X fun u _ X1 k1 e1 => by
    rw [er_bool e1]; refine wpAny_truthy_bool ?_
    cases a with
    | true => exact k _ _ X1 k1 rfl
    | false => exact (hn rfl).use X1 fun _ _ X2 k2 e2 => k _ _ X2 (k1.trans k2) e2)
theorem PT.and1 {e : Expr} {p : Pos} {b : Bool} (h : PT f ρ σ e b) : PT f ρ σ (.BoolOp .And [e] p) b :=
  Pb.mk fun _ _ _ X k => isTrue_and (h.use X fun _ X1 k1 => by
    cases b with
    | false => exact k _ X1 k1
    | true => exact isTrue_and_nil (k _ X1 k1))
theorem PT.or1 {e : Expr} {p : Pos} {b : Bool} (h : PT f ρ σ e b) : PT f ρ σ (.BoolOp .Or [e] p) b :=
  Pb.mk fun _ _ _ X k => isTrue_or (h.use X fun _ X1 k1 => by
    cases b with
    | true => exact k _ X1 k1
    | false => exact isTrue_or_nil (k _ X1 k1))
theorem PT.and {e e' : Expr} {es : List Expr} {p : Pos} {a b : Bool} (h : PT f ρ σ e a) (hn : a = true → PT f ρ σ (.BoolOp .And (e' :: es) p) b) : PT f ρ σ (.BoolOp .And (e :: e' :: es) p) (a && b) :=
  Pb.mk fun _ _ _ X k => isTrue_and (h.use X fun _ X1 k1 => by
    cases a with
    | false => exact k _ X1 k1
    | true => exact (hn rfl).use X1 fun _ X2 k2 => k _ X2 (k1.trans k2))
theorem PT.or {e e' : Expr} {es : List Expr} {p : Pos} {a b : Bool} (h : PT f ρ σ e a) (hn : a = false → PT f ρ σ (.BoolOp .Or (e' :: es) p) b) : PT f ρ σ (.BoolOp .Or (e :: e' :: es) p) (a || b) :=
  Pb.mk fun _ _ _ X k => isTrue_or (h.use X fun _ X1 k1 => by
    cases a with
    | true => exact k _ X1 k1
    | false => exact (hn rfl).use X1 fun _ X2 k2 => k _ X2 (k1.trans k2))
/-- expressions whose test is their value's truth -/
noncomputable def plainT : Expr → Bool
  | .UnaryOp .Not .. | .BoolOp .. | .IfExp .. | .Compare .. => false
  | _ => true
theorem isTrue_plainT {e : Expr} (h : plainT e = true) (env : Env) (whole : Sem Value) : isTrue e env whole = (do let v ← whole; standAt e.pos; holding [v] (truthy v)) := by
  cases e <;> first | rfl | exact Bool.noConfusion h | (rename_i op _ _; cases op <;> first | rfl | exact Bool.noConfusion h)
theorem PT.val {e : Expr} {a : Value} {b : Bool} (h : PE f ρ σ e a) (ht : Tru f ρ σ a b) (hp : plainT e = true := by rfl) : PT f ρ σ e b :=
  Pb.mk fun _ _ _ X k => isTrue_plain (h.use X fun u _ X1 k1 e1 => (ht u e1).use X1 fun _ X2 k2 => k _ X2 (k1.trans k2)) (isTrue_plainT hp _ _)
end
section
variable {f : Fx} {ρ : Loc} {σ : St}

/-- what the written part says of a class and an attribute of its instances -/
structure CA (C : Addr) (a : Str) : Prop where
  get : ∀ P, plainGet (KK P) C a = true
  dict : ∀ P, hasDictIn (KK P) C = true
  no : ∀ P, findIn (KK P) (.ref C) a = some none
  set : ∀ P, findIn (KK P) (.ref C) "__setattr__" = some (some (.builtin "object.__setattr__"))
  over : ∀ P, plainOver (KK P) C = true
  take : ∀ P, takerIn (KK P) C a = some none
theorem CA.of {C : Addr} {a : Str} (h : ∀ P, (plainGet (KK P) C a && hasDictIn (KK P) C && (findIn (KK P) (.ref C) a == some none) && (findIn (KK P) (.ref C) "__setattr__" == some (some (.builtin "object.__setattr__"))) && plainOver (KK P) C && (takerIn (KK P) C a == some none)) = true) : CA C a := by
  simp only [Bool.and_eq_true, beq_iff_eq] at h
  exact ⟨fun P => (h P).1.1.1.1.1, fun P => (h P).1.1.1.1.2, fun P => (h P).1.1.1.2, fun P => (h P).1.1.2, fun P => (h P).1.2, fun P => (h P).2⟩

noncomputable abbrev cI : Addr := 39
noncomputable abbrev cP : Addr := 60
theorem ca_op : CA cI "op" := .of fun P => by kernel_rfl
theorem ca_out : CA cI "out" := .of fun P => by kernel_rfl
theorem ca_arg : CA cI "arg" := .of fun P => by kernel_rfl
theorem ca_low : CA cI "low" := .of fun P => by kernel_rfl
theorem ca_high : CA cI "high" := .of fun P => by kernel_rfl
theorem ca_fold : CA cI "is_folded" := .of fun P => by kernel_rfl
theorem ca_last : CA cI "is_last" := .of fun P => by kernel_rfl
theorem ca_insts : CA cP "insts" := .of fun P => by kernel_rfl
theorem ca_start : CA cP "start" := .of fun P => by kernel_rfl
theorem ca_loose : CA cP "start_loose" := .of fun P => by kernel_rfl
theorem ca_rev : CA cP "is_reversed" := .of fun P => by kernel_rfl
theorem ca_anS : CA cP "is_anchored_start" := .of fun P => by kernel_rfl
theorem ca_anE : CA cP "is_anchored_end" := .of fun P => by kernel_rfl
theorem ca_flat : CA cP "is_flat" := .of fun P => by kernel_rfl
theorem ca_heads : CA cP "heads" := .of fun P => by kernel_rfl
theorem ca_prefix : CA cP "prefix" := .of fun P => by kernel_rfl
theorem ca_pf : CA cP "is_prefix_folded" := .of fun P => by kernel_rfl
theorem ca_cuts : CA cP "byte_cuts" := .of fun P => by kernel_rfl

/-- an object's attribute in the state -/
noncomputable def HasA (σ : St) (C x : Addr) (a : Str) (v : Value) : Prop := ∃ d fs, σ x = some (.inst C d) ∧ σ d = some (.ns fs) ∧ (a, v) ∈ fs
noncomputable def plainV : Value → Bool
  | .builtin _ => false
  | _ => true
theorem handed_er {v u : Value} (h : plainV v = true) (e : er u = v) : handedIn u = true := by subst e; cases u <;> first | rfl | exact Bool.noConfusion h

theorem getL_of {a : Str} {v : Value} : ∀ {es : List DictEntry} {fs : List (Str × Value)}, es.map (fun e => (er e.key, er e.val)) = fs.map (fun p => (Value.str p.1 0, p.2)) → (fs.map (·.1)).Nodup → (a, v) ∈ fs → ∃ u, getL a es = some (some u) ∧ er u = v
  | [], [], _, _, h => by cases h
  | [], _ :: _, h, _, _ => by cases h
  | _ :: _, [], h, _, _ => by cases h
  | e :: es, p :: fs, h, nd, hm => by
    simp only [List.map_cons, List.cons.injEq, Prod.mk.injEq] at h
    obtain ⟨⟨h1, h2⟩, h3⟩ := h
    obtain ⟨t, ht⟩ := er_str h1
    obtain ⟨n1, n2⟩ := List.nodup_cons.mp nd
    unfold getL
    rw [List.find?_cons]
    rcases List.mem_cons.mp hm with q | q
    · subst q
      refine ⟨e.val, ?_, h2⟩
      rw [show e.key.isStr a = true from by rw [ht]; simp [Value.isStr]]
    · have hne : e.key.isStr a = false := by
        rw [ht]
        simp only [Value.isStr, beq_eq_false_iff_ne]
        intro q2
        exact n1 (List.mem_map.mpr ⟨_, q, q2.symm⟩)
      rw [hne]
      obtain ⟨u, h4, h5⟩ := getL_of h3 n2 q
      refine ⟨u, ?_, h5⟩
      unfold getL at h4
      dsimp only
      cases hf : List.find? (fun x => x.key.isStr a) es with
      | some en => rw [hf] at h4; exact h4
      | none =>
        rw [hf] at h4
        dsimp only at h4 ⊢
        split at h4 <;> cases h4

theorem Rep.inst {c : Cx} {h : Heap} (r : Rep c σ h) {x C d : Addr} {fs : List (Str × Value)} (h1 : σ x = some (.inst C d)) (h2 : σ d = some (.ns fs)) :
    ∃ es n, InstAt h x (instObj C d) C (some (dictOf es n)) ∧ h.get? d = some (dictOf es n) ∧ es.map (fun e => (er e.key, er e.val)) = fs.map (fun p => (Value.str p.1 0, p.2)) ∧ (fs.map (·.1)).Nodup ∧ fs.length ≤ 100 := by
  obtain ⟨ob, g1, r1⟩ := r.obj _ _ h1
  obtain ⟨od, g2, es, n, r2, r3, r4, r5⟩ := r.obj _ _ h2
  subst r1 r2
  exact ⟨es, n, ⟨g1, rfl, rfl, g2⟩, g2, r3, r4, r5⟩

theorem Pr.getA {C x : Addr} {a : Str} {v u : Value} {b : Bool} (h : HasA σ C x a v) (hc : CA C a) (hu : er u = .ref x) (hp : plainV v = true := by rfl) : Pr f ρ σ (getAttr u a b) v := by
  obtain ⟨d, fs, h1, h2, h3⟩ := h
  rw [er_ref hu]
  refine Pr.mk fun _ s _ X k => ?_
  obtain ⟨es, n, I, g, r3, r4, r5⟩ := X.rep.inst h1 h2
  obtain ⟨w, e1, e2⟩ := getL_of r3 r4 h3
  exact get_value X.kin I (plainGet_of (hc.get _)).1 (findObj_own (hc.dict _) (hc.no _) rfl (by rw [lookIn_dict]; exact e1)) (handed_er hp e2) (k _ _ (X.tok _) (Ka.refl _) e2)

noncomputable def plainB : Expr → Bool
  | .Call .. => false
  | _ => true
theorem attributeBase_plain {o : Expr} {a : Str} {env : Env} {whole : Sem Value} (h : plainB o = true) : attributeBase o a env whole = whole := by
  cases o <;> first | rfl | exact Bool.noConfusion h
theorem PE.attr {e : Expr} {p : Pos} {C x : Addr} {a : Str} {v : Value} (h : PE f ρ σ e (.ref x)) (ha : HasA σ C x a v) (hc : CA C a) (hb : plainB e = true := by rfl) (hp : plainV v = true := by rfl) : PE f ρ σ (.Attribute e a p) v :=
  Pr.mk fun _ s _ X k => by
    show wpAny _ _ (do
      let o ← attributeBase e a f.env (eval e f.env)
      standAt p.atName
      let r ← holding [o] (getAttr o a true)
      letTemporaryGo e o r
      pure r) _ _ _
    rw [attributeBase_plain hb]
    exact wpAny_bind (h.use X fun u _ X1 k1 e1 => wpAny_bind (wpAny_standAt (wpAny_bind (wpAny_holding ((Pr.getA ha hc e1 hp).use X1 fun r _ X2 k2 e2 => wpAny_bind (wpAny_letTemporaryGo (wpAny_pure (k _ _ X2 (k1.trans k2) e2))))))))

inductive PutF (a : Str) (v : Value) : List (Str × Value) → List (Str × Value) → Prop
  | nil : PutF a v [] [(a, v)]
  | here (u : Value) (r : List (Str × Value)) : PutF a v ((a, u) :: r) ((a, v) :: r)
  | there (p : Str × Value) {r r' : List (Str × Value)} : p.1 ≠ a → PutF a v r r' → PutF a v (p :: r) (p :: r')
theorem PutF.names {a : Str} {v : Value} {r r' : List (Str × Value)} (h : PutF a v r r') : ∀ y, y ∈ r'.map (·.1) → y = a ∨ y ∈ r.map (·.1) := by
  induction h with
  | nil => intro y hy; simpa using hy
  | here u r => intro y hy; right; simpa using hy
  | there p hp h ih =>
    intro y hy
    simp only [List.map_cons, List.mem_cons] at hy ⊢
    rcases hy with e | hy
    · exact .inr (.inl e)
    · rcases ih y hy with e | e
      · exact .inl e
      · exact .inr (.inr e)
theorem PutF.nodup {a : Str} {v : Value} {r r' : List (Str × Value)} (h : PutF a v r r') (nd : (r.map (·.1)).Nodup) : (r'.map (·.1)).Nodup := by
  induction h with
  | nil => simp
  | here u r => simpa using nd
  | there p hp h ih =>
    obtain ⟨n1, n2⟩ := List.nodup_cons.mp nd
    refine List.nodup_cons.mpr ⟨fun hm => ?_, ih n2⟩
    rcases h.names _ hm with e | e
    · exact hp e
    · exact n1 e
theorem er_strv (a : Str) (t : Tok) : er (.str a t) = .str a 0 := rfl
theorem PutF.put {a : Str} {v u : Value} {hsh : Int} {t : Tok} {r r' : List (Str × Value)} (h : PutF a v r r') (hu : er u = v) : ∀ {es : List DictEntry}, es.map (fun e => (er e.key, er e.val)) = r.map (fun p => (Value.str p.1 0, p.2)) →
    (putL a hsh (.str a t) u es).map (fun e => (er e.key, er e.val)) = r'.map (fun p => (Value.str p.1 0, p.2)) := by
  induction h with
  | nil => intro es he; cases es with | nil => simp [putL, er_strv, hu] | cons _ _ => cases he
  | here w r =>
    intro es he
    cases es with
    | nil => cases he
    | cons e es =>
      simp only [List.map_cons, List.cons.injEq, Prod.mk.injEq] at he
      obtain ⟨⟨h1, h2⟩, h3⟩ := he
      obtain ⟨t', ht⟩ := er_str h1
      have hk : e.key.isStr a = true := by rw [ht]; simp [Value.isStr]
      unfold putL
      rw [if_pos hk]
      simp only [List.map_cons, h3, ht, hu, er_strv]
  | there p hp h ih =>
    intro es he
    cases es with
    | nil => cases he
    | cons e es =>
      simp only [List.map_cons, List.cons.injEq, Prod.mk.injEq] at he
      obtain ⟨⟨h1, h2⟩, h3⟩ := he
      obtain ⟨t', ht⟩ := er_str h1
      have hk : e.key.isStr a = false := by rw [ht]; simpa [Value.isStr] using hp
      unfold putL
      rw [if_neg (by rw [hk]; decide)]
      simp only [List.map_cons, h1, h2, ih h3]

/-- one object of the state is turned -/
theorem At.turn {A : Around} {s s' : Shared} {d : Addr} {o ob : _} {ao : AO} (X : At f ρ σ A s) (hd : σ d = some ao) (hs : Heap.SameBut d s.heap s'.heap) (ho : s'.heap.get? d = some ob) (hr : ORel f.c o ob) (hg : Sh f.c s') (hz : ¬ f.fz d) (hdm : ∀ kvs, o = .dic kvs → ∃ kvs', ao = .dic kvs' := by intro _ h; cases h) :
    At f ρ (σ.set d o) A s' ∧ Kp f.fz σ s.heap (σ.set d o) s'.heap := by
  have kp : Kp f.fz σ s.heap (σ.set d o) s'.heap := fun a x e n => by
    have hne : a ≠ d := by
      rintro rfl
      rcases n with n | n
      · rw [hd] at n; cases n
      · exact hz n
    exact ⟨(hs.2 a hne).trans e, by rw [St.set_ne σ o hne]⟩
  refine ⟨⟨X.ok, X.env, X.room, ⟨fun a x e => ?_, fun a x e => ?_, fun a x e => ?_, fun a kvs e => ?_⟩, X.fr.kp kp, hg⟩, kp⟩
  · exact (hs.2 a (ne_base (X.rep.new _ _ hd) e)).trans (X.rep.base a x e)
  · by_cases q : a = d
    · subst q; rw [St.set_same] at e; cases e; exact ⟨ob, ho, hr⟩
    · rw [St.set_ne σ o q] at e
      obtain ⟨y, h1, h2⟩ := X.rep.obj a x e
      exact ⟨y, (hs.2 a q).trans h1, h2⟩
  · by_cases q : a = d
    · subst q; exact X.rep.new _ _ hd
    · rw [St.set_ne σ o q] at e; exact X.rep.new _ _ e
  · by_cases q : a = d
    · subst q
      rw [St.set_same] at e
      cases e
      obtain ⟨kvs', rfl⟩ := hdm _ rfl
      exact X.rep.dm _ _ hd
    · rw [St.set_ne σ o q] at e; exact X.rep.dm _ _ e

theorem Ws.setA {C x d : Addr} {fs fs' : List (Str × Value)} {a : Str} {v u o : Value} {Q : Unit → St → Prop} (h1 : σ x = some (.inst C d)) (h2 : σ d = some (.ns fs)) (hc : CA C a) (hf : PutF a v fs fs') (hu : er u = v) (ho : er o = .ref x) (hl : fs'.length ≤ 100) (hz : ¬ f.fz d)
    (h : Q () (σ.set d (.ns fs'))) : WX f ρ σ (setAttr o a u) Q := by
  rw [er_ref ho]
  intro A s X
  obtain ⟨es, n, I, g, r3, r4, r5⟩ := X.rep.inst h1 h2
  have es_len : es.length = fs.length := by have := congrArg List.length r3; simpa using this
  refine set_plain X.kin I (hc.set _) (osa_open X.kin I (hc.over _) (hc.take _) fun b => ?_)
  obtain ⟨cd, hcd, hd'⟩ := any_some (hc.dict f.c.w.params)
  have D : ({ s with toks := s.toks + 1 } : Shared).heap.get? d = some (dictOf es n) := g
  have hx := I.at_
  have fin : ∀ t, (s.heap.update d (Obj.putName a (PyData.keyHash f.c.w.params a) (.str a t) u)).get? d = some (dictOf (putL a (PyData.keyHash f.c.w.params a) (.str a t) u es) (putN a es n)) := fun t => by
    rw [← putName_dict]
    exact Heap.get?_update_self _ g (by rw [putName_dict]; rfl)
  have nm := hf.put (hsh := PyData.keyHash f.c.w.params a) (t := s.toks + 1) hu r3
  have len : (putL a (PyData.keyHash f.c.w.params a) (.str a (s.toks + 1)) u es).length = fs'.length := by have := congrArg List.length nm; simpa using this
  refine wpAny_bind (wpAny_pure (wpAny_bind (wpAny_bind (wpAny_loadPart (s := { s with toks := s.toks + 1 }) hx (wpAny_bind ((looks_clsIn (K := KK f.c.w.params) (X.tok (s.toks + 1)).kin hcd).here ?_))))))
  rw [hd']
  refine wpAny_pure (a := some d) (wpAny_bind (wpAny_pure (wpAny_bind ?_)))
  unfold nsSet
  refine wpAny_bind (wpAny_bind (wpAny_askSetting (wpAny_pure (wpAny_bind (wpAny_mkText (wpAny_bind (wpAny_loadPart D ?_)))))))
  dsimp only
  have hnr : (!es.toArray.any (·.key.isStr a) && es.toArray.any (·.refKey)) = false := by
    have : es.toArray.any (·.refKey) = false := by
      rw [← Array.any_toList]
      simp only [List.any_eq_false]
      intro e he
      have : (er e.key, er e.val) ∈ fs.map (fun p => (Value.str p.1 0, p.2)) := r3 ▸ List.mem_map.mpr ⟨e, he, rfl⟩
      obtain ⟨p, _, hp⟩ := List.mem_map.mp this
      obtain ⟨t, ht⟩ := er_str (Prod.mk.inj hp).1.symm
      simp [DictEntry.refKey, ht]
    rw [this, Bool.and_false]
  rw [aRefKeyMayBeTheName_at, hnr]
  refine wpAny_updatePart D ?_
  obtain ⟨Y, kp⟩ := At.turn (s' := { s with heap := s.heap.update d (Obj.putName a (PyData.keyHash f.c.w.params a) (.str a (s.toks + 1)) u), toks := s.toks + 1 + 1 }) X h2 (Heap.SameBut.update ..) (fin _) (o := .ns fs')
    ⟨_, _, rfl, nm, hf.nodup r4, hl⟩ (X.sh.heap _ _) hz
  refine wpAny_bind (wpAny_lookBehind (fin _) (pastItsLine_dict (by rw [List.size_toArray, sizeLine_eq]; kspl_open wln)) ?_)
  exact wpAny_pure (Y.post kp h)
end
section
variable {f : Fx} {ρ : Loc} {σ : St}

theorem St.le_none {c : Cx} {σ : St} {h : Heap} (r : Rep c σ h) : σ h.objs.size = none := by
  cases e : σ h.objs.size with
  | none => rfl
  | some o => obtain ⟨ob, g, _⟩ := r.obj _ _ e; exact absurd (Heap.lt_size g) (Nat.lt_irrefl _)

theorem Rep.push {c : Cx} {σ : St} {h : Heap} {o : AO} {ob : Obj} (r : Rep c σ h) (hr : ORel c o ob) (hf : ob.isFreed = false) (hm : (h.objs.size == sysModules) = false) : Rep c (σ.set h.objs.size o) (h.push ob) := by
  refine ⟨fun a x e => Heap.get?_push_of_some _ (r.base a x e), fun a x e => ?_, fun a x e => ?_, fun a kvs e => ?_⟩
  · by_cases q : a = h.objs.size
    · subst q; rw [St.set_same] at e; cases e; exact ⟨ob, Heap.get?_push_size _ hf, hr⟩
    · rw [St.set_ne σ o q] at e
      obtain ⟨y, h1, h2⟩ := r.obj a x e
      exact ⟨y, Heap.get?_push_of_some _ h1, h2⟩
  · by_cases q : a = h.objs.size
    · subst q
      cases e2 : c.b.get? h.objs.size with
      | none => rfl
      | some o => exact absurd (Heap.lt_size (r.base _ _ e2)) (Nat.lt_irrefl _)
    · rw [St.set_ne σ o q] at e; exact r.new a x e
  · by_cases q : a = h.objs.size
    · subst q; exact hm
    · rw [St.set_ne σ o q] at e; exact r.dm a kvs e
theorem At.big {A : Around} {s : Shared} (X : At f ρ σ A s) : (s.heap.objs.size == sysModules) = false := by
  have := PyProof.Rows.modules_low X.lim
  exact beq_eq_false_iff_ne.mpr (Nat.ne_of_gt this)
theorem Kp.push {fz : Addr → Prop} {σ : St} {h : Heap} (o : AO) (ob : Obj) : Kp fz σ h (σ.set h.objs.size o) (h.push ob) := fun a x e n =>
  ⟨Heap.get?_push_of_some _ e, by rw [St.set_ne σ o (Nat.ne_of_lt (Heap.lt_size e))]⟩
theorem At.alloc {A : Around} {s : Shared} {o : AO} {ob : Obj} (X : At f ρ σ A s) (hr : ORel f.c o ob) (hf : ob.isFreed = false) :
    At f ρ (σ.set s.heap.objs.size o) A { s with heap := s.heap.push ob } ∧ Kp f.fz σ s.heap (σ.set s.heap.objs.size o) (s.heap.push ob) ∧ σ s.heap.objs.size = none :=
  have kp := Kp.push (fz := f.fz) (σ := σ) (h := s.heap) o ob
  ⟨⟨X.ok, X.env, X.room, X.rep.push hr hf X.big, X.fr.kp kp, X.sh.heap _ _⟩, kp, St.le_none X.rep⟩

/-- a list of arguments -/
noncomputable def WLs (f : Fx) (ρ : Loc) (σ : St) (es : List Expr) (Q : List Value → St → Prop) : Prop := ∀ pos, WX f ρ σ (spliced (backTo pos (starEach es f.env))) fun vs σ' => Q (vs.map er) σ'
noncomputable def plainS : Expr → Bool
  | .Starred .. => false
  | _ => true
theorem starEach_plain {e : Expr} {es : List Expr} {env : Env} (h : plainS e = true) : starEach (e :: es) env = (false, eval e env) :: starEach es env := by
  cases e <;> first | rfl | exact Bool.noConfusion h
theorem WLs.nil {Q : List Value → St → Prop} (h : Q [] σ) : WLs f ρ σ [] Q := fun _ _ s X => spliced_nil (X.post (Kp.refl _ _) h)
theorem WLs.cons {e : Expr} {es : List Expr} {Q : List Value → St → Prop} (h : WV f ρ σ (eval e f.env) fun v σ' => WLs f ρ σ' es fun vs σ'' => Q (v :: vs) σ'') (hp : plainS e = true := by rfl) : WLs f ρ σ (e :: es) Q := fun pos _ s X => by
  rw [starEach_plain hp]
  show wpAny _ _ (spliced ((false, eval e f.env) :: backTo pos (starEach es f.env))) _ _ _
  exact spliced_cons (WX.use h X fun v _ _ X1 k1 q => WX.use (q pos) X1 fun vs _ _ X2 k2 q2 => X2.post (k1.trans k2) q2)

theorem WV.list {es : List Expr} {p : Pos} {Q : Value → St → Prop} (h : WLs f ρ σ es fun vs σ' => vs.length ≤ 1000000 ∧ ∀ a, σ' a = none → Q (.ref a) (σ'.set a (.list vs))) : WV f ρ σ (eval (.List es p) f.env) Q := fun _ s X => by
  refine List_ (WX.use (h p) X fun vs s1 σ1 X1 k1 q => ?_)
  obtain ⟨hl, q⟩ := q
  rw [List.length_map] at hl
  obtain ⟨Y, kp, hn⟩ := X1.alloc (o := .list (vs.map er)) (ob := { cls := .type "list", data := .seq vs.toArray }) ⟨_, _, rfl, by simp, by simpa using hl⟩ rfl
  exact wpAny_newObj_type (Y.post (k1.trans kp) (q _ hn)) (by show vs.toArray.size ≤ sizeLine; rw [List.size_toArray, sizeLine_eq]; kspl_open wln)
theorem WV.tup {es : List Expr} {k : Nat} {p : Pos} {Q : Value → St → Prop} (h : WLs f ρ σ es fun vs σ' => vs.length ≤ 1000000 ∧ ∀ a, σ' a = none → Q (.ref a) (σ'.set a (.tup vs))) : WV f ρ σ (eval (.Tuple es k p) f.env) Q := fun _ s X => by
  refine Tuple_ (WX.use (h p) X fun vs s1 σ1 X1 k1 q => ?_)
  obtain ⟨hl, q⟩ := q
  rw [List.length_map] at hl
  obtain ⟨Y, kp, hn⟩ := X1.alloc (o := .tup (vs.map er)) (ob := { cls := .type "tuple", data := .seq vs.toArray }) ⟨_, rfl, by simp, by simpa using hl⟩ rfl
  exact wpAny_newObj_type (Y.post (k1.trans kp) (q _ hn)) (by show vs.toArray.size ≤ sizeLine; rw [List.size_toArray, sizeLine_eq]; kspl_open wln)

/-! calls -/
noncomputable def WC (c : Cx) (n : Nat) (fz : Addr → Prop) (σ : St) (g : Value) (args : List Value) (Q : Value → St → Prop) : Prop :=
  ∀ A s raw, raw.map er = args → c.Ok → Room n A → Rep c σ s.heap → Sh c s → wpAny (model prg c.w) A (call g raw) (Post c fz σ s fun v σ' => Q (er v) σ') NoE s

theorem WC.mono {c : Cx} {n : Nat} {fz : Addr → Prop} {g : Value} {args : List Value} {Q Q' : Value → St → Prop} (h : WC c n fz σ g args Q) (k : ∀ v σ', Q v σ' → Q' v σ') : WC c n fz σ g args Q' :=
  fun A s raw e ok rm r gg => wpAny_mono (h A s raw e ok rm r gg) (fun v s' t00 => by obtain ⟨σ', a, b, c, q⟩ := t00; exact ⟨σ', a, b, c, k _ _ q⟩) fun _ _ e => e
theorem Room.le {n m : Nat} {A : Around} (h : Room m A) (hn : n ≤ m) : Room n A := ⟨by have := h.1; kspl_open wln, by have := h.2.1; kspl_open wln, h.2.2⟩
theorem WC.le {c : Cx} {n m : Nat} {fz : Addr → Prop} {g : Value} {args : List Value} {Q : Value → St → Prop} (h : WC c n fz σ g args Q) (hn : n ≤ m) : WC c m fz σ g args Q :=
  fun A s raw e ok rm r gg => h A s raw e ok (rm.le hn) r gg

/-- the frame-free call within a frame -/
theorem WC.use {g : Value} {args raw : List Value} {Q : Value → St → Prop} {P : Value → Shared → Prop} {A : Around} {s : Shared} (h : WC f.c f.n f.fz σ g args Q) (X : At f ρ σ A s) (e : raw.map er = args)
    (k : ∀ v s' σ', At f ρ σ' A s' → Kp f.fz σ s.heap σ' s'.heap → Q (er v) σ' → P v s') : wpAny (model prg f.c.w) A (call g raw) P NoE s :=
  wpAny_mono (h A s raw e X.ok X.room X.rep X.sh) (fun v s' t10 => by obtain ⟨σ', r, kp, g, q⟩ := t10; exact k v s' σ' (X.step r kp g) kp q) fun _ _ e => e

theorem evalArgs_all {M : Model} {A : Around} {E : Value → Shared → Prop} {s : Shared} {g : Value} {env : Env} {p : Pos} {es : List Expr} {Q : Args → Shared → Prop} (hp : es.all plainS = true)
    (h : wpAny M A (spliced (backTo p (starEach es env))) (fun vs s' => Q ⟨vs, []⟩ s') E s) : wpAny M A (evalArgs g true (backTo p (starEach es env)) []) Q E s := by
  cases es with
  | nil =>
    unfold evalArgs
    show wpAny M A (spliced [] >>= _) Q E s
    refine wpAny_bind (wpAny_mono h (fun vs s' h' => ?_) fun _ _ x => x)
    exact wpAny_holding (wpAny_bind (wpAny_pure (wpAny_bind (wpAny_pure (wpAny_pure h')))))
  | cons e r =>
    rw [List.all_cons, Bool.and_eq_true] at hp
    rw [starEach_plain hp.1] at h ⊢
    exact evalArgs_plain h
theorem backTo_plain {env : Env} {p : Pos} : ∀ {es : List Expr}, es.all plainS = true → (backTo p (starEach es env)).any (·.1) = false
  | [], _ => rfl
  | e :: r, h => by
    rw [List.all_cons, Bool.and_eq_true] at h
    rw [starEach_plain h.1]
    show (false || (backTo p (starEach r env)).any (·.1)) = false
    rw [backTo_plain h.2]; rfl
noncomputable def notAttr : Expr → Bool
  | .Attribute .. => false
  | _ => true
theorem eval_Call {func : Expr} {es : List Expr} {p : Pos} {env : Env} (h : notAttr func = true) : eval (.Call func es [] p) env = (do callWith p (← eval func env) [] (backTo p (starEach es env)) []) := by
  cases func <;> first | rfl | exact Bool.noConfusion h

theorem WV.callG {func : Expr} {es : List Expr} {p : Pos} {a : Addr} {Q : Value → St → Prop} (hf : PE f ρ σ func (.ref a)) (hk : ∀ P, keepIn (KK P) (.ref a) = true)
    (h : WLs f ρ σ es fun vs σ' => WC f.c f.n f.fz σ' (.ref a) vs Q) (hfn : notAttr func = true := by rfl) (hes : es.all plainS = true := by rfl) : WV f ρ σ (eval (.Call func es [] p) f.env) Q := fun _ s X => by
  rw [eval_Call hfn]
  refine wpAny_bind (hf.useW X fun u _ X1 k1 e1 => ?_)
  rw [er_ref e1]
  refine callWith_of (P := (KK f.c.w.params).In) (by rw [backTo_plain hes]; rfl) (keeps_K (hk _)) (evalArgs_all hes (WX.use (h p) X1 fun vs _ _ X2 k2 q => ⟨X2.kin, ?_⟩))
  exact WC.use q X2 rfl fun v _ _ X3 k3 q3 => X3.post (k1.kp.trans (k2.trans k3)) q3

theorem WV.callB {func : Expr} {es : List Expr} {p : Pos} {b : String} {Q : Value → St → Prop} (hf : PE f ρ σ func (.builtin b))
    (h : WLs f ρ σ es fun vs σ' => WC f.c f.n f.fz σ' (.builtin b) vs Q) (hfn : notAttr func = true := by rfl) (hes : es.all plainS = true := by rfl) : WV f ρ σ (eval (.Call func es [] p) f.env) Q := fun _ s X => by
  rw [eval_Call hfn]
  refine wpAny_bind (hf.useW X fun u _ X1 k1 e1 => ?_)
  rw [er_builtin e1]
  refine callWith_builtin (backTo_plain hes) (evalArgs_all hes (WX.use (h p) X1 fun vs _ _ X2 k2 q => ?_))
  exact WC.use q X2 rfl fun v _ _ X3 k3 q3 => X3.post (k1.kp.trans (k2.trans k3)) q3

/-! a call of a def of the text -/
noncomputable def fdo (a : Addr) (P : Params) : FuncData := match (KK P).lookup a with
  | some ⟨_, _, .func fd, _⟩ => fd
  | _ => default
noncomputable def bodyOf (fd : FuncData) : List Stmt := match fd.body with
  | .stmts b => b
  | _ => []
structure IsFn (a : Addr) : Prop where
  look : ∀ P, ∃ oc od sl, (KK P).lookup a = some ⟨oc, od, .func (fdo a P), sl⟩
  glob : ∀ P, (fdo a P).globals = mainGlobals
  clos : ∀ P, (fdo a P).closure = []
  bui : ∀ P, (fdo a P).builtins = builtinsNs
  code : ∀ P, codeIn (KK P) (fdo a P).code (fdo a P).qualname = true
  co : ∀ P, (fdo a P).scope.isCoroutine = false
  gen : ∀ P, (fdo a P).scope.isGenerator = false
  kind : ∀ P, (fdo a P).scope.kind = .function
  body : ∀ P, (fdo a P).body = .stmts (bodyOf (fdo a P))
noncomputable def fnOk (K : Frag) (a : Addr) (fd : FuncData) : Bool := (match K.lookup a with | some ⟨_, _, .func _, _⟩ => true | _ => false) && fd.globals == mainGlobals && fd.closure.isEmpty && fd.builtins == builtinsNs && codeIn K fd.code fd.qualname &&
  !fd.scope.isCoroutine && !fd.scope.isGenerator && fd.scope.kind == .function && (match fd.body with | .stmts _ => true | _ => false)
theorem IsFn.of {a : Addr} (h : ∀ P, fnOk (KK P) a (fdo a P) = true) : IsFn a := by
  simp only [fnOk, Bool.and_eq_true, beq_iff_eq, Bool.not_eq_true', List.isEmpty_iff] at h
  refine ⟨fun P => ?_, fun P => (h P).1.1.1.1.1.1.1.2, fun P => (h P).1.1.1.1.1.1.2, fun P => (h P).1.1.1.1.1.2, fun P => (h P).1.1.1.1.2, fun P => (h P).1.1.1.2, fun P => (h P).1.1.2, fun P => (h P).1.2, fun P => ?_⟩
  · have := (h P).1.1.1.1.1.1.1.1
    unfold fdo
    split at this
    · rename_i oc od fd sl e; exact ⟨oc, od, sl, by rw [e]⟩
    · cases this
  · have := (h P).2
    unfold bodyOf
    split at this
    · rename_i b e; rw [e]
    · cases this

noncomputable def scopeOk (sc : Scope) (names gl cl pn : List Str) : Bool :=
  decide names.Nodup && names.all (fun x => sc.names.lookup x == some .local || sc.names.lookup x == some .cell) && gl.all (fun x => sc.names.lookup x == some .globalImplicit) &&
  (names ++ gl).all (fun x => x != ("__debug__" : Str) && x != ("__classdict__" : Str)) && pn.all (fun x => names.contains x) && decide pn.Nodup && cl.all (fun x => sc.names.lookup x == some .cell)

theorem bindL_skip {ko : Str → Option NameKind} {x : Str} : ∀ {binds : List (Str × Value)} {m : Str → Option Value}, (∀ p ∈ binds, p.1 ≠ x) → bindL ko binds m x = m x
  | [], _, _ => rfl
  | (n, v) :: r, m, h => by
    unfold bindL
    rw [bindL_skip fun p hp => h p (List.mem_cons_of_mem _ hp)]
    split
    · exact if_neg (fun e : x = n => h _ List.mem_cons_self e.symm)
    · rfl
theorem bindC_skip {ko : Str → Option NameKind} {x : Str} : ∀ {binds : List (Str × Value)} {m : Str → Option Value}, (∀ p ∈ binds, p.1 ≠ x) → bindC ko binds m x = m x
  | [], _, _ => rfl
  | (n, v) :: r, m, h => by
    unfold bindC
    rw [bindC_skip fun p hp => h p (List.mem_cons_of_mem _ hp)]
    split
    · rfl
    · exact if_neg (fun e : x = n => h _ List.mem_cons_self e.symm)
theorem bindL_mem {ko : Str → Option NameKind} {x : Str} {u : Value} (hk : ko x = some .local) : ∀ {binds : List (Str × Value)} {m : Str → Option Value}, (binds.map (·.1)).Nodup → (x, u) ∈ binds → bindL ko binds m x = some u
  | (n, v) :: r, m, nd, h => by
    obtain ⟨n1, n2⟩ := List.nodup_cons.mp nd
    unfold bindL
    rcases List.mem_cons.mp h with e | h
    · cases e
      rw [bindL_skip fun p hp e => n1 (List.mem_map.mpr ⟨p, hp, e⟩), if_pos hk, if_pos rfl]
    · exact bindL_mem hk n2 h
theorem bindC_mem {ko : Str → Option NameKind} {x : Str} {u : Value} (hk : ko x ≠ some .local) : ∀ {binds : List (Str × Value)} {m : Str → Option Value}, (binds.map (·.1)).Nodup → (x, u) ∈ binds → bindC ko binds m x = some u
  | (n, v) :: r, m, nd, h => by
    obtain ⟨n1, n2⟩ := List.nodup_cons.mp nd
    unfold bindC
    rcases List.mem_cons.mp h with e | h
    · cases e
      rw [bindC_skip fun p hp e => n1 (List.mem_map.mpr ⟨p, hp, e⟩), if_neg hk, if_pos rfl]
    · exact bindC_mem hk n2 h

theorem Room.call {n : Nat} {A : Around} {env : Env} (h : Room (n + 1) A) : Room n (A.deeper env) := by
  obtain ⟨h1, h2, h3⟩ := h
  refine ⟨?_, ?_, h3⟩
  · show A.depth + 1 + 2 * n + 10 ≤ recursionLimit; kspl_open wln
  · show A.units + 3 + 20 * n + 100 ≤ cLine; kspl_open wln

noncomputable def retOf : Flow → Value
  | .ret v => v
  | _ => .none

/-- a call, as code -/
noncomputable def WCc (c : Cx) (n : Nat) (fz : Addr → Prop) (σ : St) (g : Value) (args : List Value) (Q : Value → St → Prop) : Prop :=
  ∀ A s raw, raw.map er = args → c.Ok → Room n A → Rep c σ s.heap → Sh c s → codeAny (model prg c.w) A (.call g ⟨raw, []⟩) (fun r s' => match r with | .ok (.ret v) => Post c fz σ s (fun v σ' => Q (er v) σ') v s' | .ok _ => False | .error e => NoE e s') s
theorem WCc.fn {c : Cx} {n : Nat} {fz : Addr → Prop} {a : Addr} {args : List Value} {gl cl : List Str} {pa : List (Str × Value)} {rest : List Str} {Q : Value → St → Prop} (hfn : IsFn a)
    (hsc : ∀ P, scopeOk (fdo a P).scope (pa.map (·.1) ++ rest) gl cl (pa.map (·.1)) = true)
    (hb : ∀ raw s, raw.map er = args → (KK c.w.params).In s.heap → ∃ binds, BindsTo s (fdo a c.w.params) ⟨raw, []⟩ binds ∧ binds.map (fun p => (p.1, er p.2)) = pa)
    (h : ∀ env, WS ⟨c, n, fz, env, gl, cl⟩ (pa.map (fun p => (p.1, some p.2)) ++ rest.map fun x => (x, none)) σ (execs (bodyOf (fdo a c.w.params)) env) fun fl _ σ' => Q (er (retOf fl)) σ') :
    WCc c (n + 1) fz σ (.ref a) args Q := fun A s raw hraw ok room rep sh => by
  obtain ⟨oc, od, sl, hl⟩ := hfn.look c.w.params
  have KI := ok.K.keeps rep.base
  obtain ⟨binds, hbd, hpa⟩ := hb raw s hraw KI
  have hs := hsc c.w.params
  simp only [scopeOk, Bool.and_eq_true, decide_eq_true_eq, List.all_eq_true, Bool.or_eq_true, beq_iff_eq, bne_iff_ne, List.contains_iff_mem] at hs
  obtain ⟨⟨⟨⟨⟨⟨s1, s2⟩, s3⟩, s4⟩, s5⟩, s6⟩, s7⟩ := hs
  have bn : binds.map (·.1) = pa.map (·.1) := by rw [← hpa, List.map_map]; rfl
  have hkind : ∀ x ∈ binds, (fdo a c.w.params).scope.names.lookup x.1 = some .local ∨ ((fdo a c.w.params).scope.names.lookup x.1 = some .cell ∧ ((cellsFrom (s.heap.objs.size + 1) (fdo a c.w.params).scope.names []).lookup x.1).isSome = true) := fun x hx => by
    have hm : x.1 ∈ pa.map (·.1) := bn ▸ List.mem_map.mpr ⟨x, hx, rfl⟩
    rcases s2 x.1 (s5 _ hm) with e | e
    · exact .inl e
    · exact .inr ⟨e, cellsFrom_some _ _ _ (.inl e)⟩
  refine codeAny_call_function (by have := room.1; kspl_open wln) (KI _ _ hl) rfl (hfn.co _) (hfn.gen _) (hfn.body _) (codeRec_of KI (hfn.code _)) (hbd _ _ _ _ ?_)
  rw [hfn.clos]
  refine wpAny_newFunctionEnv_cells (hfn.kind _) hkind fun env he s' x => ?_
  have hlim : s'.heap.NoLimit := (ok.lim.keeps rep.base).keeps x.toInCall.keep
  refine ⟨hlim, codeAny_func ?_⟩
  obtain ⟨h', tk, rfl⟩ := x.toInCall.same
  have eL : env.locals = s.heap.objs.size := by rw [he]; rfl
  have eC : env.cells = cellsFrom (s.heap.objs.size + 1) (fdo a c.w.params).scope.names [] := by rw [he]; rfl
  have eK : ∀ y, env.kindOf y = (fdo a c.w.params).scope.names.lookup y := fun y => by rw [he]; rfl
  have keep := x.toInCall.keep
  have none_ge : ∀ b, s.heap.objs.size ≤ b → σ b = none := fun b hb => by
    cases e : σ b with
    | none => rfl
    | some o => obtain ⟨ob, g, _⟩ := rep.obj _ _ e; exact absurd (Heap.lt_size g) (Nat.not_lt.mpr hb)
  have base_ge : ∀ b, s.heap.objs.size ≤ b → c.b.get? b = none := fun b hb => by
    cases e : c.b.get? b with
    | none => rfl
    | some o => exact absurd (Heap.lt_size (rep.base _ _ e)) (Nat.not_lt.mpr hb)
  have nmL : ((pa.map (fun p => (p.1, some p.2)) ++ rest.map fun x => (x, (none : Option Value))).map (·.1)) = pa.map (·.1) ++ rest := by
    simp [List.map_map, Function.comp_def]
  have X : At ⟨c, n, fz, env, gl, cl⟩ (pa.map (fun p => (p.1, some p.2)) ++ rest.map fun x => (x, none)) σ (A.deeper env) { s with heap := h', toks := tk } := by
    refine ⟨ok, ⟨⟨?_, ?_, ?_, fun y hy => (eK y).trans (s3 y hy), by rw [nmL]; exact s1, fun y hy => ?_, x.apart, fun y hy => ?_, fun y hy => ?_⟩, fun z zc hp => ?_, ?_, fun z zc hp => ?_⟩, room.call, ⟨fun b o e => keep _ _ (rep.base b o e), fun b o e => ?_, rep.new, rep.dm⟩, ⟨⟨⟨_, x.toInCall.ns, fun y v hy hk => ?_⟩, fun z zc hp => ⟨_, x.cell z zc hp⟩, fun y v cc hy hk hc => ?_⟩, ?_, fun z zc hp => ?_⟩, sh.heap _ _⟩
    · rw [he]; exact hfn.kind _
    · rw [he]; exact hfn.glob _
    · rw [he]; exact hfn.bui _
    · rw [nmL] at hy
      rcases s2 y hy with e | e
      · exact .inl ((eK y).trans e)
      · refine .inr ⟨.inl ((eK y).trans e), ?_⟩
        have := cellsFrom_some (fdo a c.w.params).scope.names (s.heap.objs.size + 1) [] (.inl e)
        show ∃ cc, env.cells.lookup y = some cc
        rw [eC]; exact Option.isSome_iff_exists.mp this
    · have e := s7 y hy
      have := cellsFrom_some (fdo a c.w.params).scope.names (s.heap.objs.size + 1) [] (.inl e)
      refine ⟨?_, ?_⟩
      · show env.kindOf y ≠ _
        rw [eK, e]; decide
      · show ∃ cc, env.cells.lookup y = some cc
        rw [eC]; exact Option.isSome_iff_exists.mp this
    · rw [nmL] at hy
      obtain ⟨h1, h2⟩ := s4 y hy
      exact ⟨beq_eq_false_iff_ne.mpr h1, beq_eq_false_iff_ne.mpr h2⟩
    · exact Nat.ne_of_gt (x.above z zc (mem_of_lookup hp))
    · show c.b.get? env.locals = none; rw [eL]; exact base_ge _ (Nat.le_refl _)
    · have := x.above z zc (mem_of_lookup hp)
      rw [eL] at this
      exact base_ge _ (Nat.le_of_lt this)
    · obtain ⟨ob, g, r⟩ := rep.obj b o e; exact ⟨ob, keep _ _ g, r⟩
    · rcases List.mem_append.mp hy with hy | hy
      · obtain ⟨p, hp, e⟩ := List.mem_map.mp hy
        cases e
        rw [← hpa] at hp
        obtain ⟨q, hq, e⟩ := List.mem_map.mp hp
        subst e
        exact ⟨q.2, bindL_mem hk (by rw [bn]; exact s6) hq, rfl⟩
      · obtain ⟨p, hp, e⟩ := List.mem_map.mp hy; cases e
    · rcases List.mem_append.mp hy with hy | hy
      · obtain ⟨p, hp, e⟩ := List.mem_map.mp hy
        cases e
        rw [← hpa] at hp
        obtain ⟨q, hq, e⟩ := List.mem_map.mp hp
        subst e
        have := x.cell _ _ hc
        rw [bindC_mem hk (by rw [bn]; exact s6) hq] at this
        exact ⟨q.2, this, rfl⟩
      · obtain ⟨p, hp, e⟩ := List.mem_map.mp hy; cases e
    · show σ env.locals = none; rw [eL]; exact none_ge _ (Nat.le_refl _)
    · have := x.above z zc (mem_of_lookup hp)
      rw [eL] at this
      exact none_ge _ (Nat.le_of_lt this)
  refine wpAny_mono (h env _ _ X) (fun fl s2 t20 => ?_) fun _ _ e => e.elim
  obtain ⟨ρ', σ', r, fr, nm, kp, g, q⟩ := t20
  have hk : Kp fz σ s.heap σ' s2.heap := fun b ob e n => by
    refine kp b ob (keep _ _ e) n ?_
    have hlt := Heap.lt_size e
    rintro (e1 | ⟨z, e1⟩)
    · rw [e1, eL] at hlt; exact Nat.lt_irrefl _ hlt
    · have := x.above z b (mem_of_lookup e1)
      rw [eL] at this
      exact Nat.lt_irrefl _ (Nat.lt_trans hlt this)
  cases fl <;> exact ⟨σ', r, hk, g, q⟩

theorem WC.fn {c : Cx} {n : Nat} {fz : Addr → Prop} {a : Addr} {args : List Value} {gl cl : List Str} {pa : List (Str × Value)} {rest : List Str} {Q : Value → St → Prop} (hfn : IsFn a)
    (hsc : ∀ P, scopeOk (fdo a P).scope (pa.map (·.1) ++ rest) gl cl (pa.map (·.1)) = true)
    (hb : ∀ raw s, raw.map er = args → (KK c.w.params).In s.heap → ∃ binds, BindsTo s (fdo a c.w.params) ⟨raw, []⟩ binds ∧ binds.map (fun p => (p.1, er p.2)) = pa)
    (h : ∀ env, WS ⟨c, n, fz, env, gl, cl⟩ (pa.map (fun p => (p.1, some p.2)) ++ rest.map fun x => (x, none)) σ (execs (bodyOf (fdo a c.w.params)) env) fun fl _ σ' => Q (er (retOf fl)) σ') :
    WC c (n + 1) fz σ (.ref a) args Q := fun A s raw hraw ok room rep sh => wpAny_call (WCc.fn hfn hsc hb h A s raw hraw ok room rep sh)
end
section
variable {f : Fx} {ρ : Loc} {σ : St}

noncomputable def erF : Flow → Flow
  | .ret v => .ret (er v)
  | x => x
/-- a list of statements; one statement -/
noncomputable def SS (f : Fx) (ρ : Loc) (σ : St) (ss : List Stmt) (Q : Flow → Loc → St → Prop) : Prop := WS f ρ σ (execs ss f.env) fun fl ρ' σ' => Q (erF fl) ρ' σ'
noncomputable def S1 (f : Fx) (ρ : Loc) (σ : St) (st : Stmt) (Q : Flow → Loc → St → Prop) : Prop := WS f ρ σ (exec st f.env) fun fl ρ' σ' => Q (erF fl) ρ' σ'

theorem SS.mono {ss : List Stmt} {Q Q' : Flow → Loc → St → Prop} (h : SS f ρ σ ss Q) (k : ∀ fl ρ' σ', ρ'.map (·.1) = ρ.map (·.1) → Q fl ρ' σ' → Q' fl ρ' σ') : SS f ρ σ ss Q' := WS.mono h fun fl ρ' σ' nm q => k _ _ _ nm q
theorem SS.nil {Q : Flow → Loc → St → Prop} (h : Q .next ρ σ) : SS f ρ σ [] Q := fun _ s X => wpAny_execs_nil (X.postS rfl (KpS.refl _ _ _) h)
/-- what is asked of a statement ahead of others; of a turn of a loop; of a body -/
noncomputable abbrev SQ (f : Fx) (rest : List Stmt) (Q : Flow → Loc → St → Prop) : Flow → Loc → St → Prop := fun fl ρ' σ' => match fl with | .next => SS f ρ' σ' rest Q | fl => Q fl ρ' σ'
noncomputable abbrev LQ (I : Loc → St → Prop) (Q : Flow → Loc → St → Prop) : Flow → Loc → St → Prop := fun fl ρ' σ' => match fl with | .next | .cont => I ρ' σ' | .brk => Q .next ρ' σ' | .ret v => Q (.ret v) ρ' σ'
inductive NQ (x : Str) (ρ : Loc) (Q : Flow → Loc → St → Prop) (v : Value) (σ' : St) : Prop
  | mk (ρ' : Loc) (h : SetAt x v ρ ρ') (q : Q .next ρ' σ') : NQ x ρ Q v σ'
noncomputable abbrev XQ (ρ : Loc) (Q : Flow → Loc → St → Prop) : Value → St → Prop := fun _ σ' => Q .next ρ σ'
noncomputable abbrev VQ (ρ : Loc) (Q : Flow → Loc → St → Prop) : Value → St → Prop := fun v σ' => Q (.ret v) ρ σ'
noncomputable abbrev RQ (Q : Value → St → Prop) : Flow → Loc → St → Prop := fun fl _ σ' => Q (retOf fl) σ'
theorem SS.cons {st : Stmt} {rest : List Stmt} {Q : Flow → Loc → St → Prop} (h : S1 f ρ σ st (SQ f rest Q)) : SS f ρ σ (st :: rest) Q := fun _ s X =>
  wpAny_execs_cons (WS.use h X fun fl s1 ρ1 σ1 X1 nm k q => by
    cases fl with
    | next => exact WS.use q X1 fun fl2 s2 ρ2 σ2 X2 nm2 k2 q2 => X2.postS (nm2.trans nm) (k.trans k2) q2
    | brk => exact X1.postS nm k q
    | cont => exact X1.postS nm k q
    | ret v => exact X1.postS nm k q)

noncomputable def noComp : Expr → Bool
  | .ListComp .. | .SetComp .. | .DictComp .. => false
  | _ => true
theorem swaps_no {value : Expr} {t : Option Expr} {l : Nat} {env : Env} (h : noComp value = true) : swapsWith value t l env = pure false := by
  cases value <;> first | rfl | exact Bool.noConfusion h
theorem swapsSole_no {value : Expr} {ts : List Expr} {l : Nat} {env : Env} (h : noComp value = true) : swapsWithSole ts value l env = pure false := by
  unfold swapsWithSole
  split
  · exact swaps_no h
  · rfl

theorem S1.name {x : Str} {p p' : Pos} {value : Expr} {Q : Flow → Loc → St → Prop} (h : WV f ρ σ (eval value f.env) (NQ x ρ Q)) (hc : noComp value = true := by rfl) : S1 f ρ σ (.Assign [.Name x p'] value p) Q := fun _ s X =>
  wpAny_Assign_Name (WX.use h X fun v s1 σ1 X1 k1 t00 => by obtain ⟨ρ', hs, q⟩ := t00; exact X1.store hs fun s2 X2 k2 => X2.postS hs.names (k1.s.trans k2) q) (swaps_no hc)
theorem S1.ret {e : Expr} {p : Pos} {Q : Flow → Loc → St → Prop} (h : WV f ρ σ (eval e f.env) (VQ ρ Q)) : S1 f ρ σ (.Return (some e) p) Q := fun _ s X =>
  wpAny_Return_some (WX.use h X fun v s1 σ1 X1 k1 q => X1.postS rfl k1.s q)
theorem S1.cont {p : Pos} {Q : Flow → Loc → St → Prop} (h : Q .cont ρ σ) : S1 f ρ σ (.Continue p) Q := fun _ s X =>
  (show wpAny _ _ (do standAt p; pure Flow.cont) _ _ _ from wpAny_bind (wpAny_standAt (wpAny_pure (X.postS rfl (KpS.refl _ _ _) h))))
theorem S1.expr {e : Expr} {p : Pos} {Q : Flow → Loc → St → Prop} (h : WV f ρ σ (eval e f.env) (XQ ρ Q)) (hc : noComp e = true := by rfl) : S1 f ρ σ (.Expr e p) Q := fun _ s X =>
  wpAny_Expr_any (WX.use h X fun v s1 σ1 X1 k1 q => X1.postS rfl k1.s q) (by unfold interactive; rw [X.env.kind]; rfl) (swaps_no hc)
theorem S1.ite {test : Expr} {body orelse : List Stmt} {p : Pos} {b : Bool} {Q : Flow → Loc → St → Prop} (ht : PT f ρ σ test b) (h1 : b = true → SS f ρ σ body Q) (h2 : b = false → SS f ρ σ orelse Q) : S1 f ρ σ (.If test body orelse p) Q := fun _ s X =>
  wpAny_If (ht.useW X fun s1 X1 k1 => by
    cases b with
    | true => exact WS.use (h1 rfl) X1 fun fl s2 ρ2 σ2 X2 nm k2 q => X2.postS nm (k1.kp.s.trans k2) q
    | false => exact WS.use (h2 rfl) X1 fun fl s2 ρ2 σ2 X2 nm k2 q => X2.postS nm (k1.kp.s.trans k2) q)
/-- the truth of an expression that may make things -/
noncomputable def WT (f : Fx) (ρ : Loc) (σ : St) (e : Expr) (Q : Bool → St → Prop) : Prop := WX f ρ σ (isTrue e f.env (eval e f.env)) Q
theorem S1.iteW {test : Expr} {body orelse : List Stmt} {p : Pos} {Q : Flow → Loc → St → Prop} (ht : WT f ρ σ test fun b σ' => if b then SS f ρ σ' body Q else SS f ρ σ' orelse Q) : S1 f ρ σ (.If test body orelse p) Q := fun _ s X =>
  wpAny_If (WX.use ht X fun b s1 σ1 X1 k1 q => by
    cases b with
    | true => exact WS.use q X1 fun fl s2 ρ2 σ2 X2 nm k2 q => X2.postS nm (k1.s.trans k2) q
    | false => exact WS.use q X1 fun fl s2 ρ2 σ2 X2 nm k2 q => X2.postS nm (k1.s.trans k2) q)

inductive WI (I : Nat → Loc → St → Prop) (n : Nat) (ρ2 : Loc) (σ2 : St) : Prop
  | mk (m : Nat) (h : m < n) (i : I m ρ2 σ2) : WI I n ρ2 σ2
inductive WhQ (f : Fx) (test : Expr) (body : List Stmt) (Q' Q : Flow → Loc → St → Prop) (ρ1 : Loc) (σ1 : St) : Prop
  | mk (b : Bool) (pt : PT f ρ1 σ1 test b) (h1 : b = true → SS f ρ1 σ1 body Q') (h2 : b = false → Q .next ρ1 σ1) : WhQ f test body Q' Q ρ1 σ1
theorem S1.while {test : Expr} {body : List Stmt} {p : Pos} {Q : Flow → Loc → St → Prop} (I : Nat → Loc → St → Prop) (n : Nat) (h0 : I n ρ σ)
    (turn : ∀ n ρ1 σ1, I n ρ1 σ1 → WhQ f test body (LQ (WI I n) Q) Q ρ1 σ1) :
    S1 f ρ σ (.While test body [] p) Q := fun A s X => by
  refine wpAny_While (codeAny_whileLoop (fun n s' => (Ey2 fun ρ' σ' => Ay4 (At f ρ' σ' A s') (ρ'.map (·.1) = ρ.map (·.1)) (KpS f.fz f.env σ s.heap σ' s'.heap) (I n ρ' σ'))) ?_ n ⟨ρ, σ, X, rfl, KpS.refl _ _ _, h0⟩)
  rintro n s1 ⟨ρ1, σ1, X1, nm1, k1, hI⟩
  obtain ⟨b, ht, hb, hq⟩ := turn n ρ1 σ1 hI
  refine wpAny_mono (ht.useW X1 (P := fun b' s2 => b' = b ∧ At f ρ1 σ1 A s2 ∧ Ka s1 s2) fun s2 X2 k2 => ⟨rfl, X2, k2⟩) (fun b' s2 t10 => ?_) fun _ _ e => e.elim
  obtain ⟨e, X2, k2⟩ := t10
  subst e
  cases b' with
  | true =>
    refine wpAny_mono (WS.use (hb rfl) X2 fun fl s3 ρ3 σ3 X3 nm3 k3 q => ?_) (fun _ _ x => x) fun _ _ e => e.elim
    have kk := k1.trans (k2.kp.s.trans k3)
    cases fl with
    | next => obtain ⟨m, hm, hI'⟩ := q; exact ⟨m, hm, ρ3, σ3, X3, nm3.trans nm1, kk, hI'⟩
    | cont => obtain ⟨m, hm, hI'⟩ := q; exact ⟨m, hm, ρ3, σ3, X3, nm3.trans nm1, kk, hI'⟩
    | brk => exact X3.postS (nm3.trans nm1) kk q
    | ret v => exact X3.postS (nm3.trans nm1) kk q
  | false => exact wpAny_execs_nil (X2.postS nm1 (k1.trans k2.kp.s) (hq rfl))

/-- storing to a target -/
noncomputable def WA (f : Fx) (ρ : Loc) (σ : St) (t : Expr) (v : Value) (Q : Loc → St → Prop) : Prop := ∀ u, er u = v → WS f ρ σ (assign t f.env u) fun _ ρ' σ' => Q ρ' σ'
theorem WA.name {x : Str} {p : Pos} {v : Value} {Q : Loc → St → Prop} (h : ∃ ρ', SetAt x v ρ ρ' ∧ Q ρ' σ) : WA f ρ σ (.Name x p) v Q := fun u e A s X => by
  obtain ⟨ρ', hs, q⟩ := h
  exact wpAny_assign_Name ((X.store (e ▸ hs) fun s2 X2 k2 => X2.postS (e ▸ hs).names k2 q))
theorem WA.attr {o : Expr} {a : Str} {p : Pos} {v : Value} {C x d : Addr} {fs fs' : List (Str × Value)} {Q : Loc → St → Prop} (ho : PE f ρ σ o (.ref x)) (h1 : σ x = some (.inst C d)) (h2 : σ d = some (.ns fs)) (hc : CA C a) (hf : PutF a v fs fs') (hl : fs'.length ≤ 100) (hz : ¬ f.fz d)
    (q : Q ρ (σ.set d (.ns fs'))) : WA f ρ σ (.Attribute o a p) v Q := fun u e A s X => by
  show wpAny _ _ (do
    let ov ← holding [u] (eval o f.env)
    standAt p.atName
    holding [u, ov] (setAttr ov a u)
    release [u, ov] []) _ _ _
  exact wpAny_bind (wpAny_holding (ho.useW X fun ov s1 X1 k1 e1 => wpAny_bind (wpAny_standAt (wpAny_bind (wpAny_holding (WX.use (Ws.setA h1 h2 hc hf e e1 hl hz (Q := fun _ σ' => Q ρ σ') q) X1 fun _ s2 σ2 X2 k2 q2 => wpAny_rel (X2.postS rfl (k1.kp.trans k2).s q2)))))))
theorem S1.assign1 {t value : Expr} {p : Pos} {Q : Flow → Loc → St → Prop} (h : WV f ρ σ (eval value f.env) fun v σ' => WA f ρ σ' t v fun ρ' σ'' => Q .next ρ' σ'') (hc : noComp value = true := by rfl) (ht : ∀ x y z, t ≠ .Tuple x y z := by intro _ _ _ h; cases h) (ht2 : ∀ x y, t ≠ .List x y := by intro _ _ h; cases h) (hst : plainS t = true := by rfl) :
    S1 f ρ σ (.Assign [t] value p) Q := fun A s X => by
  rw [PyProof.Rows.exec_Assign]
  refine wpAny_bind (wpAny_standAt ?_)
  rw [swapsSole_no hc]
  refine wpAny_bind (wpAny_pure ?_)
  rw [if_neg (by decide)]
  refine wpAny_bind (WX.use h X fun u s1 σ1 X1 k1 q => ?_)
  have e1 : swappedStores [t] value f.env = pure none := by
    unfold swappedStores
    cases t <;> first | rfl | exact absurd rfl (ht _ _ _) | exact absurd rfl (ht2 _ _)
  rw [e1]
  refine wpAny_bind (wpAny_pure ?_)
  have e2 : (assignEach [t] f.env).map (·.2) = [assign t f.env] := by cases t <;> first | rfl | exact Bool.noConfusion hst
  show wpAny _ _ (do assignAll u ((assignEach [t] f.env).map (·.2)); pure Flow.next) _ _ _
  rw [e2]
  exact wpAny_bind (WS.use (q u rfl) X1 fun _ s2 ρ2 σ2 X2 nm k2 q2 => wpAny_pure (X2.postS nm (k1.s.trans k2) q2))
end
section
variable {f : Fx} {ρ : Loc} {σ : St}

theorem At.but {A : Around} {s s' : Shared} {I : Addr} (X : At f ρ σ A s) (k : ∀ b o, b ≠ I → s.heap.get? b = some o → s'.heap.get? b = some o) (hs : Sh f.c s') (h1 : σ I = none) (h2 : f.c.b.get? I = none) (h3 : ¬ fa f.env I) : At f ρ σ A s' := by
  refine ⟨X.ok, X.env, X.room, ⟨fun b o e => k b o (ne_base h2 e) (X.rep.base b o e), fun b o e => ?_, X.rep.new, X.rep.dm⟩, ?_, hs⟩
  · obtain ⟨ob, g1, g2⟩ := X.rep.obj b o e
    exact ⟨ob, k b ob (by rintro rfl; rw [h1] at e; cases e) g1, g2⟩
  · obtain ⟨⟨⟨m, ⟨o, es, ep, ho, r⟩, hv⟩, cell, celv⟩, lo, co⟩ := X.fr
    refine ⟨⟨⟨m, ⟨o, es, ep, k _ _ (fun e => h3 (.inl e.symm)) ho, r⟩, hv⟩, fun x cc hp => ?_, fun x v cc hx hk hc => ?_⟩, lo, co⟩
    · obtain ⟨u, o, ho, hd⟩ := cell x cc hp
      exact ⟨u, o, k _ _ (fun e => h3 (.inr ⟨x, e ▸ hp⟩)) ho, hd⟩
    · obtain ⟨u, ⟨o, ho, hd⟩, e⟩ := celv x v cc hx hk hc
      exact ⟨u, ⟨o, k _ _ (fun e => h3 (.inr ⟨x, e ▸ hc⟩)) ho, hd⟩, e⟩

noncomputable def ItOk (f : Fx) (D : Addr → Prop) (xs : List Value) (A : Around) (s s' : Shared) (it : Value) : Prop :=
  (Ey4 fun I fp Pv St => Ay7 (it = .ref I) (Walks prg f.c.w A I fp [I] xs.length Pv St) (St 0 s'.heap) ((∀ i v, i < xs.length → Pv i v → xs[i]? = some (er v))) ((∀ b ∈ fp, b = I ∨ D b)) (s.heap.get? I = none) ((∀ i h, St i h → ∃ o, h.get? I = some o)))
/-- iterating u gives xs, while D stands -/
noncomputable def Iter (f : Fx) (σ : St) (u : Value) (xs : List Value) (D : Addr → Prop) : Prop :=
  (∀ b, D b → σ b ≠ none ∨ f.c.b.get? b ≠ none) ∧ ∀ f' ρ A s (P : Value → Shared → Prop), f'.c = f.c → AtR f' ρ σ A s → (∀ it s', AtR f' ρ σ A s' → Ka s s' → ItOk f D xs A s s' it → P it s') → wpAny (model prg f.c.w) A (pyIter u) P NoE s

theorem push_ka (s : Shared) (o : Obj) : Ka s { s with heap := s.heap.push o } := fun b x e => Heap.get?_push_of_some _ e
theorem fresh_none (h : Heap) : h.get? h.objs.size = none := Heap.get?_none_of_le (Nat.le_refl _)
theorem listAt {c : Cx} {h : Heap} {a : Addr} {xs : List Value} (r : Rep c σ h) (ha : σ a = some (.list xs)) : ∃ its, h.IsList a its ∧ its.toList.map er = xs ∧ xs.length ≤ 1000000 ∧ ∃ n, h.get? a = some (listOf its n) := by
  obtain ⟨ob, g, its, n, e, e2, e3⟩ := r.obj _ _ ha
  subst e
  exact ⟨its, ⟨_, g, rfl, n, rfl⟩, e2, e3, n, g⟩
theorem tupAt {c : Cx} {h : Heap} {a : Addr} {xs : List Value} (r : Rep c σ h) (ha : σ a = some (.tup xs)) : ∃ its, h.IsTuple a its ∧ its.toList.map er = xs ∧ xs.length ≤ 1000000 ∧ IsTup h a its := by
  obtain ⟨ob, g, its, e, e2, e3⟩ := r.obj _ _ ha
  subst e
  exact ⟨its, ⟨_, g, rfl, 0, rfl⟩, e2, e3, ⟨_, g, rfl, 0, rfl⟩⟩
theorem getElem_er {its : Array Value} {xs : List Value} (h : its.toList.map er = xs) (i : Nat) : xs[i]? = (its[i]?).map er := by subst h; simp
theorem size_er {its : Array Value} {xs : List Value} (h : its.toList.map er = xs) : its.size = xs.length := by subst h; simp

theorem walks_len {prog : Program} {w : World} {A : Around} {I : Addr} {fp wr : List Addr} {n m : Nat} {P : Nat → Value → Prop} {St : Nat → Heap → Prop} (h : Walks prog w A I fp wr n P St) (e : n = m) : Walks prog w A I fp wr m P St := e ▸ h
theorem Iter.list {a : Addr} {xs : List Value} (ha : σ a = some (.list xs)) : Iter f σ (.ref a) xs (· = a) := by
  refine ⟨fun b e => .inl (by rw [e, ha]; simp), fun f' ρ A s P hf X k => ?_⟩
  obtain ⟨fc, fn, fzz, fe, fg, fl⟩ := f'
  obtain rfl : fc = f.c := hf
  obtain ⟨its, hl, e2, e3, n, g⟩ := listAt X.rep ha
  have hne : a ≠ s.heap.objs.size := Nat.ne_of_lt (Heap.lt_size g)
  refine wpAny_pyIter_list hl (k _ _ (X.ka (push_ka s _) (X.sh.heap _ s.toks)) (push_ka s _) ⟨s.heap.objs.size, _, _, _, rfl, walks_len (Walks.list X.room.2.2 s.heap.objs.size a hne its) (size_er e2), ⟨⟨_, Heap.get?_push_size _ rfl, rfl, rfl⟩, hl.push _⟩, fun i v hi hv => ?_, fun b hb => ?_, fresh_none _, fun i h st => ?_⟩)
  · rw [getElem_er e2, hv]; rfl
  · simpa using hb
  · obtain ⟨o, ho, _⟩ := st.1; exact ⟨o, ho⟩
theorem Iter.tup {a : Addr} {xs : List Value} (ha : σ a = some (.tup xs)) : Iter f σ (.ref a) xs (· = a) := by
  refine ⟨fun b e => .inl (by rw [e, ha]; simp), fun f' ρ A s P hf X k => ?_⟩
  obtain ⟨fc, fn, fzz, fe, fg, fl⟩ := f'
  obtain rfl : fc = f.c := hf
  obtain ⟨its, hl, e2, e3, -⟩ := tupAt X.rep ha
  have hne : a ≠ s.heap.objs.size := by obtain ⟨o, ho, _⟩ := hl; exact Nat.ne_of_lt (Heap.lt_size ho)
  have hl' : (s.heap.push { cls := .type "tuple_iterator", data := .fields #[.ref a, .int 0 0] }).IsTuple a its := by obtain ⟨o, ho, r⟩ := hl; exact ⟨o, Heap.get?_push_of_some _ ho, r⟩
  refine wpAny_pyIter_tuple hl (k _ _ (X.ka (push_ka s _) (X.sh.heap _ s.toks)) (push_ka s _) ⟨s.heap.objs.size, _, _, _, rfl, walks_len (Walks.tuple X.room.2.2 s.heap.objs.size a hne its) (size_er e2), ⟨⟨_, Heap.get?_push_size _ rfl, rfl, rfl⟩, hl'⟩, fun i v hi hv => ?_, fun b hb => ?_, fresh_none _, fun i h st => ?_⟩)
  · rw [getElem_er e2, hv]; rfl
  · simpa using hb
  · obtain ⟨o, ho, _⟩ := st.1; exact ⟨o, ho⟩
noncomputable def upto (n : Int) : List Value := (List.range n.toNat).map fun i => .int (i : Nat) 0
theorem Iter.rng {a : Addr} {n : Int} (ha : σ a = some (.rng n)) : Iter f σ (.ref a) (upto n) (fun _ => False) := by
  refine ⟨fun b e => e.elim, fun f' ρ A s P hf X k => ?_⟩
  obtain ⟨fc, fn, fzz, fe, fg, fl⟩ := f'
  obtain rfl : fc = f.c := hf
  obtain ⟨ob, g, t, u, v, e, e2, e3⟩ := X.rep.obj _ _ ha
  subst e
  have hW := Walks.range (prog := prg) (w := f.c.w) X.room.2.2 s.heap.objs.size 0 1 n.toNat
  refine wpAny_pyIter_range (a := 0) (b := n) (c := 1) g (small_one (by kspl_open wln) (by kspl_open wln) (by kspl_open wln) (by kspl_open wln)) (k _ _ (X.ka (push_ka s _) (X.sh.heap _ s.toks)) (push_ka s _) ⟨s.heap.objs.size, _, _, _, rfl, (by rw [show (upto n).length = n.toNat by simp [upto]]; exact hW), ?_, fun i v hi hv => ?_, fun b hb => ?_, fresh_none _, fun i h st => ⟨_, st⟩⟩)
  · have : ((n : Int) - 0).toNat = n.toNat := by simp
    rw [PyProof.Rows.rangeSize_nat, this]
    show Heap.get? _ _ = _
    rw [Heap.get?_push_size _ rfl]
    simp [rawInt]
  · obtain ⟨t, rfl⟩ := hv
    have h : i < n.toNat := by simpa [upto] using hi
    simp [upto, h, er]
  · left; simpa using hb

theorem dicAt {c : Cx} {h : Heap} {a : Addr} {kvs : List (Int × Value)} (r : Rep c σ h) (ha : σ a = some (.dic kvs)) : ∃ raw, h.DictOf (intKind prg c.w) a raw ∧ raw.map (fun p => (p.1, er p.2)) = kvs ∧ kvs.length ≤ 1000000 := by
  obtain ⟨ob, g, raw, e, e2, e3⟩ := r.obj _ _ ha
  exact ⟨raw, Heap.dictOf_iff.mpr ⟨ob, g, e⟩, e2, e3⟩
theorem Iter.dic {a : Addr} {kvs : List (Int × Value)} (ha : σ a = some (.dic kvs)) : Iter f σ (.ref a) (kvs.map fun p => .int p.1 0) (· = a) := by
  refine ⟨fun b e => .inl (by rw [e, ha]; simp), fun f' ρ A s P hf X k => ?_⟩
  obtain ⟨fc, fn, fzz, fe, fg, fl⟩ := f'
  obtain rfl : fc = f.c := hf
  obtain ⟨raw, hl, e2, e3⟩ := dicAt X.rep ha
  obtain ⟨ep, hd⟩ := hl.dictAt
  have hne : a ≠ s.heap.objs.size := Nat.ne_of_lt hd.lt_size
  have len : raw.length = (kvs.map fun p => Value.int p.1 0).length := by subst e2; simp
  refine wpAny_pyIter_dict (X.rep.dm _ _ ha) hd (k _ _ (X.ka (push_ka s _) (X.sh.heap _ s.toks)) (push_ka s _) ⟨s.heap.objs.size, _, _, _, rfl, walks_len (Walks.dictKeys (knd := intKind prg f.c.w) X.room.2.2 s.heap.objs.size a hne raw ep) len, ⟨⟨_, Heap.get?_push_size _ rfl, rfl, rfl⟩, hd.push _⟩, fun i v hi hv => ?_, fun b hb => ?_, fresh_none _, fun i h st => ?_⟩)
  · obtain ⟨kk, x, h1, h2⟩ := hv
    obtain ⟨t, rfl⟩ := Value.isInt_shape h2
    subst e2
    simp [h1, er]
  · simpa using hb
  · obtain ⟨o, ho, _⟩ := st.1; exact ⟨o, ho⟩


theorem At.refz {A : Around} {s : Shared} {fz : Addr → Prop} (X : At f ρ σ A s) : At { f with fz := fz } ρ σ A s := ⟨X.ok, ⟨⟨X.env.kind, X.env.gs, X.env.bs, X.env.glob, X.env.nd, X.env.kinds, X.env.apart, X.env.cls, X.env.dbg⟩, X.env.lc, X.env.lb, X.env.cb⟩, X.room, X.rep, X.fr, X.sh⟩
theorem At.refz' {A : Around} {s : Shared} {fz : Addr → Prop} (X : At { f with fz := fz } ρ σ A s) : At f ρ σ A s := ⟨X.ok, ⟨⟨X.env.kind, X.env.gs, X.env.bs, X.env.glob, X.env.nd, X.env.kinds, X.env.apart, X.env.cls, X.env.dbg⟩, X.env.lc, X.env.lb, X.env.cb⟩, X.room, X.rep, X.fr, X.sh⟩
theorem KpS.weak {fz fz' : Addr → Prop} {env : Env} {σ σ' : St} {h h' : Heap} (k : KpS fz' env σ h σ' h') (i : ∀ a, fz a → fz' a) : KpS fz env σ h σ' h' := fun a o e n f => k a o e (n.imp id (i a)) f
noncomputable abbrev Fx.more (f : Fx) (D : Addr → Prop) : Fx := { f with fz := fun a => f.fz a ∨ D a }

theorem S1.for {target iter : Expr} {body : List Stmt} {p : Pos} {Q : Flow → Loc → St → Prop}
    (h : WV f ρ σ (eval iter f.env) fun v σ1 => (Ey3 fun xs D a => Ay3 (v = .ref a) (Iter f σ1 (.ref a) xs D) ((Ey1 fun (I : Nat → Loc → St → Prop) => Ay3 (I 0 ρ σ1) ((∀ i x ρ2 σ2, xs[i]? = some x → ρ2.map (·.1) = ρ.map (·.1) → I i ρ2 σ2 → WA (f.more D) ρ2 σ2 target x fun ρ3 σ3 => SS (f.more D) ρ3 σ3 body (LQ (I (i + 1)) Q))) ((∀ ρ2 σ2, ρ2.map (·.1) = ρ.map (·.1) → I xs.length ρ2 σ2 → Q .next ρ2 σ2))))))
    (hns : ∀ x, foldedSetIterable iter f.env x = Pure.pure x := by intro _; rfl) (ht : ∀ x y z, target ≠ .Tuple x y z := by intro _ _ _ h; cases h) (ht2 : ∀ x y, target ≠ .List x y := by intro _ _ h; cases h) : S1 f ρ σ (.For target iter body [] p) Q := fun A s X => by
  refine wpAny_For (WX.use h X fun v s1 σ1 X1 k1 t00 => ?_) hns
  obtain ⟨xs, D, a, e1, hit, I, hI0, hturn, hend⟩ := t00
  rw [er_ref e1]
  obtain ⟨hD, hit⟩ := hit
  refine hit f ρ A s1 _ rfl X1.r fun it s2 X2r k2 t10 => ?_
  obtain ⟨J, fp, Pv, St, e2, W, hst, hPv, hfp, hJ, hex⟩ := t10
  have X2 := X1.ka k2 X2r.sh
  subst e2
  have kk : KpS f.fz f.env σ s.heap σ1 s2.heap := k1.s.trans k2.kp.s
  have J1 : σ1 J = none := by
    cases e : σ1 J with
    | none => rfl
    | some o => obtain ⟨ob, g, _⟩ := X1.rep.obj _ _ e; rw [hJ] at g; cases g
  have Jb : f.c.b.get? J = none := by
    cases e : f.c.b.get? J with
    | none => rfl
    | some o => rw [X1.rep.base _ _ e] at hJ; cases hJ
  have Jf : ¬ fa f.env J := by
    rintro (e | ⟨x, e⟩)
    · obtain ⟨m, ⟨o, es, ep, ho, _⟩, _⟩ := X1.fr.loc
      rw [← e, hJ] at ho; cases ho
    · obtain ⟨u, o, ho, _⟩ := X1.fr.cell x J e
      rw [hJ] at ho; cases ho
  have Js : ∀ o, s.heap.get? J = some o → σ J = none → False := by
    intro o e n
    have := (k1 J o e (.inl n)).1
    rw [hJ] at this; cases this
  have Db : ∀ b, D b → ¬ fa f.env b := by
    intro b hb
    rcases hD b hb with q | q
    · rintro (e | ⟨x, e⟩)
      · exact q (e ▸ X1.fr.lo)
      · exact q (X1.fr.co x b e)
    · rintro (e | ⟨x, e⟩)
      · exact q (e ▸ X1.env.lb)
      · exact q (X1.env.cb x b e)
  let R : Nat → Shared → Prop := fun n s' => (Ey3 fun i ρ' σ' => Ay8 (n = xs.length - i) (i ≤ xs.length) (At (f.more D) ρ' σ' A s') (ρ'.map (·.1) = ρ.map (·.1)) (KpS f.fz f.env σ s.heap σ' s'.heap) (I i ρ' σ') (St i s'.heap) (σ' J = none))
  refine codeAny_forLoop R ?_ xs.length
    ⟨0, ρ, σ1, rfl, Nat.zero_le _, X2.refz, rfl, kk, hI0, hst, J1⟩ (fun v => by unfold letOwnedTupleGo; cases target <;> first | rfl | exact absurd rfl (ht _ _ _) | exact absurd rfl (ht2 _ _))
  rintro n s3 ⟨i, ρ3, σ3, rfl, hi, X3, nm3, k3, hI, hst3, J3⟩
  have Jkeep : ∀ s4 : Shared, (∀ b o, b ∉ [J] → s3.heap.get? b = some o → s4.heap.get? b = some o) → Sh f.c s4 → At (f.more D) ρ3 σ3 A s4 ∧ KpS f.fz f.env σ s.heap σ3 s4.heap := fun s4 hk sh => by
    refine ⟨X3.but (I := J) (fun b o hb e => hk b o (by simpa using hb) e) sh J3 Jb Jf, fun b o e n hf => ?_⟩
    obtain ⟨q1, q2⟩ := k3 b o e n hf
    refine ⟨hk b o ?_ q1, q2⟩
    intro hb
    obtain rfl : b = J := by simpa using hb
    rcases n with n | n
    · exact Js o e n
    · have := (k1 b o e (.inr n)).1
      rw [hJ] at this; cases this
  by_cases hlt : i < xs.length
  · refine W.item i s3 _ _ hlt hst3 fun v h' tk hv hst' hk => ?_
    obtain ⟨X4, k4⟩ := Jkeep { s3 with heap := h', toks := tk } hk (X3.sh.heap _ _)
    have hx := hPv i v hlt hv
    refine wpAny_mono (WS.use (f := f.more D) (hturn i _ ρ3 σ3 hx nm3 hI v rfl) X4 (P := fun _ s5 => (Ey2 fun ρ5 σ5 => Ay4 (At (f.more D) ρ5 σ5 A s5) (ρ5.map (·.1) = ρ3.map (·.1)) (KpS (f.more D).fz f.env σ3 h' σ5 s5.heap) (SS (f.more D) ρ5 σ5 body (LQ (I (i + 1)) Q))))
      fun _ s5 ρ5 σ5 X5 nm5 k5 q5 => ⟨ρ5, σ5, X5, nm5, k5, q5⟩) (fun _ s5 ⟨ρ5, σ5, X5, nm5, k5, q5⟩ => ?_) fun _ _ e => e.elim
    refine wpAny_mono (WS.use (f := f.more D) q5 X5 fun fl s6 ρ6 σ6 X6 nm6 k6 q6 => ?_) (fun _ _ x => x) fun _ _ e => e.elim
    have k7 : KpS (f.more D).fz f.env σ3 h' σ6 s6.heap := k5.trans k6
    have kA := k4.trans (k7.weak fun a ha => .inl ha)
    have nmA := nm6.trans (nm5.trans nm3)
    have next : I (i + 1) ρ6 σ6 → ∃ m, m < xs.length - i ∧ R m s6 := fun hI' => by
      obtain ⟨oJ, hoJ⟩ := hex _ _ hst'
      obtain ⟨q1, q2⟩ := k7 J oJ hoJ (.inl J3) Jf
      refine ⟨xs.length - (i + 1), Nat.sub_lt_sub_left hlt (Nat.lt_succ_self i), i + 1, ρ6, σ6, rfl, hlt, X6, nmA, kA, hI', W.frame _ _ _ hst' fun b hb o e => ?_, q2.trans J3⟩
      rcases hfp b hb with rfl | hb
      · rw [hoJ] at e; cases e; exact q1
      · exact (k7 b o e (.inr (.inr hb)) (Db b hb)).1
    cases fl with
    | next => exact next q6
    | cont => exact next q6
    | brk => exact X6.refz'.postS nmA kA q6
    | ret v => exact X6.refz'.postS nmA kA q6
  · have hi' : i = xs.length := by kspl_open wln
    subst hi'
    refine W.done s3 _ _ hst3 fun h' tk hk => ?_
    obtain ⟨X4, k4⟩ := Jkeep { s3 with heap := h', toks := tk } hk (X3.sh.heap _ _)
    exact wpAny_execs_nil (X4.refz'.postS nm3 k4 (hend ρ3 σ3 nm3 hI))
end
section
variable {f : Fx} {ρ : Loc} {σ : St}

/-! comprehensions -/
noncomputable def freeOf (sc : Scope) : List Str := (sc.names.filter fun p => p.2 == .free).map (·.1)
noncomputable def clOf (env : Env) (ns : List (Str × NameKind)) : List (Str × Addr) := ((ns.filter fun p => p.2 == .free).map fun p => (p.1, (env.cells.lookup p.1).getD 0)).reverse

theorem closureFor_eq {sc : Scope} {env : Env} (h : ∀ x ∈ freeOf sc, ∃ c, env.cells.lookup x = some c) : closureFor sc env = Pure.pure (clOf env sc.names) := by
  have go : ∀ (ns : List (Str × NameKind)) (acc : List (Str × Addr)), (∀ p ∈ ns, p.2 = .free → ∃ c, env.cells.lookup p.1 = some c) →
      (forIn (m := Sem) ns acc fun p cs => if p.2 == .free then (do let a ← cellOf env p.1; Pure.pure (ForInStep.yield ((p.1, a) :: cs))) else Pure.pure (ForInStep.yield cs)) = Pure.pure (clOf env ns ++ acc) := by
    intro ns
    induction ns with
    | nil => intro acc _; rfl
    | cons p r ih =>
      intro acc hp
      rw [List.forIn_cons]
      by_cases hk : p.2 = .free
      · obtain ⟨c, hc⟩ := hp p List.mem_cons_self hk
        have e1 : (p.2 == NameKind.free) = true := by simp [hk]
        simp only [e1, if_true]
        have e2 : cellOf env p.1 = Pure.pure c := by unfold cellOf; rw [hc]
        rw [e2]
        simp only [pure_bind]
        rw [ih _ fun q hq => hp q (List.mem_cons_of_mem _ hq)]
        simp [clOf, hk, hc]
      · have e1 : (p.2 == NameKind.free) = false := by simp [hk]
        simp only [e1, Bool.false_eq_true, if_false, pure_bind]
        rw [ih _ fun q hq => hp q (List.mem_cons_of_mem _ hq)]
        simp [clOf, hk]
  have := go sc.names [] fun p hp hk => h p.1 (List.mem_map.mpr ⟨p, List.mem_filter.mpr ⟨hp, by simp [hk]⟩, rfl⟩)
  rw [List.append_nil] at this
  unfold closureFor
  rw [← this]
  simp only [bind_pure]

theorem lookup_relabel_global {env : Env} : ∀ {names : List (Str × NameKind)} {x : Str}, names.lookup x = some .globalImplicit →
    (names.map fun (n, k) => if (k == NameKind.free && env.scope.kind == .function && env.kindOf n == some .cell) then (n, NameKind.cell) else (n, k)).lookup x = some .globalImplicit
  | [], _, h => by simp at h
  | (n, k) :: r, x, h => by
    have ih := @lookup_relabel_global env r x
    show List.lookup x ((if (k == NameKind.free && env.scope.kind == .function && env.kindOf n == some .cell) = true then (n, NameKind.cell) else (n, k)) :: _) = _
    cases hx : x == n with
    | true =>
      simp only [List.lookup_cons, hx] at h
      cases h
      simp [List.lookup_cons, hx]
    | false =>
      simp only [List.lookup_cons, hx] at h
      split <;> (simp only [List.lookup_cons, hx]; exact ih h)
theorem lookup_relabel_free {env : Env} : ∀ {names : List (Str × NameKind)} {x : Str}, names.lookup x = some .free →
    let l := (names.map fun (n, k) => if (k == NameKind.free && env.scope.kind == .function && env.kindOf n == some .cell) then (n, NameKind.cell) else (n, k)).lookup x
    l = some .cell ∨ l = some .free
  | [], _, h => by simp at h
  | (n, k) :: r, x, h => by
    have ih := @lookup_relabel_free env r x
    show List.lookup x ((if (k == NameKind.free && env.scope.kind == .function && env.kindOf n == some .cell) = true then (n, NameKind.cell) else (n, k)) :: _) = _ ∨ List.lookup x ((if (k == NameKind.free && env.scope.kind == .function && env.kindOf n == some .cell) = true then (n, NameKind.cell) else (n, k)) :: _) = _
    cases hx : x == n with
    | true =>
      simp only [List.lookup_cons, hx] at h
      split
      · left; simp [List.lookup_cons, hx]
      · right; simp only [List.lookup_cons, hx]; exact h
    | false =>
      simp only [List.lookup_cons, hx] at h
      split <;> (simp only [List.lookup_cons, hx]; exact ih h)

theorem clOf_lookup {env : Env} {y : Str} : ∀ {ns : List (Str × NameKind)} {c : Addr}, (∀ p ∈ ns, p.2 = .free → ∃ c, env.cells.lookup p.1 = some c) → (clOf env ns).lookup y = some c → env.cells.lookup y = some c := by
  intro ns c h e
  have hm := mem_of_lookup e
  unfold clOf at hm
  rw [List.mem_reverse] at hm
  obtain ⟨p, hp, e2⟩ := List.mem_map.mp hm
  obtain ⟨hp1, hp2⟩ := List.mem_filter.mp hp
  cases e2
  obtain ⟨c, hc⟩ := h p hp1 (by simpa using hp2)
  rw [hc]; rfl
theorem clOf_has {env : Env} {y : Str} {ns : List (Str × NameKind)} (h : y ∈ (ns.filter fun p => p.2 == .free).map (·.1)) : ∃ c, (clOf env ns).lookup y = some c := by
  have : y ∈ (clOf env ns).map (·.1) := by
    unfold clOf
    rw [List.map_reverse, List.mem_reverse, List.map_map]
    exact h
  obtain ⟨p, hp, rfl⟩ := List.mem_map.mp this
  have go : ∀ l : List (Str × Addr), p ∈ l → ∃ c, l.lookup p.1 = some c := by
    intro l
    induction l with
    | nil => intro h; cases h
    | cons q r ih =>
      intro h
      rw [List.lookup_cons]
      cases hb : p.1 == q.1 with
      | true => exact ⟨_, rfl⟩
      | false =>
        rcases List.mem_cons.mp h with e | h
        · subst e; simp at hb
        · exact ih h
  exact go _ hp
theorem lookup_free_mem {y : Str} : ∀ {ns : List (Str × NameKind)}, ns.lookup y = some .free → y ∈ (ns.filter fun p => p.2 == .free).map (·.1) := by
  intro ns h
  have hm := mem_of_lookup h
  exact List.mem_map.mpr ⟨_, List.mem_filter.mpr ⟨hm, rfl⟩, rfl⟩

theorem clOf_apart {env : Env} {ns : List (Str × NameKind)} (hap : env.cells.Pairwise fun x y => x.2 ≠ y.2) (hnd : ((ns.filter fun p => p.2 == .free).map (·.1)).Nodup) (hc : ∀ p ∈ ns, p.2 = .free → ∃ c, env.cells.lookup p.1 = some c) :
    (clOf env ns).Pairwise fun x y => x.2 ≠ y.2 := by
  unfold clOf
  rw [List.pairwise_reverse, List.pairwise_map]
  have h1 : (ns.filter fun p => p.2 == .free).Pairwise fun a b => a.1 ≠ b.1 := by
    have := List.pairwise_map.mp hnd
    exact this
  have h2 : ∀ p ∈ ns.filter fun p => p.2 == .free, ∃ c, env.cells.lookup p.1 = some c := fun p hp => hc p (List.mem_filter.mp hp).1 (by simpa using (List.mem_filter.mp hp).2)
  generalize (ns.filter fun p => p.2 == .free) = l at h1 h2
  induction l with
  | nil => exact List.Pairwise.nil
  | cons p r ih =>
    obtain ⟨a, b⟩ := List.pairwise_cons.mp h1
    refine List.pairwise_cons.mpr ⟨fun q hq => ?_, ih b fun q hq => h2 q (List.mem_cons_of_mem _ hq)⟩
    obtain ⟨c, hc⟩ := h2 p List.mem_cons_self
    obtain ⟨c', hc'⟩ := h2 q (List.mem_cons_of_mem _ hq)
    rw [hc, hc']
    intro e
    have e : c' = c := e
    subst e
    exact a q hq (name_of_addr hap (mem_of_lookup hc) (mem_of_lookup hc'))

/-- the frame of a comprehension, to read it -/
noncomputable def tests (ifs : List Expr) (env : Env) : Sem Bool := forIn ifs true fun c r => if r = true then do let ok ← isTrue c env (eval c env); Pure.pure (ForInStep.yield ok) else Pure.pure (ForInStep.yield r)
theorem tests_nil : Pb f ρ σ (tests [] f.env) true := Pb.mk fun _ s _ X k => by
  unfold tests; rw [List.forIn_nil]; exact wpAny_pure (k s X (Ka.refl s))
theorem tests_one {c : Expr} {b : Bool} (h : PT f ρ σ c b) : Pb f ρ σ (tests [c] f.env) b := Pb.mk fun _ s _ X k => by
  unfold tests
  rw [List.forIn_cons]
  refine wpAny_bind ?_
  rw [if_pos rfl]
  refine wpAny_bind (h.use X fun s1 X1 k1 => wpAny_pure ?_)
  dsimp only
  rw [List.forIn_nil]
  exact wpAny_pure (k s1 X1 k1)

noncomputable abbrev inC (f : Fx) (os : OsState) (dr : Drawn) (gn : Array GenState) (env : Env) (gl cl : List Str) : Fx := ⟨⟨f.c.w, f.c.b, os, dr, gn⟩, f.n, f.fz, env, gl, cl⟩
noncomputable def CompEl (f : Fx) (σ : St) (x : Str) (fr : List (Str × Value)) (gl : List Str) (ifs : List Expr) (elt : Expr) (xs : List Value) (pc : Value → Bool) (g : Value → Value) : Prop :=
  ∀ os dr gn env v, v ∈ xs → Pb (inC f os dr gn env gl (fr.map (·.1))) ((x, some v) :: fr.map fun p => (p.1, some p.2)) σ (tests ifs env) (pc v) ∧
    (pc v = true → PE (inC f os dr gn env gl (fr.map (·.1))) ((x, some v) :: fr.map fun p => (p.1, some p.2)) σ elt (g v))

theorem At.newObj {A : Around} {s1 s' : Shared} {b : Addr} {o : AO} {ob : Obj} (X : At f ρ σ A s1) (kk : Ka s1 s') (sh : Sh f.c s') (hb0 : s1.heap.get? b = none) (ho : s'.heap.get? b = some ob) (hr : ORel f.c o ob) (hnd : ∀ kvs, o = .dic kvs → (b == sysModules) = false) :
    At f ρ (σ.set b o) A s' ∧ Kp f.fz σ s1.heap (σ.set b o) s'.heap ∧ σ b = none := by
  have X3 := X.ka kk sh
  have hσ : σ b = none := by
    cases e : σ b with
    | none => rfl
    | some o => obtain ⟨ob, g1, _⟩ := X.rep.obj _ _ e; rw [hb0] at g1; cases g1
  have hbb : f.c.b.get? b = none := by
    cases e : f.c.b.get? b with
    | none => rfl
    | some o => rw [X.rep.base _ _ e] at hb0; cases hb0
  have kp : Kp f.fz σ s1.heap (σ.set b o) s'.heap := fun c x e n => ⟨kk c x e, by rw [St.set_ne]; rintro rfl; rw [hb0] at e; cases e⟩
  refine ⟨X.step ⟨X3.rep.base, fun c x e => ?_, fun c x e => ?_, fun c kvs e => ?_⟩ kp X3.sh, kp, hσ⟩
  · by_cases hc : c = b
    · subst hc; rw [St.set_same] at e; cases e
      exact ⟨_, ho, hr⟩
    · rw [St.set_ne σ _ hc] at e; exact X3.rep.obj c x e
  · by_cases hc : c = b
    · subst hc; exact hbb
    · rw [St.set_ne σ _ hc] at e; exact X3.rep.new c x e
  · by_cases hc : c = b
    · subst hc; rw [St.set_same] at e; cases e; exact hnd _ rfl
    · rw [St.set_ne σ _ hc] at e; exact X3.rep.dm c kvs e
end
section
variable {f : Fx} {ρ : Loc} {σ : St}

/-! items -/
noncomputable def plainSl : Expr → Bool
  | .Slice .. => false
  | _ => true
theorem subscripted_plain {sl : Expr} {o i : Value} (h : plainSl sl = true) : subscripted sl false o i = operate [o, i] (getItem o i) := by
  cases sl <;> first | rfl | exact Bool.noConfusion h
noncomputable def Itm (f : Fx) (ρ : Loc) (σ : St) (o k v : Value) : Prop := ∀ (value slice : Expr), plainSl slice = true → ∀ u w, er u = o → er w = k → Pr f ρ σ (subscriptTail value slice u w) v
theorem PE.item {value slice : Expr} {p : Pos} {o k v : Value} (hv : PE f ρ σ value o) (hk : PE f ρ σ slice k) (hi : Itm f ρ σ o k v) (hp : plainSl slice = true := by rfl) : PE f ρ σ (.Subscript value slice p) v :=
  Pr.mk fun _ _ _ X k => Subscript_ (hv.use X fun u _ X1 k1 e1 => hk.use X1 fun w _ X2 k2 e2 => (hi value slice hp u w e1 e2).use X2 fun r _ X3 k3 e3 => k r _ X3 (k1.trans (k2.trans k3)) e3)

theorem Itm.list {a : Addr} {xs : List Value} {i : Int} {v : Value} (ha : σ a = some (.list xs)) (h0 : 0 ≤ i) (hx : xs[i.toNat]? = some v) : Itm f ρ σ (.ref a) (.int i 0) v := fun value slice hp u w e1 e2 => by
  rw [er_ref e1]; obtain ⟨t, rfl⟩ := er_int e2
  refine Pr.mk fun _ s _ X k => ?_
  obtain ⟨its, hl, h2, h3, -⟩ := listAt X.rep ha
  rw [getElem_er h2] at hx
  obtain ⟨r, hr, er⟩ := Option.map_eq_some_iff.mp hx
  have : i.toNat < its.size := by
    by_cases h : i.toNat < its.size
    · exact h
    · rw [Array.getElem?_eq_none (by kspl_open wln)] at hr; cases hr
  have hz := size_er h2
  exact tail_any hl.typeIs slot_list_getitem.lookup (wpAny_getItem_list hl h0 (by kspl_open wln) hr (k _ _ X (Ka.refl _) er)) (subscripted_plain hp)
theorem Itm.listN {a : Addr} {xs : List Value} {i : Int} {v : Value} (ha : σ a = some (.list xs)) (h0 : i < 0) (h1 : -(xs.length : Int) ≤ i) (hx : xs[(i + xs.length).toNat]? = some v) : Itm f ρ σ (.ref a) (.int i 0) v := fun value slice hp u w e1 e2 => by
  rw [er_ref e1]; obtain ⟨t, rfl⟩ := er_int e2
  refine Pr.mk fun _ s _ X k => ?_
  obtain ⟨its, hl, h2, h3, -⟩ := listAt X.rep ha
  rw [← size_er h2] at h1 hx
  rw [getElem_er h2] at hx
  obtain ⟨r, hr, er⟩ := Option.map_eq_some_iff.mp hx
  have hz := size_er h2
  exact tail_any hl.typeIs slot_list_getitem.lookup (wpAny_getItem_list_neg hl h0 h1 (by kspl_open wln) hr (k _ _ X (Ka.refl _) er)) (subscripted_plain hp)
theorem seqIndex_ok {i n : Nat} (h : i < n) : seqIndex? i n = some i := by
  unfold seqIndex?; simp; kspl_open wln
theorem Itm.tup {a : Addr} {xs : List Value} {i : Nat} {v : Value} (ha : σ a = some (.tup xs)) (hx : xs[i]? = some v) : Itm f ρ σ (.ref a) (.int i 0) v := fun value slice hp u w e1 e2 => by
  rw [er_ref e1]; obtain ⟨t, rfl⟩ := er_int e2
  refine Pr.mk fun _ s _ X k => ?_
  obtain ⟨its, -, h2, h3, hl⟩ := tupAt X.rep ha
  rw [getElem_er h2] at hx
  obtain ⟨r, hr, er⟩ := Option.map_eq_some_iff.mp hx
  have hlt : i < its.size := by
    by_cases h : i < its.size
    · exact h
    · rw [Array.getElem?_eq_none (by kspl_open wln)] at hr; cases hr
  have hz := size_er h2
  exact tail_any hl.typeIs slot_tuple_getitem.lookup (PyProof.Rows.getItem_tuple hl (by kspl_open wln) (by kspl_open wln) (seqIndex_ok hlt) hr (k _ _ X (Ka.refl _) er)) (subscripted_plain hp)
theorem valueAt_er {raw : List (Int × Value)} {kvs : List (Int × Value)} (h : raw.map (fun p => (p.1, er p.2)) = kvs) (k : Int) : valueAt kvs k = (valueAt raw k).map er := by
  subst h
  unfold valueAt
  rw [List.find?_map]
  show Option.map _ (Option.map _ (raw.find? fun kv => decide (kv.1 = k))) = _
  cases raw.find? (fun kv => decide (kv.1 = k)) <;> rfl
theorem Itm.dic {a : Addr} {kvs : List (Int × Value)} {i : Int} {v : Value} (ha : σ a = some (.dic kvs)) (hx : valueAt kvs i = some v) : Itm f ρ σ (.ref a) (.int i 0) v := fun value slice hp u w e1 e2 => by
  rw [er_ref e1]; obtain ⟨t, rfl⟩ := er_int e2
  refine Pr.mk fun _ s _ X k => ?_
  obtain ⟨raw, hl, h2, h3⟩ := dicAt X.rep ha
  rw [valueAt_er h2] at hx
  obtain ⟨r, hr, er⟩ := Option.map_eq_some_iff.mp hx
  exact tail_any hl.typeIs slot_dict_getitem.lookup (wpAny_getItem_of (knd := intKind prg f.c.w) (k := i) (by simp [intKind, Value.isInt]) hl.mapOf hr (k _ _ (X.tok _) (Ka.refl _) er)) (subscripted_plain hp)

/-! in, not in -/
theorem Cmp.inD {a : Addr} {kvs : List (Int × Value)} {i : Int} (ha : σ a = some (.dic kvs)) : Cmp f ρ σ .In (.int i 0) (.ref a) (valueAt kvs i).isSome := fun u w e1 e2 => by
  rw [er_ref e2]; obtain ⟨t, rfl⟩ := er_int e1
  refine Pr.mk fun _ s _ X k => ?_
  obtain ⟨raw, hl, h2, h3⟩ := dicAt X.rep ha
  exact wpAny_in_of (knd := intKind prg f.c.w) (k := i) (by simp [intKind, Value.isInt]) (X.rep.dm _ _ ha) hl.mapOf (k _ _ (X.tok _) (Ka.refl _) (by rw [valueAt_er h2]; simp [er]))
theorem Cmp.notInD {a : Addr} {kvs : List (Int × Value)} {i : Int} (ha : σ a = some (.dic kvs)) : Cmp f ρ σ .NotIn (.int i 0) (.ref a) (!(valueAt kvs i).isSome) := fun u w e1 e2 => by
  rw [er_ref e2]; obtain ⟨t, rfl⟩ := er_int e1
  refine Pr.mk fun _ s _ X k => ?_
  obtain ⟨raw, hl, h2, h3⟩ := dicAt X.rep ha
  exact wpAny_notIn_of (knd := intKind prg f.c.w) (k := i) (by simp [intKind, Value.isInt]) (X.rep.dm _ _ ha) hl.mapOf (k _ _ (X.tok _) (Ka.refl _) (by rw [valueAt_er h2]; simp [er]))
noncomputable abbrev intL (ns : List Int) : List Value := ns.map fun n => .int n 0
theorem intsAre_of : ∀ {vs : List Value} {ns : List Int}, vs.map er = intL ns → IntsAre vs ns
  | [], [], _ => .nil
  | [], _ :: _, h => by cases h
  | _ :: _, [], h => by cases h
  | v :: vs, n :: ns, h => by
    simp only [intL, List.map_cons, List.cons.injEq] at h
    obtain ⟨t, rfl⟩ := er_int h.1
    exact .cons n t (intsAre_of h.2)
theorem Cmp.inT {a : Addr} {ns : List Int} {i : Int} (ha : σ a = some (.tup (intL ns))) : Cmp f ρ σ .In (.int i 0) (.ref a) (ns.any (· == i)) := fun u w e1 e2 => by
  rw [er_ref e2]; obtain ⟨t, rfl⟩ := er_int e1
  refine Pr.mk fun _ s _ X k => ?_
  obtain ⟨its, -, h2, h3, hl⟩ := tupAt X.rep ha
  exact in_tuple_ints hl (intsAre_of h2) (k _ _ X (Ka.refl _) rfl)
theorem Cmp.notInT {a : Addr} {ns : List Int} {i : Int} (ha : σ a = some (.tup (intL ns))) : Cmp f ρ σ .NotIn (.int i 0) (.ref a) (!(ns.any (· == i))) := fun u w e1 e2 => by
  rw [er_ref e2]; obtain ⟨t, rfl⟩ := er_int e1
  refine Pr.mk fun _ s _ X k => ?_
  obtain ⟨its, -, h2, h3, hl⟩ := tupAt X.rep ha
  exact notin_tuple_ints hl (intsAre_of h2) (k _ _ X (Ka.refl _) rfl)
theorem Cmp.notInL {a : Addr} {ns : List Int} {i : Int} (ha : σ a = some (.list (intL ns))) : Cmp f ρ σ .NotIn (.int i 0) (.ref a) (!(ns.any (· == i))) := fun u w e1 e2 => by
  rw [er_ref e2]; obtain ⟨t, rfl⟩ := er_int e1
  refine Pr.mk fun _ s _ X k => ?_
  obtain ⟨its, hl, h2, h3, -⟩ := listAt X.rep ha
  exact notin_list_ints (vs := its.toList) (by simpa using hl) (intsAre_of h2) (k _ _ X (Ka.refl _) rfl)

/-! len, truth -/
theorem Tru.list {a : Addr} {xs : List Value} (ha : σ a = some (.list xs)) : Tru f ρ σ (.ref a) (!xs.isEmpty) := fun u e => by
  rw [er_ref e]
  refine Pb.mk fun _ s _ X k => ?_
  obtain ⟨its, hl, h2, h3, -⟩ := listAt X.rep ha
  have hz := size_er h2
  have : (!its.isEmpty) = (!xs.isEmpty) := by subst h2; simp
  exact wpAny_truthy_list hl (by kspl_open wln) (this ▸ k _ (X.tok _) (Ka.refl _))
theorem plE {e : Expr} {es : List Expr} (h : (e :: es).all plainS = true) : plainS e = true ∧ es.all plainS = true := by rw [List.all_cons, Bool.and_eq_true] at h; exact h
/-- a pure call of a builtin of one argument -/
theorem PE.call1 {func e : Expr} {p : Pos} {b : String} {v c : Value} (hf : PE f ρ σ func (.builtin b)) (he : PE f ρ σ e v) (hc : ∀ u, er u = v → Pr f ρ σ (call (.builtin b) [u]) c) (hfn : notAttr func = true := by rfl) (hes : plainS e = true := by rfl) :
    PE f ρ σ (.Call func [e] [] p) c := Pr.mk fun _ s _ X k => by
  rw [eval_Call hfn]
  refine wpAny_bind (hf.use X fun u _ X1 k1 e1 => ?_)
  rw [er_builtin e1]
  refine callWith_builtin (backTo_plain (es := [e]) (by simp [hes])) (evalArgs_all (es := [e]) (by simp [hes]) ?_)
  rw [starEach_plain hes]
  show wpAny _ _ (spliced ((false, eval e f.env) :: backTo p (starEach [] f.env))) _ _ _
  refine spliced_cons (he.use X1 fun w _ X2 k2 e2 => spliced_nil ?_)
  exact (hc w e2).use X2 fun r _ X3 k3 e3 => k r _ X3 (k1.trans (k2.trans k3)) e3
theorem bl_len (P : Params) : nsIn (KK P) mainGlobals "len" = some none := by kernel_rfl
theorem PE.len {e : Expr} {p p' : Pos} {v : Value} {n : Nat} (hm : ("len" : Str) ∈ f.gl) (he : PE f ρ σ e v) (hc : ∀ u, er u = v → Pr f ρ σ (call (.builtin "len") [u]) (.int n 0)) (hes : plainS e = true := by rfl) : PE f ρ σ (.Call (.Name "len" p') [e] [] p) (.int n 0) :=
  PE.call1 (PE.built hm bl_len boot_len (by decide) rfl) he hc rfl hes
theorem lenL {a : Addr} {xs : List Value} (ha : σ a = some (.list xs)) : ∀ u, er u = .ref a → Pr f ρ σ (call (.builtin "len") [u]) (.int xs.length 0) := fun u e => by
  rw [er_ref e]
  refine Pr.mk fun _ s _ X k => ?_
  obtain ⟨its, hl, h2, h3, -⟩ := listAt X.rep ha
  have hz := size_er h2
  exact len_list hl (by kspl_open wln) (k _ _ (X.tok _) (Ka.refl _) (by rw [hz]; rfl))


/-! stores -/
theorem Ws.setL {a : Addr} {xs : List Value} {i : Int} {v o k u : Value} {Q : Unit → St → Prop} (ha : σ a = some (.list xs)) (h0 : 0 ≤ i) (h1 : i < xs.length) (ho : er o = .ref a) (hk : er k = .int i 0) (hu : er u = v) (hz : ¬ f.fz a)
    (q : Q () (σ.set a (.list (xs.set i.toNat v)))) : WX f ρ σ (setItem o k u) Q := fun A s X => by
  rw [er_ref ho]; obtain ⟨t, rfl⟩ := er_int hk
  obtain ⟨its, hl, h2, h3, n, hn⟩ := listAt X.rep ha
  have hz2 := size_er h2
  refine ki_setAt hn h0 (by kspl_open wln) (by kspl_open wln) ?_
  have hL : (listOf its n).mapSeq (·.setIfInBounds i.toNat u) = listOf (its.setIfInBounds i.toNat u) n := by simp [Obj.mapSeq, PySem.W.listOf]
  obtain ⟨Y, kp⟩ := At.turn (s' := { s with heap := s.heap.update a (Obj.mapSeq (·.setIfInBounds i.toNat u)) }) X ha (Heap.SameBut.update ..) (Heap.get?_update_self _ hn (by rw [hL]; rfl)) (o := .list (xs.set i.toNat v))
    ⟨its.setIfInBounds i.toNat u, n, hL, by rw [Array.toList_setIfInBounds, List.map_set, h2, hu], by simpa using h3⟩ (X.sh.heap _ s.toks) hz
  exact Y.post kp q
theorem stored_er {raw kvs : List (Int × Value)} (h : raw.map (fun p => (p.1, er p.2)) = kvs) (k : Int) (u : Value) : (stored raw k u).map (fun p => (p.1, er p.2)) = stored kvs k (er u) := by
  subst h
  unfold stored
  rw [List.any_map]
  show List.map _ (if raw.any (fun kv => decide (kv.1 = k)) = true then _ else _) = if raw.any (fun kv => decide (kv.1 = k)) = true then _ else _
  split
  · rw [List.map_map, List.map_map]
    apply List.map_congr_left
    intro p _
    simp only [Function.comp]
    by_cases e : p.1 = k <;> simp [e]
  · simp
theorem stored_len (kvs : List (Int × Value)) (k : Int) (v : Value) : (stored kvs k v).length ≤ kvs.length + 1 := by
  unfold stored; split <;> simp
theorem Ws.setD {a : Addr} {kvs : List (Int × Value)} {i : Int} {v o k u : Value} {Q : Unit → St → Prop} (ha : σ a = some (.dic kvs)) (ho : er o = .ref a) (hk : er k = .int i 0) (hu : er u = v) (hz : ¬ f.fz a) (hl : (stored kvs i v).length ≤ 1000000)
    (q : Q () (σ.set a (.dic (stored kvs i v)))) : WX f ρ σ (setItem o k u) Q := fun A s X => by
  rw [er_ref ho]; obtain ⟨t, rfl⟩ := er_int hk
  obtain ⟨raw, hd, h2, h3⟩ := dicAt X.rep ha
  have len : raw.length = kvs.length := by subst h2; simp
  refine wpAny_setItem_pairs (knd := intKind prg f.c.w) (k := i) (by simp [intKind, Value.isInt]) hd (fun h' hd' sb => ?_) (by rw [sizeLine_eq]; kspl_open wln)
  obtain ⟨ob, ho', hr⟩ := Heap.dictOf_iff.mp hd'
  obtain ⟨Y, kp⟩ := At.turn (s' := { s with heap := h', toks := s.toks + 1 }) X ha sb ho' (o := .dic (stored kvs i v)) ⟨_, hr, by rw [stored_er h2, hu], hl⟩ (X.sh.heap _ _) hz (fun _ _ => ⟨_, rfl⟩)
  exact Y.post kp q

/-! methods -/
noncomputable def Mth (f : Fx) (σ : St) (ov : Value) (name : Str) (b : String) : Prop :=
  ∀ ρ A s raw pl (P : Value × List Value → Shared → Prop), AtR f ρ σ A s → er raw = ov → P (.builtin b, [raw]) s → wpAny (model prg f.c.w) A (getMethod raw name pl) P NoE s
theorem eval_Meth {o : Expr} {name : Str} {apos pos : Pos} {es : List Expr} {env : Env} (hb : plainB o = true) (hp : (apos.endLine == pos.line) = true) :
    eval (.Call (.Attribute o name apos) es [] pos) env = (do
      let ov ← eval o env
      standAt apos.atName
      let (f, first) ← holding [ov] (calleeOf (methodCallForm (es.length + 0) (backTo pos (starEach es env)) []) o env ov name)
      let callPos ← methodCallPos (methodCallForm (es.length + 0) (backTo pos (starEach es env)) []) o env apos pos
      callWith callPos f first (backTo pos (starEach es env)) []) := by
  show (do
    let ov ← attributeBase o name env (eval o env)
    standAt apos.atName
    methodCall o name apos pos env ov (es.length + 0) (backTo pos (starEach es env)) []) = _
  rw [attributeBase_plain hb]
  rfl
theorem WV.meth {o : Expr} {name : Str} {apos pos : Pos} {es : List Expr} {b : String} {Q : Value → St → Prop} (h : WV f ρ σ (eval o f.env) fun ov σ1 => Mth f σ1 ov name b ∧ WLs f ρ σ1 es fun vs σ2 => WC f.c f.n f.fz σ2 (.builtin b) (ov :: vs) Q)
    (hb : plainB o = true := by rfl) (hp : (apos.endLine == pos.line) = true := by rfl) (hes : es.all plainS = true := by rfl) (hn : es.length < 30 := by decide) : WV f ρ σ (eval (.Call (.Attribute o name apos) es [] pos) f.env) Q := fun A s X => by
  rw [eval_Meth hb hp]
  have form : methodCallForm (es.length + 0) (backTo pos (starEach es f.env)) [] = true := by
    unfold methodCallForm
    have h1 : (backTo pos (starEach es f.env)).all (fun x => !x.1) = true := by
      have := backTo_plain (p := pos) (env := f.env) hes
      rw [List.all_eq_true]
      intro x hx
      rw [List.any_eq_false] at this
      simpa using this x hx
    rw [h1]; simp; kspl_open wln
  rw [form]
  refine wpAny_bind (WX.use h X fun raw s1 σ1 X1 k1 ⟨hm, hargs⟩ => wpAny_bind (wpAny_standAt (wpAny_bind (wpAny_holding ?_))))
  show wpAny _ _ (getMethod raw name _) _ _ _
  refine hm ρ A s1 raw _ _ X1.r rfl ?_
  show wpAny _ _ (methodCallPos true o f.env apos pos >>= _) _ _ _
  have e : methodCallPos true o f.env apos pos = Pure.pure pos := by unfold methodCallPos; rw [hp]; rfl
  rw [e]
  refine wpAny_bind (wpAny_pure ?_)
  refine callWith_builtin (backTo_plain hes) (evalArgs_all hes (WX.use (hargs pos) X1 fun vs s2 σ2 X2 k2 q => ?_))
  exact WC.use q X2 (by simp) fun v _ _ X3 k3 q3 => X3.post (k1.trans (k2.trans k3)) q3

theorem Mth.listM {a : Addr} {xs : List Value} {name : Str} {b : String} (ha : σ a = some (.list xs)) (slot : Slot "list" name b) (ty : typeOf (.builtin b) = Pure.pure (.type "method_descriptor")) : Mth f σ (.ref a) name b := fun ρ A s raw pl P X e p => by
  rw [er_ref e] at p ⊢
  obtain ⟨its, hl, h2, h3, n, hn⟩ := listAt X.rep ha
  exact getMethod_builtin hl.typeIs F.plainAttrs_list slot ty (fun b e => by cases e; exact ⟨_, hn, rfl⟩) p
theorem Mth.append {a : Addr} {xs : List Value} (ha : σ a = some (.list xs)) : Mth f σ (.ref a) "append" "list.append" := Mth.listM ha slot_list_append type_list_append
theorem Mth.extend {a : Addr} {xs : List Value} (ha : σ a = some (.list xs)) : Mth f σ (.ref a) "extend" "list.extend" := Mth.listM ha F.slot_list_extend F.type_list_extend
theorem Mth.pop {a : Addr} {xs : List Value} (ha : σ a = some (.list xs)) : Mth f σ (.ref a) "pop" "list.pop" := Mth.listM ha F.slot_list_pop F.type_list_pop

/-- a list of the state is turned by a builtin -/
theorem Rep.turnL {c : Cx} {fz : Addr → Prop} {s s' : Shared} {a : Addr} {xs xs' : List Value} {its : Array Value} {n : Nat} (r : Rep c σ s.heap) (ha : σ a = some (.list xs)) (hs : Heap.SameBut a s.heap s'.heap) (ho : s'.heap.get? a = some (listOf its n)) (he : its.toList.map er = xs') (hl : xs'.length ≤ 1000000) (hz : ¬ fz a) :
    Rep c (σ.set a (.list xs')) s'.heap ∧ Kp fz σ s.heap (σ.set a (.list xs')) s'.heap := by
  refine ⟨⟨fun b x e => (hs.2 b (ne_base (r.new _ _ ha) e)).trans (r.base b x e), fun b x e => ?_, fun b x e => ?_, fun b kvs e => ?_⟩, fun b x e n => ?_⟩
  · by_cases q : b = a
    · subst q; rw [St.set_same] at e; cases e; exact ⟨_, ho, its, n, rfl, he, hl⟩
    · rw [St.set_ne σ _ q] at e
      obtain ⟨y, h1, h2⟩ := r.obj b x e
      exact ⟨y, (hs.2 b q).trans h1, h2⟩
  · by_cases q : b = a
    · subst q; exact r.new _ _ ha
    · rw [St.set_ne σ _ q] at e; exact r.new _ _ e
  · by_cases q : b = a
    · subst q; rw [St.set_same] at e; cases e
    · rw [St.set_ne σ _ q] at e; exact r.dm _ _ e
  · have hne : b ≠ a := by
      rintro rfl
      rcases n with n | n
      · rw [ha] at n; cases n
      · exact hz n
    exact ⟨(hs.2 b hne).trans e, by rw [St.set_ne σ _ hne]⟩
theorem pa1 {x : Str} {u a : Value} (e : er u = a) : [(x, u)].map (fun p => (p.1, er p.2)) = [(x, a)] := by subst e; rfl
theorem pa2 {x y : Str} {u v a b : Value} (e : er u = a) (e2 : er v = b) : [(x, u), (y, v)].map (fun p => (p.1, er p.2)) = [(x, a), (y, b)] := by subst e e2; rfl
theorem pa3 {x y z : Str} {u v w a b c : Value} (e : er u = a) (e2 : er v = b) (e3 : er w = c) : [(x, u), (y, v), (z, w)].map (fun p => (p.1, er p.2)) = [(x, a), (y, b), (z, c)] := by subst e e2 e3; rfl
theorem raw1 {raw : List Value} {a : Value} (h : raw.map er = [a]) : ∃ u, raw = [u] ∧ er u = a := by
  cases raw with
  | nil => cases h
  | cons u r => cases r with | nil => simp at h; exact ⟨u, rfl, h⟩ | cons _ _ => simp at h
theorem raw2 {raw : List Value} {a b : Value} (h : raw.map er = [a, b]) : ∃ u v, raw = [u, v] ∧ er u = a ∧ er v = b := by
  cases raw with
  | nil => cases h
  | cons u r =>
    simp only [List.map_cons, List.cons.injEq] at h
    obtain ⟨v, rfl, e⟩ := raw1 h.2
    exact ⟨u, v, rfl, h.1, e⟩
theorem raw3 {raw : List Value} {a b c : Value} (h : raw.map er = [a, b, c]) : ∃ u v w, raw = [u, v, w] ∧ er u = a ∧ er v = b ∧ er w = c := by
  cases raw with
  | nil => cases h
  | cons u r =>
    simp only [List.map_cons, List.cons.injEq] at h
    obtain ⟨v, w, rfl, e1, e2⟩ := raw2 h.2
    exact ⟨u, v, w, rfl, h.1, e1, e2⟩
theorem WC.append {c : Cx} {n : Nat} {fz : Addr → Prop} {a : Addr} {xs : List Value} {v : Value} {Q : Value → St → Prop} (ha : σ a = some (.list xs)) (hl : xs.length < 1000000) (hz : ¬ fz a) (q : Q .none (σ.set a (.list (xs ++ [v])))) :
    WC c n fz σ (.builtin "list.append") [.ref a, v] Q := fun A s raw e ok room r sh => by
  obtain ⟨u, w, rfl, e1, e2⟩ := raw2 e
  rw [er_ref e1]
  obtain ⟨its, h1, h2, h3, m, hm⟩ := listAt r ha
  have := size_er h2
  refine append_at hm (fun h' sb ho => ?_) (by rw [sizeLine_eq]; kspl_open wln)
  obtain ⟨R, K⟩ := r.turnL (s' := { s with heap := h' }) (xs' := xs ++ [v]) ha sb ho (by simp [h2, e2]) (by simp; kspl_open wln) hz
  exact ⟨_, R, K, sh.heap _ s.toks, q⟩
theorem WC.extendL {c : Cx} {n : Nat} {fz : Addr → Prop} {a b : Addr} {xs ys : List Value} {Q : Value → St → Prop} (ha : σ a = some (.list xs)) (hb : σ b = some (.list ys)) (hl : xs.length + ys.length ≤ 1000000) (hz : ¬ fz a) (q : Q .none (σ.set a (.list (xs ++ ys)))) :
    WC c n fz σ (.builtin "list.extend") [.ref a, .ref b] Q := fun A s raw e ok room r sh => by
  obtain ⟨u, w, rfl, e1, e2⟩ := raw2 e
  rw [er_ref e1, er_ref e2]
  obtain ⟨its, h1, h2, h3, m, hm⟩ := listAt r ha
  obtain ⟨its2, h1', h2', h3', m', hm'⟩ := listAt r hb
  have s1 := size_er h2
  have s2 := size_er h2'
  refine call_meets F.slot_list_extend ⟨_, hm, rfl⟩ F.entry_list_extend (F.args_list_extend_2 _ _) (AutoSeq1.list_extend_list_list_0 a its m b its2 m' (by unfold Builtin.List.listTooLong; rw [sizeLine_eq]; simp; kspl_open wln) (by rw [sizeLine_eq]; kspl_open wln) (by rw [sizeLine_eq]; kspl_open wln)) ⟨hm, hm', ?_⟩
  obtain ⟨R, K⟩ := r.turnL (s' := { s with heap := s.heap.update a (Obj.mapSeq fun x => x ++ its2) }) (xs' := xs ++ ys) ha (Heap.SameBut.update ..) (PySem.IsL.update hm _) (by simp [h2, h2']) (by simp; kspl_open wln) hz
  exact ⟨_, R, K, sh.heap _ s.toks, q⟩
theorem eraseIdx_map' {α β} (f : α → β) : ∀ (l : List α) (i : Nat), (l.map f).eraseIdx i = (l.eraseIdx i).map f
  | [], _ => rfl
  | _ :: _, 0 => rfl
  | a :: l, i + 1 => by simp [List.eraseIdx, eraseIdx_map' f l i]
theorem eraseIdx_last {α} : ∀ (l : List α) (a : α), (l ++ [a]).eraseIdx (l.length + 1 - 1) = l
  | [], _ => rfl
  | b :: l, a => by simpa [List.eraseIdx] using eraseIdx_last l a
theorem erase_er {its : Array Value} {xs : List Value} (h : its.toList.map er = xs) (i : Nat) : (its.eraseIdxIfInBounds i).toList.map er = xs.eraseIdx i := by
  subst h
  rw [Array.toList_eraseIdxIfInBounds, eraseIdx_map']
theorem WC.pop {c : Cx} {n : Nat} {fz : Addr → Prop} {a : Addr} {xs : List Value} {v : Value} {Q : Value → St → Prop} (ha : σ a = some (.list (xs ++ [v]))) (hz : ¬ fz a) (q : Q v (σ.set a (.list xs))) :
    WC c n fz σ (.builtin "list.pop") [.ref a] Q := fun A s raw e ok room r sh => by
  obtain ⟨u, rfl, e1⟩ := raw1 e
  rw [er_ref e1]
  obtain ⟨its, h1, h2, h3, m, hm⟩ := listAt r ha
  have s1 := size_er h2
  simp only [List.length_append, List.length_singleton] at s1 h3
  have hy : (its[its.size - 1]?).map er = some v := by rw [← getElem_er h2, s1]; simp
  obtain ⟨y, hy1, hy2⟩ := Option.map_eq_some_iff.mp hy
  refine call_meets F.slot_list_pop ⟨_, hm, rfl⟩ F.entry_list_pop (F.args_list_pop_1 _) (MeetsSeq.list_pop_last a its m y hy1 (by rw [sizeLine_eq]; kspl_open wln)) ⟨hm, ?_⟩
  have he := erase_er h2 (its.size - 1)
  obtain ⟨R, K⟩ := r.turnL (s' := { s with heap := s.heap.update a (Obj.mapSeq fun x => x.eraseIdxIfInBounds (its.size - 1)) }) (xs' := xs) ha (Heap.SameBut.update ..) (PySem.IsL.update hm _) (by rw [he, s1]; exact eraseIdx_last xs v) (by kspl_open wln) hz
  exact ⟨_, R, K, sh.heap _ s.toks, by show Q (er y) _; rw [hy2]; exact q⟩
theorem WC.pop0 {c : Cx} {n : Nat} {fz : Addr → Prop} {a : Addr} {xs : List Value} {v : Value} {Q : Value → St → Prop} (ha : σ a = some (.list (v :: xs))) (hz : ¬ fz a) (q : Q v (σ.set a (.list xs))) :
    WC c n fz σ (.builtin "list.pop") [.ref a, .int 0 0] Q := fun A s raw e ok room r sh => by
  obtain ⟨u, w, rfl, e1, e2⟩ := raw2 e
  rw [er_ref e1]
  obtain ⟨t, rfl⟩ := er_int e2
  obtain ⟨its, h1, h2, h3, m, hm⟩ := listAt r ha
  have s1 := size_er h2
  simp only [List.length_cons] at s1 h3
  have hy : (its[0]?).map er = some v := by rw [← getElem_er h2]; simp
  obtain ⟨y, hy1, hy2⟩ := Option.map_eq_some_iff.mp hy
  refine call_meets F.slot_list_pop ⟨_, hm, rfl⟩ F.entry_list_pop (F.args_list_pop_2 _ _) (MeetsSeq.list_pop_at a its m 0 t 0 y (by decide) (by unfold seqIndex?; simp [s1]) hy1 (by rw [sizeLine_eq]; kspl_open wln)) ⟨hm, ?_⟩
  have he := erase_er h2 0
  obtain ⟨R, K⟩ := r.turnL (s' := { s with heap := s.heap.update a (Obj.mapSeq fun x => x.eraseIdxIfInBounds 0) }) (xs' := xs) ha (Heap.SameBut.update ..) (PySem.IsL.update hm _) (by rw [he]; simp) (by kspl_open wln) hz
  exact ⟨_, R, K, sh.heap _ s.toks, by show Q (er y) _; rw [hy2]; exact q⟩
end
section
variable {f : Fx} {ρ : Loc} {σ : St}

/-! what a function owns -/
noncomputable abbrev Ent := Addr × AO × Bool
noncomputable def Ext (σ σ' : St) : Prop := ∀ a o, σ a = some o → σ' a = some o
theorem Ext.refl (σ : St) : Ext σ σ := fun _ _ e => e
theorem Ext.trans {σ σ1 σ2 : St} (x : Ext σ σ1) (y : Ext σ1 σ2) : Ext σ σ2 := fun a o e => y a o (x a o e)
structure Own (fz : Addr → Prop) (σ0 σ : St) (L : List Ent) : Prop where
  ext : Ext σ0 σ
  get : ∀ a o w, (a, o, w) ∈ L → σ a = some o
  new : ∀ a o w, (a, o, w) ∈ L → σ0 a = none
  wr : ∀ a o, (a, o, true) ∈ L → ¬ fz a
  nd : (L.map (·.1)).Nodup
  fzs : ∀ a, fz a → σ a ≠ none
theorem Own.start {fz : Addr → Prop} {σ : St} (h : ∀ a, fz a → σ a ≠ none) : Own fz σ σ [] := ⟨Ext.refl _, by simp, by simp, by simp, by simp, h⟩
inductive Put (a : Addr) (o o' : AO) : List Ent → List Ent → Prop
  | here (r : List Ent) : Put a o o' ((a, o, true) :: r) ((a, o', true) :: r)
  | there (p : Ent) {r r' : List Ent} : Put a o o' r r' → Put a o o' (p :: r) (p :: r')
theorem Put.addrs {a : Addr} {o o' : AO} {L L' : List Ent} (h : Put a o o' L L') : L'.map (·.1) = L.map (·.1) := by induction h with | here => rfl | there _ _ ih => simp [ih]
theorem Put.mem {a : Addr} {o o' : AO} {L L' : List Ent} (h : Put a o o' L L') : (a, o, true) ∈ L := by induction h with | here => simp | there _ _ ih => exact List.mem_cons_of_mem _ ih
theorem Put.inv {a : Addr} {o o' : AO} {L L' : List Ent} (h : Put a o o' L L') (nd : (L.map (·.1)).Nodup) : ∀ b x w, (b, x, w) ∈ L' → (b = a ∧ x = o' ∧ w = true) ∨ (b ≠ a ∧ (b, x, w) ∈ L) := by
  induction h with
  | here r =>
    intro b x w hb
    rcases List.mem_cons.mp hb with e | hb
    · cases e; exact .inl ⟨rfl, rfl, rfl⟩
    · refine .inr ⟨?_, List.mem_cons_of_mem _ hb⟩
      intro e
      exact (List.nodup_cons.mp nd).1 (List.mem_map.mpr ⟨_, hb, e⟩)
  | there p h ih =>
    intro b x w hb
    obtain ⟨n1, n2⟩ := List.nodup_cons.mp nd
    rcases List.mem_cons.mp hb with e | hb
    · subst e
      refine .inr ⟨?_, List.mem_cons_self ..⟩
      rintro rfl
      exact n1 (List.mem_map.mpr ⟨_, h.mem, rfl⟩)
    · rcases ih n2 b x w hb with q | ⟨q1, q2⟩
      · exact .inl q
      · exact .inr ⟨q1, List.mem_cons_of_mem _ q2⟩
theorem Own.turn {fz : Addr → Prop} {σ0 σ : St} {L L' : List Ent} {a : Addr} {o o' : AO} (H : Own fz σ0 σ L) (h : Put a o o' L L') : Own fz σ0 (σ.set a o') L' := by
  have hm := h.mem
  refine ⟨fun b x e => ?_, fun b x w hb => ?_, fun b x w hb => ?_, fun b x hb => ?_, by rw [h.addrs]; exact H.nd, fun b hb => ?_⟩
  · rw [St.set_ne]
    · exact H.ext b x e
    · rintro rfl; rw [H.new _ _ _ hm] at e; cases e
  · rcases h.inv H.nd b x w hb with ⟨rfl, rfl, _⟩ | ⟨q1, q2⟩
    · exact St.set_same ..
    · rw [St.set_ne _ _ q1]; exact H.get _ _ _ q2
  · rcases h.inv H.nd b x w hb with ⟨rfl, rfl, _⟩ | ⟨q1, q2⟩
    · exact H.new _ _ _ hm
    · exact H.new _ _ _ q2
  · rcases h.inv H.nd b x _ hb with ⟨rfl, rfl, _⟩ | ⟨q1, q2⟩
    · exact H.wr _ _ hm
    · exact H.wr _ _ q2
  · by_cases e : b = a
    · subst e; rw [St.set_same]; simp
    · rw [St.set_ne _ _ e]; exact H.fzs b hb
theorem Own.alloc {fz : Addr → Prop} {σ0 σ : St} {L : List Ent} {a : Addr} {o : AO} (H : Own fz σ0 σ L) (h : σ a = none) : Own fz σ0 (σ.set a o) ((a, o, true) :: L) := by
  have new : σ0 a = none := by
    cases e : σ0 a with
    | none => rfl
    | some x => rw [H.ext _ _ e] at h; cases h
  have out : ∀ x w, (a, x, w) ∉ L := fun x w hm => by rw [H.get _ _ _ hm] at h; cases h
  refine ⟨fun b x e => ?_, fun b x w hb => ?_, fun b x w hb => ?_, fun b x hb => ?_, ?_, fun b hb => ?_⟩
  · rw [St.set_ne]
    · exact H.ext b x e
    · rintro rfl; rw [new] at e; cases e
  · rcases List.mem_cons.mp hb with e | hb
    · cases e; exact St.set_same ..
    · rw [St.set_ne]
      · exact H.get _ _ _ hb
      · intro e; exact out _ _ (e ▸ hb)
  · rcases List.mem_cons.mp hb with e | hb
    · cases e; exact new
    · exact H.new _ _ _ hb
  · rcases List.mem_cons.mp hb with e | hb
    · cases e; exact fun hz => H.fzs _ hz h
    · exact H.wr _ _ hb
  · refine List.nodup_cons.mpr ⟨fun hm => ?_, H.nd⟩
    obtain ⟨⟨b, x, w⟩, hp, e⟩ := List.mem_map.mp hm
    obtain rfl : b = a := e
    exact out _ _ hp
  · by_cases e : b = a
    · subst e; rw [St.set_same]; simp
    · rw [St.set_ne _ _ e]; exact H.fzs b hb
theorem Own.sub {fz : Addr → Prop} {σ0 σ : St} {L L' : List Ent} (H : Own fz σ0 σ L) (h : L'.Sublist L) : Own fz σ0 σ L' :=
  ⟨H.ext, fun a o w m => H.get a o w (h.subset m), fun a o w m => H.new a o w (h.subset m), fun a o m => H.wr a o (h.subset m), (h.map _).nodup H.nd, H.fzs⟩
/-- a call's own things beside the caller's -/
theorem Own.join {fz : Addr → Prop} {σ0 σ σ' : St} {L L1 : List Ent} (H : Own fz σ0 σ L) (H1 : Own fz σ σ' L1) : Own fz σ0 σ' (L1 ++ L) := by
  refine ⟨H.ext.trans H1.ext, fun a o w m => ?_, fun a o w m => ?_, fun a o m => ?_, ?_, fun a h => ?_⟩
  · rcases List.mem_append.mp m with m | m
    · exact H1.get _ _ _ m
    · exact H1.ext _ _ (H.get _ _ _ m)
  · rcases List.mem_append.mp m with m | m
    · cases e : σ0 a with
      | none => rfl
      | some x => have := H.ext _ _ e; rw [H1.new _ _ _ m] at this; cases this
    · exact H.new _ _ _ m
  · rcases List.mem_append.mp m with m | m
    · exact H1.wr _ _ m
    · exact H.wr _ _ m
  · rw [List.map_append]
    refine List.nodup_append.mpr ⟨H1.nd, H.nd, fun a ha b hb => ?_⟩
    rintro rfl
    obtain ⟨⟨x, o, w⟩, m, rfl⟩ := List.mem_map.mp ha
    obtain ⟨⟨y, o', w'⟩, m', e⟩ := List.mem_map.mp hb
    obtain rfl : y = x := e
    have := H.get _ _ _ m'
    rw [H1.new _ _ _ m] at this; cases this
  · exact H1.fzs a h
theorem Own.rebase {fz : Addr → Prop} {σ0 σ : St} {L : List Ent} (H : Own fz σ0 σ L) : Own fz σ σ [] := Own.start H.fzs

inductive Frz (a : Addr) (o : AO) : List Ent → List Ent → Prop
  | here (w : Bool) (r : List Ent) : Frz a o ((a, o, w) :: r) ((a, o, false) :: r)
  | there (p : Ent) {r r' : List Ent} : Frz a o r r' → Frz a o (p :: r) (p :: r')
theorem Frz.addrs {a : Addr} {o : AO} {L L' : List Ent} (h : Frz a o L L') : L'.map (·.1) = L.map (·.1) := by induction h with | here => rfl | there _ _ ih => simp [ih]
theorem Frz.mem {a : Addr} {o : AO} {L L' : List Ent} (h : Frz a o L L') : ∃ w, (a, o, w) ∈ L := by induction h with | here w => exact ⟨w, by simp⟩ | there _ _ ih => obtain ⟨w, ih⟩ := ih; exact ⟨w, List.mem_cons_of_mem _ ih⟩
theorem Frz.inv {a : Addr} {o : AO} {L L' : List Ent} (h : Frz a o L L') (nd : (L.map (·.1)).Nodup) : ∀ b x w, (b, x, w) ∈ L' → ∃ w', (b, x, w') ∈ L ∧ (w = true → w' = true ∧ b ≠ a) := by
  induction h with
  | here w0 r =>
    intro b x w hb
    rcases List.mem_cons.mp hb with e | hb
    · cases e; exact ⟨w0, List.mem_cons_self .., by simp⟩
    · refine ⟨w, List.mem_cons_of_mem _ hb, fun hw => ⟨hw, ?_⟩⟩
      intro e
      exact (List.nodup_cons.mp nd).1 (List.mem_map.mpr ⟨_, hb, e⟩)
  | there p h ih =>
    intro b x w hb
    obtain ⟨n1, n2⟩ := List.nodup_cons.mp nd
    rcases List.mem_cons.mp hb with e | hb
    · subst e
      refine ⟨w, List.mem_cons_self .., fun hw => ⟨hw, ?_⟩⟩
      rintro rfl
      obtain ⟨w, hm⟩ := h.mem
      exact n1 (List.mem_map.mpr ⟨_, hm, rfl⟩)
    · obtain ⟨w', q1, q2⟩ := ih n2 b x w hb
      exact ⟨w', List.mem_cons_of_mem _ q1, q2⟩
theorem Own.moreO {fz : Addr → Prop} {σ0 σ : St} {L L' : List Ent} {a : Addr} {o : AO} (H : Own fz σ0 σ L) (h : Frz a o L L') : Own (fun b => fz b ∨ b = a) σ0 σ L' := by
  obtain ⟨w0, hm⟩ := h.mem
  refine ⟨H.ext, fun b x w hb => ?_, fun b x w hb => ?_, fun b x hb => ?_, by rw [h.addrs]; exact H.nd, fun b hb => ?_⟩
  · obtain ⟨w', q, _⟩ := h.inv H.nd b x w hb; exact H.get _ _ _ q
  · obtain ⟨w', q, _⟩ := h.inv H.nd b x w hb; exact H.new _ _ _ q
  · obtain ⟨w', q, q2⟩ := h.inv H.nd b x _ hb
    obtain ⟨rfl, hne⟩ := q2 rfl
    rintro (e | e)
    · exact H.wr _ _ q e
    · exact hne e
  · rcases hb with hb | rfl
    · exact H.fzs b hb
    · rw [H.get _ _ _ hm]; simp
theorem Own.moreB {fz : Addr → Prop} {σ0 σ : St} {L : List Ent} {a : Addr} {o : AO} (H : Own fz σ0 σ L) (h : σ0 a = some o) : Own (fun b => fz b ∨ b = a) σ0 σ L := by
  refine ⟨H.ext, H.get, H.new, fun b x hb => ?_, H.nd, fun b hb => ?_⟩
  · rintro (e | rfl)
    · exact H.wr _ _ hb e
    · rw [H.new _ _ _ hb] at h; cases h
  · rcases hb with hb | rfl
    · exact H.fzs b hb
    · rw [H.ext _ _ h]; simp
theorem Own.moreN {fz : Addr → Prop} {σ0 σ : St} {L : List Ent} (H : Own fz σ0 σ L) : Own (fun b => fz b ∨ False) σ0 σ L := by
  refine ⟨H.ext, H.get, H.new, fun b x hb => ?_, H.nd, fun b hb => ?_⟩
  · rintro (e | e)
    · exact H.wr _ _ hb e
    · exact e
  · rcases hb with hb | hb
    · exact H.fzs b hb
    · exact hb.elim
theorem Own.less {fz D : Addr → Prop} {σ0 σ : St} {L : List Ent} (H : Own (fun b => fz b ∨ D b) σ0 σ L) : Own fz σ0 σ L :=
  ⟨H.ext, H.get, H.new, fun b x hb e => H.wr _ _ hb (.inl e), H.nd, fun b hb => H.fzs b (.inl hb)⟩

/-! pure arguments -/
inductive PEs (f : Fx) (ρ : Loc) (σ : St) : List Expr → List Value → Prop
  | nil : PEs f ρ σ [] []
  | cons {e : Expr} {es : List Expr} {v : Value} {vs : List Value} : PE f ρ σ e v → PEs f ρ σ es vs → PEs f ρ σ (e :: es) (v :: vs)
theorem WV.pe {e : Expr} {v : Value} {Q : Value → St → Prop} (h : PE f ρ σ e v) (q : Q v σ) : WV f ρ σ (eval e f.env) Q := WV.of_pr h q
theorem WLs.pes {es : List Expr} {vs : List Value} {Q : List Value → St → Prop} (h : PEs f ρ σ es vs) (hp : es.all plainS = true) (q : Q vs σ) : WLs f ρ σ es Q := by
  induction h generalizing Q with
  | nil => exact WLs.nil q
  | cons h1 h2 ih =>
    obtain ⟨p1, p2⟩ := plE hp
    exact WLs.cons (WV.pe h1 (ih p2 q)) p1
theorem PEs.length {es : List Expr} {vs : List Value} (h : PEs f ρ σ es vs) : vs.length = es.length := by induction h with | nil => rfl | cons _ _ ih => simp [ih]

theorem WV.newL {σ0 : St} {L : List Ent} {es : List Expr} {vs : List Value} {p : Pos} {Q : Value → St → Prop} (h : PEs f ρ σ es vs) (H : Own f.fz σ0 σ L) (q : ∀ a σ', Own f.fz σ0 σ' ((a, .list vs, true) :: L) → Q (.ref a) σ') (hl : es.length ≤ 1000 := by decide) (hp : es.all plainS = true := by rfl) :
    WV f ρ σ (eval (.List es p) f.env) Q := WV.list (WLs.pes h hp ⟨by rw [h.length]; kspl_open wln, fun a hn => q a _ (H.alloc hn)⟩)
theorem WV.newT {σ0 : St} {L : List Ent} {es : List Expr} {k : Nat} {vs : List Value} {p : Pos} {Q : Value → St → Prop} (h : PEs f ρ σ es vs) (H : Own f.fz σ0 σ L) (q : ∀ a σ', Own f.fz σ0 σ' ((a, .tup vs, true) :: L) → Q (.ref a) σ') (hl : es.length ≤ 1000 := by decide) (hp : es.all plainS = true := by rfl) :
    WV f ρ σ (eval (.Tuple es k p) f.env) Q := WV.tup (WLs.pes h hp ⟨by rw [h.length]; kspl_open wln, fun a hn => q a _ (H.alloc hn)⟩)

/-- what a call gives back -/
inductive Ret (fz : Addr → Prop) (σ : St) (P : Value → List Ent → Prop) (v : Value) (σ' : St) : Prop
  | mk (L : List Ent) (o : Own fz σ σ' L) (h : P v L) : Ret fz σ P v σ'
theorem WV.callO {σ0 : St} {L : List Ent} {func : Expr} {es : List Expr} {vs : List Value} {p : Pos} {a : Addr} {P : Value → List Ent → Prop} {Q : Value → St → Prop} (hf : PE f ρ σ func (.ref a)) (hk : ∀ P, keepIn (KK P) (.ref a) = true) (h : PEs f ρ σ es vs) (H : Own f.fz σ0 σ L)
    (hc : WC f.c f.n f.fz σ (.ref a) vs (Ret f.fz σ P)) (q : ∀ v σ' L', P v L' → Own f.fz σ0 σ' (L' ++ L) → Q v σ') (hfn : notAttr func = true := by rfl) (hp : es.all plainS = true := by rfl) : WV f ρ σ (eval (.Call func es [] p) f.env) Q :=
  WV.callG hf hk (WLs.pes h hp (hc.mono fun v σ' t00 => by obtain ⟨L', o, hP⟩ := t00; exact q v σ' L' hP (H.join o))) hfn hp

theorem hb1 {a : Addr} {x : Str} {u : Value} (h : ∀ P v, bindArgs (fdo a P) ⟨[v], []⟩ = Pure.pure [(x, v)]) : ∀ P raw, raw.map er = [u] → ∃ binds, bindArgs (fdo a P) ⟨raw, []⟩ = Pure.pure binds ∧ binds.map (fun p => (p.1, er p.2)) = [(x, u)] := fun P raw e => by
  obtain ⟨v, rfl, e1⟩ := raw1 e
  exact ⟨_, h P v, pa1 e1⟩
theorem hb2 {a : Addr} {x y : Str} {u u' : Value} (h : ∀ P v v', bindArgs (fdo a P) ⟨[v, v'], []⟩ = Pure.pure [(x, v), (y, v')]) : ∀ P raw, raw.map er = [u, u'] → ∃ binds, bindArgs (fdo a P) ⟨raw, []⟩ = Pure.pure binds ∧ binds.map (fun p => (p.1, er p.2)) = [(x, u), (y, u')] := fun P raw e => by
  obtain ⟨v, v', rfl, e1, e2⟩ := raw2 e
  exact ⟨_, h P v v', pa2 e1 e2⟩
theorem hb3 {a : Addr} {x y z : Str} {u u' u'' : Value} (h : ∀ P v v' v'', bindArgs (fdo a P) ⟨[v, v', v''], []⟩ = Pure.pure [(x, v), (y, v'), (z, v'')]) : ∀ P raw, raw.map er = [u, u', u''] → ∃ binds, bindArgs (fdo a P) ⟨raw, []⟩ = Pure.pure binds ∧ binds.map (fun p => (p.1, er p.2)) = [(x, u), (y, u'), (z, u'')] := fun P raw e => by
  obtain ⟨v, v', v'', rfl, e1, e2, e3⟩ := raw3 e
  exact ⟨_, h P v v' v'', pa3 e1 e2 e3⟩
/-- the walk of a def's body -/
theorem WC.fnO {c : Cx} {n : Nat} {fz : Addr → Prop} {a : Addr} {args : List Value} {ρ : Loc} {gl cl : List Str} {pa : List (Str × Value)} {rest : List Str} {Q : Value → St → Prop} (hρ : pa.map (fun p => (p.1, some p.2)) ++ rest.map (fun x => (x, none)) = ρ) (hfn : IsFn a)
    (hsc : ∀ P, scopeOk (fdo a P).scope (pa.map (·.1) ++ rest) gl cl (pa.map (·.1)) = true)
    (hb : ∀ P raw, raw.map er = args → ∃ binds, bindArgs (fdo a P) ⟨raw, []⟩ = Pure.pure binds ∧ binds.map (fun p => (p.1, er p.2)) = pa)
    (h : ∀ env, SS ⟨c, n, fz, env, gl, cl⟩ ρ σ (bodyOf (fdo a c.w.params)) (RQ Q)) :
    WC c (n + 1) fz σ (.ref a) args Q := WC.fn hfn hsc (fun raw s e _ => let ⟨b, h1, h2⟩ := hb c.w.params raw e; ⟨b, BindsTo.of_eq h1, h2⟩) fun env => WS.mono (hρ ▸ h env) fun fl ρ' σ' _ q => by
  have : er (retOf fl) = retOf (erF fl) := by cases fl <;> rfl
  rw [this]; exact q

/-! methods on what is owned -/
theorem WV.appendO {σ0 : St} {L L' : List Ent} {o e : Expr} {apos pos : Pos} {a : Addr} {xs : List Value} {v : Value} {Q : Value → St → Prop} (ho : PE f ρ σ o (.ref a)) (he : PE f ρ σ e v) (H : Own f.fz σ0 σ L) (hp : Put a (.list xs) (.list (xs ++ [v])) L L') (hl : xs.length < 1000000)
    (q : ∀ σ', Own f.fz σ0 σ' L' → Q .none σ') (hb : plainB o = true := by rfl) (hps : (apos.endLine == pos.line) = true := by rfl) (hes : plainS e = true := by rfl) : WV f ρ σ (eval (.Call (.Attribute o "append" apos) [e] [] pos) f.env) Q :=
  have ha := H.get _ _ _ hp.mem
  WV.meth (b := "list.append") (WV.pe ho ⟨Mth.append ha, WLs.pes (.cons he .nil) (by simp [hes]) (WC.append ha hl (H.wr _ _ hp.mem) (q _ (H.turn hp)))⟩) hb hps (by simp [hes]) (by simp)
theorem WV.extendO {σ0 : St} {L : List Ent} {o e : Expr} {apos pos : Pos} {a : Addr} {xs : List Value} {Q : Value → St → Prop} (ho : PE f ρ σ o (.ref a)) (hx : ∃ w, (a, .list xs, w) ∈ L)
    (he : WV f ρ σ (eval e f.env) fun v σ1 => (Ey4 fun b ys L1 L' => Ay6 (v = .ref b) (Own f.fz σ0 σ1 L1) (σ1 b = some (.list ys)) (xs.length + ys.length ≤ 1000000) (Put a (.list xs) (.list (xs ++ ys)) L1 L') (∀ σ', Own f.fz σ0 σ' L' → Q .none σ')))
    (H : Own f.fz σ0 σ L) (hb : plainB o = true := by rfl) (hps : (apos.endLine == pos.line) = true := by rfl) (hes : plainS e = true := by rfl) : WV f ρ σ (eval (.Call (.Attribute o "extend" apos) [e] [] pos) f.env) Q := by
  obtain ⟨w, hx⟩ := hx
  refine WV.meth (b := "list.extend") (WV.pe ho ⟨Mth.extend (H.get _ _ _ hx), WLs.cons (WX.mono he ?_) hes⟩) hb hps (by simp [hes]) (by simp)
  rintro v σ1 ⟨b, ys, L1, L', e1, H1, hb1, hl, hp, q⟩
  rw [e1]
  exact WLs.nil (WC.extendL (H1.get _ _ _ hp.mem) hb1 hl (H1.wr _ _ hp.mem) (q _ (H1.turn hp)))
theorem WV.popO {σ0 : St} {L L' : List Ent} {o : Expr} {apos pos : Pos} {a : Addr} {xs : List Value} {v : Value} {Q : Value → St → Prop} (ho : PE f ρ σ o (.ref a)) (H : Own f.fz σ0 σ L) (hp : Put a (.list (xs ++ [v])) (.list xs) L L')
    (q : ∀ σ', Own f.fz σ0 σ' L' → Q v σ') (hb : plainB o = true := by rfl) (hps : (apos.endLine == pos.line) = true := by rfl) : WV f ρ σ (eval (.Call (.Attribute o "pop" apos) [] [] pos) f.env) Q :=
  have ha := H.get _ _ _ hp.mem
  WV.meth (b := "list.pop") (WV.pe ho ⟨Mth.pop ha, WLs.nil (WC.pop ha (H.wr _ _ hp.mem) (q _ (H.turn hp)))⟩) hb hps
theorem WV.pop0O {σ0 : St} {L L' : List Ent} {o e : Expr} {apos pos : Pos} {a : Addr} {xs : List Value} {v : Value} {Q : Value → St → Prop} (ho : PE f ρ σ o (.ref a)) (he : PE f ρ σ e (.int 0 0)) (H : Own f.fz σ0 σ L) (hp : Put a (.list (v :: xs)) (.list xs) L L')
    (q : ∀ σ', Own f.fz σ0 σ' L' → Q v σ') (hb : plainB o = true := by rfl) (hps : (apos.endLine == pos.line) = true := by rfl) (hes : plainS e = true := by rfl) : WV f ρ σ (eval (.Call (.Attribute o "pop" apos) [e] [] pos) f.env) Q :=
  have ha := H.get _ _ _ hp.mem
  WV.meth (b := "list.pop") (WV.pe ho ⟨Mth.pop ha, WLs.pes (.cons he .nil) (by simp [hes]) (WC.pop0 ha (H.wr _ _ hp.mem) (q _ (H.turn hp)))⟩) hb hps (by simp [hes]) (by simp)

/-- a turn's end, by what is owned -/
inductive OI (fz : Addr → Prop) (σ0 : St) (I : Loc → List Ent → Prop) (ρ4 : Loc) (σ4 : St) : Prop
  | mk (L4 : List Ent) (o : Own fz σ0 σ4 L4) (i : I ρ4 L4) : OI fz σ0 I ρ4 σ4
inductive OWI (fz : Addr → Prop) (σ0 : St) (I : Nat → Loc → List Ent → Prop) (n : Nat) (ρ2 : Loc) (σ2 : St) : Prop
  | mk (m : Nat) (L2 : List Ent) (h : m < n) (o : Own fz σ0 σ2 L2) (i : I m ρ2 L2) : OWI fz σ0 I n ρ2 σ2
inductive TQ (f : Fx) (x : Str) (v : Value) (ρ2 : Loc) (σ2 : St) (body : List Stmt) (Q : Flow → Loc → St → Prop) : Prop
  | mk (ρ3 : Loc) (h : SetAt x v ρ2 ρ3) (s : SS f ρ3 σ2 body Q) : TQ f x v ρ2 σ2 body Q
inductive FQ (f : Fx) (ρ : Loc) (σ0 : St) (x : Str) (body : List Stmt) (Q : Flow → Loc → St → Prop) (v : Value) (σ1 : St) : Prop
  | mk (xs : List Value) (D : Addr → Prop) (a : Addr) (L1 : List Ent) (e : v = .ref a) (hit : Iter f σ1 (.ref a) xs D) (o : Own (f.more D).fz σ0 σ1 L1) (I : Nat → Loc → List Ent → Prop) (h0 : I 0 ρ L1)
    (ht : ∀ i x' ρ2 σ2 L2, xs[i]? = some x' → Own (f.more D).fz σ0 σ2 L2 → I i ρ2 L2 → TQ (f.more D) x x' ρ2 σ2 body (LQ (OI (f.more D).fz σ0 (I (i + 1))) Q))
    (he : ∀ ρ2 σ2 L2, Own f.fz σ0 σ2 L2 → I xs.length ρ2 L2 → Q .next ρ2 σ2) : FQ f ρ σ0 x body Q v σ1
/-- a for loop, of a name -/
theorem S1.forO {σ0 : St} {x : Str} {px : Pos} {iter : Expr} {body : List Stmt} {p : Pos} {Q : Flow → Loc → St → Prop}
    (h : WV f ρ σ (eval iter f.env) (FQ f ρ σ0 x body Q))
    (hns : ∀ x, foldedSetIterable iter f.env x = Pure.pure x := by intro _; rfl) : S1 f ρ σ (.For (.Name x px) iter body [] p) Q :=
  S1.for (WX.mono h fun v σ1 t20 => by obtain ⟨xs, D, a, L1, e1, hit, H1, I, h0, ht, hend⟩ := t20; exact ⟨xs, D, a, e1, hit, fun i => OI (f.more D).fz σ0 (I i), ⟨L1, H1, h0⟩, fun i x' ρ2 σ2 hx _ ⟨L2, H2, hI⟩ => by
    obtain ⟨ρ3, hs, hq⟩ := ht i x' ρ2 σ2 L2 hx H2 hI
    refine WA.name ⟨ρ3, hs, SS.mono hq fun fl ρ4 σ4 _ q => ?_⟩
    cases fl with
    | next => exact q
    | cont => exact q
    | brk => exact q
    | ret v => exact q, fun ρ2 σ2 _ t40 => by obtain ⟨L2, H2, hI⟩ := t40; exact hend ρ2 σ2 L2 H2.less hI⟩) hns
/-- a while loop -/
theorem S1.whileO {σ0 : St} {L : List Ent} {test : Expr} {body : List Stmt} {p : Pos} {Q : Flow → Loc → St → Prop} (H : Own f.fz σ0 σ L) (I : Nat → Loc → List Ent → Prop) (n : Nat) (h0 : I n ρ L)
    (turn : ∀ n ρ1 σ1 L1, Own f.fz σ0 σ1 L1 → I n ρ1 L1 → WhQ f test body (LQ (OWI f.fz σ0 I n) Q) Q ρ1 σ1) :
    S1 f ρ σ (.While test body [] p) Q := S1.while (fun n => OI f.fz σ0 (I n)) n ⟨L, H, h0⟩ fun n ρ1 σ1 ⟨L1, H1, hI⟩ => by
  obtain ⟨b, h1, h2, h3⟩ := turn n ρ1 σ1 L1 H1 hI
  refine ⟨b, h1, fun e => SS.mono (h2 e) fun fl ρ2 σ2 _ q => ?_, h3⟩
  cases fl with
  | next => obtain ⟨m, L2, a, b, c⟩ := q; exact ⟨m, a, L2, b, c⟩
  | cont => obtain ⟨m, L2, a, b, c⟩ := q; exact ⟨m, a, L2, b, c⟩
  | brk => exact q
  | ret v => exact q

theorem mq1 {α : Type} {a1 x : α} {l : List α} : x ∈ a1 :: x :: l := .tail _ (.head _)
theorem mq2 {α : Type} {a1 a2 x : α} {l : List α} : x ∈ a1 :: a2 :: x :: l := .tail _ (.tail _ (.head _))
theorem mq3 {α : Type} {a1 a2 a3 x : α} {l : List α} : x ∈ a1 :: a2 :: a3 :: x :: l := .tail _ (.tail _ (.tail _ (.head _)))
theorem mq4 {α : Type} {a1 a2 a3 a4 x : α} {l : List α} : x ∈ a1 :: a2 :: a3 :: a4 :: x :: l := .tail _ (.tail _ (.tail _ (.tail _ (.head _))))
theorem sq1 {x : Str} {v : Value} {o : Option Value} {p1 : Str × Option Value} {r : Loc} : SetAt x v (p1 :: (x, o) :: r) (p1 :: (x, some v) :: r) := .there _ (.here _ _)
theorem sq2 {x : Str} {v : Value} {o : Option Value} {p1 p2 : Str × Option Value} {r : Loc} : SetAt x v (p1 :: p2 :: (x, o) :: r) (p1 :: p2 :: (x, some v) :: r) := .there _ (.there _ (.here _ _))
theorem sq3 {x : Str} {v : Value} {o : Option Value} {p1 p2 p3 : Str × Option Value} {r : Loc} : SetAt x v (p1 :: p2 :: p3 :: (x, o) :: r) (p1 :: p2 :: p3 :: (x, some v) :: r) := .there _ (.there _ (.there _ (.here _ _)))
theorem sq4 {x : Str} {v : Value} {o : Option Value} {p1 p2 p3 p4 : Str × Option Value} {r : Loc} : SetAt x v (p1 :: p2 :: p3 :: p4 :: (x, o) :: r) (p1 :: p2 :: p3 :: p4 :: (x, some v) :: r) := .there _ (.there _ (.there _ (.there _ (.here _ _))))
theorem sq5 {x : Str} {v : Value} {o : Option Value} {p1 p2 p3 p4 p5 : Str × Option Value} {r : Loc} : SetAt x v (p1 :: p2 :: p3 :: p4 :: p5 :: (x, o) :: r) (p1 :: p2 :: p3 :: p4 :: p5 :: (x, some v) :: r) := .there _ (.there _ (.there _ (.there _ (.there _ (.here _ _)))))
end
section
set_option maxHeartbeats 4000000
set_option genSizeOfSpec false

variable {f : Fx} {ρ : Loc} {σ : St}

theorem g_INST_ALT (P : Params) : nsIn (KK P) mainGlobals "INST_ALT" = some (some (.int 0 187)) := by kernel_rfl
theorem g_INST_RANGE (P : Params) : nsIn (KK P) mainGlobals "INST_RANGE" = some (some (.int 1 189)) := by kernel_rfl
theorem g_INST_CAPTURE (P : Params) : nsIn (KK P) mainGlobals "INST_CAPTURE" = some (some (.int 2 191)) := by kernel_rfl
theorem g_INST_EMPTY (P : Params) : nsIn (KK P) mainGlobals "INST_EMPTY" = some (some (.int 3 193)) := by kernel_rfl
theorem g_INST_MATCH (P : Params) : nsIn (KK P) mainGlobals "INST_MATCH" = some (some (.int 4 195)) := by kernel_rfl
theorem g_INST_NOP (P : Params) : nsIn (KK P) mainGlobals "INST_NOP" = some (some (.int 5 197)) := by kernel_rfl
theorem g_INST_FAIL (P : Params) : nsIn (KK P) mainGlobals "INST_FAIL" = some (some (.int 6 199)) := by kernel_rfl
theorem g_EMPTY_ALL (P : Params) : nsIn (KK P) mainGlobals "EMPTY_ALL" = some (some (.int 63 213)) := by kernel_rfl
theorem g_program_twin (P : Params) : nsIn (KK P) mainGlobals "program_twin" = some (some (.ref 71)) := by kernel_rfl
theorem g_program_ways (P : Params) : nsIn (KK P) mainGlobals "program_ways" = some (some (.ref 78)) := by kernel_rfl
theorem g_program_closure (P : Params) : nsIn (KK P) mainGlobals "program_closure" = some (some (.ref 85)) := by kernel_rfl
theorem g_program_reached (P : Params) : nsIn (KK P) mainGlobals "program_reached" = some (some (.ref 92)) := by kernel_rfl
theorem g_program_captures (P : Params) : nsIn (KK P) mainGlobals "program_captures" = some (some (.ref 99)) := by kernel_rfl
theorem g_program_counts (P : Params) : nsIn (KK P) mainGlobals "program_counts" = some (some (.ref 106)) := by kernel_rfl
theorem g_program_fanouts (P : Params) : nsIn (KK P) mainGlobals "program_fanouts" = some (some (.ref 111)) := by kernel_rfl
theorem g_program_fanout (P : Params) : nsIn (KK P) mainGlobals "program_fanout" = some (some (.ref 118)) := by kernel_rfl
theorem g_program_octet_text (P : Params) : nsIn (KK P) mainGlobals "program_octet_text" = some (some (.ref 125)) := by kernel_rfl
theorem g_program_asked_text (P : Params) : nsIn (KK P) mainGlobals "program_asked_text" = some (some (.ref 130)) := by kernel_rfl
theorem g_inst_text (P : Params) : nsIn (KK P) mainGlobals "inst_text" = some (some (.ref 137)) := by kernel_rfl
theorem g_program_dump (P : Params) : nsIn (KK P) mainGlobals "program_dump" = some (some (.ref 145)) := by kernel_rfl
theorem g_program_heads (P : Params) : nsIn (KK P) mainGlobals "program_heads" = some (some (.ref 152)) := by kernel_rfl
theorem g_inst_fault (P : Params) : nsIn (KK P) mainGlobals "inst_fault" = some (some (.ref 159)) := by kernel_rfl
theorem g_program_ways_fault (P : Params) : nsIn (KK P) mainGlobals "program_ways_fault" = some (some (.ref 166)) := by kernel_rfl
theorem g_program_faults (P : Params) : nsIn (KK P) mainGlobals "program_faults" = some (some (.ref 173)) := by kernel_rfl
theorem g_flatten_ways (P : Params) : nsIn (KK P) mainGlobals "flatten_ways" = some (some (.ref 181)) := by kernel_rfl
theorem g_first_roots (P : Params) : nsIn (KK P) mainGlobals "first_roots" = some (some (.ref 188)) := by kernel_rfl
theorem g_shared_ways (P : Params) : nsIn (KK P) mainGlobals "shared_ways" = some (some (.ref 195)) := by kernel_rfl
theorem g_all_roots (P : Params) : nsIn (KK P) mainGlobals "all_roots" = some (some (.ref 202)) := by kernel_rfl
theorem g_flatten_key (P : Params) : nsIn (KK P) mainGlobals "flatten_key" = some (some (.ref 209)) := by kernel_rfl
theorem g_flatten_list (P : Params) : nsIn (KK P) mainGlobals "flatten_list" = some (some (.ref 216)) := by kernel_rfl
theorem g_flattened (P : Params) : nsIn (KK P) mainGlobals "flattened" = some (some (.ref 221)) := by kernel_rfl
theorem g__law_digits (P : Params) : nsIn (KK P) mainGlobals "_law_digits" = some (some (.ref 228)) := by kernel_rfl
theorem g__law_inst (P : Params) : nsIn (KK P) mainGlobals "_law_inst" = some (some (.ref 235)) := by kernel_rfl
theorem g__law_ways (P : Params) : nsIn (KK P) mainGlobals "_law_ways" = some (some (.ref 242)) := by kernel_rfl
theorem g__law_down (P : Params) : nsIn (KK P) mainGlobals "_law_down" = some (some (.ref 249)) := by kernel_rfl
theorem g__law_outs (P : Params) : nsIn (KK P) mainGlobals "_law_outs" = some (some (.ref 254)) := by kernel_rfl
theorem g__law_places (P : Params) : nsIn (KK P) mainGlobals "_law_places" = some (some (.ref 261)) := by kernel_rfl
theorem g__law_powers (P : Params) : nsIn (KK P) mainGlobals "_law_powers" = some (some (.ref 266)) := by kernel_rfl
theorem g__law_reached (P : Params) : nsIn (KK P) mainGlobals "_law_reached" = some (some (.ref 273)) := by kernel_rfl
theorem g__law_is_dumped (P : Params) : nsIn (KK P) mainGlobals "_law_is_dumped" = some (some (.ref 278)) := by kernel_rfl
theorem g__law_is_told_well (P : Params) : nsIn (KK P) mainGlobals "_law_is_told_well" = some (some (.ref 283)) := by kernel_rfl
theorem g__law_turn (P : Params) : nsIn (KK P) mainGlobals "_law_turn" = some (some (.ref 290)) := by kernel_rfl
theorem g__law_is_right (P : Params) : nsIn (KK P) mainGlobals "_law_is_right" = some (some (.ref 295)) := by kernel_rfl
theorem g_FLATTEN_STEPS (P : Params) : nsIn (KK P) mainGlobals "FLATTEN_STEPS" = some (some (.ref 174)) := by kernel_rfl
theorem g_PROGRAM_ASKED (P : Params) : nsIn (KK P) mainGlobals "PROGRAM_ASKED" = some (some (.ref 21)) := by kernel_rfl
theorem g_Inst (P : Params) : nsIn (KK P) mainGlobals "Inst" = some (some (.ref 39)) := by kernel_rfl
theorem g_Program (P : Params) : nsIn (KK P) mainGlobals "Program" = some (some (.ref 60)) := by kernel_rfl
theorem b_max (P : Params) : nsIn (KK P) mainGlobals "max" = some none := by kernel_rfl
theorem b_sorted (P : Params) : nsIn (KK P) mainGlobals "sorted" = some none := by kernel_rfl
theorem b_str (P : Params) : nsIn (KK P) mainGlobals "str" = some none := by kernel_rfl
theorem b_int (P : Params) : nsIn (KK P) mainGlobals "int" = some none := by kernel_rfl
theorem b_list (P : Params) : nsIn (KK P) mainGlobals "list" = some none := by kernel_rfl
theorem b_range (P : Params) : nsIn (KK P) mainGlobals "range" = some none := by kernel_rfl
theorem b_len (P : Params) : nsIn (KK P) mainGlobals "len" = some none := by kernel_rfl
theorem b_reversed (P : Params) : nsIn (KK P) mainGlobals "reversed" = some none := by kernel_rfl

theorem PE.globI {x : Str} {p : Pos} {i : Int} {t : Tok} (hm : x ∈ f.gl) (hv : ∀ P, nsIn (KK P) mainGlobals x = some (some (.int i t))) : PE f ρ σ (.Name x p) (.int i 0) := PE.glob hm hv rfl
theorem PE.globR {x : Str} {p : Pos} {a : Addr} (hm : x ∈ f.gl) (hv : ∀ P, nsIn (KK P) mainGlobals x = some (some (.ref a))) : PE f ρ σ (.Name x p) (.ref a) := PE.glob hm hv rfl
set_option genInjectivity false in
structure In where
  op : Int
  out : Int
  arg : Int
  low : Int
  high : Int
  fold : Bool
  last : Bool
set_option genInjectivity false in
structure Pg where
  insts : List In
  start : Int
  loose : Int
  flat : Bool
  heads : List Int
set_option genInjectivity false in
structure PR where
  d : Addr
  L : Addr
  H : Addr
  xs : List Addr
noncomputable abbrev In.fs (i : In) : List (Str × Value) := [("op", .int i.op 0), ("out", .int i.out 0), ("arg", .int i.arg 0), ("low", .int i.low 0), ("high", .int i.high 0), ("is_folded", .bool i.fold), ("is_last", .bool i.last)]
noncomputable abbrev Pg.fs (g : Pg) (r : PR) : List (Str × Value) := [("insts", .ref r.L), ("start", .int g.start 0), ("start_loose", .int g.loose 0), ("is_reversed", .bool false), ("is_anchored_start", .bool false), ("is_anchored_end", .bool false), ("is_flat", .bool g.flat), ("heads", .ref r.H), ("prefix", .bytes #[] 0), ("is_prefix_folded", .bool false), ("byte_cuts", .none)]
noncomputable def IsI (σ : St) (x : Addr) (i : In) : Prop := ∃ d, σ x = some (.inst cI d) ∧ σ d = some (.ns i.fs)
noncomputable abbrev refs (xs : List Addr) : List Value := xs.map .ref
structure IsP (σ : St) (p : Addr) (g : Pg) (r : PR) : Prop where
  obj : σ p = some (.inst cP r.d)
  fs : σ r.d = some (.ns (g.fs r))
  L : σ r.L = some (.list (refs r.xs))
  H : σ r.H = some (.list (intL g.heads))
  len : r.xs.length = g.insts.length
  at_ : ∀ k (h : k < g.insts.length) (h' : k < r.xs.length), IsI σ r.xs[k] g.insts[k]
theorem IsI.ext {σ σ' : St} {x : Addr} {i : In} (h : IsI σ x i) (e : Ext σ σ') : IsI σ' x i := let ⟨d, h1, h2⟩ := h; ⟨d, e _ _ h1, e _ _ h2⟩
theorem IsP.ext {σ σ' : St} {p : Addr} {g : Pg} {r : PR} (h : IsP σ p g r) (e : Ext σ σ') : IsP σ' p g r := ⟨e _ _ h.obj, e _ _ h.fs, e _ _ h.L, e _ _ h.H, h.len, fun k h1 h2 => (h.at_ k h1 h2).ext e⟩
theorem IsP.ix {p : Addr} {g : Pg} {r : PR} (h : IsP σ p g r) {k : Nat} {i : In} (hk : g.insts[k]? = some i) : ∃ x, r.xs[k]? = some x ∧ IsI σ x i := by
  obtain ⟨h1, rfl⟩ := List.getElem?_eq_some_iff.mp hk
  have h2 : k < r.xs.length := h.len ▸ h1
  exact ⟨_, List.getElem?_eq_getElem h2, h.at_ k h1 h2⟩
theorem IsP.px {p : Addr} {g : Pg} {r : PR} (h : IsP σ p g r) {k : Nat} {x : Addr} (hk : r.xs[k]? = some x) : ∃ i, g.insts[k]? = some i ∧ IsI σ x i := by
  obtain ⟨h1, rfl⟩ := List.getElem?_eq_some_iff.mp hk
  have h2 : k < g.insts.length := h.len ▸ h1
  exact ⟨_, List.getElem?_eq_getElem h2, h.at_ k h2 h1⟩

theorem PE.i_op {σ0 : St} {L : List Ent} {e : Expr} {p : Pos} {x : Addr} {i : In} (he : PE f ρ σ e (.ref x)) (hi : IsI σ0 x i) (H : Own f.fz σ0 σ L) (hb : plainB e = true := by rfl) : PE f ρ σ (.Attribute e "op" p) (.int i.op 0) :=
  let ⟨d, h1, h2⟩ := hi; PE.attr he ⟨d, _, H.ext _ _ h1, H.ext _ _ h2, .head _⟩ ca_op hb
theorem PE.i_out {σ0 : St} {L : List Ent} {e : Expr} {p : Pos} {x : Addr} {i : In} (he : PE f ρ σ e (.ref x)) (hi : IsI σ0 x i) (H : Own f.fz σ0 σ L) (hb : plainB e = true := by rfl) : PE f ρ σ (.Attribute e "out" p) (.int i.out 0) :=
  let ⟨d, h1, h2⟩ := hi; PE.attr he ⟨d, _, H.ext _ _ h1, H.ext _ _ h2, .tail _ (.head _)⟩ ca_out hb
theorem PE.i_arg {σ0 : St} {L : List Ent} {e : Expr} {p : Pos} {x : Addr} {i : In} (he : PE f ρ σ e (.ref x)) (hi : IsI σ0 x i) (H : Own f.fz σ0 σ L) (hb : plainB e = true := by rfl) : PE f ρ σ (.Attribute e "arg" p) (.int i.arg 0) :=
  let ⟨d, h1, h2⟩ := hi; PE.attr he ⟨d, _, H.ext _ _ h1, H.ext _ _ h2, .tail _ (.tail _ (.head _))⟩ ca_arg hb
theorem PE.i_low {σ0 : St} {L : List Ent} {e : Expr} {p : Pos} {x : Addr} {i : In} (he : PE f ρ σ e (.ref x)) (hi : IsI σ0 x i) (H : Own f.fz σ0 σ L) (hb : plainB e = true := by rfl) : PE f ρ σ (.Attribute e "low" p) (.int i.low 0) :=
  let ⟨d, h1, h2⟩ := hi; PE.attr he ⟨d, _, H.ext _ _ h1, H.ext _ _ h2, .tail _ (.tail _ (.tail _ (.head _)))⟩ ca_low hb
theorem PE.i_high {σ0 : St} {L : List Ent} {e : Expr} {p : Pos} {x : Addr} {i : In} (he : PE f ρ σ e (.ref x)) (hi : IsI σ0 x i) (H : Own f.fz σ0 σ L) (hb : plainB e = true := by rfl) : PE f ρ σ (.Attribute e "high" p) (.int i.high 0) :=
  let ⟨d, h1, h2⟩ := hi; PE.attr he ⟨d, _, H.ext _ _ h1, H.ext _ _ h2, .tail _ (.tail _ (.tail _ (.tail _ (.head _))))⟩ ca_high hb
theorem PE.i_is_folded {σ0 : St} {L : List Ent} {e : Expr} {p : Pos} {x : Addr} {i : In} (he : PE f ρ σ e (.ref x)) (hi : IsI σ0 x i) (H : Own f.fz σ0 σ L) (hb : plainB e = true := by rfl) : PE f ρ σ (.Attribute e "is_folded" p) (.bool i.fold) :=
  let ⟨d, h1, h2⟩ := hi; PE.attr he ⟨d, _, H.ext _ _ h1, H.ext _ _ h2, .tail _ (.tail _ (.tail _ (.tail _ (.tail _ (.head _)))))⟩ ca_fold hb
theorem PE.i_is_last {σ0 : St} {L : List Ent} {e : Expr} {p : Pos} {x : Addr} {i : In} (he : PE f ρ σ e (.ref x)) (hi : IsI σ0 x i) (H : Own f.fz σ0 σ L) (hb : plainB e = true := by rfl) : PE f ρ σ (.Attribute e "is_last" p) (.bool i.last) :=
  let ⟨d, h1, h2⟩ := hi; PE.attr he ⟨d, _, H.ext _ _ h1, H.ext _ _ h2, .tail _ (.tail _ (.tail _ (.tail _ (.tail _ (.tail _ (.head _))))))⟩ ca_last hb
theorem PE.p_insts {σ0 : St} {L : List Ent} {e : Expr} {p : Pos} {x : Addr} {g : Pg} {r : PR} (he : PE f ρ σ e (.ref x)) (hp : IsP σ0 x g r) (H : Own f.fz σ0 σ L) (hb : plainB e = true := by rfl) : PE f ρ σ (.Attribute e "insts" p) (.ref r.L) :=
  PE.attr he ⟨_, _, H.ext _ _ hp.obj, H.ext _ _ hp.fs, .head _⟩ ca_insts hb
theorem PE.p_start {σ0 : St} {L : List Ent} {e : Expr} {p : Pos} {x : Addr} {g : Pg} {r : PR} (he : PE f ρ σ e (.ref x)) (hp : IsP σ0 x g r) (H : Own f.fz σ0 σ L) (hb : plainB e = true := by rfl) : PE f ρ σ (.Attribute e "start" p) (.int g.start 0) :=
  PE.attr he ⟨_, _, H.ext _ _ hp.obj, H.ext _ _ hp.fs, .tail _ (.head _)⟩ ca_start hb
theorem PE.p_start_loose {σ0 : St} {L : List Ent} {e : Expr} {p : Pos} {x : Addr} {g : Pg} {r : PR} (he : PE f ρ σ e (.ref x)) (hp : IsP σ0 x g r) (H : Own f.fz σ0 σ L) (hb : plainB e = true := by rfl) : PE f ρ σ (.Attribute e "start_loose" p) (.int g.loose 0) :=
  PE.attr he ⟨_, _, H.ext _ _ hp.obj, H.ext _ _ hp.fs, .tail _ (.tail _ (.head _))⟩ ca_loose hb
theorem PE.p_is_reversed {σ0 : St} {L : List Ent} {e : Expr} {p : Pos} {x : Addr} {g : Pg} {r : PR} (he : PE f ρ σ e (.ref x)) (hp : IsP σ0 x g r) (H : Own f.fz σ0 σ L) (hb : plainB e = true := by rfl) : PE f ρ σ (.Attribute e "is_reversed" p) (.bool false) :=
  PE.attr he ⟨_, _, H.ext _ _ hp.obj, H.ext _ _ hp.fs, .tail _ (.tail _ (.tail _ (.head _)))⟩ ca_rev hb
theorem PE.p_is_anchored_start {σ0 : St} {L : List Ent} {e : Expr} {p : Pos} {x : Addr} {g : Pg} {r : PR} (he : PE f ρ σ e (.ref x)) (hp : IsP σ0 x g r) (H : Own f.fz σ0 σ L) (hb : plainB e = true := by rfl) : PE f ρ σ (.Attribute e "is_anchored_start" p) (.bool false) :=
  PE.attr he ⟨_, _, H.ext _ _ hp.obj, H.ext _ _ hp.fs, .tail _ (.tail _ (.tail _ (.tail _ (.head _))))⟩ ca_anS hb
theorem PE.p_is_anchored_end {σ0 : St} {L : List Ent} {e : Expr} {p : Pos} {x : Addr} {g : Pg} {r : PR} (he : PE f ρ σ e (.ref x)) (hp : IsP σ0 x g r) (H : Own f.fz σ0 σ L) (hb : plainB e = true := by rfl) : PE f ρ σ (.Attribute e "is_anchored_end" p) (.bool false) :=
  PE.attr he ⟨_, _, H.ext _ _ hp.obj, H.ext _ _ hp.fs, .tail _ (.tail _ (.tail _ (.tail _ (.tail _ (.head _)))))⟩ ca_anE hb
theorem PE.p_is_flat {σ0 : St} {L : List Ent} {e : Expr} {p : Pos} {x : Addr} {g : Pg} {r : PR} (he : PE f ρ σ e (.ref x)) (hp : IsP σ0 x g r) (H : Own f.fz σ0 σ L) (hb : plainB e = true := by rfl) : PE f ρ σ (.Attribute e "is_flat" p) (.bool g.flat) :=
  PE.attr he ⟨_, _, H.ext _ _ hp.obj, H.ext _ _ hp.fs, .tail _ (.tail _ (.tail _ (.tail _ (.tail _ (.tail _ (.head _))))))⟩ ca_flat hb
theorem PE.p_heads {σ0 : St} {L : List Ent} {e : Expr} {p : Pos} {x : Addr} {g : Pg} {r : PR} (he : PE f ρ σ e (.ref x)) (hp : IsP σ0 x g r) (H : Own f.fz σ0 σ L) (hb : plainB e = true := by rfl) : PE f ρ σ (.Attribute e "heads" p) (.ref r.H) :=
  PE.attr he ⟨_, _, H.ext _ _ hp.obj, H.ext _ _ hp.fs, .tail _ (.tail _ (.tail _ (.tail _ (.tail _ (.tail _ (.tail _ (.head _)))))))⟩ ca_heads hb
theorem PE.p_prefix {σ0 : St} {L : List Ent} {e : Expr} {p : Pos} {x : Addr} {g : Pg} {r : PR} (he : PE f ρ σ e (.ref x)) (hp : IsP σ0 x g r) (H : Own f.fz σ0 σ L) (hb : plainB e = true := by rfl) : PE f ρ σ (.Attribute e "prefix" p) (.bytes #[] 0) :=
  PE.attr he ⟨_, _, H.ext _ _ hp.obj, H.ext _ _ hp.fs, .tail _ (.tail _ (.tail _ (.tail _ (.tail _ (.tail _ (.tail _ (.tail _ (.head _))))))))⟩ ca_prefix hb
theorem PE.p_is_prefix_folded {σ0 : St} {L : List Ent} {e : Expr} {p : Pos} {x : Addr} {g : Pg} {r : PR} (he : PE f ρ σ e (.ref x)) (hp : IsP σ0 x g r) (H : Own f.fz σ0 σ L) (hb : plainB e = true := by rfl) : PE f ρ σ (.Attribute e "is_prefix_folded" p) (.bool false) :=
  PE.attr he ⟨_, _, H.ext _ _ hp.obj, H.ext _ _ hp.fs, .tail _ (.tail _ (.tail _ (.tail _ (.tail _ (.tail _ (.tail _ (.tail _ (.tail _ (.head _)))))))))⟩ ca_pf hb

theorem PE.p_inst {σ0 : St} {L : List Ent} {e k : Expr} {p p' : Pos} {x y : Addr} {g : Pg} {r : PR} {i : Int} (he : PE f ρ σ e (.ref x)) (hk : PE f ρ σ k (.int i 0)) (hp : IsP σ0 x g r) (H : Own f.fz σ0 σ L) (h0 : 0 ≤ i) (hx : r.xs[i.toNat]? = some y) (hs : plainSl k = true := by rfl) (hb : plainB e = true := by rfl) :
    PE f ρ σ (.Subscript (.Attribute e "insts" p) k p') (.ref y) := PE.item (PE.p_insts he hp H hb) hk (Itm.list (H.ext _ _ hp.L) h0 (by simp [hx])) hs

theorem Cmp.neI {i j : Int} : Cmp f ρ σ .NotEq (.int i 0) (.int j 0) (i != j) := fun u v e1 e2 => by
  obtain ⟨t, rfl⟩ := er_int e1; obtain ⟨t', rfl⟩ := er_int e2
  exact Pr.mk fun _ s _ X k => ne_int (k _ _ X (Ka.refl _) rfl)
theorem Cmp.gtI {i j : Int} : Cmp f ρ σ .Gt (.int i 0) (.int j 0) (decide (j < i)) := fun u v e1 e2 => by
  obtain ⟨t, rfl⟩ := er_int e1; obtain ⟨t', rfl⟩ := er_int e2
  exact Pr.mk fun _ s _ X k => gt_int (k _ _ X (Ka.refl _) rfl)

inductive PIs (f : Fx) (ρ : Loc) (σ : St) : List Expr → List Int → Prop
  | nil : PIs f ρ σ [] []
  | cons {e : Expr} {es : List Expr} {v : Int} {vs : List Int} : PE f ρ σ e (.int v 0) → PIs f ρ σ es vs → PIs f ρ σ (e :: es) (v :: vs)
theorem PIs.pes {es : List Expr} {ns : List Int} (h : PIs f ρ σ es ns) : PEs f ρ σ es (intL ns) := by induction h with | nil => exact .nil | cons h _ ih => exact .cons h ih
/-- a test in a tuple that is made -/
theorem WT.inT {σ0 : St} {L : List Ent} {e : Expr} {es : List Expr} {i : Int} {ns : List Int} {k : Nat} {p p' : Pos} {Q : Bool → St → Prop} (he : PE f ρ σ e (.int i 0)) (hs : PIs f ρ σ es ns) (H : Own f.fz σ0 σ L) (q : ∀ σ', Own f.fz σ0 σ' L → Q (ns.any (· == i)) σ')
    (hl : es.length ≤ 1000 := by decide) (hp : es.all plainS = true := by rfl) : WT f ρ σ (.Compare e [.In] [.Tuple es k p] p') Q := fun A s X =>
  wpAny_isTrue_Compare1 (he.useW X fun u s1 X1 k1 e1 => WX.use (WV.newT hs.pes H (Q := fun v σ' => ∃ a, v = .ref a ∧ Own f.fz σ0 σ' ((a, .tup (intL ns), true) :: L)) (fun a σ' o => ⟨a, rfl, o⟩) hl hp) X1 fun v s2 σ2 X2 k2 ⟨a, e2, o⟩ =>
    (Cmp.inT (f := f) (ρ := ρ) (o.get a (.tup (intL ns)) true (List.mem_cons_self ..)) u v e1 e2).use X2.r fun w s3 X3 k3 e3 => by
      rw [er_bool e3]
      exact wpAny_truthy_bool ((X2.ka k3 X3.sh).post (k1.kp.trans (k2.trans k3.kp)) (q _ (o.sub (List.sublist_cons_self ..))))) rfl
theorem WT.notInT {σ0 : St} {L : List Ent} {e : Expr} {es : List Expr} {i : Int} {ns : List Int} {k : Nat} {p p' : Pos} {Q : Bool → St → Prop} (he : PE f ρ σ e (.int i 0)) (hs : PIs f ρ σ es ns) (H : Own f.fz σ0 σ L) (q : ∀ σ', Own f.fz σ0 σ' L → Q (!ns.any (· == i)) σ')
    (hl : es.length ≤ 1000 := by decide) (hp : es.all plainS = true := by rfl) : WT f ρ σ (.Compare e [.NotIn] [.Tuple es k p] p') Q := fun A s X =>
  wpAny_isTrue_Compare1 (he.useW X fun u s1 X1 k1 e1 => WX.use (WV.newT hs.pes H (Q := fun v σ' => ∃ a, v = .ref a ∧ Own f.fz σ0 σ' ((a, .tup (intL ns), true) :: L)) (fun a σ' o => ⟨a, rfl, o⟩) hl hp) X1 fun v s2 σ2 X2 k2 ⟨a, e2, o⟩ =>
    (Cmp.notInT (f := f) (ρ := ρ) (o.get a (.tup (intL ns)) true (List.mem_cons_self ..)) u v e1 e2).use X2.r fun w s3 X3 k3 e3 => by
      rw [er_bool e3]
      exact wpAny_truthy_bool ((X2.ka k3 X3.sh).post (k1.kp.trans (k2.trans k3.kp)) (q _ (o.sub (List.sublist_cons_self ..))))) rfl

noncomputable def wmem : Unit := ()
noncomputable def wset : Unit := ()
noncomputable def wput : Unit := ()
noncomputable def wfrz : Unit := ()
noncomputable def wglobi : Unit := ()
noncomputable def wglob : Unit := ()
noncomputable def wattr : Unit := ()
noncomputable def wpe : Unit := ()
noncomputable def wextra : Unit := ()
noncomputable def wbin : Unit := ()
noncomputable def wcmp : Unit := ()
noncomputable def wcmpx : Unit := ()
noncomputable def wtru : Unit := ()
noncomputable def wpt : Unit := ()
noncomputable def wchain : Unit := ()
noncomputable def wpes : Unit := ()
noncomputable def wpis : Unit := ()
noncomputable def wsta : Unit := ()
noncomputable def wstr : Unit := ()
noncomputable def whas : Unit := ()
noncomputable def wx1 : Unit := ()
noncomputable def wx2 : Unit := ()
noncomputable def wx3 : Unit := ()
noncomputable def wx4 : Unit := ()
noncomputable def wx5 : Unit := ()
noncomputable def wx6 : Unit := ()
noncomputable def wx7 : Unit := ()
noncomputable def wx8 : Unit := ()
noncomputable def wx9 : Unit := ()
end
section
noncomputable def ways (g : Pg) (k : Int) (i : In) : List Int := if i.op == 0 then [i.out, i.arg] else (if [(2 : Int), 3, 5].any (· == i.op) then [i.out] else []) ++ (if g.flat && !i.last then [k + 1] else [])
end
section
variable {f : Fx} {ρ : Loc} {σ : St}

inductive NameL : List Expr → List Str → Prop
  | nil : NameL [] []
  | cons (x : Str) (p : Pos) {ts : List Expr} {ns : List Str} : NameL ts ns → NameL (.Name x p :: ts) (x :: ns)
inductive StA : List Str → List Value → Loc → Loc → Prop
  | nil (ρ : Loc) : StA [] [] ρ ρ
  | cons {x : Str} {v : Value} {ns : List Str} {vs : List Value} {ρ ρ1 ρ2 : Loc} : SetAt x v ρ ρ1 → StA ns vs ρ1 ρ2 → StA (x :: ns) (v :: vs) ρ ρ2
theorem StA.names {ns : List Str} {vs : List Value} {ρ ρ' : Loc} (h : StA ns vs ρ ρ') : ρ'.map (·.1) = ρ.map (·.1) := by induction h with | nil => rfl | cons h _ ih => exact ih.trans h.names
theorem StA.length {ns : List Str} {vs : List Value} {ρ ρ' : Loc} (h : StA ns vs ρ ρ') : vs.length = ns.length := by induction h with | nil => rfl | cons h _ ih => simp [ih]

theorem WS.names {ts : List Expr} {ns : List Str} {vs raw : List Value} {ρ' : Loc} {Q : Unit → Loc → St → Prop} (hn : NameL ts ns) (h : StA ns vs ρ ρ') (e : raw.map er = vs) (q : Q () ρ' σ) : WS f ρ σ (assignInOrder ((assignEach ts f.env).map (·.2)) raw) Q := by
  induction hn generalizing ρ vs raw with
  | nil => cases h; exact WS.pure q
  | cons x p hn ih =>
    cases h with
    | cons h1 h2 =>
      cases raw with
      | nil => cases e
      | cons r raw =>
        simp only [List.map_cons, List.cons.injEq] at e
        show WS f ρ σ (do PySem.holding raw (assign (.Name x p) f.env r); assignInOrder _ raw) Q
        refine WS.bind (WS.holding ?_)
        exact WA.name (Q := fun ρ1 σ1 => WS f ρ1 σ1 (assignInOrder _ raw) Q) ⟨_, h1, ih h2 e.2⟩ r e.1
theorem NameL.each {ts : List Expr} {ns : List Str} (hn : NameL ts ns) (env : Env) : (assignEach ts env).length = ns.length ∧ (assignEach ts env).findIdx? (·.1) = none := by
  induction hn with
  | nil => exact ⟨rfl, rfl⟩
  | @cons x p ts' ns' hn ih =>
    have e : assignEach (.Name x p :: ts') env = (false, assign (.Name x p) env) :: assignEach ts' env := rfl
    rw [e]
    refine ⟨by simp [ih.1], ?_⟩
    rw [List.findIdx?_cons]
    simp [ih.2]
theorem ka_ext {s : Shared} {h' : Heap} (h : Heap.ExtBut s.heap.objs.size s.heap h') : Ka s { s with heap := h' } := fun b o e => h b o (Nat.ne_of_lt (Heap.lt_size e)) e
theorem WA.tupT {ts : List Expr} {ns : List Str} {vs : List Value} {ρ' : Loc} {t : Addr} {k : Nat} {p : Pos} {Q : Loc → St → Prop} (ht : σ t = some (.tup vs)) (hn : NameL ts ns) (h : StA ns vs ρ ρ') (q : Q ρ' σ) : WA f ρ σ (.Tuple ts k p) (.ref t) Q := fun u e A s X => by
  rw [er_ref e]
  obtain ⟨its, -, h2, h3, hl⟩ := tupAt X.rep ht
  obtain ⟨e1, e2⟩ := hn.each f.env
  refine assign_Tuple_tuple X.room.2.2 hl (by rw [e1, size_er h2, h.length]) e2 fun h' hx => ?_
  exact WS.use (WS.names hn h h2 (Q := fun _ => Q) q) (X.ka (ka_ext hx) (X.sh.heap _ s.toks)) fun _ s2 ρ2 σ2 X2 nm k2 q2 => X2.postS nm ((ka_ext hx).kp.s.trans k2) q2
theorem draw_lst {A : Around} {w : World} {I a : Addr} {items : Array Value} {E : Value → Shared → Prop} (W : Walks prg w A I [I, a] [I] items.size (fun i v => items[i]? = some v) (fun i h => h.IsListIter I a i ∧ h.IsList a items)) :
    ∀ (n i : Nat) (s : Shared) (Q : List Value → Shared → Prop), s.heap.IsListIter I a i ∧ s.heap.IsList a items → i + n ≤ items.size →
    (∀ h' tk, h'.IsListIter I a (i + n) ∧ h'.IsList a items → (∀ b o, b ∉ [I] → s.heap.get? b = some o → h'.get? b = some o) → Q ((items.toList.drop i).take n) { s with heap := h', toks := tk }) → wpAny (model prg w) A (draw (.ref I) n) Q E s
  | 0, i, s, Q, st, _, hQ => by
    show wpAny _ _ (pure []) Q E s
    exact wpAny_pure (by simpa using hQ s.heap s.toks st (fun _ _ _ e => e))
  | n + 1, i, s, Q, st, hle, hQ => by
    have hlt : i < items.size := by kspl_open wln
    show wpAny _ _ (pyNext (.ref I) >>= _) Q E s
    refine wpAny_bind (W.item i s _ E hlt st fun v h1 tk hv st1 hk1 => ?_)
    have hv' : items[i] = v := by rw [Array.getElem?_eq_getElem hlt] at hv; cases hv; rfl
    subst hv'
    refine wpAny_bind (wpAny_holding (draw_lst W n (i + 1) _ _ st1 (by kspl_open wln) fun h2 tk2 st2 hk2 => wpAny_pure ?_))
    have hd : items.toList.drop i = items[i] :: items.toList.drop (i + 1) := by simp [List.drop_eq_getElem_cons, hlt]
    have := hQ h2 tk2 (by rw [show i + (n + 1) = i + 1 + n by kspl_open wln]; exact st2) (fun b o hb e => hk2 b o hb (hk1 b o hb e))
    rw [hd, List.take_succ_cons] at this
    exact this
theorem unpack_lst {A : Around} {s : Shared} {E : Value → Shared → Prop} {w : World} {t : Addr} {items : Array Value} {Q : List Value → Shared → Prop} (hh : A.handled = none) (ht : s.heap.IsList t items)
    (hQ : ∀ h' tk, Ka s { s with heap := h', toks := tk } → Q items.toList { s with heap := h', toks := tk }) : wpAny (model prg w) A (unpackItems (.ref t) items.size none) Q E s := by
  have hne : t ≠ s.heap.objs.size := by obtain ⟨o, ho, _⟩ := ht; exact Nat.ne_of_lt (Heap.lt_size ho)
  unfold unpackItems
  refine wpAny_bind ?_
  unfold notIterableAtAll
  refine wpAny_bind (wpAny_specialOf ht.typeIs slot_list_iter.lookup ?_)
  refine wpAny_pure ?_
  simp only [Bool.false_eq_true, if_false]
  have W := Walks.list (prog := prg) (w := w) hh s.heap.objs.size t hne items
  refine wpAny_bind (wpAny_holding (wpAny_pyIter_list ht ?_))
  refine wpAny_bind (wpAny_holding (draw_lst W items.size 0 _ _ ⟨⟨_, Heap.get?_push_size _ rfl, rfl, rfl⟩, ht.push _⟩ (by kspl_open wln) fun h1 tk st1 hk1 => ?_))
  have hall : List.take items.size (List.drop 0 items.toList) = items.toList := by
    rw [List.drop_zero]; exact List.take_of_length_le (by simp)
  rw [hall]
  rw [if_neg (by simp)]
  refine wpAny_bind (wpAny_holding (W.done _ _ _ (by simpa using st1) fun h2 tk2 hk2 => ?_))
  simp only [Option.isSome_none, Bool.false_eq_true, if_false]
  refine wpAny_pure (hQ h2 tk2 fun b o e => ?_)
  have hb : b ∉ [s.heap.objs.size] := by simp only [List.mem_singleton]; rintro rfl; exact absurd (Heap.lt_size e) (Nat.lt_irrefl _)
  exact hk2 b o hb (hk1 b o hb (Heap.get?_push_of_some _ e))
theorem WA.tupL {ts : List Expr} {ns : List Str} {vs : List Value} {ρ' : Loc} {t : Addr} {k : Nat} {p : Pos} {Q : Loc → St → Prop} (ht : σ t = some (.list vs)) (hn : NameL ts ns) (h : StA ns vs ρ ρ') (q : Q ρ' σ) : WA f ρ σ (.Tuple ts k p) (.ref t) Q := fun u e A s X => by
  rw [er_ref e]
  obtain ⟨its, hl, h2, h3, -⟩ := listAt X.rep ht
  obtain ⟨e1, e2⟩ := hn.each f.env
  rw [assign_Tuple]
  refine wpAny_bind (wpAny_standAt ?_)
  unfold unpack
  rw [e2, e1, ← h.length, ← size_er h2]
  refine wpAny_bind (wpAny_holding (unpack_lst X.room.2.2 hl fun h' tk hx => ?_))
  exact WS.use (WS.names hn h h2 (Q := fun _ => Q) q) (X.ka hx (X.sh.heap _ _)) fun _ s2 ρ2 σ2 X2 nm k2 q2 => X2.postS nm (hx.kp.s.trans k2) q2
/-- a, b, .. = a value that is no display -/
theorem S1.tupV {ts : List Expr} {value : Expr} {k : Nat} {p pos : Pos} {Q : Flow → Loc → St → Prop} (h : WV f ρ σ (eval value f.env) fun v σ' => WA f ρ σ' (.Tuple ts k p) v fun ρ' σ'' => Q .next ρ' σ'')
    (hc : noComp value = true := by rfl) (hv : ∀ x y z, value ≠ .Tuple x y z := by intro _ _ _ h; cases h) : S1 f ρ σ (.Assign [.Tuple ts k p] value pos) Q := fun A s X => by
  refine Assign_Tuple (WX.use h X fun v s1 σ1 X1 k1 q => ?_) (swapsSole_no hc) ?_
  · exact WS.use (q v rfl) X1 fun _ s2 ρ2 σ2 X2 nm k2 q2 => X2.postS nm (k1.s.trans k2) q2
  · unfold swappedStores
    cases value <;> first | rfl | exact absurd rfl (hv _ _ _)
theorem filterMap_names {g : Expr → Option Str} (hg : ∀ x p, g (.Name x p) = none ∨ g (.Name x p) = some x) : ∀ {ts : List Expr} {ns : List Str}, NameL ts ns → (ts.filterMap g).length = ts.length → ts.filterMap g = ns
  | _, _, .nil, _ => rfl
  | _, _, .cons (ts := ts) x q hn, h => by
    rw [List.filterMap_cons] at h ⊢
    rcases hg x q with e | e
    · rw [e] at h
      have := List.length_filterMap_le g ts
      simp only [List.length_cons] at h
      lia
    · rw [e] at h ⊢
      dsimp only at h ⊢
      rw [filterMap_names hg hn (by simpa using h)]
theorem swapped_of {ts es : List Expr} {ns : List Str} {k k' : Nat} {p p' : Pos} (hn : NameL ts ns) (h3 : es.all (constantsAlone 8) = false ∨ es.all (foldedForSure 8) = true) (env : Env) :
    swappedStores [.Tuple ts k p] (.Tuple es k' p') env = Pure.pure none ∨ swappedStores [.Tuple ts k p] (.Tuple es k' p') env = Pure.pure (some ns) := by
  unfold swappedStores
  dsimp only
  split
  · exact .inl rfl
  · split
    · exact .inl rfl
    · split
      · exact .inl rfl
      · rename_i h4
        rcases h3 with h3 | h3
        · rw [h3]
          simp only [Bool.false_eq_true, if_false]
          split
          · exact .inl rfl
          · right
            congr 2
            simp only [Bool.or_eq_true, bne_iff_ne, not_or, Decidable.not_not] at h4
            have h5 := h4.1
            clear h4
            generalize (ts.head?.map (·.pos.line)).getD 0 = line at h5 ⊢
            refine filterMap_names (fun x p => ?_) hn h5
            dsimp only
            split
            · exact .inr rfl
            · exact .inl rfl
        · rw [h3]; exact .inl rfl
/-- a, b = (x, y) -/
theorem S1.tupA {ts es : List Expr} {ns : List Str} {k k' : Nat} {p p' pos : Pos} {Q : Flow → Loc → St → Prop} (hn : NameL ts ns) (h3 : es.all (constantsAlone 8) = false ∨ es.all (foldedForSure 8) = true)
    (h : WLs f ρ σ es fun vs σ' => vs.length ≤ 1000 ∧ ∃ ρ', StA ns vs ρ ρ' ∧ StA ns.reverse vs.reverse ρ ρ' ∧ ∀ t, σ' t = none → Q .next ρ' (σ'.set t (.tup vs))) : S1 f ρ σ (.Assign [.Tuple ts k p] (.Tuple es k' p') pos) Q := fun A s X => by
  have ht : WV f ρ σ (eval (.Tuple es k' p') f.env) fun v σ' => (Ey3 fun t vs ρ' => Ay5 (v = .ref t) (σ' t = some (.tup vs)) (StA ns vs ρ ρ') (StA ns.reverse vs.reverse ρ ρ') (Q .next ρ' σ')) :=
    WV.tup fun pp => WX.mono (h pp) fun vs σ' t00 => by obtain ⟨h1, ρ', h2, h3, q⟩ := t00; exact ⟨by kspl_open wln, fun t hn => ⟨t, _, ρ', rfl, St.set_same .., h2, h3, q t hn⟩⟩
  rcases swapped_of (k := k) (k' := k') (p := p) (p' := p') hn h3 f.env with hw | hw
  · refine Assign_Tuple (WX.use ht X fun v s1 σ1 X1 k1 t10 => ?_) rfl hw
    obtain ⟨t, vs, ρ', e, hv, hs, _, q⟩ := t10
    exact WS.use (WA.tupT (k := k) (p := p) hv hn hs (Q := fun ρ2 σ2 => Q .next ρ2 σ2) q v e) X1 fun _ s2 ρ2 σ2 X2 nm k2 q2 => X2.postS nm (k1.s.trans k2) q2
  · refine Assign_Tuple_swapped (WX.use ht X fun v s1 σ1 X1 k1 t20 => ?_) rfl hw
    obtain ⟨t, vs, ρ', e, hv, _, hs, q⟩ := t20
    rw [er_ref e]
    obtain ⟨its, -, e2, -, hl⟩ := tupAt X1.rep hv
    have el : ns.length = its.size := by have := hs.length; simp at this; rw [size_er e2, this]
    rw [el]
    refine unpackItems_tuple X1.room.2.2 hl fun h' hx => ?_
    have hr : ∀ (ns : List Str) (vs raw : List Value) (ρ : Loc) (σ : St), StA ns vs ρ ρ' → raw.map er = vs → Q .next ρ' σ → WS f ρ σ (assignInOrder (ns.map fun n => bindName f.env n) raw) fun _ ρ2 σ2 => Q .next ρ2 σ2 := by
      intro ns
      induction ns with
      | nil => intro vs raw ρ σ h e q; cases h; exact WS.pure q
      | cons x ns ih =>
        intro vs raw ρ σ h e q
        cases h with
        | cons h1 h2 =>
          cases raw with
          | nil => cases e
          | cons r raw =>
            simp only [List.map_cons, List.cons.injEq] at e
            show WS f ρ σ (do PySem.holding raw (bindName f.env x r); assignInOrder _ raw) _
            refine WS.bind (WS.holding ?_)
            exact WS.bindName (e.1 ▸ h1) (ih _ _ _ _ h2 e.2 q)
    exact WS.use (hr _ _ its.toList.reverse _ _ hs (by rw [List.map_reverse, e2]) q) (X1.ka (ka_ext hx) (X1.sh.heap _ s1.toks)) fun _ s2 ρ2 σ2 X2 nm k2 q2 => X2.postS nm (k1.s.trans ((ka_ext hx).kp.s.trans k2)) q2
end
section
variable {f : Fx} {ρ : Loc} {σ : St}

/-! parts that may make things -/
theorem WT.cmpW {l r : Expr} {op : CmpOp} {p : Pos} {Q : Bool → St → Prop} (h : WV f ρ σ (eval l f.env) fun a σ1 => WV f ρ σ1 (eval r f.env) fun b σ2 => (Ey1 fun c => Ay2 (Cmp f ρ σ2 op a b c) (Q c σ2))) (hm : behindInMarks op r = false := by rfl) : WT f ρ σ (.Compare l [op] [r] p) Q := fun A s X =>
  wpAny_isTrue_Compare1 (WX.use h X fun u s1 σ1 X1 k1 q => WX.use q X1 fun v s2 σ2 X2 k2 ⟨c, hc, q⟩ => (hc u v rfl rfl).useW X2 fun w s3 X3 k3 e3 => by
    rw [er_bool e3]; exact wpAny_truthy_bool (X3.post (k1.trans (k2.trans k3.kp)) q)) hm
theorem WV.cmpW {l r : Expr} {op : CmpOp} {p : Pos} {Q : Value → St → Prop} (h : WV f ρ σ (eval l f.env) fun a σ1 => WV f ρ σ1 (eval r f.env) fun b σ2 => (Ey1 fun c => Ay2 (Cmp f ρ σ2 op a b c) (Q (.bool c) σ2))) (hm : behindInMarks op r = false := by rfl) : WV f ρ σ (eval (.Compare l [op] [r] p) f.env) Q := fun A s X =>
  wpAny_Compare1 (WX.use h X fun u s1 σ1 X1 k1 q => WX.use q X1 fun v s2 σ2 X2 k2 ⟨c, hc, q⟩ => (hc u v rfl rfl).useW X2 fun w s3 X3 k3 e3 => X3.post (k1.trans (k2.trans k3.kp)) (by rw [e3]; exact q)) hm
theorem WT.pt {e : Expr} {b : Bool} {Q : Bool → St → Prop} (h : PT f ρ σ e b) (q : Q b σ) : WT f ρ σ e Q := WX.of_pb h q
theorem WT.not {e : Expr} {p : Pos} {Q : Bool → St → Prop} (h : WT f ρ σ e fun b σ' => Q (!b) σ') : WT f ρ σ (.UnaryOp .Not e p) Q := fun A s X => isTrue_not (WX.use h X fun b s1 σ1 X1 k1 q => X1.post k1 q)
theorem WT.or {e e' : Expr} {es : List Expr} {p : Pos} {Q : Bool → St → Prop} (h : WT f ρ σ e fun b σ' => if b then Q true σ' else WT f ρ σ' (.BoolOp .Or (e' :: es) p) Q) : WT f ρ σ (.BoolOp .Or (e :: e' :: es) p) Q := fun A s X =>
  isTrue_or (WX.use h X fun b s1 σ1 X1 k1 q => by
    cases b with
    | true => exact X1.post k1 q
    | false => exact WX.use q X1 fun b s2 σ2 X2 k2 q2 => X2.post (k1.trans k2) q2)
theorem WT.and {e e' : Expr} {es : List Expr} {p : Pos} {Q : Bool → St → Prop} (h : WT f ρ σ e fun b σ' => if b then WT f ρ σ' (.BoolOp .And (e' :: es) p) Q else Q false σ') : WT f ρ σ (.BoolOp .And (e :: e' :: es) p) Q := fun A s X =>
  isTrue_and (WX.use h X fun b s1 σ1 X1 k1 q => by
    cases b with
    | false => exact X1.post k1 q
    | true => exact WX.use q X1 fun b s2 σ2 X2 k2 q2 => X2.post (k1.trans k2) q2)
theorem WT.or1 {e : Expr} {p : Pos} {Q : Bool → St → Prop} (h : WT f ρ σ e Q) : WT f ρ σ (.BoolOp .Or [e] p) Q := fun A s X =>
  isTrue_or (WX.use h X fun b s1 σ1 X1 k1 q => by
    cases b with
    | true => exact X1.post k1 q
    | false => exact isTrue_or_nil (X1.post k1 q))
theorem WT.and1 {e : Expr} {p : Pos} {Q : Bool → St → Prop} (h : WT f ρ σ e Q) : WT f ρ σ (.BoolOp .And [e] p) Q := fun A s X =>
  isTrue_and (WX.use h X fun b s1 σ1 X1 k1 q => by
    cases b with
    | false => exact X1.post k1 q
    | true => exact isTrue_and_nil (X1.post k1 q))
theorem WT.val {e : Expr} {Q : Bool → St → Prop} (h : WV f ρ σ (eval e f.env) fun v σ' => (Ey1 fun b => Ay2 (Tru f ρ σ' v b) (Q b σ'))) (hp : plainT e = true := by rfl) : WT f ρ σ e Q := fun A s X =>
  isTrue_plain (WX.use h X fun u s1 σ1 X1 k1 ⟨b, ht, q⟩ => (ht u rfl).useW X1 fun s2 X2 k2 => X2.post (k1.trans k2.kp) q) (isTrue_plainT hp _ _)
theorem WV.ite {t a b : Expr} {p : Pos} {Q : Value → St → Prop} (h : WT f ρ σ t fun c σ' => if c then WV f ρ σ' (eval a f.env) Q else WV f ρ σ' (eval b f.env) Q) : WV f ρ σ (eval (.IfExp t a b p) f.env) Q := fun A s X =>
  IfExp_ (WX.use h X fun c s1 σ1 X1 k1 q => by
    cases c with
    | true => exact WX.use q X1 fun v s2 σ2 X2 k2 q2 => X2.post (k1.trans k2) q2
    | false => exact WX.use q X1 fun v s2 σ2 X2 k2 q2 => X2.post (k1.trans k2) q2)
theorem WV.and {e e' : Expr} {es : List Expr} {p : Pos} {Q : Value → St → Prop} (h : WV f ρ σ (eval e f.env) fun v σ' => (Ey1 fun b => Ay2 (v = .bool b) (if b then WV f ρ σ' (eval (.BoolOp .And (e' :: es) p) f.env) Q else Q (.bool false) σ'))) : WV f ρ σ (eval (.BoolOp .And (e :: e' :: es) p) f.env) Q := fun A s X =>
  BoolOp_and (WX.use h X fun u s1 σ1 X1 k1 ⟨b, e1, q⟩ => by
    rw [er_bool e1]; refine wpAny_truthy_bool ?_
    cases b with
    | false => exact X1.post k1 q
    | true => exact WX.use q X1 fun v s2 σ2 X2 k2 q2 => X2.post (k1.trans k2) q2)
theorem WV.or {e e' : Expr} {es : List Expr} {p : Pos} {Q : Value → St → Prop} (h : WV f ρ σ (eval e f.env) fun v σ' => (Ey1 fun b => Ay2 (v = .bool b) (if b then Q (.bool true) σ' else WV f ρ σ' (eval (.BoolOp .Or (e' :: es) p) f.env) Q))) : WV f ρ σ (eval (.BoolOp .Or (e :: e' :: es) p) f.env) Q := fun A s X =>
  BoolOp_or (WX.use h X fun u s1 σ1 X1 k1 ⟨b, e1, q⟩ => by
    rw [er_bool e1]; refine wpAny_truthy_bool ?_
    cases b with
    | true => exact X1.post k1 q
    | false => exact WX.use q X1 fun v s2 σ2 X2 k2 q2 => X2.post (k1.trans k2) q2)
theorem WV.not {e : Expr} {p : Pos} {Q : Value → St → Prop} (h : WV f ρ σ (eval e f.env) fun v σ' => (Ey1 fun b => Ay2 (Tru f ρ σ' v b) (Q (.bool (!b)) σ'))) : WV f ρ σ (eval (.UnaryOp .Not e p) f.env) Q := fun A s X =>
  UnaryOp_ (WX.use h X fun u s1 σ1 X1 k1 ⟨b, ht, q⟩ => not_of ((ht u rfl).useW X1 fun s2 X2 k2 => X2.post (k1.trans k2.kp) q))
theorem WV.subW {value slice : Expr} {p : Pos} {Q : Value → St → Prop} (hp : plainSl slice = true) (h : WV f ρ σ (eval value f.env) fun o σ1 => WV f ρ σ1 (eval slice f.env) fun k σ2 => (Ey1 fun v => Ay2 (Itm f ρ σ2 o k v) (Q v σ2))) : WV f ρ σ (eval (.Subscript value slice p) f.env) Q := fun A s X =>
  Subscript_ (WX.use h X fun u s1 σ1 X1 k1 q => WX.use q X1 fun w s2 σ2 X2 k2 ⟨v, hi, q⟩ => (hi value slice hp u w rfl rfl).useW X2 fun r s3 X3 k3 e3 => X3.post (k1.trans (k2.trans k3.kp)) (by rw [e3]; exact q))

theorem S1.whileW {test : Expr} {body : List Stmt} {p : Pos} {Q : Flow → Loc → St → Prop} (I : Nat → Loc → St → Prop) (n : Nat) (h0 : I n ρ σ)
    (turn : ∀ n ρ1 σ1, I n ρ1 σ1 → WT f ρ1 σ1 test fun b σ1 => if b then SS f ρ1 σ1 body (LQ (WI I n) Q) else Q .next ρ1 σ1) :
    S1 f ρ σ (.While test body [] p) Q := fun A s X => by
  refine wpAny_While (codeAny_whileLoop (fun n s' => (Ey2 fun ρ' σ' => Ay4 (At f ρ' σ' A s') (ρ'.map (·.1) = ρ.map (·.1)) (KpS f.fz f.env σ s.heap σ' s'.heap) (I n ρ' σ'))) ?_ n ⟨ρ, σ, X, rfl, KpS.refl _ _ _, h0⟩)
  rintro n s1 ⟨ρ1, σ1, X1, nm1, k1, hI⟩
  refine wpAny_mono (WX.use (turn n ρ1 σ1 hI) X1 (P := fun b s2 => (Ey1 fun σ2 => Ay3 (At f ρ1 σ2 A s2) (Kp f.fz σ1 s1.heap σ2 s2.heap) (if b then SS f ρ1 σ2 body (LQ (WI I n) Q) else Q .next ρ1 σ2))) fun b s2 σ2 X2 k2 q => ⟨σ2, X2, k2, q⟩) (fun b s2 ⟨σ2, X2, k2, q⟩ => ?_) fun _ _ e => e.elim
  cases b with
  | true =>
    refine wpAny_mono (WS.use q X2 fun fl s3 ρ3 σ3 X3 nm3 k3 q => ?_) (fun _ _ x => x) fun _ _ e => e.elim
    have kk := k1.trans (k2.s.trans k3)
    cases fl with
    | next => obtain ⟨m, hm, hI'⟩ := q; exact ⟨m, hm, ρ3, σ3, X3, nm3.trans nm1, kk, hI'⟩
    | cont => obtain ⟨m, hm, hI'⟩ := q; exact ⟨m, hm, ρ3, σ3, X3, nm3.trans nm1, kk, hI'⟩
    | brk => exact X3.postS (nm3.trans nm1) kk q
    | ret v => exact X3.postS (nm3.trans nm1) kk q
  | false => exact wpAny_execs_nil (X2.postS nm1 (k1.trans k2.s) q)
theorem S1.whileWO {σ0 : St} {L : List Ent} {test : Expr} {body : List Stmt} {p : Pos} {Q : Flow → Loc → St → Prop} (H : Own f.fz σ0 σ L) (I : Nat → Loc → List Ent → Prop) (n : Nat) (h0 : I n ρ L)
    (turn : ∀ n ρ1 σ1 L1, Own f.fz σ0 σ1 L1 → I n ρ1 L1 → WT f ρ1 σ1 test fun b σ1 => if b then SS f ρ1 σ1 body (LQ (OWI f.fz σ0 I n) Q) else Q .next ρ1 σ1) :
    S1 f ρ σ (.While test body [] p) Q := S1.whileW (fun n => OI f.fz σ0 (I n)) n ⟨L, H, h0⟩ fun n ρ1 σ1 ⟨L1, H1, hI⟩ => WX.mono (turn n ρ1 σ1 L1 H1 hI) fun b σ2 q => by
  cases b with
  | false => exact q
  | true =>
    rw [if_pos rfl] at q ⊢
    refine SS.mono q fun fl ρ2 σ2 _ q => ?_
    cases fl with
    | next => obtain ⟨m, L2, a, b, c⟩ := q; exact ⟨m, a, L2, b, c⟩
    | cont => obtain ⟨m, L2, a, b, c⟩ := q; exact ⟨m, a, L2, b, c⟩
    | brk => exact q
    | ret v => exact q

/-! lists compared -/
theorem Room.u {n : Nat} {A : Around} (h : Room n A) : A.units + 64 < cLine := by have := h.2.1; kspl_open wln
theorem Cmp.eqIL {a b : Addr} {ns ms : List Int} (ha : σ a = some (.list (intL ns))) (hb : σ b = some (.list (intL ms))) : Cmp f ρ σ .Eq (.ref a) (.ref b) (decide (ns = ms)) := fun u v e1 e2 => by
  rw [er_ref e1, er_ref e2]
  refine Pr.mk fun _ s _ X k => ?_
  obtain ⟨its, hl, h2, h3, -⟩ := listAt X.rep ha
  obtain ⟨its', hl', h2', h3', -⟩ := listAt X.rep hb
  exact eq_intsK (vs := its.toList) (us := its'.toList) (by simpa using hl) (intsAre_of h2) (by simpa using hl') (intsAre_of h2') X.room.u (k _ _ X (Ka.refl _) rfl)
theorem Cmp.neIL {a b : Addr} {ns ms : List Int} (ha : σ a = some (.list (intL ns))) (hb : σ b = some (.list (intL ms))) : Cmp f ρ σ .NotEq (.ref a) (.ref b) (!decide (ns = ms)) := fun u v e1 e2 => by
  rw [er_ref e1, er_ref e2]
  refine Pr.mk fun _ s _ X k => ?_
  obtain ⟨its, hl, h2, h3, -⟩ := listAt X.rep ha
  obtain ⟨its', hl', h2', h3', -⟩ := listAt X.rep hb
  exact ne_intsK (vs := its.toList) (us := its'.toList) (by simpa using hl) (intsAre_of h2) (by simpa using hl') (intsAre_of h2') X.room.u (k _ _ X (Ka.refl _) rfl)
theorem Cmp.eqN {a b : Addr} {xs : List Value} (ha : σ a = some (.list xs)) (hb : σ b = some (.list [])) : Cmp f ρ σ .Eq (.ref a) (.ref b) xs.isEmpty := fun u v e1 e2 => by
  rw [er_ref e1, er_ref e2]
  refine Pr.mk fun _ s _ X k => ?_
  obtain ⟨its, hl, h2, h3, -⟩ := listAt X.rep ha
  obtain ⟨its', hl', h2', h3', -⟩ := listAt X.rep hb
  have z1 := size_er h2
  have z2 := size_er h2'
  have hu := X.room.u
  cases xs with
  | nil => exact SeqAt.eq_listAt (e := fun _ => true) hl hl' (by rw [z1, z2]) (by kspl_open wln) (fun j h1 => by rw [z1] at h1; exact absurd h1 (by simp)) (by rw [z1]; exact k _ _ X (Ka.refl _) rfl)
  | cons x xs => exact SeqAt.eq_list_lengthsAt hl hl' (by rw [z1, z2]; simp) (by kspl_open wln) (k _ _ X (Ka.refl _) rfl)
theorem Cmp.neN {a b : Addr} {xs : List Value} (ha : σ a = some (.list xs)) (hb : σ b = some (.list [])) : Cmp f ρ σ .NotEq (.ref a) (.ref b) (!xs.isEmpty) := fun u v e1 e2 => by
  rw [er_ref e1, er_ref e2]
  refine Pr.mk fun _ s _ X k => ?_
  obtain ⟨its, hl, h2, h3, -⟩ := listAt X.rep ha
  obtain ⟨its', hl', h2', h3', -⟩ := listAt X.rep hb
  have z1 := size_er h2
  have z2 := size_er h2'
  have hu := X.room.u
  show wpAny _ _ (richCompare .NotEq _ _) _ _ _
  cases xs with
  | nil => exact SeqAt.RcNeAt.lists (e := fun _ => true) hl hl' (by rw [z1, z2]) (by kspl_open wln) (fun j h1 => by rw [z1] at h1; exact absurd h1 (by simp)) prg f.c.w _ _ (by rw [z1]; exact k _ _ X (Ka.refl _) rfl)
  | cons x xs => exact SeqAt.RcNeAt.lists_lengths hl hl' (by rw [z1, z2]; simp) (by kspl_open wln) prg f.c.w _ _ (k _ _ X (Ka.refl _) rfl)
/-- what is owned or given -/
noncomputable def Has (σ0 : St) (L : List Ent) (a : Addr) (o : AO) : Prop := (∃ w, (a, o, w) ∈ L) ∨ σ0 a = some o
theorem Own.has {fz : Addr → Prop} {σ0 σ : St} {L : List Ent} {a : Addr} {o : AO} (H : Own fz σ0 σ L) (h : Has σ0 L a o) : σ a = some o := h.elim (fun ⟨w, h⟩ => H.get _ _ _ h) (fun h => H.ext _ _ h)
theorem Has.cons {σ0 : St} {L : List Ent} {a : Addr} {o : AO} {p : Ent} (h : Has σ0 L a o) : Has σ0 (p :: L) a o := h.imp_left fun ⟨w, h⟩ => ⟨w, List.mem_cons_of_mem _ h⟩
theorem WT.neNil {σ0 : St} {L : List Ent} {e : Expr} {a : Addr} {xs : List Value} {p p' : Pos} {Q : Bool → St → Prop} (he : PE f ρ σ e (.ref a)) (H : Own f.fz σ0 σ L) (ha : Has σ0 L a (.list xs)) (q : ∀ σ', Own f.fz σ0 σ' L → Q (!xs.isEmpty) σ') : WT f ρ σ (.Compare e [.NotEq] [.List [] p] p') Q :=
  WT.cmpW (WV.pe he (WV.newL .nil H fun b σ' H' => ⟨_, Cmp.neN (H'.has ha.cons) (H'.get b (.list []) true (List.mem_cons_self ..)), q _ (H'.sub (List.sublist_cons_self ..))⟩))
theorem WT.eqNil {σ0 : St} {L : List Ent} {e : Expr} {a : Addr} {xs : List Value} {p p' : Pos} {Q : Bool → St → Prop} (he : PE f ρ σ e (.ref a)) (H : Own f.fz σ0 σ L) (ha : Has σ0 L a (.list xs)) (q : ∀ σ', Own f.fz σ0 σ' L → Q xs.isEmpty σ') : WT f ρ σ (.Compare e [.Eq] [.List [] p] p') Q :=
  WT.cmpW (WV.pe he (WV.newL .nil H fun b σ' H' => ⟨_, Cmp.eqN (H'.has ha.cons) (H'.get b (.list []) true (List.mem_cons_self ..)), q _ (H'.sub (List.sublist_cons_self ..))⟩))
end
section
variable {f : Fx} {ρ : Loc} {σ : St}

/-! x[k] = v, x[k] += v -/
theorem S1.setIt {o i value : Expr} {p' pos : Pos} {Q : Flow → Loc → St → Prop} (h : WV f ρ σ (eval value f.env) fun v σ1 => (Ey2 fun ov iv => Ay3 (PE f ρ σ1 o ov) (PE f ρ σ1 i iv) (∀ ro ri rv, er ro = ov → er ri = iv → er rv = v → WX f ρ σ1 (setItem ro ri rv) fun _ σ2 => Q .next ρ σ2))) (hc : noComp value = true := by rfl) :
    S1 f ρ σ (.Assign [.Subscript o i p'] value pos) Q := fun A s X =>
  wpAny_Assign_Subscript (WX.use h X fun v s1 σ1 X1 k1 ⟨ov, iv, h1, h2, h3⟩ => h1.useW X1 fun ro s2 X2 k2 e2 => h2.useW X2 fun ri s3 X3 k3 e3 => WX.use (h3 ro ri v e2 e3 rfl) X3 fun _ s4 σ4 X4 k4 q =>
    X4.postS rfl (k1.trans (k2.kp.trans (k3.kp.trans k4))).s q) (swaps_no hc)
theorem S1.setD {σ0 : St} {L L' : List Ent} {o i value : Expr} {p' pos : Pos} {a : Addr} {kvs : List (Int × Value)} {k : Int} {v : Value} {Q : Flow → Loc → St → Prop} (hv : PE f ρ σ value v) (ho : PE f ρ σ o (.ref a)) (hi : PE f ρ σ i (.int k 0)) (H : Own f.fz σ0 σ L) (hp : Put a (.dic kvs) (.dic (stored kvs k v)) L L') (hl : kvs.length < 1000000)
    (q : ∀ σ', Own f.fz σ0 σ' L' → Q .next ρ σ') (hc : noComp value = true := by rfl) : S1 f ρ σ (.Assign [.Subscript o i p'] value pos) Q :=
  S1.setIt (WV.pe hv ⟨_, _, ho, hi, fun ro ri rv e1 e2 e3 => Ws.setD (H.get _ _ _ hp.mem) e1 e2 e3 (H.wr _ _ hp.mem) (by have := stored_len kvs k v; kspl_open wln) (q _ (H.turn hp))⟩) hc
noncomputable def Itr (f : Fx) (ρ : Loc) (σ : St) (o k v : Value) : Prop := ∀ u w, er u = o → er w = k → Pr f ρ σ (getItem u w) v
theorem Itr.list {a : Addr} {xs : List Value} {i : Int} {v : Value} (ha : σ a = some (.list xs)) (h0 : 0 ≤ i) (hx : xs[i.toNat]? = some v) : Itr f ρ σ (.ref a) (.int i 0) v := fun u w e1 e2 => by
  rw [er_ref e1]; obtain ⟨t, rfl⟩ := er_int e2
  refine Pr.mk fun _ s _ X k => ?_
  obtain ⟨its, hl, h2, h3, -⟩ := listAt X.rep ha
  rw [getElem_er h2] at hx
  obtain ⟨r, hr, er⟩ := Option.map_eq_some_iff.mp hx
  have : i.toNat < its.size := by
    by_cases h : i.toNat < its.size
    · exact h
    · rw [Array.getElem?_eq_none (by kspl_open wln)] at hr; cases hr
  have hz := size_er h2
  exact wpAny_getItem_list hl h0 (by kspl_open wln) hr (k _ _ X (Ka.refl _) er)
theorem Itr.dic {a : Addr} {kvs : List (Int × Value)} {i : Int} {v : Value} (ha : σ a = some (.dic kvs)) (hx : valueAt kvs i = some v) : Itr f ρ σ (.ref a) (.int i 0) v := fun u w e1 e2 => by
  rw [er_ref e1]; obtain ⟨t, rfl⟩ := er_int e2
  refine Pr.mk fun _ s _ X k => ?_
  obtain ⟨raw, hl, h2, h3⟩ := dicAt X.rep ha
  rw [valueAt_er h2] at hx
  obtain ⟨r, hr, er⟩ := Option.map_eq_some_iff.mp hx
  exact wpAny_getItem_of (knd := intKind prg f.c.w) (k := i) (by simp [intKind, Value.isInt]) hl.mapOf hr (k _ _ (X.tok _) (Ka.refl _) er)
theorem S1.augIt {o i value : Expr} {p' pos : Pos} {a : Addr} {k x y : Int} {Q : Flow → Loc → St → Prop} (ho : PE f ρ σ o (.ref a)) (hi : PE f ρ σ i (.int k 0)) (hx : Itr f ρ σ (.ref a) (.int k 0) (.int x 0)) (hv : PE f ρ σ value (.int y 0))
    (q : ∀ ro ri rv, er ro = .ref a → er ri = .int k 0 → er rv = .int (x + y) 0 → WX f ρ σ (setItem ro ri rv) fun _ σ2 => Q .next ρ σ2) (ha : ∀ ov iv new, augStore i ov iv new = (do holding [new, ov, iv] (setItem ov iv new); release [new, ov, iv] []; pure .next) := by intro _ _ _; rfl) :
    S1 f ρ σ (.AugAssign (.Subscript o i p') .Add value pos) Q := fun A s X =>
  wpAny_AugAssign_Subscript_any (ho.useW X fun ro s1 X1 k1 e1 => hi.useW X1 fun ri s2 X2 k2 e2 => (hx ro ri e1 e2).useW X2 fun old s3 X3 k3 e3 => hv.useW X3 fun v s4 X4 k4 e4 => by
    obtain ⟨t, rfl⟩ := er_int e3
    obtain ⟨t', rfl⟩ := er_int e4
    have X5 := X4.ka (s' := { s4 with toks := s4.toks + 1 }) (fun _ _ e => e) (X4.sh.heap _ _)
    exact iadd_int (WX.use (q ro ri _ e1 e2 rfl) X5 fun _ s6 σ6 X6 k6 q => X6.postS rfl ((k1.trans (k2.trans (k3.trans k4))).kp.trans k6).s q)) ha
theorem S1.augD {σ0 : St} {L L' : List Ent} {o i value : Expr} {p' pos : Pos} {a : Addr} {kvs : List (Int × Value)} {k x y : Int} {Q : Flow → Loc → St → Prop} (ho : PE f ρ σ o (.ref a)) (hi : PE f ρ σ i (.int k 0)) (hv : PE f ρ σ value (.int y 0)) (H : Own f.fz σ0 σ L) (hx : valueAt kvs k = some (.int x 0)) (hp : Put a (.dic kvs) (.dic (stored kvs k (.int (x + y) 0))) L L') (hl : kvs.length < 1000000)
    (q : ∀ σ', Own f.fz σ0 σ' L' → Q .next ρ σ') (ha : ∀ ov iv new, augStore i ov iv new = (do holding [new, ov, iv] (setItem ov iv new); release [new, ov, iv] []; pure .next) := by intro _ _ _; rfl) : S1 f ρ σ (.AugAssign (.Subscript o i p') .Add value pos) Q :=
  S1.augIt ho hi (Itr.dic (H.get _ _ _ hp.mem) hx) hv (fun ro ri rv e1 e2 e3 => Ws.setD (H.get _ _ _ hp.mem) e1 e2 e3 (H.wr _ _ hp.mem) (by have := stored_len kvs k (.int (x + y) 0); kspl_open wln) (q _ (H.turn hp))) ha
theorem S1.augL {σ0 : St} {L L' : List Ent} {o i value : Expr} {p' pos : Pos} {a : Addr} {xs : List Value} {k x y : Int} {Q : Flow → Loc → St → Prop} (ho : PE f ρ σ o (.ref a)) (hi : PE f ρ σ i (.int k 0)) (hv : PE f ρ σ value (.int y 0)) (H : Own f.fz σ0 σ L) (h0 : 0 ≤ k) (hx : xs[k.toNat]? = some (.int x 0)) (hp : Put a (.list xs) (.list (xs.set k.toNat (.int (x + y) 0))) L L')
    (q : ∀ σ', Own f.fz σ0 σ' L' → Q .next ρ σ') (ha : ∀ ov iv new, augStore i ov iv new = (do holding [new, ov, iv] (setItem ov iv new); release [new, ov, iv] []; pure .next) := by intro _ _ _; rfl) : S1 f ρ σ (.AugAssign (.Subscript o i p') .Add value pos) Q :=
  S1.augIt ho hi (Itr.list (H.get _ _ _ hp.mem) h0 hx) hv (fun ro ri rv e1 e2 e3 => Ws.setL (H.get _ _ _ hp.mem) h0 (by have := (List.getElem?_eq_some_iff.mp hx).1; kspl_open wln) e1 e2 e3 (H.wr _ _ hp.mem) (q _ (H.turn hp))) ha

/-! slices -/
noncomputable def picks (xs : List Value) (lo hi st : Option Int) : List Value := (sliceRange (sliceBounds lo hi st xs.length).1 (sliceBounds lo hi st xs.length).2.1 (sliceBounds lo hi st xs.length).2.2).filterMap (xs[·]?)
theorem picks_er {its : Array Value} {xs : List Value} (h : its.toList.map er = xs) (lo hi st : Option Int) : (slicePick its lo hi st).toList.map er = picks xs lo hi st := by
  unfold slicePick picks
  rw [size_er h]
  simp only [List.map_filterMap]
  congr 1
  funext i
  exact (getElem_er h i).symm
theorem picks_pick (xs : List Value) (lo hi st : Option Int) : picks xs lo hi st = (slicePick xs.toArray lo hi st).toList := by
  unfold picks slicePick
  simp
theorem picks_from (xs : List Value) (a : Nat) : picks xs (some a) none none = xs.drop a := by rw [picks_pick, slicePick_from']
theorem picks_upto (xs : List Value) (a : Nat) : picks xs none (some a) none = xs.take a := by rw [picks_pick, slicePick_upto']
theorem down_rev (xs : List Value) : ∀ n, n ≤ xs.length → (List.range n).filterMap (fun k => xs[n - 1 - k]?) = (xs.take n).reverse
  | 0, _ => by simp
  | n + 1, h => by
    rw [List.range_succ_eq_map, List.filterMap_cons]
    have e : xs[n + 1 - 1 - 0]? = some xs[n] := by simp
    rw [e]
    dsimp only
    rw [List.filterMap_map, List.take_add_one, List.reverse_append]
    have e2 : xs[n]?.toList.reverse = [xs[n]] := by simp
    rw [e2, List.singleton_append]
    congr 1
    rw [← down_rev xs n (by kspl_open wln)]
    congr 1
    funext k
    show xs[n + 1 - 1 - (k + 1)]? = xs[n - 1 - k]?
    congr 1
    lia
theorem picks_rev (xs : List Value) : picks xs none none (some (-1)) = xs.reverse := by
  have e : sliceBounds none none (some (-1)) xs.length = ((xs.length : Int) - 1, -1, -1) := by simp [sliceBounds]
  unfold picks
  rw [e]
  have e2 : sliceRange ((xs.length : Int) - 1) (-1) (-1) = (List.range xs.length).map fun k => xs.length - 1 - k := by
    unfold sliceRange
    have hc : (if (-1 : Int) > 0 then (if (xs.length : Int) - 1 < -1 then (-1 - ((xs.length : Int) - 1) + -1 - 1) / -1 else 0) else (if (xs.length : Int) - 1 > -1 then ((xs.length : Int) - 1 - -1 - -1 - 1) / (- -1) else 0)) = xs.length := by
      rw [if_neg (by decide)]
      split
      · rw [show (-(-1 : Int)) = 1 by decide, Int.ediv_one]; kspl_open wln
      · lia
    simp only [hc, Int.toNat_natCast]
    apply List.map_congr_left
    intro k hk
    have := List.mem_range.mp hk
    lia
  rw [e2, List.filterMap_map]
  have := down_rev xs xs.length (Nat.le_refl _)
  rw [List.take_length] at this
  exact this
inductive PPart (f : Fx) (ρ : Loc) (σ : St) : Option Expr → Option Int → Prop
  | none : PPart f ρ σ none none
  | some {e : Expr} {i : Int} : PE f ρ σ e (.int i 0) → PPart f ρ σ (some e) (some i)
theorem PPart.use {o : Option Expr} {k : Option Int} {A : Around} {s : Shared} {P : Value → Shared → Prop} (h : PPart f ρ σ o k) (X : At f ρ σ A s) (q : ∀ v s', At f ρ σ A s' → Ka s s' → IsPart v k → P v s') : wpAny (model prg f.c.w) A (evalPart o f.env) P NoE s := by
  cases h with
  | none => exact wpAny_pure (q _ _ X (Ka.refl _) .none)
  | some he => exact he.useW X fun u s' X' k' e => by obtain ⟨t, rfl⟩ := er_int e; exact q _ _ X' k' (.int _ _)
theorem pick_len (its : Array Value) (lo hi st : Option Int) (h : its.size ≤ 1000000) : (slicePick its lo hi st).size ≤ 1000000 := Nat.le_trans (slicePick_size_le its lo hi st) h
theorem At.slice {A : Around} {s : Shared} {a : Addr} {xs : List Value} {its : Array Value} {lo hi st : Option Int} (X : At f ρ σ A s) (ha : σ a = some (.list xs)) (h2 : its.toList.map er = xs) (h3 : xs.length ≤ 1000000) (o1 : Obj) :
    At f ρ (σ.set (s.heap.objs.size + 1) (.list (picks xs lo hi st))) A { s with heap := (s.heap.push o1).push { cls := .type "list", data := .seq (slicePick its lo hi st) } } ∧ Kp f.fz σ s.heap (σ.set (s.heap.objs.size + 1) (.list (picks xs lo hi st))) ((s.heap.push o1).push { cls := .type "list", data := .seq (slicePick its lo hi st) }) ∧ σ (s.heap.objs.size + 1) = none := by
  have X1 : At f ρ σ A { s with heap := s.heap.push o1 } := X.ka (push_ka s o1) (X.sh.heap _ s.toks)
  have := X1.alloc (o := .list (picks xs lo hi st)) (ob := { cls := .type "list", data := .seq (slicePick its lo hi st) }) ⟨_, _, rfl, picks_er h2 lo hi st, by rw [← picks_er h2]; simpa using pick_len its lo hi st (by rw [size_er h2]; exact h3)⟩ rfl
  have e : (s.heap.push o1).objs.size = s.heap.objs.size + 1 := Heap.size_push ..
  simp only [e] at this
  exact ⟨this.1, (push_ka s o1).kp.trans this.2.1, this.2.2⟩
theorem Subscript_step {M : World} {A : Around} {E : Value → Shared → Prop} {s : Shared} {env : Env} {value st : Expr} {lower upper : Option Expr} {p pos : Pos} {T id : String} {Q : Value → Shared → Prop}
    (hl : typeLookup (.type T) "__getitem__" = pure (some (.builtin id)))
    (h : wpAny (model prg M) A (eval value env) (fun o s₁ => wpAny (model prg M) A (eval (.Slice lower upper (some st) p) env) (fun i s₂ => s₂.TypeIs o T ∧ wpAny (model prg M) A (getItem o i) Q E s₂) E s₁) E s) :
    wpAny (model prg M) A (eval (.Subscript value (.Slice lower upper (some st) p) pos) env) Q E s := by
  rw [eval_Subscript]
  refine wpAny_bind (wpAny_mono h (fun o s₁ h₁ => wpAny_bind (wpAny_holding (wpAny_mono h₁ (fun i s₂ h₂ => wpAny_bind (wpAny_standAt ?_)) fun _ _ x => x)))
    fun _ _ x => x)
  have fin : wpAny (model prg M) A (operate [o, i] (getItem o i)) (fun r s₃ => wpAny (model prg M) A (letTemporaryGo value o r >>= fun _ => pure r) Q E s₃) E s₂ :=
    wpAny_operating (wpAny_mono h₂.2 (fun r s₃ h₃ => wpAny_bind (wpAny_letTemporaryGo (wpAny_pure h₃))) fun _ _ x => x)
  first
    | (refine wpAny_bind ?_
       rw [getitemInPython_of_ne h₂.1.not_modules]
       refine wpAny_bind (wpAny_specialOf h₂.1 hl ?_)
       first
         | exact wpAny_pure (wpAny_bind fin)
         | exact wpAny_bind (wpAny_pure (wpAny_bind fin))
         | exact wpAny_bind fin)
    | (refine wpAny_bind (wpAny_specialOf h₂.1 hl ?_)
       first
         | exact wpAny_bind (wpAny_pure (wpAny_bind fin))
         | exact wpAny_bind fin)
theorem WV.slice {value : Expr} {lo hi : Option Expr} {p pos : Pos} {Q : Value → St → Prop} (h : WV f ρ σ (eval value f.env) fun v σ1 => (Ey4 fun a xs l u => Ay5 (v = .ref a) (σ1 a = some (.list xs)) (PPart f ρ σ1 lo l) (PPart f ρ σ1 hi u) (∀ b, σ1 b = none → Q (.ref b) (σ1.set b (.list (picks xs l u none))))))
    (ht : ∀ o r, letTemporaryGo value o r = pure () := by intro _ _; rfl) : WV f ρ σ (eval (.Subscript value (.Slice lo hi none p) pos) f.env) Q := fun A s X =>
  wpAny_Subscript_list_slice (WX.use h X fun v s1 σ1 X1 k1 ⟨a, xs, l, u, e, ha, hl, hu, q⟩ => hl.use X1 fun vl s2 X2 k2 pl => hu.use X2 fun vu s3 X3 k3 pu => by
    obtain ⟨its, hl, h2, h3, -⟩ := listAt X3.rep ha
    obtain ⟨Y, kp, hn⟩ := X3.slice ha h2 h3 (lo := l) (hi := u) (st := none) { cls := .type "slice", data := .fields #[vl, vu, .none] }
    exact ⟨a, its, l, u, er_ref e, hl, by rw [sizeLine_eq, size_er h2]; kspl_open wln, pl, pu, Y.post (k1.trans (k2.kp.trans (k3.kp.trans kp))) (q _ hn)⟩) ht
theorem WV.sliceS {value st : Expr} {lo hi : Option Expr} {p pos : Pos} {Q : Value → St → Prop} (h : WV f ρ σ (eval value f.env) fun v σ1 => (Ey5 fun a xs l u k => Ay7 (v = .ref a) (σ1 a = some (.list xs)) (PPart f ρ σ1 lo l) (PPart f ρ σ1 hi u) (PE f ρ σ1 st (.int k 0)) (k ≠ 0) (∀ b, σ1 b = none → Q (.ref b) (σ1.set b (.list (picks xs l u (some k))))))) : WV f ρ σ (eval (.Subscript value (.Slice lo hi (some st) p) pos) f.env) Q := fun A s X =>
  Subscript_step (T := "list") list_getitem_lookup (WX.use h X fun v s1 σ1 X1 k1 ⟨a, xs, l, u, k, e, ha, hl, hu, hk, hk0, q⟩ => wpAny_Slice (hl.use X1 fun vl s2 X2 k2 pl => hu.use X2 fun vu s3 X3 k3 pu => hk.useW X3 fun vs s4 X4 k4 es => by
    obtain ⟨t, rfl⟩ := er_int es
    obtain ⟨its, hl, h2, h3, -⟩ := listAt X4.rep ha
    obtain ⟨Y, kp, hn⟩ := X4.slice ha h2 h3 (lo := l) (hi := u) (st := some k) { cls := .type "slice", data := .fields #[vl, vu, .int k t] }
    rw [er_ref e]
    refine ⟨(hl.push _).typeIs, wpAny_getItem_list_slice (hl.push _) (Heap.IsSliceOf.new ..) pl pu (.int _ _) (by simpa using hk0) ?_ (by rw [sizeLine_eq, size_er h2]; kspl_open wln)⟩
    rw [Heap.size_push]
    exact Y.post (k1.trans (k2.kp.trans (k3.kp.trans (k4.kp.trans kp)))) (q _ hn)))
end
section
variable {f : Fx} {ρ : Loc} {σ : St}

/-! dict displays -/
theorem WV.dic0 {σ0 : St} {L : List Ent} {p : Pos} {Q : Value → St → Prop} (H : Own f.fz σ0 σ L) (q : ∀ a σ', Own f.fz σ0 σ' ((a, .dic [], true) :: L) → Q (.ref a) σ') : WV f ρ σ (eval (.Dict [] [] p) f.env) Q := fun A s X => by
  obtain ⟨ob, ho, hr⟩ := Heap.dictOf_iff.mp (Heap.DictOf.new (knd := intKind prg f.c.w) s.heap)
  rw [Heap.get?_push_size _ rfl] at ho
  cases ho
  obtain ⟨Y, kp, hn⟩ := X.alloc (o := .dic []) (ob := { cls := .type "dict", data := .dict #[] }) ⟨_, hr, rfl, by simp⟩ rfl
  exact wpAny_Dict_empty (Y.post kp (q _ _ (H.alloc hn)))
inductive PDs (f : Fx) (ρ : Loc) (σ : St) : List (Option Expr) → List Expr → List (Int × Value) → Prop
  | nil : PDs f ρ σ [] [] []
  | cons {k v : Expr} {ks : List (Option Expr)} {vs : List Expr} {i : Int} {x : Value} {kvs : List (Int × Value)} : PE f ρ σ k (.int i 0) → PE f ρ σ v x → PDs f ρ σ ks vs kvs → PDs f ρ σ (some k :: ks) (v :: vs) ((i, x) :: kvs)
theorem PDs.use {ks : List (Option Expr)} {vs : List Expr} {kvs : List (Int × Value)} {pos : Pos} (h : PDs f ρ σ ks vs kvs) {A : Around} : ∀ {s : Shared} {P : List (Value × Value) → Shared → Prop}, At f ρ σ A s → (∀ ps s' raw, At f ρ σ A s' → Ka s s' → Carries (intKind prg f.c.w) ps raw → raw.map (fun p => (p.1, er p.2)) = kvs → P ps s') → wpAny (model prg f.c.w) A (evalPairs (pairTrees ks vs f.env pos)) P NoE s := by
  induction h with
  | nil => intro s P X q; exact wpAny_pure (q [] s [] X (Ka.refl _) trivial rfl)
  | @cons k v ks vs i x kvs h1 h2 _ ih =>
    intro s P X q
    show wpAny _ _ (do
      let kv ← eval _ f.env
      let vv ← holding [kv] (do let x ← eval _ f.env; standAt pos; pure x)
      return (kv, vv) :: (← holding [kv, vv] (evalPairs (pairTrees _ _ f.env pos)))) _ _ _
    refine wpAny_bind (h1.useW X fun u s1 X1 k1 e1 => wpAny_bind (wpAny_holding (wpAny_bind (h2.useW X1 fun v s2 X2 k2 e2 => wpAny_bind (wpAny_standAt (wpAny_pure (wpAny_bind (wpAny_holding (ih X2 fun ps s3 raw X3 k3 hc hr => wpAny_pure ?_)))))))))
    obtain ⟨t, rfl⟩ := er_int e1
    exact q _ _ ((i, v) :: raw) X3 (k1.trans (k2.trans k3)) ⟨by simp [intKind, Value.isInt], rfl, hc⟩ (by simp [hr, e2])
theorem merged_er (raw : List (Int × Value)) : ∀ acc : List (Int × Value), (merged acc raw).map (fun p => (p.1, er p.2)) = merged (acc.map fun p => (p.1, er p.2)) (raw.map fun p => (p.1, er p.2)) := by
  induction raw with
  | nil => intro acc; rfl
  | cons p raw ih =>
    intro acc
    show (merged (stored acc p.1 p.2) raw).map _ = merged (stored _ p.1 (er p.2)) _
    rw [ih, stored_er rfl]
theorem PDs.len {ks : List (Option Expr)} {vs : List Expr} {kvs : List (Int × Value)} (h : PDs f ρ σ ks vs kvs) : kvs.length = ks.length := by induction h with | nil => rfl | cons _ _ _ ih => simp [ih]
theorem WV.dicN {σ0 : St} {L : List Ent} {ks : List (Option Expr)} {vs : List Expr} {kvs : List (Int × Value)} {p : Pos} {Q : Value → St → Prop} (h : PDs f ρ σ ks vs kvs) (H : Own f.fz σ0 σ L) (q : ∀ a σ', Own f.fz σ0 σ' ((a, .dic (merged [] kvs), true) :: L) → Q (.ref a) σ')
    (hall : ks.all (·.isSome) = true := by rfl) (hl : ks.length = vs.length := by rfl) (h0 : ks ≠ [] := by intro h; cases h) (hlen : ks.length ≤ 15 := by decide) : WV f ρ σ (eval (.Dict ks vs p) f.env) Q := fun A s X => by
  have push : Ka s { s with heap := s.heap.push { cls := .type "dict", data := .dict #[] } } := push_ka s _
  have X0 : At f ρ σ A { s with heap := s.heap.push { cls := .type "dict", data := .dict #[] } } := X.ka push (X.sh.heap _ s.toks)
  refine wpAny_Dict_walk (knd := intKind prg f.c.w) hall hl h0 hlen (h.use X0 fun ps s1 raw X1 k1 hc hr => ⟨raw, hc, ?_, fun h' hd sb => ?_⟩)
  · obtain ⟨ob, ho, hr⟩ := Heap.dictOf_iff.mp (Heap.DictOf.new (knd := intKind prg f.c.w) s.heap)
    exact Heap.dictOf_iff.mpr ⟨ob, k1 _ _ ho, hr⟩
  · obtain ⟨ob, ho, hr2⟩ := Heap.dictOf_iff.mp hd
    have kk : Ka s { s1 with heap := h', toks := s1.toks + ps.length } := fun b o e => (sb.2 b (Nat.ne_of_lt (Heap.lt_size e))).trans (k1 _ _ (push _ _ e))
    obtain ⟨Y, kp, hn⟩ := X.newObj (o := .dic (merged [] kvs)) kk (X1.sh.heap _ _) (fresh_none _) ho ⟨_, hr2, by rw [merged_er, hr]; rfl, by have := merged_length_le [] kvs; rw [h.len] at this; simp at this; kspl_open wln⟩ (fun _ _ => X.big)
    exact Y.post kp (q _ _ (H.alloc hn))

inductive StR : List Str → List Value → Loc → Loc → Prop
  | nil (ρ : Loc) : StR [] [] ρ ρ
  | cons {x : Str} {v : Value} {ns : List Str} {vs : List Value} {ρ ρ1 ρ2 : Loc} : StR ns vs ρ ρ1 → SetAt x v ρ1 ρ2 → StR (x :: ns) (v :: vs) ρ ρ2
theorem StA.app {ns ms : List Str} {vs us : List Value} {ρ ρ1 ρ2 : Loc} (h : StA ns vs ρ ρ1) (h2 : StA ms us ρ1 ρ2) : StA (ns ++ ms) (vs ++ us) ρ ρ2 := by
  induction h with
  | nil => exact h2
  | cons h1 _ ih => exact .cons h1 (ih h2)
theorem StR.rev {ns : List Str} {vs : List Value} {ρ ρ' : Loc} (h : StR ns vs ρ ρ') : StA ns.reverse vs.reverse ρ ρ' := by
  induction h with
  | nil => exact .nil _
  | cons _ h1 ih => rw [List.reverse_cons, List.reverse_cons]; exact ih.app (.cons h1 (.nil _))
/-- a, b = (..), what is owned kept -/
inductive TU (f : Fx) (ρ : Loc) (σ0 : St) (ns : List Str) (Q : Flow → Loc → St → Prop) (vs : List Value) (σ' : St) : Prop
  | mk (L' : List Ent) (ρ' : Loc) (o : Own f.fz σ0 σ' L') (a : StA ns vs ρ ρ') (r : StR ns vs ρ ρ') (q : ∀ σ'', Own f.fz σ0 σ'' L' → Q .next ρ' σ'') : TU f ρ σ0 ns Q vs σ'
theorem S1.tupO {σ0 : St} {ts es : List Expr} {ns : List Str} {k k' : Nat} {p p' pos : Pos} {Q : Flow → Loc → St → Prop} (hn : NameL ts ns) 
    (h : WLs f ρ σ es (TU f ρ σ0 ns Q)) (hl : ns.length ≤ 1000 := by decide) (h3 : (es.all (constantsAlone 8) = false ∨ es.all (foldedForSure 8) = true) := by first | exact Or.inl rfl | exact Or.inr rfl) : S1 f ρ σ (.Assign [.Tuple ts k p] (.Tuple es k' p') pos) Q :=
  S1.tupA hn h3 fun pp => WX.mono (h pp) fun vs σ' t00 => by obtain ⟨L', ρ', H, a, b, q⟩ := t00; exact ⟨by rw [a.length]; exact hl, ρ', a, b.rev, fun t ht => q _ ((H.alloc ht).sub (List.sublist_cons_self ..))⟩
end
section
variable {f : Fx} {ρ : Loc} {σ : St}

/-! calls of types and builtins -/
theorem WV.callT {func : Expr} {es : List Expr} {p : Pos} {b : String} {Q : Value → St → Prop} (hf : PE f ρ σ func (.type b))
    (h : WLs f ρ σ es fun vs σ' => WC f.c f.n f.fz σ' (.type b) vs Q) (hfn : notAttr func = true := by rfl) (hes : es.all plainS = true := by rfl) : WV f ρ σ (eval (.Call func es [] p) f.env) Q := fun _ s X => by
  rw [eval_Call hfn]
  refine wpAny_bind (hf.useW X fun u _ X1 k1 e1 => ?_)
  rw [er_type e1]
  refine PyProof.Rows.callWith_type (backTo_plain hes) (evalArgs_all hes (WX.use (h p) X1 fun vs _ _ X2 k2 q => ?_))
  exact WC.use q X2 rfl fun v _ _ X3 k3 q3 => X3.post (k1.kp.trans (k2.trans k3)) q3
theorem WC.range1 {c : Cx} {n : Nat} {fz : Addr → Prop} {i : Int} {Q : Value → St → Prop} (h1 : i ≤ 1000000) (h2 : -1000000 ≤ i) (q : ∀ a, σ a = none → Q (.ref a) (σ.set a (.rng i))) : WC c n fz σ (.type "range") [.int i 0] Q := fun A s raw e ok room r sh => by
  obtain ⟨u, rfl, e1⟩ := raw1 e
  obtain ⟨t, rfl⟩ := er_int e1
  have hb : (s.heap.objs.size == sysModules) = false := by
    have := PyProof.Rows.modules_low (ok.lim.keeps r.base)
    exact beq_eq_false_iff_ne.mpr (Nat.ne_of_gt this)
  exact call_range_1 ⟨_, r.push (o := .rng i) ⟨_, _, _, rfl, h1, h2⟩ rfl hb, Kp.push _ _, sh.heap _ _, q _ (St.le_none r)⟩
theorem WC.max2 {c : Cx} {n : Nat} {fz : Addr → Prop} {i j : Int} {Q : Value → St → Prop} (q : Q (.int (max i j) 0) σ) : WC c n fz σ (.builtin "max") [.int i 0, .int j 0] Q := fun A s raw e ok room r sh => by
  obtain ⟨u, v, rfl, e1, e2⟩ := raw2 e
  obtain ⟨t, rfl⟩ := er_int e1
  obtain ⟨t', rfl⟩ := er_int e2
  have hm : max i j = if j > i then j else i := by rw [Int.max_def]; split <;> split <;> lia
  refine max_two_ints room.2.2 fun h' tk hk => ?_
  have kk : Ka s { s with heap := h', toks := tk } := hk
  by_cases hc : j > i
  · rw [if_pos hc]; rw [hm, if_pos hc] at q; exact ⟨σ, r.ka kk, kk.kp, sh.heap _ _, q⟩
  · rw [if_neg hc]; rw [hm, if_neg hc] at q; exact ⟨σ, r.ka kk, kk.kp, sh.heap _ _, q⟩
/-- len -/
theorem PE.lenO {fz : Addr → Prop} {σ0 : St} {L : List Ent} {e : Expr} {p p' : Pos} {a : Addr} {xs : List Value} {w : Bool} (hm : ("len" : Str) ∈ f.gl) (he : PE f ρ σ e (.ref a)) (H : Own fz σ0 σ L) (h : (a, .list xs, w) ∈ L) (hes : plainS e = true := by rfl) : PE f ρ σ (.Call (.Name "len" p') [e] [] p) (.int xs.length 0) :=
  PE.len hm he (lenL (H.get _ _ _ h)) hes
theorem PE.lenP {σ0 : St} {L : List Ent} {e : Expr} {p p' p2 : Pos} {x : Addr} {g : Pg} {r : PR} (hm : ("len" : Str) ∈ f.gl) (he : PE f ρ σ e (.ref x)) (hp : IsP σ0 x g r) (H : Own f.fz σ0 σ L) (hb : plainB e = true := by rfl) : PE f ρ σ (.Call (.Name "len" p') [.Attribute e "insts" p2] [] p) (.int g.insts.length 0) := by
  rw [← hp.len]
  have := PE.len (p := p) (p' := p') hm (PE.p_insts (p := p2) he hp H hb) (lenL (H.ext _ _ hp.L)) rfl
  simpa using this
/-- an object of the heap that is not in the state yet -/
theorem Rep.newAt {c : Cx} {fz : Addr → Prop} {s s' : Shared} {b : Addr} {o : AO} {ob : Obj} (r : Rep c σ s.heap) (kk : Ka s s') (hb0 : s.heap.get? b = none) (ho : s'.heap.get? b = some ob) (hr : ORel c o ob) (hnd : ∀ kvs, o = .dic kvs → (b == sysModules) = false) :
    Rep c (σ.set b o) s'.heap ∧ Kp fz σ s.heap (σ.set b o) s'.heap ∧ σ b = none := by
  have hσ : σ b = none := by
    cases e : σ b with
    | none => rfl
    | some o => obtain ⟨ob, g1, _⟩ := r.obj _ _ e; rw [hb0] at g1; cases g1
  have hbb : c.b.get? b = none := by
    cases e : c.b.get? b with
    | none => rfl
    | some o => rw [r.base _ _ e] at hb0; cases hb0
  have r3 := r.ka kk
  refine ⟨⟨r3.base, fun c x e => ?_, fun c x e => ?_, fun c kvs e => ?_⟩, fun c x e n => ⟨kk c x e, by rw [St.set_ne]; rintro rfl; rw [hb0] at e; cases e⟩, hσ⟩
  · by_cases hc : c = b
    · subst hc; rw [St.set_same] at e; cases e
      exact ⟨_, ho, hr⟩
    · rw [St.set_ne σ _ hc] at e; exact r3.obj c x e
  · by_cases hc : c = b
    · subst hc; exact hbb
    · rw [St.set_ne σ _ hc] at e; exact r3.new c x e
  · by_cases hc : c = b
    · subst hc; rw [St.set_same] at e; cases e; exact hnd _ rfl
    · rw [St.set_ne σ _ hc] at e; exact r3.dm c kvs e
theorem erL_of {vs : List Value} {ns : List Int} (h : IntsAre vs ns) : vs.map er = intL ns := by
  induction h with
  | nil => rfl
  | cons n t _ ih => simp only [List.map_cons, ih]; rfl
theorem WC.sorted {c : Cx} {n : Nat} {fz : Addr → Prop} {a : Addr} {ns : List Int} {Q : Value → St → Prop} (ha : σ a = some (.list (intL ns))) (hl : ns.length < 64) (q : ∀ b ns', ns'.Perm ns → ns'.Pairwise (· ≤ ·) → σ b = none → Q (.ref b) (σ.set b (.list (intL ns')))) : WC c n fz σ (.builtin "sorted") [.ref a] Q := fun A s raw e ok room r sh => by
  obtain ⟨u, rfl, e1⟩ := raw1 e
  rw [er_ref e1]
  obtain ⟨its, h1, h2, h3, -⟩ := listAt r ha
  have hz : its.toList.length < 64 := by have := size_er h2; simp at this ⊢; kspl_open wln
  refine sorted_ints (vs := its.toList) (by simpa using h1) (intsAre_of h2) hz fun out ns' a1 a2 a3 => ?_
  obtain ⟨ep, he⟩ := sortedAll_at s.heap its.toList out
  have kk : Ka s { s with heap := sortedAll s.heap its.toList out } := fun _ _ e => sortedAll_old e
  have hb0 : s.heap.get? (s.heap.objs.size + 1) = none := Heap.get?_none_of_le (Nat.le_succ _)
  obtain ⟨R, K, hn⟩ := r.newAt (fz := fz) (s' := { s with heap := sortedAll s.heap its.toList out }) kk hb0 he (o := .list (intL ns')) ⟨out, ep, rfl, erL_of a1, by have := a2.length_eq; simp; kspl_open wln⟩ (fun _ h => by cases h)
  exact ⟨_, R, K, sh.heap _ s.toks, q _ ns' a2 a3 hn⟩
end
section
variable {f : Fx} {ρ : Loc} {σ : St}

theorem Bin.addS {x y : Str} (h : x.length + y.length ≤ 1000000) : Bin f ρ σ .Add (.str x 0) (.str y 0) (.str (x ++ y) 0) := fun u v e1 e2 => by
  obtain ⟨t, rfl⟩ := er_str e1; obtain ⟨t', rfl⟩ := er_str e2
  exact Pr.mk fun _ s _ X k => SB.add (fun t'' kk => k (.str (x ++ y) t'') { s with toks := kk } (X.tok _) (Ka.refl _) rfl) (by rw [sizeLine_eq]; kspl_open wln)
theorem Cmp.isNotS {x : Str} : Cmp f ρ σ .IsNot (.str x 0) .none true := fun u v e1 e2 => by
  obtain ⟨t, rfl⟩ := er_str e1; rw [er_none e2]
  exact Pr.mk fun _ s _ X k => isnot_str_none (k _ _ X (Ka.refl _) rfl)
theorem Cmp.isNotN : Cmp f ρ σ .IsNot .none .none false := fun u v e1 e2 => by
  rw [er_none e1, er_none e2]
  exact Pr.mk fun _ s _ X k => wpAny_isNot_self rfl (k _ _ X (Ka.refl _) rfl)
theorem PE.callT1 {func e : Expr} {p : Pos} {b : String} {v c : Value} (hf : PE f ρ σ func (.type b)) (he : PE f ρ σ e v) (hc : ∀ u, er u = v → Pr f ρ σ (call (.type b) [u]) c) (hfn : notAttr func = true := by rfl) (hes : plainS e = true := by rfl) :
    PE f ρ σ (.Call func [e] [] p) c := Pr.mk fun _ s _ X k => by
  rw [eval_Call hfn]
  refine wpAny_bind (hf.use X fun u _ X1 k1 e1 => ?_)
  rw [er_type e1]
  refine PyProof.Rows.callWith_type (backTo_plain (es := [e]) (by simp [hes])) (evalArgs_all (es := [e]) (by simp [hes]) ?_)
  rw [starEach_plain hes]
  show wpAny _ _ (spliced ((false, eval e f.env) :: backTo p (starEach [] f.env))) _ _ _
  refine spliced_cons (he.use X1 fun w _ X2 k2 e2 => spliced_nil ?_)
  exact (hc w e2).use X2 fun r _ X3 k3 e3 => k r _ X3 (k1.trans (k2.trans k3)) e3
theorem PE.strI {e : Expr} {p p' : Pos} {i : Int} (hm : ("str" : Str) ∈ f.gl) (he : PE f ρ σ e (.int i 0)) (h : i.natAbs.log2 < 1920) (hes : plainS e = true := by rfl) : PE f ρ σ (.Call (.Name "str" p') [e] [] p) (.str (toString i) 0) :=
  PE.callT1 (PE.built hm b_str boot_str (by decide) rfl) he (fun u e1 => by
    obtain ⟨t, rfl⟩ := er_int e1
    exact Pr.mk fun _ s _ X k => P.str_of_int h (k _ _ (X.tok _) (Ka.refl _) rfl)) rfl hes
theorem strI_len {i : Int} (h : i.natAbs.log2 < 1920) : (Str.ofString (toString i)).length ≤ 1921 := int_text_len_1921 h
theorem log2_small {i : Int} (h0 : 0 ≤ i) (h : i < 2000) : i.natAbs.log2 < 1920 := by
  have h2 : i.natAbs < 2 ^ 1920 := Nat.lt_of_lt_of_le (show i.natAbs < 2 ^ 11 by kspl_open wln) (Nat.pow_le_pow_right (by decide) (by decide))
  by_cases e : i.natAbs = 0
  · rw [e]; decide
  · exact (Nat.log2_lt e).mpr h2
end
section
variable {f : Fx} {ρ : Loc} {σ : St}

theorem Room.under {n : Nat} {A : Around} {c : Code} (h : Room (n + 1) A) (hw : c.weight ≤ 2) (hu : c.cUnits ≤ 20) : Room n (A.under c) := by
  obtain ⟨h1, h2, h3⟩ := h
  refine ⟨?_, ?_, h3⟩
  · show A.depth + c.weight + 2 * n + 10 ≤ recursionLimit; kspl_open wln
  · show A.units + c.cUnits + 20 * n + 100 ≤ cLine; kspl_open wln
/-- a call of a class of the text -/
theorem WC.new {c : Cx} {n : Nat} {fz : Addr → Prop} {C fI : Addr} {args : List Value} {Q : Value → St → Prop} (hm : ∀ P, makesIn (KK P) C = true) (hi : ∀ P, findIn (KK P) (.ref C) "__init__" = some (some (.ref fI))) (hf : ∀ P, typeIn (KK P) (.ref fI) = some (.type "function"))
    (h : ∀ d x, σ d = none → σ x = none → d ≠ x → WCc c n fz ((σ.set d (.ns [])).set x (.inst C d)) (.ref fI) (.ref x :: args) fun v σ' => v = .none ∧ Q (.ref x) σ') : WC c (n + 1) fz σ (.ref C) args Q := fun A s raw hraw ok room rep sh => by
  have X : (KK c.w.params).In s.heap := ok.K.keeps rep.base
  have hz : (s.heap.objs.size == sysModules) = false := by
    have := PyProof.Rows.modules_low (ok.lim.keeps rep.base)
    exact beq_eq_false_iff_ne.mpr (Nat.ne_of_gt this)
  have hz2 : ((s.heap.push emptyDict).objs.size == sysModules) = false := by
    have := PyProof.Rows.modules_low (ok.lim.keeps rep.base)
    rw [Heap.size_push]
    exact beq_eq_false_iff_ne.mpr (Nat.ne_of_gt (Nat.lt_succ_of_lt this))
  have n1 := St.le_none rep
  have r1 := rep.push (o := .ns []) (ob := emptyDict) ⟨[], 0, rfl, rfl, by simp, by simp⟩ rfl hz
  have r2 := r1.push (o := .inst C s.heap.objs.size) (ob := instObj C s.heap.objs.size) rfl rfl hz2
  have n2 := St.le_none r1
  rw [Heap.size_push] at r2 n2
  have hne : s.heap.objs.size ≠ s.heap.objs.size + 1 := by kspl_open wln
  have n3 : σ (s.heap.objs.size + 1) = none := by rw [← n2, St.set_ne _ _ (Nat.succ_ne_self _)]
  have k : Kp fz σ s.heap ((σ.set s.heap.objs.size (.ns [])).set (s.heap.objs.size + 1) (.inst C s.heap.objs.size)) ((s.heap.push emptyDict).push (instObj C s.heap.objs.size)) := by
    have a := Kp.push (fz := fz) (σ := σ) (h := s.heap) (.ns []) emptyDict
    have b := Kp.push (fz := fz) (σ := σ.set s.heap.objs.size (.ns [])) (h := s.heap.push emptyDict) (.inst C s.heap.objs.size) (instObj C s.heap.objs.size)
    rw [Heap.size_push] at b
    exact a.trans b
  obtain ⟨hh, g, dr, t, os⟩ := s
  refine wpAny_call (make_core (makes_of X (hm _)) (looks_findIn X (hi _)) (fun self => bind_fn X self (hf _)) (.inl rfl) ?_)
  refine codeAny_mono (h _ _ n1 n3 hne (A.under (.builtin "type.__call__" ⟨.ref C :: raw, []⟩)) ⟨(hh.push emptyDict).push (instObj C hh.objs.size), g, dr, t, os⟩ (.ref (hh.objs.size + 1) :: raw) (by rw [List.map_cons, hraw]; rfl) ok (room.under (Nat.le_of_ble_eq_true rfl) (Nat.le_of_ble_eq_true rfl)) r2 ⟨sh.gens, sh.os, sh.dr⟩) fun r s' hr => ?_
  cases r with
  | error e => exact hr
  | ok fl =>
    cases fl with
    | ret v =>
      obtain ⟨σ', h1, h2, h3, h4, h5⟩ := hr
      exact ⟨er_none h4, σ', h1, k.trans h2, h3, h5⟩
    | _ => exact hr.elim
end
section
variable {f : Fx} {ρ : Loc} {σ : St}

theorem f_init36 : IsFn 36 := .of fun P => by kernel_rfl
theorem f_init57 : IsFn 57 := .of fun P => by kernel_rfl
theorem m_inst (P : Params) : makesIn (KK P) 39 = true := by kernel_rfl
theorem i_inst (P : Params) : findIn (KK P) (.ref 39) "__init__" = some (some (.ref 36)) := by kernel_rfl
theorem t_inst (P : Params) : typeIn (KK P) (.ref 36) = some (.type "function") := by kernel_rfl
theorem m_prog (P : Params) : makesIn (KK P) 60 = true := by kernel_rfl
theorem i_prog (P : Params) : findIn (KK P) (.ref 60) "__init__" = some (some (.ref 57)) := by kernel_rfl
theorem t_prog (P : Params) : typeIn (KK P) (.ref 57) = some (.type "function") := by kernel_rfl
theorem l_29 (P : Params) : (KK P).lookup 29 = some { cls := .type "tuple", data := .seq #[.int 0 238, .int 0 239, .int 0 240, .int 0 241, .bool false] } := by kernel_rfl
theorem d_36 (P : Params) : (fdo 36 P).defaults = .ref 29 := by kernel_rfl
theorem bi_2 {P : Params} {s : Shared} (h : (KK P).In s.heap) (a b : Value) : BindsTo s (fdo 36 P) ⟨[a, b], []⟩ [(("self" : Str), a), (("op" : Str), b), (("out" : Str), .int 0 238), (("arg" : Str), .int 0 239), (("low" : Str), .int 0 240), (("high" : Str), .int 0 241), (("is_folded" : Str), .bool false)] := by
  conv => arg 2; whnf
  exact BindsTo.of_defaults rfl (h _ _ (l_29 P)) rfl rfl rfl
theorem bi_3 {P : Params} {s : Shared} (h : (KK P).In s.heap) (a b c : Value) : BindsTo s (fdo 36 P) ⟨[a, b, c], []⟩ [(("self" : Str), a), (("op" : Str), b), (("out" : Str), c), (("arg" : Str), .int 0 239), (("low" : Str), .int 0 240), (("high" : Str), .int 0 241), (("is_folded" : Str), .bool false)] := by
  conv => arg 2; whnf
  exact BindsTo.of_defaults rfl (h _ _ (l_29 P)) rfl rfl rfl
theorem bi_4 {P : Params} {s : Shared} (h : (KK P).In s.heap) (a b c d : Value) : BindsTo s (fdo 36 P) ⟨[a, b, c, d], []⟩ [(("self" : Str), a), (("op" : Str), b), (("out" : Str), c), (("arg" : Str), d), (("low" : Str), .int 0 240), (("high" : Str), .int 0 241), (("is_folded" : Str), .bool false)] := by
  conv => arg 2; whnf
  exact BindsTo.of_defaults rfl (h _ _ (l_29 P)) rfl rfl rfl
theorem bi_7 {P : Params} {s : Shared} (h : (KK P).In s.heap) (a b c d e f g : Value) : BindsTo s (fdo 36 P) ⟨[a, b, c, d, e, f, g], []⟩ [(("self" : Str), a), (("op" : Str), b), (("out" : Str), c), (("arg" : Str), d), (("low" : Str), e), (("high" : Str), f), (("is_folded" : Str), g)] := by
  conv => arg 2; whnf
  exact BindsTo.of_defaults rfl (h _ _ (l_29 P)) rfl rfl rfl
end
section
/-! plain: what is met from an instruction -/
noncomputable def wy (g : Pg) (k : Int) : List Int := match g.insts[k.toNat]? with
  | some i => ways g k i
  | none => []
noncomputable abbrev InR (g : Pg) (k : Int) : Prop := 0 ≤ k ∧ k.toNat < g.insts.length
structure Sound (g : Pg) : Prop where
  ways : ∀ k, InR g k → ∀ w ∈ wy g k, InR g w
  outs : ∀ (k : Nat) (i : In), g.insts[k]? = some i → i.op = 1 → InR g i.out
  small : g.insts.length ≤ 1000
  ops : ∀ (k : Nat) (i : In), g.insts[k]? = some i → 0 ≤ i.op ∧ i.op ≤ 6 ∧ (i.op = 0 → g.flat = false)
theorem InR.at_ {g : Pg} {k : Int} (h : InR g k) : ∃ i, g.insts[k.toNat]? = some i ∧ wy g k = Mine.ways g k i := ⟨_, List.getElem?_eq_getElem h.2, by unfold wy; rw [List.getElem?_eq_getElem h.2]⟩
theorem ways_len (g : Pg) (k : Int) (i : In) : (ways g k i).length ≤ 2 := by unfold ways; repeat' split <;> simp
theorem wy_len (g : Pg) (k : Int) : (wy g k).length ≤ 2 := by unfold wy; split; exact ways_len ..; simp

noncomputable def lways (g : Pg) (k : Int) (i : In) : List Int := (if ![(1 : Int), 4, 6].any (· == i.op) then [i.out] else []) ++ ((if i.op == 0 then [i.arg] else []) ++ (if g.flat && !i.last then [k + 1] else []))
theorem lways_eq {g : Pg} (hs : Sound g) {k : Int} {n : Nat} {i : In} (h : g.insts[n]? = some i) : lways g k i = ways g k i := by
  obtain ⟨h1, h2, h3⟩ := hs.ops n i h
  have := le6 (i := i.op) (by kspl_open wln)
  unfold lways ways
  rcases this with e | e | e | e | e | e | e <;> rw [e]
  · rw [h3 e]; rfl
  all_goals rfl
inductive Clo (g : Pg) : List Int → List Int → List Int → Prop
  | nil (fo : List Int) : Clo g fo [] fo
  | skip {fo : List Int} {n : Int} {st r : List Int} : n ∈ fo → Clo g fo st r → Clo g fo (n :: st) r
  | go {fo : List Int} {n : Int} {st r : List Int} : n ∉ fo → Clo g (fo ++ [n]) (wy g n ++ st) r → Clo g fo (n :: st) r
theorem Clo.det {g : Pg} {fo st r r' : List Int} (h : Clo g fo st r) (h' : Clo g fo st r') : r = r' := by
  induction h with
  | nil => cases h'; rfl
  | skip hm _ ih =>
    cases h' with
    | skip _ h => exact ih h
    | go hn _ => exact absurd hm hn
  | go hn _ ih =>
    cases h' with
    | skip hm _ => exact absurd hm hn
    | go _ h => exact ih h

noncomputable def unmet (N : Nat) (fo : List Int) : Nat := ((List.range N).filter fun (k : Nat) => !fo.contains (k : Int)).length
theorem filter_lt {α} (p q : α → Bool) : ∀ (l : List α) (x : α), x ∈ l → p x = true → q x = false → (∀ y, q y = true → p y = true) → (l.filter q).length < (l.filter p).length
  | y :: l, x, hx, hp, hq, hi => by
    have le : ∀ l : List α, (l.filter q).length ≤ (l.filter p).length := fun l => by
      induction l with
      | nil => simp
      | cons z l ih =>
        simp only [List.filter_cons]
        cases hz : q z with
        | true => rw [hi z hz]; simpa using ih
        | false => simp only [Bool.false_eq_true, if_false]; split <;> (try simp only [List.length_cons]) <;> lia
    rcases List.mem_cons.mp hx with e | hx
    · subst e
      simp only [List.filter_cons, hp, hq, if_true, Bool.false_eq_true, if_false, List.length_cons]
      have := le l
      lia
    · have ih := filter_lt p q l x hx hp hq hi
      simp only [List.filter_cons]
      cases hz : q y with
      | true => rw [hi y hz]; simpa using ih
      | false => simp only [Bool.false_eq_true, if_false]; split <;> (try simp only [List.length_cons]) <;> lia
theorem unmet_lt {g : Pg} {fo : List Int} {n : Int} (h : InR g n) (hn : n ∉ fo) : unmet g.insts.length (fo ++ [n]) < unmet g.insts.length fo := by
  refine filter_lt _ _ _ n.toNat (List.mem_range.mpr h.2) ?_ ?_ fun y hy => ?_
  · have : ((n.toNat : Nat) : Int) = n := Int.toNat_of_nonneg h.1
    rw [this]; simpa using hn
  · have : ((n.toNat : Nat) : Int) = n := Int.toNat_of_nonneg h.1
    rw [this]; simp
  · simp at hy ⊢; exact hy.1
theorem unmet_nil (N : Nat) : unmet N [] = N := by unfold unmet; rw [List.filter_eq_self.mpr (by simp)]; simp

/-! dicts whose values do not count -/
noncomputable abbrev marks (ns : List Int) : List (Int × Value) := ns.map fun n => (n, .bool true)
theorem valueAt_marks (ns : List Int) (k : Int) : (valueAt (marks ns) k).isSome = ns.contains k := by
  induction ns with
  | nil => rfl
  | cons n ns ih =>
    unfold valueAt at ih ⊢
    simp only [marks, List.map_cons, List.find?_cons, List.contains_cons]
    by_cases e : n = k
    · subst e; simp
    · have e2 : (k == n) = false := by simpa using fun h : k = n => e h.symm
      simp only [e, decide_false, e2, Bool.false_or]
      exact ih
theorem stored_marks {ns : List Int} {k : Int} (h : k ∉ ns) : stored (marks ns) k (.bool true) = marks (ns ++ [k]) := by
  unfold stored
  have : (marks ns).any (fun kv => decide (kv.1 = k)) = false := by
    rw [List.any_eq_false]
    intro p hp
    obtain ⟨n, hn, e⟩ := List.mem_map.mp hp
    subst e
    simp only [decide_eq_true_eq]
    rintro rfl
    exact h hn
  rw [this]
  simp [marks]
variable {f : Fx} {ρ : Loc} {σ : St}
theorem Cmp.notInMO {fz : Addr → Prop} {σ0 : St} {L : List Ent} {a : Addr} {ns : List Int} {i : Int} {w : Bool} (H : Own fz σ0 σ L) (h : (a, .dic (marks ns), w) ∈ L) : Cmp f ρ σ .NotIn (.int i 0) (.ref a) (!ns.contains i) := by
  rw [← valueAt_marks]; exact Cmp.notInD (H.get _ _ _ h)
theorem Cmp.inMO {fz : Addr → Prop} {σ0 : St} {L : List Ent} {a : Addr} {ns : List Int} {i : Int} {w : Bool} (H : Own fz σ0 σ L) (h : (a, .dic (marks ns), w) ∈ L) : Cmp f ρ σ .In (.int i 0) (.ref a) (ns.contains i) := by
  rw [← valueAt_marks]; exact Cmp.inD (H.get _ _ _ h)
theorem Cmp.notInMB {fz : Addr → Prop} {σ0 : St} {L : List Ent} {a : Addr} {ns : List Int} {i : Int} (H : Own fz σ0 σ L) (h : σ0 a = some (.dic (marks ns))) : Cmp f ρ σ .NotIn (.int i 0) (.ref a) (!ns.contains i) := by
  rw [← valueAt_marks]; exact Cmp.notInD (H.ext _ _ h)
theorem intL_app (ns : List Int) (k : Int) : intL ns ++ [.int k 0] = intL (ns ++ [k]) := by simp
theorem intL_apps (ns ms : List Int) : intL ns ++ intL ms = intL (ns ++ ms) := by simp
theorem any_contains (ns : List Int) (i : Int) : ns.any (· == i) = ns.contains i := by
  induction ns with
  | nil => rfl
  | cons n ns ih => rw [List.any_cons, List.contains_cons, ih, BEq.comm]
theorem Cmp.notInLO {fz : Addr → Prop} {σ0 : St} {L : List Ent} {a : Addr} {ns : List Int} {i : Int} {w : Bool} (H : Own fz σ0 σ L) (h : (a, .list (intL ns), w) ∈ L) : Cmp f ρ σ .NotIn (.int i 0) (.ref a) (!ns.contains i) := by
  rw [← any_contains]; exact Cmp.notInL (H.get _ _ _ h)
theorem Put.ex {a : Addr} {o : AO} (o' : AO) : ∀ {L : List Ent}, (a, o, true) ∈ L → ∃ L', Put a o o' L L'
  | p :: L, h => by
    rcases List.mem_cons.mp h with e | h
    · subst e; exact ⟨_, .here _⟩
    · obtain ⟨L', h'⟩ := Put.ex o' h; exact ⟨_, .there _ h'⟩
theorem Put.mem' {a : Addr} {o o' : AO} {L L' : List Ent} (h : Put a o o' L L') : (a, o', true) ∈ L' := by induction h with | here => simp | there _ _ ih => exact List.mem_cons_of_mem _ ih
theorem Put.self {a : Addr} {o : AO} : ∀ {L : List Ent}, (a, o, true) ∈ L → Put a o o L L
  | p :: L, h => by
    by_cases e : p = (a, o, true)
    · subst e; exact .here _
    · rcases List.mem_cons.mp h with e' | h
      · exact absurd e'.symm e
      · exact .there _ (Put.self h)
theorem Put.trans {a : Addr} {o o' o'' : AO} {L L' : List Ent} (h : Put a o o' L L') (nd : (L.map (·.1)).Nodup) : ∀ {L'' : List Ent}, Put a o' o'' L' L'' → Put a o o'' L L'' := by
  induction h with
  | here r =>
    intro L'' h2
    cases h2 with
    | here => exact .here _
    | there _ h3 => exact absurd (List.mem_map.mpr ⟨_, h3.mem, rfl⟩) (List.nodup_cons.mp nd).1
  | @there p r r' h ih =>
    intro L'' h2
    cases h2 with
    | here => exact absurd (List.mem_map.mpr ⟨_, h.mem, rfl⟩) (List.nodup_cons.mp nd).1
    | there _ h3 => exact .there _ (ih (List.nodup_cons.mp nd).2 h3)
theorem Put.ro {a : Addr} {o o' : AO} {M M' : List Ent} (h : Put a o o' M M') : ∀ {b : Addr} {x : AO} {L : List Ent}, M = (b, x, false) :: L → ∃ L3, M' = (b, x, false) :: L3 ∧ Put a o o' L L3 := by
  cases h with
  | here r => intro b x L e; simp at e
  | there p h => intro b x L e; simp only [List.cons.injEq] at e; obtain ⟨rfl, rfl⟩ := e; exact ⟨_, rfl, h⟩
theorem S1.cutO {σ0 : St} {st : Stmt} {Q : Flow → Loc → St → Prop} (J : Loc → List Ent → Prop) (h : S1 f ρ σ st fun fl ρ' σ' => fl = .next ∧ ∃ L', Own f.fz σ0 σ' L' ∧ J ρ' L') (k : ∀ ρ' σ' L', Own f.fz σ0 σ' L' → J ρ' L' → Q .next ρ' σ') : S1 f ρ σ st Q :=
  WS.mono h fun fl ρ' σ' _ ⟨e, L', H, j⟩ => by rw [e]; exact k ρ' σ' L' H j
end
section
/-! reversed, of a tuple -/
theorem owner_rv : Manifest.owners.lookup (String.ofList ['d', 'e', 's', 'r', 'e', 'v', 'e', 'r'].reverse) = some Manifest.sig_reversed := by kernel_rfl
theorem slot_rv_next : Slot "reversed" "__next__" "reversed.__next__" :=
  .of (owner := "reversed") (n := "__next__") (by rw [typeLookup_type, builtinLookup_eq_fast]; kernel_rfl) (by decide +kernel) (by decide +kernel) (by decide +kernel)
    (by first | exact .inl (by decide +kernel) | exact .inr (by decide +kernel)) (by rw [isSubtype_type]; kernel_rfl)
theorem entry_rv_next : entryFor table "reversed.__next__" = some Builtin.«reversed.__next__» := entryFor_of_tree (by kernel_rfl)
theorem args_rv_next_1 (a : Value) : argsOk "reversed.__next__" ⟨[a], []⟩ := by
  unfold argsOk; rw [signature?_of (id := "reversed.__next__") (n := ['_', '_', 't', 'x', 'e', 'n', '_', '_']) (o := ['d', 'e', 's', 'r', 'e', 'v', 'e', 'r']) (by kernel_rfl) owner_rv]; kernel_rfl
theorem slot_rv_iter : Slot "reversed" "__iter__" "reversed.__iter__" :=
  .of (owner := "reversed") (n := "__iter__") (by rw [typeLookup_type, builtinLookup_eq_fast]; kernel_rfl) (by decide +kernel) (by decide +kernel) (by decide +kernel)
    (by first | exact .inl (by decide +kernel) | exact .inr (by decide +kernel)) (by rw [isSubtype_type]; kernel_rfl)
theorem args_rv_iter_1 (a : Value) : argsOk "reversed.__iter__" ⟨[a], []⟩ := by
  unfold argsOk; rw [signature?_of (id := "reversed.__iter__") (n := ['_', '_', 'r', 'e', 't', 'i', '_', '_']) (o := ['d', 'e', 's', 'r', 'e', 'v', 'e', 'r']) (by kernel_rfl) owner_rv]; kernel_rfl
theorem entry_rv_iter : entryFor table "reversed.__iter__" = some Builtin.«dict_keyiterator.__iter__» :=
  entryFor_alias (id' := "dict_keyiterator.__iter__") (by kernel_rfl) (by first | rfl | decide +kernel | (unfold String.splitOn; simp +decide [String.splitOnAux])) (by decide +kernel) (by kernel_rfl)
theorem slot_rv_init : Slot "reversed" "__init__" "object.__init__" :=
  .of (owner := "object") (n := "__init__") (by rw [typeLookup_type, builtinLookup_eq_fast]; kernel_rfl) (by decide +kernel) (by decide +kernel) (by decide +kernel)
    (by first | exact .inl (by decide +kernel) | exact .inr (by decide +kernel)) (by rw [isSubtype_type]; kernel_rfl)
theorem called_reversed : TypeCalled "reversed" "reversed.__new__" "object.__init__" :=
  ⟨by decide +kernel, by decide +kernel, ⟨_, _, F.mro_reversed⟩, madeBy_type F.mro_reversed F.lookup_reversed_new (by decide +kernel), by decide +kernel, by rw [isSubtype_type]; kernel_rfl, slot_rv_init⟩
theorem slot_rv_hint : Slot "reversed" "__length_hint__" "reversed.__length_hint__" :=
  .of (owner := "reversed") (n := "__length_hint__") (by rw [typeLookup_type, builtinLookup_eq_fast]; kernel_rfl) (by decide +kernel) (by decide +kernel) (by decide +kernel)
    (by first | exact .inl (by decide +kernel) | exact .inr (by decide +kernel)) (by rw [isSubtype_type]; kernel_rfl)
theorem entry_rv_hint : entryFor table "reversed.__length_hint__" = some Builtin.«reversed.__length_hint__» := entryFor_of_tree (by kernel_rfl)
theorem args_rv_hint_1 (a : Value) : argsOk "reversed.__length_hint__" ⟨[a], []⟩ := by
  unfold argsOk; rw [signature?_of (id := "reversed.__length_hint__") (n := ['_', '_', 't', 'n', 'i', 'h', '_', 'h', 't', 'g', 'n', 'e', 'l', '_', '_']) (o := ['d', 'e', 's', 'r', 'e', 'v', 'e', 'r']) (by kernel_rfl) owner_rv]; kernel_rfl
theorem no_rv_len : typeLookup (.type "reversed") "__len__" = pure none := by rw [typeLookup_type, builtinLookup_eq_fast]; kernel_rfl
theorem no_tup_rev : typeLookup (.type "tuple") "__reversed__" = pure none := by rw [typeLookup_type, builtinLookup_eq_fast]; kernel_rfl
theorem sub_tup_dict : isSubtype (.type "tuple") (.type "dict") = pure false := by rw [isSubtype_type]; kernel_rfl
end
section
noncomputable def rvObj (t : Addr) (i : Int) : Obj := { cls := .type "reversed", data := .fields #[.ref t, rawInt i] }
noncomputable def IsRv (h : Heap) (a t : Addr) (i : Int) : Prop := h.get? a = some (rvObj t i)
section
variable {prog : Program} {w : World} {A : Around} {E : Value → Shared → Prop} {s : Shared}
theorem IsRv.typeIs {a t : Addr} {i : Int} (x : IsRv s.heap a t i) : s.TypeIs (.ref a) "reversed" := ⟨_, x, rfl⟩

theorem rv_call {t : Addr} {items : Array Value} {Q : Value → Shared → Prop} (hl : IsTup s.heap t items) (hz : items.size ≤ 1000000)
    (h : ∀ tk, Q (.ref s.heap.objs.size) { s with heap := s.heap.push (rvObj t ((items.size : Int) - 1)), toks := tk }) : wpAny (model prog w) A (call (.type "reversed") [.ref t]) Q E s := by
  refine callType_codes (Q₁ := fun obj s₁ => obj = .ref s.heap.objs.size ∧ s₁ = { s with heap := s.heap.push (rvObj t ((items.size : Int) - 1)), toks := s.toks + 1 + 1 }) called_reversed (F.typeCall_reversed_1 _) F.entry_object_init ?_ fun obj s₁ h₁ => ?_
  · refine codeAny_of_tree ?_
    show wpAny _ A.in1.in1 (do checkBuiltinCall "reversed.__new__" ⟨[.type "reversed", .ref t], []⟩; again (.builtin "reversed.__new__" ⟨[.type "reversed", .ref t], []⟩)) _ _ s
    refine wpAny_bind (wpAny_of_eq (F.newCall_reversed_1 _) (wpAny_pure ⟨plainId_quiet F.plain_reversed_new _, codeAny_builtin F.entry_reversed_new ?_⟩))
    rw [Around.under_plainId F.plain_reversed_new _]
    unfold Builtin.«reversed.__new__»
    refine wpAny_bind (wpAny_of_eq (newClass_reversed _) ?_)
    try dsimp only
    refine wpAny_bind (wpAny_of_eq (a := ()) (by first | rfl | kernel_rfl) ?_)
    refine wpAny_bind (wpAny_of_eq (a := ()) (by first | rfl | kernel_rfl) ?_)
    try dsimp only
    refine wpAny_bind (wpAny_specialOf hl.typeIs no_tup_rev ?_)
    try dsimp only
    refine wpAny_bind ?_
    wp_delta
    refine wpAny_bind (wpAny_isInstance (T := "tuple") (b := false) hl.typeIs sub_tup_dict ?_)
    rw [if_neg Bool.false_ne_true]
    refine wpAny_bind (wpAny_specialOf hl.typeIs slot_tuple_getitem.lookup ?_)
    dsimp only
    rw [if_pos (by decide +kernel)]
    refine wpAny_pure ?_
    rw [if_neg (by decide)]
    refine wpAny_bind (len_tuple hl (by lia) ?_)
    refine wpAny_bind (m := asInt? _) (wpAny_pure ?_)
    dsimp only
    refine wpAny_bind ?_
    unfold Builtin.SmallTypes.newRecord
    dsimp only
    refine wpAny_newObj_type ?_
    exact wpAny_pure ⟨rfl, rfl⟩
  · obtain ⟨rfl, rfl⟩ := h₁
    refine ⟨⟨_, Heap.get?_push_size _ rfl, rfl⟩, F.args_object_init_2 _ _, ?_⟩
    exact (object_init_meets called_reversed.init.lookup called_reversed.made (by decide)) prog w A.in1 _ _ ⟨⟨_, Heap.get?_push_size _ rfl, rfl⟩, rfl, h _⟩
theorem rv_iter {a t : Addr} {i : Int} {Q : Value → Shared → Prop} (hit : IsRv s.heap a t i) (h : Q (.ref a) s) : wpAny (model prog w) A (pyIter (.ref a)) Q E s := by
  refine wpAny_pyIter_slot hit.typeIs slot_rv_iter (wpAny_call_entry slot_rv_iter hit.typeIs entry_rv_iter ?_ (args_rv_iter_1 _))
  show wpAny _ _ (ret (.ref a)) _ _ s
  exact wpAny_pure ⟨_, rfl, "reversed", _, hit.typeIs, slot_rv_next.lookup, h⟩
theorem rv_next {it t : Addr} {i : Nat} {items : Array Value} {x : Value} {Q : Option Value → Shared → Prop} (hit : IsRv s.heap it t (i : Int)) (hl : IsTup s.heap t items) (hz : items.size ≤ 1000000) (hx : items[i]? = some x)
    (hQ : ∀ h' tk, IsRv h' it t ((i : Int) - 1) → Heap.SameBut it s.heap h' → Q (some x) { s with heap := h', toks := tk }) : wpAny (model prog w) A (pyNext (.ref it)) Q E s := by
  have ho := hit
  unfold IsRv at ho
  have hi : i < items.size := by
    by_cases h : i < items.size
    · exact h
    · rw [Array.getElem?_eq_none (by lia)] at hx; cases hx
  unfold pyNext
  refine wpAny_bind (wpAny_attempt (wpAny_callSpecial?_slot (name := Str.ofString "__next__") hit.typeIs slot_rv_next
    (wpAny_call_entry slot_rv_next hit.typeIs entry_rv_next ?_ (args_rv_next_1 _))))
  unfold Builtin.«reversed.__next__»
  refine wpAny_bind (wpAny_of_eq (a := (Value.ref it, [])) rfl ?_)
  try dsimp only
  refine wpAny_bind (wpAny_field ho rfl (x := .ref t) rfl ?_)
  refine wpAny_bind (wpAny_field ho rfl (x := rawInt (i : Int)) rfl ?_)
  show wpAny _ _ (if (i : Int) < 0 then _ else _) _ _ s
  rw [if_neg (by lia)]
  refine wpAny_bind (wpAny_specialOf hl.typeIs slot_tuple_getitem.lookup ?_)
  rw [if_neg (by decide)]
  refine wpAny_bind (wpAny_mkInt ?_)
  refine wpAny_bind (wpAny_attempt (PyProof.Rows.getItem_tuple (j := i) (x := x) hl (by lia) (by lia) (seqIndex_ok hi) hx ?_))
  dsimp only
  refine wpAny_bind (wpAny_field ho rfl (x := rawInt (i : Int)) rfl ?_)
  show wpAny _ _ (setField (.ref it) 1 (rawInt ((i : Int) - 1)) >>= _) _ _ _
  refine wpAny_bind (wpAny_setField ho rfl (by simp) ?_)
  first
  | refine wpAny_pure ⟨x, rfl, wpAny_pure (hQ _ _ ?_ (Heap.SameBut.update ..))⟩
  | refine wpAny_bind (wpAny_pure (wpAny_pure ⟨x, rfl, wpAny_pure (hQ _ _ ?_ (Heap.SameBut.update ..))⟩))
  exact Heap.get?_update_self _ ho rfl
theorem rv_end {it t : Addr} {Q : Option Value → Shared → Prop} (hh : A.handled = none) (hit : IsRv s.heap it t (-1))
    (hQ : ∀ h' ob, h'.get? it = some ob → Heap.ExtBut it s.heap h' → Q none { s with heap := h' }) : wpAny (model prog w) A (pyNext (.ref it)) Q E s := by
  have ho := hit
  unfold IsRv at ho
  unfold pyNext
  refine wpAny_bind (wpAny_attempt (wpAny_callSpecial?_slot (name := Str.ofString "__next__") hit.typeIs slot_rv_next
    (wpAny_call_entry slot_rv_next hit.typeIs entry_rv_next ?_ (args_rv_next_1 _))))
  unfold Builtin.«reversed.__next__»
  refine wpAny_bind (wpAny_of_eq (a := (Value.ref it, [])) rfl ?_)
  try dsimp only
  refine wpAny_bind (wpAny_field ho rfl (x := .ref t) rfl ?_)
  refine wpAny_bind (wpAny_field ho rfl (x := rawInt (-1)) rfl ?_)
  show wpAny _ _ (if (-1 : Int) < 0 then _ else _) _ _ s
  rw [if_pos (by decide)]
  refine wpAny_bind (wpAny_rule ?_)
  refine wpAny_bind ?_
  wp_delta
  refine wpAny_bind (wpAny_setField ho rfl (by simp) ?_)
  have h1 := Heap.get?_update_self (Obj.mapFields (·.setIfInBounds 1 (rawInt (-1)))) ho rfl
  refine wpAny_setField h1 rfl (by simp) ?_
  have h2 := Heap.get?_update_self (Obj.mapFields (·.setIfInBounds 0 Value.none)) h1 rfl
  have e2 : Heap.ExtBut it s.heap ((s.heap.update it (Obj.mapFields (·.setIfInBounds 1 (rawInt (-1))))).update it (Obj.mapFields (·.setIfInBounds 0 Value.none))) := fun b o hb e => (Heap.get?_update_other _ _ (Ne.symm hb)).trans ((Heap.get?_update_other _ _ (Ne.symm hb)).trans e)
  first
  | show wpAny _ _ (newExc (.type "StopIteration") [] >>= _) _ _ _
  | (refine wpAny_bind ?_; show wpAny _ _ (newExc (.type "StopIteration") [] >>= _) _ _ _)
  refine wpAny_bind ?_
  simp only [newExc, newTuple]
  refine wpAny_bind (wpAny_newObj_type ?_ (by size_fits))
  refine wpAny_bind (m := firstArgMember _ _) (wpAny_of_eq (a := Value.none) (by first | rfl | (simp only [firstArgMember]; rfl)) ?_)
  refine wpAny_newObj_type ?_ (by size_fits)
  simp only [raiseNew]
  refine wpAny_bind (wpAny_handled ?_)
  first | rw [show A.in1.handled = none from hh] | rw [hh]
  refine wpAny_bind (wpAny_pure (wpAny_throw ?_))
  refine wpAny_bind (wpAny_isInstance (T := "StopIteration") (b := true) ⟨_, Heap.get?_push_size _ rfl, rfl⟩ isSubtype_stop ?_)
  exact wpAny_pure (hQ _ _ (Heap.get?_push_of_some _ (Heap.get?_push_of_some _ h2)) ((e2.push _).push _))

theorem rv_walks (hh : A.handled = none) (I t : Addr) (hne : t ≠ I) (items : Array Value) (hz : items.size ≤ 1000000) :
    Walks prog w A I [I, t] [I] items.size (fun i v => items[items.size - 1 - i]? = some v) (fun i h => i ≤ items.size ∧ IsRv h I t ((items.size : Int) - 1 - (i : Int)) ∧ IsTup h t items) where
  sub := fun b hb => by simp at hb; simp [hb]
  frame := fun _ _ _ x hk => ⟨x.1, hk I (by simp) _ x.2.1, let ⟨o, ho, r⟩ := x.2.2; ⟨o, hk t (by simp) o ho, r⟩⟩
  item := fun i s Q E hi x hQ => by
    have e : (items.size : Int) - 1 - (i : Int) = ((items.size - 1 - i : Nat) : Int) := by lia
    have hit := x.2.1
    rw [e] at hit
    have hx : items[items.size - 1 - i]? = some (items[items.size - 1 - i]'(by lia)) := Array.getElem?_eq_getElem (by lia)
    refine rv_next hit x.2.2 hz hx fun h' tk hit' hs' => ?_
    have e2 : ((items.size - 1 - i : Nat) : Int) - 1 = (items.size : Int) - 1 - ((i + 1 : Nat) : Int) := by lia
    rw [e2] at hit'
    exact hQ _ h' tk hx ⟨hi, hit', let ⟨o, ho, r⟩ := x.2.2; ⟨o, (hs'.2 t hne).trans ho, r⟩⟩ fun b o hb eo => hs'.extBut b o (fun h => hb (by simp [h])) eo
  done := fun s Q E x hQ => by
    have e : (items.size : Int) - 1 - (items.size : Int) = -1 := by lia
    have hit := x.2.1
    rw [e] at hit
    exact rv_end hh hit fun h' ob _ he' => hQ h' s.toks fun b o hb eo => he' b o (fun h => hb (by simp [h])) eo
  self := fun _ _ _ _ x hQ => rv_iter x.2.1 hQ

theorem rv_hint {it t : Addr} {i : Int} {items : Array Value} {Q : Bool → Shared → Prop} (hit : IsRv s.heap it t i) (hl : IsTup s.heap t items) (hz : items.size ≤ 1000000) (h0 : -1 ≤ i) (hi : i < items.size)
    (h : ∀ b tk, Q b { s with toks := tk }) : wpAny (model prog w) A (Builtin.List.listLengthHint (.ref it)) Q E s := by
  have ho := hit
  unfold IsRv at ho
  unfold Builtin.List.listLengthHint
  refine wpAny_bind (wpAny_specialOf hit.typeIs no_rv_len ?_)
  show wpAny _ _ (specialOf (Value.ref it) (Str.ofString "__length_hint__") >>= _) _ _ _
  refine wpAny_bind (wpAny_specialOf hit.typeIs slot_rv_hint.lookup ?_)
  dsimp only
  generalize hid : ("reversed.__length_hint__" : String) = id0
  rw [show splitId id0 = some ("reversed", "__length_hint__") from by subst hid; decide +kernel]
  subst hid
  dsimp only
  refine wpAny_bind (wpAny_isInstance (T := "reversed") (b := true) hit.typeIs F.sub_reversed_self ?_)
  rw [if_neg (by decide)]
  refine wpAny_ite_split (fun hab => absurd hab (by decide +kernel)) (fun _ => ?_)
  refine wpAny_bind (wpAny_rule ?_)
  refine wpAny_bind (wpAny_of_eq (slot_rv_hint.bind _) ?_)
  dsimp only
  refine wpAny_bind (wpAny_attempt (wpAny_call_entry slot_rv_hint hit.typeIs entry_rv_hint ?_ (args_rv_hint_1 _)))
  unfold Builtin.«reversed.__length_hint__»
  refine wpAny_bind (wpAny_of_eq (a := Value.ref it) rfl ?_)
  refine wpAny_bind (wpAny_field ho rfl (x := .ref t) rfl ?_)
  rw [if_neg (show ¬ ((Value.ref t == Value.none) = true) from Bool.false_ne_true)]
  refine wpAny_bind (len_tuple hl (by lia) ?_)
  refine wpAny_bind (m := asInt? _) (wpAny_pure ?_)
  dsimp only
  refine wpAny_bind (wpAny_field (s := { s with toks := s.toks + 1 + 1 }) ho rfl (x := rawInt i) rfl ?_)
  dsimp only [rawInt]
  rw [if_neg (by lia)]
  refine wpAny_bind (wpAny_mkInt (wpAny_pure ⟨_, rfl, ?_⟩))
  dsimp only
  refine wpAny_bind (m := asInt? _) (wpAny_pure ?_)
  dsimp only
  rw [if_neg (by simp [Builtin.List.listFitsIndex]; lia), if_neg (by lia), if_neg (by simp [Builtin.List.listTooLong, sizeLine_eq]; lia)]
  exact wpAny_pure (h _ _)
theorem walks_shift {I : Addr} {fp wr : List Addr} {n : Nat} {P : Nat → Value → Prop} {St : Nat → Heap → Prop} (W : Walks prog w A I fp wr n P St) (a0 : Array Value) :
    Walks prog w A I fp wr (a0.size + n) (fun j v => (j < a0.size ∧ a0[j]? = some v) ∨ (a0.size ≤ j ∧ P (j - a0.size) v)) (fun j h => a0.size ≤ j ∧ St (j - a0.size) h) where
  sub := W.sub
  frame := fun i h h' x hk => ⟨x.1, W.frame _ _ _ x.2 hk⟩
  item := fun i s Q E hi x hQ => W.item (i - a0.size) s Q E (by lia) x.2 fun v h' tk hp hst hk => hQ v h' tk (.inr ⟨x.1, hp⟩) ⟨by lia, by rw [show i + 1 - a0.size = i - a0.size + 1 by lia]; exact hst⟩ hk
  done := fun s Q E x hQ => W.done s Q E (by have := x.2; rwa [show a0.size + n - a0.size = n by lia] at this) hQ
  self := fun i s Q E x hQ => W.self _ s Q E x.2 hQ

theorem rv_extend {S it t : Addr} {its items : Array Value} {c : Nat} {Q : Value → Shared → Prop} (hh : A.handled = none) (hS : s.heap.get? S = some (listOf its c)) (hit : IsRv s.heap it t ((items.size : Int) - 1)) (hl : IsTup s.heap t items) (hSi : S ≠ it) (hSt : S ≠ t) (hz : its.size + items.size ≤ 1000000)
    (hQ : ∀ h' tk c' acc, h'.get? S = some (listOf acc c') → acc.toList = its.toList ++ items.toList.reverse → (∀ b o, b ≠ S → b ≠ it → s.heap.get? b = some o → h'.get? b = some o) → Q .none { s with heap := h', toks := tk }) :
    wpAny (model prog w) A (call (.builtin "list.extend") [.ref S, .ref it]) Q E s := by
  have hti : t ≠ it := by
    rintro rfl
    obtain ⟨o, ho, hc, _⟩ := hl
    unfold IsRv at hit
    rw [hit] at ho; cases ho; simp [rvObj] at hc
  have hSf : S ∉ [it, t] := by simp only [List.mem_cons, List.not_mem_nil, or_false, not_or]; exact ⟨hSi, hSt⟩
  have W := walks_shift (rv_walks (prog := prog) (w := w) (A := A.in1) hh it t hti items (by lia)) its
  have key : ∀ (h : Heap) (c₁ tk : Nat), IsRv h it t ((items.size : Int) - 1) → IsTup h t items → (∀ b o, b ≠ S → b ≠ it → s.heap.get? b = some o → h.get? b = some o) →
      h.get? S = some { cls := .type "list", data := .seq its c₁ } → codeAny (model prog w) A (.builtin "list.extend.loop" ⟨[.ref S, .ref it, .none], []⟩) (wants Q E) { s with heap := h, toks := tk } := by
    intro h c₁ tk h1 h2 hk hS₁
    refine codeAny_extend_loopS W.toS (by rw [sizeLine_eq]; lia) S hSf .none items.size its.size _ its c₁ (by lia) (by lia) ⟨Nat.le_refl _, by lia, by simpa using h1, h2⟩ hS₁ ⟨rfl, fun j v hj => ?_⟩ fun s' acc' c' hm hS' hacc => ?_
    · by_cases hlt : j < its.size
      · exact .inl ⟨hlt, hj⟩
      · rw [Array.getElem?_eq_none (by lia)] at hj; cases hj
    · rw [Moved.eq_with hm]
      refine hQ s'.heap s'.toks c' acc' hS' ?_ (fun b o hb hb2 e => hm.heap b o (by simp [hb, hb2]) (hk b o hb hb2 e))
      obtain ⟨a1, a2⟩ := hacc
      apply List.ext_getElem?
      intro j
      by_cases hj : j < its.size + items.size
      · have hj1 : j < acc'.size := by lia
        have := a2 j acc'[j] (Array.getElem?_eq_getElem hj1)
        rw [Array.getElem?_toList, Array.getElem?_eq_getElem hj1]
        rcases this with ⟨q1, q2⟩ | ⟨q1, q2⟩
        · rw [List.getElem?_append_left (by simpa using q1), Array.getElem?_toList, q2]
        · rw [List.getElem?_append_right (by simpa using q1), List.getElem?_reverse (by simp; lia), Array.getElem?_toList, ← q2]
          simp
      · rw [List.getElem?_eq_none (by simp; lia), List.getElem?_eq_none (by simp; lia)]
  refine wpAny_call (codeAny_call_builtin F.slot_list_extend.plain F.entry_list_extend (F.slot_list_extend.check _ _ _ _ _ _ _ _ ⟨_, hS, rfl⟩ (F.args_list_extend_2 _ _) ?_))
  show wpAny _ A.in1 (Builtin.List.listExtendWith (.ref S) (.ref it) .none) _ _ _
  unfold Builtin.List.listExtendWith
  refine wpAny_bind (wpAny_typeOf hit.typeIs ?_)
  have h1 : Builtin.List.listSameRef (.ref S) (.ref it) = false := by simp [Builtin.List.listSameRef, hSi]
  have h2 : (Value.type "reversed" == Value.type "list") = false := by decide
  have h3 : (Value.type "reversed" == Value.type "tuple") = false := by decide
  simp only [h1, h2, h3, Bool.or_false, Bool.false_eq_true, if_false]
  refine wpAny_bind (rv_iter hit ?_)
  refine wpAny_bind (wpAny_holding (rv_hint hit hl (by lia) (by lia) (by lia) fun b tk => ?_))
  refine wpAny_ite_split (fun _ => ?_) (fun _ => wpAny_pure ⟨plainId_quiet PySem.F.plain_extend_loop _, key _ c _ hit hl (fun b o _ _ e => e) hS⟩)
  refine wpAny_bind (wpAny_rule ?_)
  refine wpAny_bind ?_
  show wpAny _ _ (updateSeq S (·.push .none) >>= fun _ => updateSeq S (·.pop)) _ _ _
  refine wpAny_bind (wpAny_updateSeq hS rfl ?_ (by rw [sizeLine_eq]; lia) (by simp [sizeLine_eq]; lia))
  have hS₂ := Heap.get?_update_self (Obj.mapSeq (·.push Value.none)) hS rfl
  refine wpAny_updateSeq (hz := by simp [sizeLine_eq]; lia) hS₂ rfl ?_
  have hS₃ := Heap.get?_update_self (Obj.mapSeq (·.pop)) hS₂ rfl
  have oth : ∀ b o, b ≠ S → s.heap.get? b = some o → (((s.heap.update S (Obj.mapSeq (·.push Value.none))).update S (Obj.mapSeq (·.pop)))).get? b = some o := fun b o hb e => (Heap.get?_update_other _ _ (Ne.symm hb)).trans ((Heap.get?_update_other _ _ (Ne.symm hb)).trans e)
  refine wpAny_pure ⟨plainId_quiet PySem.F.plain_extend_loop _, key _ (c + 1 + 1) _ (oth _ _ (Ne.symm hSi) hit) (let ⟨o, ho, r⟩ := hl; ⟨o, oth _ _ (Ne.symm hSt) ho, r⟩) (fun b o hb _ e => oth b o hb e) (by
    rw [hS₃]
    simp [Obj.mapSeq, PySem.W.listOf])⟩
end
end
section
variable {f : Fx} {ρ : Loc} {σ : St}

noncomputable def St.del (σ : St) (a : Addr) : St := fun b => if b = a then none else σ b
theorem St.del_ne (σ : St) {a b : Addr} (h : b ≠ a) : σ.del a b = σ b := by simp [St.del, h]
theorem St.del_set (σ : St) {a : Addr} {o : AO} (h : σ a = none) : (σ.set a o).del a = σ := by
  funext b
  by_cases e : b = a
  · subst e; simp [St.del, h]
  · rw [St.del_ne _ e, St.set_ne _ _ e]
theorem WC.reversedT {c : Cx} {n : Nat} {fz : Addr → Prop} {t : Addr} {ys : List Value} {Q : Value → St → Prop} (ht : σ t = some (.tup ys)) (q : ∀ D, σ D = none → Q (.ref D) (σ.set D (.obj (rvObj t ((ys.length : Int) - 1))))) : WC c n fz σ (.type "reversed") [.ref t] Q := fun A s raw e ok room r sh => by
  obtain ⟨u, rfl, e1⟩ := raw1 e
  rw [er_ref e1]
  obtain ⟨its, -, h2, h3, hl⟩ := tupAt r ht
  have hz := size_er h2
  have hb : (s.heap.objs.size == sysModules) = false := by
    have := PyProof.Rows.modules_low (ok.lim.keeps r.base)
    exact beq_eq_false_iff_ne.mpr (Nat.ne_of_gt this)
  refine rv_call hl (by kspl_open wln) fun tk => ?_
  rw [hz]
  exact ⟨_, r.push (o := .obj (rvObj t ((ys.length : Int) - 1))) rfl rfl hb, Kp.push _ _, sh.heap _ _, q _ (St.le_none r)⟩
theorem WC.extendRev {c : Cx} {n : Nat} {fz : Addr → Prop} {a D t : Addr} {xs ys : List Value} {Q : Value → St → Prop} (ha : σ a = some (.list xs)) (hD : σ D = some (.obj (rvObj t ((ys.length : Int) - 1)))) (ht : σ t = some (.tup ys)) (hl : xs.length + ys.length ≤ 1000000) (hz : ¬ fz a) (hzD : ¬ fz D)
    (q : Q .none ((σ.del D).set a (.list (xs ++ ys.reverse)))) : WC c n fz σ (.builtin "list.extend") [.ref a, .ref D] Q := fun A s raw e ok room r sh => by
  obtain ⟨u, w, rfl, e1, e2⟩ := raw2 e
  rw [er_ref e1, er_ref e2]
  obtain ⟨its, h1, h2, h3, m, hm⟩ := listAt r ha
  obtain ⟨ob, g1, g2⟩ := r.obj _ _ hD
  obtain rfl : ob = _ := g2
  obtain ⟨its2, -, h2', h3', hl'⟩ := tupAt r ht
  have s1 := size_er h2
  have s2 := size_er h2'
  have haD : a ≠ D := by rintro rfl; rw [ha] at hD; cases hD
  have hat : a ≠ t := by rintro rfl; rw [ha] at ht; cases ht
  refine rv_extend room.2.2 hm (items := its2) (by rw [s2]; exact g1) hl' haD hat (by kspl_open wln) fun h' tk c' acc hS hacc hk => ?_
  have hbD := r.new _ _ hD
  have hba := r.new _ _ ha
  refine ⟨(σ.del D).set a (.list (xs ++ ys.reverse)), ⟨fun b o e => hk b o (ne_base hba e) (ne_base hbD e) (r.base b o e), fun b o e => ?_, fun b o e => ?_, fun b kvs e => ?_⟩, fun b o e n => ?_, sh.heap _ _, q⟩
  · by_cases hb : b = a
    · subst hb; rw [St.set_same] at e; cases e
      exact ⟨_, hS, acc, c', rfl, by rw [hacc, List.map_append, List.map_reverse, h2, h2'], by simp; kspl_open wln⟩
    · rw [St.set_ne _ _ hb] at e
      by_cases hb2 : b = D
      · subst hb2; simp [St.del] at e
      · rw [St.del_ne _ hb2] at e
        obtain ⟨ob, q1, q2⟩ := r.obj b o e
        exact ⟨ob, hk b ob hb hb2 q1, q2⟩
  · by_cases hb : b = a
    · subst hb; exact hba
    · rw [St.set_ne _ _ hb] at e
      by_cases hb2 : b = D
      · subst hb2; exact hbD
      · rw [St.del_ne _ hb2] at e; exact r.new b o e
  · by_cases hb : b = a
    · subst hb; rw [St.set_same] at e; cases e
    · rw [St.set_ne _ _ hb] at e
      by_cases hb2 : b = D
      · subst hb2; simp [St.del] at e
      · rw [St.del_ne _ hb2] at e; exact r.dm b kvs e
  · have na : b ≠ a := by rintro rfl; rcases n with n | n; · rw [ha] at n; cases n
                          · exact hz n
    have nD : b ≠ D := by rintro rfl; rcases n with n | n; · rw [hD] at n; cases n
                          · exact hzD n
    exact ⟨hk b o na nD e, by rw [St.set_ne _ _ na, St.del_ne _ nD]⟩
theorem WV.extendRevO {σ0 : St} {L : List Ent} {o e : Expr} {apos pos p p' : Pos} {a : Addr} {xs : List Value} {Q : Value → St → Prop} (hm : ("reversed" : Str) ∈ f.gl) (ho : PE f ρ σ o (.ref a)) (hx : ∃ w, (a, .list xs, w) ∈ L)
    (he : WV f ρ σ (eval e f.env) fun v σ1 => (Ey4 fun b ys L1 L' => Ay6 (v = .ref b) (Own f.fz σ0 σ1 L1) (σ1 b = some (.tup ys)) (xs.length + ys.length ≤ 1000000) (Put a (.list xs) (.list (xs ++ ys.reverse)) L1 L') (∀ σ', Own f.fz σ0 σ' L' → Q .none σ')))
    (H : Own f.fz σ0 σ L) (hb : plainB o = true := by rfl) (hps : (apos.endLine == pos.line) = true := by rfl) (hes : plainS e = true := by rfl) : WV f ρ σ (eval (.Call (.Attribute o "extend" apos) [.Call (.Name "reversed" p') [e] [] p] [] pos) f.env) Q := by
  obtain ⟨w, hx⟩ := hx
  refine WV.meth (b := "list.extend") (WV.pe ho ⟨Mth.extend (H.get _ _ _ hx), WLs.cons (WV.callT (PE.built hm b_reversed boot_reversed (by decide) rfl) (WLs.cons (WX.mono he ?_) hes) rfl (by simp [hes]))⟩) hb hps rfl (by simp)
  rintro v σ1 ⟨b, ys, L1, L', e1, H1, hb1, hl, hp, q⟩
  rw [e1]
  refine WLs.nil (WC.reversedT hb1 fun D hD => WLs.nil ?_)
  have hbD : b ≠ D := by rintro rfl; rw [hb1] at hD; cases hD
  have ha := H1.get _ _ _ hp.mem
  have haD : a ≠ D := by rintro rfl; rw [ha] at hD; cases hD
  refine WC.extendRev (xs := xs) (ys := ys) (by rw [St.set_ne _ _ haD]; exact ha) (St.set_same ..) (by rw [St.set_ne _ _ hbD]; exact hb1) hl (H1.wr _ _ hp.mem) (fun hz => H1.fzs _ hz hD) ?_
  rw [St.del_set _ hD]
  exact q _ (H1.turn hp)
end
section
variable {f : Fx} {ρ : Loc} {σ : St}

/-! keys of ints and bools -/
noncomputable def ib : Value → Option Int
  | .int i _ => some i
  | .bool b => some (if b then 1 else 0)
  | _ => none
theorem ib_cases {k : Int} {v : Value} (h : (ib v == some k) = true) : (∃ t, v = .int k t) ∨ (∃ b, v = .bool b ∧ k = if b then 1 else 0) := by
  rw [beq_iff_eq] at h
  cases v <;> simp [ib] at h
  · exact .inr ⟨_, rfl, h.symm⟩
  · exact .inl ⟨_, by rw [h]⟩
theorem beqd (a b : Int) : (a == b) = decide (a = b) := by rw [Bool.eq_iff_iff]; simp
noncomputable def ibKind (prog : Program) (w : World) : KeyKind prog w Int where
  is := fun k v => ib v == some k
  hash := hashInt
  inj := fun v a b ha hb => by rw [beq_iff_eq] at ha hb; rw [ha] at hb; exact Option.some.inj hb
  byValue := fun k v h => by rcases ib_cases h with ⟨t, rfl⟩ | ⟨b, rfl, _⟩ <;> rfl
  pyHash := fun {A E s k v Q} hv h => by
    rcases ib_cases hv with ⟨t, rfl⟩ | ⟨b, rfl, rfl⟩
    · exact wpAny_pyHash_int h
    · show wpAny _ _ (pyHashByItsType (.bool b)) _ _ _
      refine pyHash_slot (T := "bool") rfl F.slot_bool_hash entry_int_hash (args_int_hash _) (beq_builtin_none _) (.inl rfl) ?_
      cases b
      · exact (show wpAny _ _ (do ret (← mkInt 0)) _ _ s from wpAny_bind (wpAny_mkInt (wpAny_pure ⟨_, _, rfl, h⟩)))
      · exact (show wpAny _ _ (do ret (← mkInt 1)) _ _ s from wpAny_bind (wpAny_mkInt (wpAny_pure ⟨_, _, rfl, h⟩)))
  «strs» := fun k x t v h => by simp [ib] at h
  eqBool := fun {A E s a b u v Q} hu hv h => by
    rcases ib_cases hu with ⟨t, rfl⟩ | ⟨x, rfl, rfl⟩ <;> rcases ib_cases hv with ⟨t', rfl⟩ | ⟨y, rfl, rfl⟩
    · exact PySem.SeqAt.EqAt.int_int (A := A) (s := s) _ _ _ _ prog w E Q (by rw [beqd]; exact h)
    · exact PySem.SeqAt.EqAt.int_bool (A := A) (s := s) _ _ _ prog w E Q (by rw [beqd]; exact h)
    · exact PySem.SeqAt.EqAt.bool_int (A := A) (s := s) _ _ _ prog w E Q (by rw [beqd]; exact h)
    · refine PySem.SeqAt.EqAt.bool_bool (A := A) (s := s) _ _ prog w E Q ?_
      cases x <;> cases y <;> exact h

noncomputable def keyK (i : In) : List Int := [i.op, i.out, i.arg, i.low, i.high, if i.fold then 1 else 0]
noncomputable abbrev keyV (i : In) : List Value := [.int i.op 0, .int i.out 0, .int i.arg 0, .int i.low 0, .int i.high 0, .bool i.fold]
theorem ib_er (v : Value) : ib (er v) = ib v := by cases v <;> rfl
theorem items_of {prog : Program} {w : World} : ∀ {vs ws : List Value} {ks : List Int}, vs.map er = ws → ws.map ib = ks.map some → ItemsAre (ibKind prog w) ks vs
  | [], [], [], _, _ => .nil
  | [], [], _ :: _, _, h => by cases h
  | [], _ :: _, _, h, _ => by cases h
  | _ :: _, [], _, h, _ => by cases h
  | _ :: _, _ :: _, [], _, h => by cases h
  | v :: vs, u :: ws, k :: ks, h, h2 => by
    simp only [List.map_cons, List.cons.injEq] at h h2
    refine .cons ?_ (items_of h.2 h2.2)
    show (ib v == some k) = true
    rw [← ib_er, h.1, h2.1]; simp
theorem key_items (i : In) : (keyV i).map ib = (keyK i).map some := rfl
theorem key_at {c : Cx} {h : Heap} (r : Rep c σ h) {t : Addr} {i : In} (ht : σ t = some (.tup (keyV i))) : IsTupleKey (ibKind prg c.w) h (keyK i) t := by
  obtain ⟨its, -, h2, h3, ⟨o, ho, hc, n, hd⟩⟩ := tupAt r ht
  exact ⟨o, its, n, ho, hc, hd, items_of h2 (key_items i)⟩

/-- a dict whose keys are such tuples -/
noncomputable def KDo (c : Cx) (T : List Ent) (ob : Obj) (k : Nat) : Prop := ∃ es ep, ∃ xs : List (List Int × Addr × Value), ob.ExactDict ∧ ob.data = .dict es ep ∧ es.toList = xs.map (entryOfKey (tupleKind (ibKind prg c.w))) ∧ (∀ x ∈ xs, ∃ i w, x.1 = keyK i ∧ (x.2.1, .tup (keyV i), w) ∈ T) ∧ (xs.map (·.1)).Nodup ∧ xs.length ≤ k
noncomputable abbrev dict0 : Obj := { cls := .type "dict", data := .dict #[] }
theorem KDo.new (c : Cx) : KDo c [] dict0 0 := ⟨#[], _, [], ⟨rfl, rfl, rfl⟩, rfl, rfl, by simp, by simp, by simp⟩
theorem KDo.dict {c : Cx} {fz : Addr → Prop} {σ0 : St} {L T : List Ent} {h : Heap} {ob : Obj} {k : Nat} {d : Addr} {w : Bool} (hk : KDo c T ob k) (r : Rep c σ h) (H : Own fz σ0 σ L) (hT : ∀ e ∈ T, e ∈ L) (hd : (d, .obj ob, w) ∈ L) :
    ∃ xs : List (List Int × Addr × Value), h.DictOfH (tupleKind (ibKind prg c.w)) d xs ∧ (∀ x ∈ xs, ∃ i w, x.1 = keyK i ∧ (x.2.1, .tup (keyV i), w) ∈ T) ∧ xs.length ≤ k := by
  obtain ⟨es, ep, xs, h1, h2, h3, h4, h5, h6⟩ := hk
  obtain ⟨ob', g, e⟩ := r.obj _ _ (H.get _ _ _ hd)
  obtain rfl : ob' = ob := e
  exact ⟨xs, ⟨ob', es, ep, g, h1, h2, h3, fun x hx => by
    obtain ⟨i, w, e1, e2⟩ := h4 x hx
    rw [e1]; exact key_at r (H.get _ _ _ (hT _ e2)), h5⟩, h4, h6⟩
theorem WV.dicX {σ0 : St} {L : List Ent} {p : Pos} {Q : Value → St → Prop} (H : Own f.fz σ0 σ L) (q : ∀ a σ', (a == sysModules) = false → Own f.fz σ0 σ' ((a, .obj dict0, true) :: L) → Q (.ref a) σ') : WV f ρ σ (eval (.Dict [] [] p) f.env) Q := fun A s X => by
  obtain ⟨Y, kp, hn⟩ := X.alloc (o := .obj dict0) (ob := dict0) rfl rfl
  exact wpAny_Dict_empty (Y.post kp (q _ _ X.big (H.alloc hn)))
theorem Room.uK {n : Nat} {A : Around} (h : Room n A) : A.units + 1 < cLine := by have := h.2.1; kspl_open wln
theorem room_at {f : Fx} {ρ : Loc} {σ : St} {A : Around} {s : Shared} (X : AtR f ρ σ A s) : (tupleKind (ibKind prg f.c.w)).room A.in1 := tupleKind_room_in1 X.room.uK
theorem Cmp.notInK {σ0 : St} {L T : List Ent} {ob : Obj} {k : Nat} {d t : Addr} {i : In} {w w' : Bool} (H : Own f.fz σ0 σ L) (hk : KDo f.c T ob k) (hT : ∀ e ∈ T, e ∈ L) (hd : (d, .obj ob, w) ∈ L) (hs : (d == sysModules) = false) (ht : (t, .tup (keyV i), w') ∈ L) :
    ∃ b, Cmp f ρ σ .NotIn (.ref t) (.ref d) b := by
  obtain ⟨es, ep, xs, h1, h2, h3, h4, h5, h6⟩ := id hk
  refine ⟨!(atKey xs (keyK i)).isSome, fun u v e1 e2 => ?_⟩
  rw [er_ref e1, er_ref e2]
  refine Pr.mk fun _ s _ X k => ?_
  obtain ⟨ob', g, e⟩ := X.rep.obj _ _ (H.get _ _ _ hd)
  obtain rfl : ob' = ob := e
  exact wpAny_notIn_heap (knd := tupleKind (ibKind prg f.c.w)) (xs := xs) (k := keyK i) (room_at X) (key_at X.rep (H.get _ _ _ ht)) hs ⟨ob', es, ep, g, h1, h2, h3, fun x hx => by
    obtain ⟨i, w, e1, e2⟩ := h4 x hx
    rw [e1]; exact key_at X.rep (H.get _ _ _ (hT _ e2)), h5⟩ (k _ _ (X.tok _) (Ka.refl _) rfl)
theorem Ws.setK {σ0 : St} {L T : List Ent} {ob : Obj} {m : Nat} {d t : Addr} {i : In} {w' : Bool} {o k u : Value} {L' : Obj → List Ent} {Q : Unit → St → Prop} (H : Own f.fz σ0 σ L) (hk : KDo f.c T ob m) (hT : ∀ e ∈ T, e ∈ L) (ht : (t, .tup (keyV i), w') ∈ L) (hm : m ≤ 10000) (ho : er o = .ref d) (hkk : er k = .ref t)
    (hp : ∀ ob', Put d (.obj ob) (.obj ob') L (L' ob')) (q : ∀ ob' σ', KDo f.c ((t, .tup (keyV i), w') :: T) ob' (m + 1) → Own f.fz σ0 σ' (L' ob') → Q () σ') : WX f ρ σ (setItem o k u) Q := fun A s X => by
  rw [er_ref ho, er_ref hkk]
  have hd := (hp ob).mem
  obtain ⟨xs, hdict, hxs, hlen⟩ := hk.dict X.rep H hT hd
  refine wpAny_setItem_heap (knd := tupleKind (ibKind prg f.c.w)) (k := keyK i) (tupleKind_room_in1 X.r.room.uK) (key_at X.rep (H.get _ _ _ ht)) hdict (fun h' hd' sb => ?_) (by rw [sizeLine_eq]; kspl_open wln)
  obtain ⟨ob', es, ep, g, h1, h2, h3, h4, h5⟩ := hd'
  obtain ⟨Y, kp⟩ := At.turn (s' := { s with heap := h', toks := s.toks + (tupleKind (ibKind prg f.c.w)).draws (keyK i) }) X (H.get _ _ _ hd) sb g (o := .obj ob') rfl (X.sh.heap _ _) (H.wr _ _ hd)
  refine Y.post kp (q ob' _ ⟨es, ep, _, h1, h2, h3, fun x hx => ?_, h5, ?_⟩ (H.turn (hp ob')))
  · rcases mem_storedH hx with ⟨y, hy, e1, e2⟩ | ⟨e1, e2⟩
    · obtain ⟨i', w, q1, q2⟩ := hxs y hy
      exact ⟨i', w, e1.trans q1, List.mem_cons_of_mem _ (e2 ▸ q2)⟩
    · exact ⟨i, w', e1, e2 ▸ List.mem_cons_self ..⟩
  · unfold storedH
    split
    · rw [List.length_map]; kspl_open wln
    · simp; kspl_open wln
/-- x[k] = v where k may make things -/
theorem S1.setItW {o i value : Expr} {p' pos : Pos} {Q : Flow → Loc → St → Prop} (h : WV f ρ σ (eval value f.env) fun v σ1 => (Ey1 fun ov => Ay2 (PE f ρ σ1 o ov) (WV f ρ σ1 (eval i f.env) fun iv σ2 => ∀ ro ri rv, er ro = ov → er ri = iv → er rv = v → WX f ρ σ2 (setItem ro ri rv) fun _ σ3 => Q .next ρ σ3))) (hc : noComp value = true := by rfl) :
    S1 f ρ σ (.Assign [.Subscript o i p'] value pos) Q := fun A s X =>
  wpAny_Assign_Subscript (WX.use h X fun v s1 σ1 X1 k1 ⟨ov, h1, h2⟩ => h1.useW X1 fun ro s2 X2 k2 e2 => WX.use h2 X2 fun ri s3 σ3 X3 k3 h3 => WX.use (h3 ro ri v e2 rfl rfl) X3 fun _ s4 σ4 X4 k4 q =>
    X4.postS rfl (k1.trans (k2.kp.trans (k3.trans k4))).s q) (swaps_no hc)
end
section
variable {f : Fx} {ρ : Loc} {σ : St}

theorem Tru.listO {fz : Addr → Prop} {σ0 : St} {L : List Ent} {a : Addr} {xs : List Value} {w : Bool} (H : Own fz σ0 σ L) (h : (a, .list xs, w) ∈ L) : Tru f ρ σ (.ref a) (!xs.isEmpty) := Tru.list (H.get _ _ _ h)
theorem l_174 (P : Params) : (KK P).lookup 174 = some { cls := .type "tuple", data := .seq #[.int 1 189, .int 2 191, .int 3 193] } := by kernel_rfl
noncomputable def isStep (i : Int) : Bool := [(1 : Int), 2, 3].any (· == i)
theorem Cmp.inSteps {i : Int} : Cmp f ρ σ .In (.int i 0) (.ref 174) (isStep i) := fun u w e1 e2 => by
  rw [er_ref e2]; obtain ⟨t, rfl⟩ := er_int e1
  refine Pr.mk fun _ s _ X k => ?_
  have hl : IsTup s.heap 174 #[.int 1 189, .int 2 191, .int 3 193] := ⟨_, X.kin _ _ (l_174 _), rfl, _, rfl⟩
  exact in_tuple_ints hl (ns := [1, 2, 3]) (intsAre_of rfl) (k _ _ X (Ka.refl _) rfl)

/-! keys met one after another -/
noncomputable def ad (ns : List Int) (k : Int) : List Int := if ns.contains k then ns else ns ++ [k]
theorem mem_ad {ns : List Int} {k x : Int} : x ∈ ad ns k ↔ x ∈ ns ∨ x = k := by
  unfold ad
  split
  · rename_i h
    have h : k ∈ ns := by simpa using h
    constructor
    · exact .inl
    · rintro (h' | rfl)
      · exact h'
      · exact h
  · simp
theorem nodup_ad {ns : List Int} {k : Int} (h : ns.Nodup) : (ad ns k).Nodup := by
  unfold ad
  split
  · exact h
  · rename_i hc
    have hc : k ∉ ns := by simpa using hc
    exact List.nodup_append.mpr ⟨h, by simp, fun a ha b hb => by simp at hb; subst hb; rintro rfl; exact hc ha⟩
theorem ad_head {ns : List Int} {k x : Int} (h : ns.head? = some x) : (ad ns k).head? = some x := by
  unfold ad
  split
  · exact h
  · cases ns with
    | nil => cases h
    | cons y ns => exact h
theorem stored_ad (ns : List Int) (k : Int) : stored (marks ns) k (.bool true) = marks (ad ns k) := by
  unfold ad
  by_cases h : k ∈ ns
  · rw [if_pos (by simpa using h)]
    unfold stored
    have : (marks ns).any (fun kv => decide (kv.1 = k)) = true := List.any_eq_true.mpr ⟨(k, .bool true), List.mem_map.mpr ⟨k, h, rfl⟩, by simp⟩
    rw [if_pos this, List.map_map]
    apply List.map_congr_left
    intro n _
    simp only [Function.comp]
    split
    · rename_i e; rw [e]
    · rfl
  · rw [if_neg (by simpa using h)]; exact stored_marks h
theorem nodup_sub_len {α} [DecidableEq α] : ∀ {l m : List α}, l.Nodup → l ⊆ m → l.length ≤ m.length
  | [], _, _, _ => by simp
  | x :: l, m, nd, h => by
    obtain ⟨n1, n2⟩ := List.nodup_cons.mp nd
    have hx : x ∈ m := h (List.mem_cons_self ..)
    have : l ⊆ m.erase x := fun y hy => (List.mem_erase_of_ne (by rintro rfl; exact n1 hy)).mpr (h (List.mem_cons_of_mem _ hy))
    have ih := nodup_sub_len n2 this
    rw [List.length_erase_of_mem hx] at ih
    have := List.length_pos_of_mem hx
    simp only [List.length_cons]
    lia
theorem nodup_inR {g : Pg} {ns : List Int} (h : ns.Nodup) (hr : ∀ x ∈ ns, InR g x) : ns.length ≤ g.insts.length := by
  have h1 : (ns.map Int.toNat).Nodup := by
    rw [List.Nodup, List.pairwise_map]
    refine List.Pairwise.imp_of_mem ?_ h
    intro a b ha hb hab e
    have := hr a ha
    have := hr b hb
    apply hab
    lia
  have h2 : (ns.map Int.toNat) ⊆ List.range g.insts.length := by
    intro y hy
    obtain ⟨x, hx, rfl⟩ := List.mem_map.mp hy
    exact List.mem_range.mpr (hr x hx).2
  have := nodup_sub_len h1 h2
  simpa using this
end
section
variable {f : Fx} {ρ : Loc} {σ : St}

theorem WC.listD {c : Cx} {n : Nat} {fz : Addr → Prop} {a : Addr} {kvs : List (Int × Value)} {Q : Value → St → Prop} (ha : σ a = some (.dic kvs)) (q : ∀ b, σ b = none → Q (.ref b) (σ.set b (.list (intL (kvs.map (·.1)))))) : WC c n fz σ (.type "list") [.ref a] Q := fun A s raw e ok room r sh => by
  obtain ⟨u, rfl, e1⟩ := raw1 e
  rw [er_ref e1]
  obtain ⟨raw, hl, e2, e3⟩ := dicAt r ha
  obtain ⟨ep, hd⟩ := hl.dictAt
  have len : raw.length = kvs.length := by subst e2; simp
  refine kdl_call (kdl_dict (r.dm _ _ ha)) room.2.2 hd (by rw [sizeLine_eq]; kspl_open wln) fun h' tk acc' c' hk hD hacc => ?_
  have kk : Ka s { s with heap := h', toks := tk } := hk
  have he : acc'.toList.map er = intL (kvs.map (·.1)) := by
    apply List.ext_getElem?
    intro j
    rw [List.getElem?_map, Array.getElem?_toList]
    by_cases hj : j < acc'.size
    · obtain ⟨k, x, h1, h2⟩ := hacc.2 j acc'[j] (Array.getElem?_eq_getElem hj)
      obtain ⟨t, ht⟩ := Value.isInt_shape h2
      rw [Array.getElem?_eq_getElem hj, ht]
      subst e2
      simp [h1, er]
    · have h1 := hacc.1
      rw [Array.getElem?_eq_none (by kspl_open wln), List.getElem?_eq_none (by simp; kspl_open wln)]; rfl
  obtain ⟨R, K, hn⟩ := r.newAt (fz := fz) (s' := { s with heap := h', toks := tk }) kk (fresh_none _) hD (o := .list (intL (kvs.map (·.1)))) ⟨acc', c', rfl, he, by simpa using e3⟩ (fun _ h => by cases h)
  exact ⟨_, R, K, sh.heap _ _, q _ hn⟩
/-- a call with arguments that may make things -/
theorem WV.callOW {σ0 : St} {func : Expr} {es : List Expr} {p : Pos} {a : Addr} {Q : Value → St → Prop} (hf : PE f ρ σ func (.ref a)) (hk : ∀ P, keepIn (KK P) (.ref a) = true)
    (h : WLs f ρ σ es fun vs σ1 => (Ey2 fun L P => Ay3 (Own f.fz σ0 σ1 L) (WC f.c f.n f.fz σ1 (.ref a) vs (Ret f.fz σ1 P)) (∀ v σ' L', P v L' → Own f.fz σ0 σ' (L' ++ L) → Q v σ'))) (hfn : notAttr func = true := by rfl) (hp : es.all plainS = true := by rfl) : WV f ρ σ (eval (.Call func es [] p) f.env) Q :=
  WV.callG hf hk (fun pos => WX.mono (h pos) fun vs σ1 t00 => by obtain ⟨L, P, H, hc, q⟩ := t00; exact hc.mono fun v σ' t10 => by obtain ⟨L', o, hP⟩ := t10; exact q v σ' L' hP (H.join o)) hfn hp

/-! dicts of ints -/
noncomputable def otab (ow : List (Int × Int)) : List (Int × Value) := ow.map fun p => (p.1, .int p.2 0)
theorem otab_some {ow : List (Int × Int)} {k : Int} (h : (valueAt (otab ow) k).isSome = true) : ∃ r, valueAt (otab ow) k = some (.int r 0) ∧ (k, r) ∈ ow := by
  induction ow with
  | nil => cases h
  | cons p ow ih =>
    unfold valueAt at h ih ⊢
    simp only [otab, List.map_cons, List.find?_cons] at h ⊢
    by_cases e : p.1 = k
    · simp only [e, decide_true, Option.map_some] at h ⊢
      exact ⟨p.2, rfl, by rw [← e]; exact List.mem_cons_self ..⟩
    · simp only [e, decide_false] at h ⊢
      obtain ⟨r, h1, h2⟩ := ih h
      exact ⟨r, h1, List.mem_cons_of_mem _ h2⟩
theorem otab_none {ow : List (Int × Int)} {k : Int} (h : (valueAt (otab ow) k).isSome = false) : k ∉ ow.map (·.1) := by
  induction ow with
  | nil => simp
  | cons p ow ih =>
    unfold valueAt at h ih
    simp only [otab, List.map_cons, List.find?_cons] at h
    by_cases e : p.1 = k
    · simp [e] at h
    · simp only [e, decide_false] at h
      have := ih h
      simp only [List.map_cons, List.mem_cons, not_or]
      exact ⟨fun h => e h.symm, this⟩
theorem otab_stored {ow : List (Int × Int)} {k r : Int} (h : k ∉ ow.map (·.1)) : stored (otab ow) k (.int r 0) = otab (ow ++ [(k, r)]) := by
  unfold stored
  have : (otab ow).any (fun kv => decide (kv.1 = k)) = false := by
    rw [List.any_eq_false]
    intro p hp
    obtain ⟨n, hn, e⟩ := List.mem_map.mp hp
    subst e
    simp only [decide_eq_true_eq]
    rintro rfl
    exact h (List.mem_map.mpr ⟨_, hn, rfl⟩)
  rw [this]
  simp [otab]
theorem Cmp.notInOO {fz : Addr → Prop} {σ0 : St} {L : List Ent} {a : Addr} {ow : List (Int × Int)} {i : Int} {w : Bool} (H : Own fz σ0 σ L) (h : (a, .dic (otab ow), w) ∈ L) : Cmp f ρ σ .NotIn (.int i 0) (.ref a) (!(valueAt (otab ow) i).isSome) := Cmp.notInD (H.get _ _ _ h)
theorem Cmp.inMB {fz : Addr → Prop} {σ0 : St} {L : List Ent} {a : Addr} {ns : List Int} {i : Int} (H : Own fz σ0 σ L) (h : σ0 a = some (.dic (marks ns))) : Cmp f ρ σ .In (.int i 0) (.ref a) (ns.contains i) := by
  rw [← valueAt_marks]; exact Cmp.inD (H.ext _ _ h)
end
section
variable {f : Fx} {ρ : Loc} {σ : St}

theorem Own.perm {fz : Addr → Prop} {σ0 σ : St} {L L' : List Ent} (H : Own fz σ0 σ L) (h : L.Perm L') : Own fz σ0 σ L' :=
  ⟨H.ext, fun a o w m => H.get a o w (h.mem_iff.mpr m), fun a o w m => H.new a o w (h.mem_iff.mpr m), fun a o m => H.wr a o (h.mem_iff.mpr m), (h.map _).nodup_iff.mp H.nd, H.fzs⟩
theorem Put.app {a : Addr} {o o' : AO} {L L' : List Ent} (A : List Ent) (h : Put a o o' L L') : Put a o o' (A ++ L) (A ++ L') := by
  induction A with
  | nil => exact h
  | cons p A ih => exact .there _ ih
theorem Put.left {a : Addr} {o o' : AO} {L L' : List Ent} (h : Put a o o' L L') (B : List Ent) : Put a o o' (L ++ B) (L' ++ B) := by
  induction h with
  | here r => exact .here _
  | there p _ ih => exact .there _ ih
theorem perm_in {α} (A F R : List α) : (A ++ (F ++ R)).Perm (F ++ (A ++ R)) := List.perm_append_comm_assoc ..
/-- what is new goes behind -/
theorem perm_made {α} (A B F Z G : List α) : (A ++ (B ++ (F ++ (Z ++ G)))).Perm (F ++ ((Z ++ B) ++ (A ++ G))) := by
  have h1 : (A ++ (B ++ (F ++ (Z ++ G)))).Perm (F ++ (A ++ (B ++ (Z ++ G)))) := by
    refine (List.Perm.append_left A (perm_in B F (Z ++ G))).trans ?_
    exact perm_in A F (B ++ (Z ++ G))
  refine h1.trans (List.Perm.append_left F ?_)
  have h2 : (A ++ (B ++ (Z ++ G))).Perm (A ++ (Z ++ (B ++ G))) := List.Perm.append_left A (perm_in B Z G)
  refine h2.trans ?_
  have h3 : (A ++ (Z ++ (B ++ G))).Perm (Z ++ (A ++ (B ++ G))) := perm_in A Z (B ++ G)
  refine h3.trans ?_
  rw [List.append_assoc]
  exact List.Perm.append_left Z (perm_in A B G)

noncomputable abbrev Ob := Addr × Addr × In
noncomputable def obE (z : Ob) : List Ent := [(z.1, .inst cI z.2.1, true), (z.2.1, .ns z.2.2.fs, true)]
noncomputable def ents (zs : List Ob) : List Ent := zs.flatMap obE
noncomputable abbrev obX (zs : List Ob) : List Addr := zs.map (·.1)
noncomputable abbrev obI (zs : List Ob) : List In := zs.map (·.2.2)
theorem ents_app (a b : List Ob) : ents (a ++ b) = ents a ++ ents b := by simp [ents]
theorem ents_one (z : Ob) : ents [z] = obE z := by simp [ents]
theorem ents_mem {zs : List Ob} {z : Ob} (h : z ∈ zs) : (z.1, AO.inst cI z.2.1, true) ∈ ents zs ∧ (z.2.1, AO.ns z.2.2.fs, true) ∈ ents zs :=
  ⟨List.mem_flatMap.mpr ⟨z, h, by simp [obE]⟩, List.mem_flatMap.mpr ⟨z, h, by simp [obE]⟩⟩
theorem Own.isI {fz : Addr → Prop} {σ0 σ : St} {L : List Ent} {zs : List Ob} {z : Ob} (H : Own fz σ0 σ L) (h : ∀ e ∈ ents zs, e ∈ L) (hz : z ∈ zs) : IsI σ z.1 z.2.2 :=
  ⟨z.2.1, H.get _ _ _ (h _ (ents_mem hz).1), H.get _ _ _ (h _ (ents_mem hz).2)⟩
/-- one of the objects is turned -/
theorem ents_put {z : Ob} {i : In} (A B : List Ob) : Put z.2.1 (.ns z.2.2.fs) (.ns i.fs) (ents (A ++ z :: B)) (ents (A ++ (z.1, z.2.1, i) :: B)) := by
  rw [ents_app, ents_app]
  refine Put.app _ ?_
  show Put _ _ _ (obE z ++ ents B) (obE (z.1, z.2.1, i) ++ ents B)
  exact Put.left (.there _ (.here _)) _
theorem putF_op (i : In) (v : Int) : PutF "op" (.int v 0) i.fs ({ i with op := v } : In).fs := .here _ _
theorem putF_out (i : In) (v : Int) : PutF "out" (.int v 0) i.fs ({ i with out := v } : In).fs := .there _ (by dsimp only; decide) (.here _ _)
theorem putF_arg (i : In) (v : Int) : PutF "arg" (.int v 0) i.fs ({ i with arg := v } : In).fs := .there _ (by dsimp only; decide) (.there _ (by dsimp only; decide) (.here _ _))
theorem putF_low (i : In) (v : Int) : PutF "low" (.int v 0) i.fs ({ i with low := v } : In).fs := .there _ (by dsimp only; decide) (.there _ (by dsimp only; decide) (.there _ (by dsimp only; decide) (.here _ _)))
theorem putF_high (i : In) (v : Int) : PutF "high" (.int v 0) i.fs ({ i with high := v } : In).fs := .there _ (by dsimp only; decide) (.there _ (by dsimp only; decide) (.there _ (by dsimp only; decide) (.there _ (by dsimp only; decide) (.here _ _))))
theorem putF_last (i : In) (v : Bool) : PutF "is_last" (.bool v) i.fs ({ i with last := v } : In).fs := .there _ (by dsimp only; decide) (.there _ (by dsimp only; decide) (.there _ (by dsimp only; decide) (.there _ (by dsimp only; decide) (.there _ (by dsimp only; decide) (.there _ (by dsimp only; decide) (.here _ _))))))

theorem PE.iteI {t a b : Expr} {p : Pos} {c : Bool} {u v : Int} (ht : PT f ρ σ t c) (h1 : PE f ρ σ a (.int u 0)) (h2 : PE f ρ σ b (.int v 0)) : PE f ρ σ (.IfExp t a b p) (.int (if c then u else v) 0) := by
  have := PE.ite (p := p) ht (fun _ => h1) (fun _ => h2)
  cases c <;> exact this
theorem S1.cutC {σ0 : St} {st : Stmt} {Q : Flow → Loc → St → Prop} (J : Loc → List Ent → Prop) (h : S1 f ρ σ st fun fl ρ' σ' => (fl = .next ∧ ∃ L', Own f.fz σ0 σ' L' ∧ J ρ' L') ∨ (fl = .cont ∧ Q .cont ρ' σ')) (k : ∀ ρ' σ' L', Own f.fz σ0 σ' L' → J ρ' L' → Q .next ρ' σ') : S1 f ρ σ st Q :=
  WS.mono h fun fl ρ' σ' _ q => by
    rcases q with ⟨e, L', H, j⟩ | ⟨e, q⟩
    · rw [e]; exact k ρ' σ' L' H j
    · rw [e]; exact q
theorem KDo.mono {c : Cx} {T T' : List Ent} {ob : Obj} {k k' : Nat} (h : KDo c T ob k) (hT : ∀ e ∈ T, e ∈ T') (hk : k ≤ k') : KDo c T' ob k' := by
  obtain ⟨es, ep, xs, h1, h2, h3, h4, h5, h6⟩ := h
  exact ⟨es, ep, xs, h1, h2, h3, fun x hx => let ⟨i, w, e1, e2⟩ := h4 x hx; ⟨i, w, e1, hT _ e2⟩, h5, by kspl_open wln⟩

theorem WV.notInK {σ0 : St} {L T : List Ent} {e : Expr} {ob : Obj} {k : Nat} {d t : Addr} {i : In} {w w' : Bool} {Q : Bool → St → Prop} (he : PE f ρ σ e (.ref d)) (H : Own f.fz σ0 σ L) (hk : KDo f.c T ob k) (hT : ∀ e ∈ T, e ∈ L) (hd : (d, .obj ob, w) ∈ L) (hs : (d == sysModules) = false) (ht : (t, .tup (keyV i), w') ∈ L) (q : ∀ b, Q b σ) :
    WV f ρ σ (eval e f.env) fun v σ2 => (Ey1 fun c => Ay2 (Cmp f ρ σ2 .NotIn (.ref t) v c) (Q c σ2)) :=
  let ⟨b, hc⟩ := Cmp.notInK (ρ := ρ) H hk hT hd hs ht
  WV.pe he ⟨b, hc, q b⟩
end
section
variable {f : Fx} {ρ : Loc} {σ : St}

/-- o.a = v, of any value -/
theorem S1.setAV {σ0 : St} {o value : Expr} {a : Str} {p pos : Pos} {Q : Flow → Loc → St → Prop} (hv : WV f ρ σ (eval value f.env) fun v σ1 => (Ey8 fun L L' C x d w fs fs' => Ay9 (PE f ρ σ1 o (.ref x)) (Own f.fz σ0 σ1 L) ((x, .inst C d, w) ∈ L) (CA C a) ((d, .ns fs, true) ∈ L) (PutF a v fs fs') (Put d (.ns fs) (.ns fs') L L') (fs'.length ≤ 100) (∀ σ', Own f.fz σ0 σ' L' → Q .next ρ σ'))) (hsw : ∀ l, swapsWithSole [.Attribute o a p] value l f.env = pure false := by intro _; rfl) : S1 f ρ σ (.Assign [.Attribute o a p] value pos) Q := fun A s X => by
  rw [PyProof.Rows.exec_Assign]
  refine wpAny_bind (wpAny_standAt ?_)
  rw [hsw]
  refine wpAny_bind (wpAny_pure ?_)
  rw [if_neg (by decide)]
  refine wpAny_bind (WX.use hv X fun u s1 σ1 X1 k1 tq => ?_)
  obtain ⟨L, L', C, x, d, w, fs, fs', ho, H, hx, hc, _, hf, hp, hl, q⟩ := tq
  have e1 : swappedStores [.Attribute o a p] value f.env = pure none := by
    unfold swappedStores
    rfl
  rw [e1]
  refine wpAny_bind (wpAny_pure ?_)
  have e2 : (assignEach [.Attribute o a p] f.env).map (·.2) = [assign (.Attribute o a p) f.env] := rfl
  show wpAny _ _ (do assignAll u ((assignEach [.Attribute o a p] f.env).map (·.2)); pure Flow.next) _ _ _
  rw [e2]
  exact wpAny_bind (WS.use (WA.attr (p := p) ho (H.get _ _ _ hx) (H.get _ _ _ hp.mem) hc hf hl (H.wr _ _ hp.mem) (Q := fun ρ' σ' => Q .next ρ' σ') (q _ (H.turn hp)) u rfl) X1 fun _ s2 ρ2 σ2 X2 nm k2 q2 => wpAny_pure (X2.postS nm (k1.s.trans k2) q2))

noncomputable def prE (p : Addr) (g : Pg) (r : PR) (zs : List Ob) : List Ent := (p, .inst cP r.d, true) :: (r.d, .ns (g.fs r), true) :: (r.L, .list (refs r.xs), true) :: (r.H, .list (intL g.heads), true) :: ents zs
theorem Own.isP {fz : Addr → Prop} {σ0 σ : St} {L : List Ent} {p : Addr} {g : Pg} {r : PR} {zs : List Ob} (H : Own fz σ0 σ L) (h : ∀ e ∈ prE p g r zs, e ∈ L) (hx : r.xs = obX zs) (hi : g.insts = obI zs) : IsP σ p g r where
  obj := H.get _ _ true (h _ (by kspl_open wmm))
  fs := H.get _ _ true (h _ (by kspl_open wmm))
  L := H.get _ _ true (h _ (by kspl_open wmm))
  H := H.get _ _ true (h _ (by kspl_open wmm))
  len := by rw [hx, hi]; simp
  at_ := fun k h1 h2 => by
    have hk : k < zs.length := by rw [hi] at h1; simpa using h1
    have e1 : r.xs[k] = zs[k].1 := by simp only [hx, List.getElem_map]
    have e2 : g.insts[k] = zs[k].2.2 := by simp only [hi, List.getElem_map]
    rw [e1, e2]
    exact H.isI (fun e he => h e (by unfold prE; simp [he])) (List.getElem_mem hk)
end
section
variable {f : Fx} {ρ : Loc} {σ : St}

/-! comprehensions whose parts may make things, and whose variable may be a cell -/
structure CW (sc : Scope) (ol : List Str) (oc : Option Str) (fr gl cl : List Str) : Prop where
  kind : sc.kind = .function
  names : ∀ y ∈ sc.names, y.2 = .local → sc.names.lookup y.1 = some .local
  hol : ∀ y ∈ ol, sc.names.lookup y = some .local
  hoc : ∀ y, oc = some y → sc.names.lookup y = some .cell
  ocn : (sc.names.filter fun p => p.2 == .cell).map (·.1) = oc.toList
  nd : (ol ++ oc.toList ++ fr).Nodup
  hfr : ∀ y ∈ fr, sc.names.lookup y = some .free
  sub : ∀ y ∈ freeOf sc, y ∈ fr
  fnd : (freeOf sc).Nodup
  hgl : ∀ y ∈ gl, sc.names.lookup y = some .globalImplicit
  dbg : ∀ y ∈ (ol ++ oc.toList ++ fr) ++ gl, (y == ("__debug__" : Str)) = false ∧ (y == ("__classdict__" : Str)) = false
  hcl : ∀ y ∈ cl, y ∈ fr ∨ oc = some y
noncomputable def cwOk (sc : Scope) (ol : List Str) (oc : Option Str) (fr gl cl : List Str) : Bool :=
  sc.kind == .function && sc.names.all (fun y => y.2 != .local || sc.names.lookup y.1 == some .local) && ol.all (fun y => sc.names.lookup y == some .local) && oc.toList.all (fun y => sc.names.lookup y == some .cell) &&
  decide ((sc.names.filter fun p => p.2 == .cell).map (·.1) = oc.toList) && decide (ol ++ oc.toList ++ fr).Nodup && fr.all (fun y => sc.names.lookup y == some .free) && (freeOf sc).all (fun y => fr.contains y) && decide (freeOf sc).Nodup &&
  gl.all (fun y => sc.names.lookup y == some .globalImplicit) && ((ol ++ oc.toList ++ fr) ++ gl).all (fun x => x != ("__debug__" : Str) && x != ("__classdict__" : Str)) && cl.all (fun y => fr.contains y || oc == some y)
theorem CW.of {sc : Scope} {ol : List Str} {oc : Option Str} {fr gl cl : List Str} (h : cwOk sc ol oc fr gl cl = true) : CW sc ol oc fr gl cl := by
  simp only [cwOk, Bool.and_eq_true, decide_eq_true_eq, List.all_eq_true, Bool.or_eq_true, beq_iff_eq, bne_iff_ne, List.contains_iff_mem, ne_eq] at h
  obtain ⟨⟨⟨⟨⟨⟨⟨⟨⟨⟨⟨h1, h2⟩, h3⟩, h4⟩, h5⟩, h6⟩, h7⟩, h8⟩, h9⟩, h10⟩, h11⟩, h12⟩ := h
  exact ⟨h1, fun y hy e => (h2 y hy).resolve_left (fun q => q e), h3, fun y e => h4 y (by rw [e]; simp), h5, h6, h7, h8, h9, h10, fun y hy => ⟨beq_eq_false_iff_ne.mpr (h11 y hy).1, beq_eq_false_iff_ne.mpr (h11 y hy).2⟩, h12⟩
theorem lookup_relabel_cell {env : Env} : ∀ {names : List (Str × NameKind)} {x : Str}, names.lookup x = some .cell →
    (names.map fun (n, k) => if (k == NameKind.free && env.scope.kind == .function && env.kindOf n == some .cell) then (n, NameKind.cell) else (n, k)).lookup x = some .cell
  | [], _, h => by simp at h
  | (n, k) :: r, x, h => by
    have ih := @lookup_relabel_cell env r x
    show List.lookup x ((if (k == NameKind.free && env.scope.kind == .function && env.kindOf n == some .cell) = true then (n, NameKind.cell) else (n, k)) :: _) = _
    cases hx : x == n with
    | true =>
      simp only [List.lookup_cons, hx] at h
      cases h
      simp [List.lookup_cons, hx]
    | false =>
      simp only [List.lookup_cons, hx] at h
      split <;> (simp only [List.lookup_cons, hx]; exact ih h)
noncomputable abbrev cellObj : Obj := { cls := .type "cell", data := .cell none }
theorem cells_none : ∀ (ns : List (Str × NameKind)) (n : Nat) (acc : List (Str × Addr)) (h : Heap), (ns.filter fun p => p.2 == .cell).map (·.1) = [] → cellsFrom n ns acc = acc ∧ pushCells h ns = h
  | [], n, acc, h, _ => ⟨rfl, rfl⟩
  | (x, k) :: r, n, acc, h, e => by
    have hk : (k == NameKind.cell) = false := by
      cases hk : k == NameKind.cell with
      | false => rfl
      | true => simp [List.filter_cons, hk] at e
    unfold cellsFrom pushCells
    rw [hk]
    exact cells_none r n acc h (by simpa [List.filter_cons, hk] using e)
theorem cells_one {y : Str} : ∀ (ns : List (Str × NameKind)) (n : Nat) (acc : List (Str × Addr)) (h : Heap), (ns.filter fun p => p.2 == .cell).map (·.1) = [y] → cellsFrom n ns acc = (y, n) :: acc ∧ pushCells h ns = h.push cellObj
  | [], n, acc, h, e => by cases e
  | (x, k) :: r, n, acc, h, e => by
    unfold cellsFrom pushCells
    cases hk : k == NameKind.cell with
    | false => exact cells_one r n acc h (by simpa [List.filter_cons, hk] using e)
    | true =>
      simp only [List.filter_cons, hk, if_true, List.map_cons, List.cons.injEq] at e
      obtain ⟨rfl, e⟩ := e
      exact cells_none r _ _ _ e
noncomputable abbrev frameObj : Obj := { cls := .type "dict", data := .dict #[] }
noncomputable def ocCells (oc : Option Str) (n : Nat) : List (Str × Addr) := oc.toList.map fun y => (y, n)
noncomputable def ocHeap (oc : Option Str) (h : Heap) : Heap := match oc with
  | none => h
  | some _ => h.push cellObj
theorem cells_oc {oc : Option Str} {ns : List (Str × NameKind)} (n : Nat) (acc : List (Str × Addr)) (h : Heap) (e : (ns.filter fun p => p.2 == .cell).map (·.1) = oc.toList) : cellsFrom n ns acc = ocCells oc n ++ acc ∧ pushCells h ns = ocHeap oc h := by
  cases oc with
  | none => exact cells_none ns n acc h e
  | some y => exact cells_one ns n acc h e
theorem ocHeap_keeps (oc : Option Str) (h : Heap) : ∀ b o, h.get? b = some o → (ocHeap oc h).get? b = some o := by
  cases oc with
  | none => exact fun _ _ e => e
  | some y => exact fun _ _ e => Heap.get?_push_of_some _ e
theorem newEnvC {M : Model} {A : Around} {E : Value → Shared → Prop} {s : Shared} {sc : Scope} {cl : List (Str × Addr)} {env : Env} {oc : Option Str} {Q : Env → Shared → Prop} (e : (sc.names.filter fun p => p.2 == .cell).map (·.1) = oc.toList)
    (h : Q { scope := sc, locals := s.heap.objs.size, globals := env.globals, cells := ocCells oc (s.heap.objs.size + 1) ++ cl, qual := env.qual, func := none, code := env.code, frame := env.frame, builtins := env.builtins } { s with heap := ocHeap oc (s.heap.push frameObj) }) :
    wpAny M A (newFunctionEnv sc env.globals cl [] env.qual none .none (some env)) Q E s := by
  simp only [newFunctionEnv, Option.isSome_some, if_true]
  refine wpAny_bind (wpAny_alloc ?_)
  refine wpAny_bind (wpAny_layCells _ (fun name kind cells => by cases hkc : kind == NameKind.cell <;> simp [hkc]) _ _ _ _ ?_)
  rw [show ({ s with heap := s.heap.push { cls := .type "dict", data := .dict #[] } } : Shared).heap.objs.size = s.heap.objs.size + 1 from Heap.size_push ..]
  obtain ⟨e1, e2⟩ := cells_oc (s.heap.objs.size + 1) cl (s.heap.push frameObj) e
  rw [e1]
  rw [show pushCells _ sc.names = _ from e2]
  exact wpAny_pure h

noncomputable abbrev ownL (ol : List Str) (oc : Option Str) : Loc := (ol ++ oc.toList).map fun y => (y, none)
noncomputable abbrev frL (fr : List (Str × Value)) : Loc := fr.map fun p => (p.1, some p.2)
noncomputable abbrev cwFx (f : Fx) (sc : Scope) (oc : Option Str) (gl cl : List Str) (L : Addr) : Fx := ⟨f.c, f.n, f.fz, compEnvC sc (ocCells oc (L + 1) ++ clOf f.env sc.names) L f.env, gl, cl⟩
theorem oc_lookup {oc : Option Str} {n : Nat} {cl : List (Str × Addr)} {y : Str} {cc : Addr} (h : (ocCells oc n ++ cl).lookup y = some cc) : (oc = some y ∧ cc = n) ∨ (oc ≠ some y ∧ cl.lookup y = some cc) := by
  cases oc with
  | none => exact .inr ⟨by simp, h⟩
  | some x =>
    simp only [ocCells, Option.toList_some, List.map_cons, List.map_nil, List.singleton_append, List.lookup_cons] at h
    cases hx : y == x with
    | true => rw [hx] at h; cases h; exact .inl ⟨by rw [eq_of_beq hx], rfl⟩
    | false => rw [hx] at h; exact .inr ⟨by rintro e; cases e; simp at hx, h⟩
theorem oc_own {x : Str} {n : Nat} {cl : List (Str × Addr)} : (ocCells (some x) n ++ cl).lookup x = some n := by simp [ocCells]
theorem oc_other {oc : Option Str} {n : Nat} {cl : List (Str × Addr)} {y : Str} (h : oc ≠ some y) : (ocCells oc n ++ cl).lookup y = cl.lookup y := by
  cases oc with
  | none => rfl
  | some x =>
    simp only [ocCells, Option.toList_some, List.map_cons, List.map_nil, List.singleton_append, List.lookup_cons]
    have : (y == x) = false := by simpa using fun e : y = x => h (by rw [e])
    rw [this]
theorem At.compW {A : Around} {s : Shared} {sc : Scope} {ol : List Str} {oc : Option Str} {fr : List (Str × Value)} {gl cl : List Str} (X : At f ρ σ A s) (ho : CW sc ol oc (fr.map (·.1)) gl cl) (hfr : ∀ p ∈ fr, (p.1, some p.2) ∈ ρ ∧ p.1 ∈ f.cl) :
    At (cwFx f sc oc gl cl s.heap.objs.size) (ownL ol oc ++ frL fr) σ A { s with heap := ocHeap oc (s.heap.push frameObj) } ∧ Ka s { s with heap := ocHeap oc (s.heap.push frameObj) } := by
  have kk : Ka s { s with heap := ocHeap oc (s.heap.push frameObj) } := fun b o e => ocHeap_keeps oc _ _ _ (Heap.get?_push_of_some _ e)
  refine ⟨?_, kk⟩
  have Y := X.ka kk (X.sh.heap _ _)
  have hcl : ∀ y ∈ freeOf sc, ∃ c, f.env.cells.lookup y = some c := fun y hy => by
    obtain ⟨p, hp, rfl⟩ := List.mem_map.mp (ho.sub y hy)
    exact (X.env.cls _ (hfr p hp).2).2
  have hcl' : ∀ p ∈ sc.names, p.2 = .free → ∃ c, f.env.cells.lookup p.1 = some c := fun p hp hk => hcl _ (List.mem_map.mpr ⟨p, List.mem_filter.mpr ⟨hp, by simp [hk]⟩, rfl⟩)
  have hap := clOf_apart X.env.apart ho.fnd hcl'
  have nm : (ownL ol oc ++ frL fr).map (·.1) = ol ++ oc.toList ++ fr.map (·.1) := by simp [List.map_map, Function.comp_def]
  have kL : ∀ y ∈ ol, (compEnvC sc (ocCells oc (s.heap.objs.size + 1) ++ clOf f.env sc.names) s.heap.objs.size f.env).kindOf y = some .local := fun y hy => lookup_relabel_local (ho.hol y hy)
  have kC : ∀ y, oc = some y → (compEnvC sc (ocCells oc (s.heap.objs.size + 1) ++ clOf f.env sc.names) s.heap.objs.size f.env).kindOf y = some .cell := fun y hy => lookup_relabel_cell (ho.hoc y hy)
  have kf : ∀ y ∈ fr.map (·.1), (compEnvC sc (ocCells oc (s.heap.objs.size + 1) ++ clOf f.env sc.names) s.heap.objs.size f.env).kindOf y = some .cell ∨ (compEnvC sc (ocCells oc (s.heap.objs.size + 1) ++ clOf f.env sc.names) s.heap.objs.size f.env).kindOf y = some .free := fun y hy => lookup_relabel_free (ho.hfr y hy)
  have frne : ∀ y ∈ fr.map (·.1), oc ≠ some y := fun y hy e => by
    have h1 := ho.hfr y hy
    rw [ho.hoc y e] at h1; cases h1
  have kl : ∀ y ∈ fr.map (·.1), ∃ cc, (ocCells oc (s.heap.objs.size + 1) ++ clOf f.env sc.names).lookup y = some cc := fun y hy => by
    rw [oc_other (frne y hy)]; exact clOf_has (lookup_free_mem (ho.hfr y hy))
  have old : ∀ y cc, (clOf f.env sc.names).lookup y = some cc → ∃ u, s.heap.IsCell cc u := fun y cc h => X.fr.cell y cc (clOf_lookup hcl' h)
  have oldM : ∀ p ∈ clOf f.env sc.names, p.2 < s.heap.objs.size := fun p hp => by
    unfold clOf at hp
    rw [List.mem_reverse] at hp
    obtain ⟨q, hq, rfl⟩ := List.mem_map.mp hp
    obtain ⟨hq1, hq2⟩ := List.mem_filter.mp hq
    obtain ⟨c, hc⟩ := hcl' q hq1 (by simpa using hq2)
    obtain ⟨u, o, h1, _⟩ := X.fr.cell q.1 c hc
    show (f.env.cells.lookup q.1).getD 0 < _
    rw [hc]; exact Heap.lt_size h1
  have oldlt : ∀ y cc, (clOf f.env sc.names).lookup y = some cc → cc < s.heap.objs.size := fun y cc h => let ⟨u, o, h1, _⟩ := old y cc h; Heap.lt_size h1
  have none_ge : ∀ b, s.heap.objs.size ≤ b → σ b = none := fun b hb => by
    cases e : σ b with
    | none => rfl
    | some o => obtain ⟨ob, g, _⟩ := X.rep.obj _ _ e; exact absurd (Heap.lt_size g) (Nat.not_lt.mpr hb)
  have base_ge : ∀ b, s.heap.objs.size ≤ b → f.c.b.get? b = none := fun b hb => by
    cases e : f.c.b.get? b with
    | none => rfl
    | some o => exact absurd (Heap.lt_size (X.rep.base _ _ e)) (Nat.not_lt.mpr hb)
  have Lns : (ocHeap oc (s.heap.push frameObj)).Ns s.heap.objs.size (fun _ => none) := (Heap.Ns.new s.heap (.type "dict")).keeps (ocHeap_keeps oc _)
  have ownC : ∀ x, oc = some x → (ocHeap oc (s.heap.push frameObj)).IsCell (s.heap.objs.size + 1) none := fun x e => by
    subst e
    refine ⟨cellObj, ?_, rfl⟩
    have := Heap.get?_push_size (s.heap.push frameObj) (o := cellObj) rfl
    rw [Heap.size_push] at this
    exact this
  refine ⟨X.ok, ⟨⟨ho.kind, X.env.gs, X.env.bs, fun y hy => lookup_relabel_global (ho.hgl y hy), by rw [nm]; exact ho.nd, fun y hy => ?_, ?_, fun y hy => ?_, by rw [nm]; exact ho.dbg⟩, fun z zc hz => ?_, base_ge _ (Nat.le_refl _), fun z zc hz => ?_⟩, X.room, Y.rep, ⟨⟨⟨_, Lns, fun y u hy hk => ?_⟩, fun y cc hc => ?_, fun y u cc hy hk hc => ?_⟩, none_ge _ (Nat.le_refl _), fun y cc hc => ?_⟩, X.sh.heap _ _⟩
  · rw [nm] at hy
    rcases List.mem_append.mp hy with hy | hy
    · rcases List.mem_append.mp hy with hy | hy
      · exact .inl (kL y hy)
      · have : oc = some y := by simpa using hy
        exact .inr ⟨.inl (kC y this), by subst this; exact ⟨_, oc_own⟩⟩
    · exact .inr ⟨kf y hy, kl y hy⟩
  · show (ocCells oc (s.heap.objs.size + 1) ++ clOf f.env sc.names).Pairwise _
    cases oc with
    | none => exact hap
    | some x =>
      refine List.pairwise_cons.mpr ⟨fun q hq => ?_, hap⟩
      have := oldM q hq
      show s.heap.objs.size + 1 ≠ q.2
      exact fun e => absurd this (by rw [← e]; exact Nat.not_lt.mpr (Nat.le_succ _))
  · rcases ho.hcl y hy with h | h
    · refine ⟨?_, kl y h⟩
      rcases kf y h with e | e <;> (show Env.kindOf _ y ≠ _; rw [e]; decide)
    · refine ⟨?_, by subst h; exact ⟨_, oc_own⟩⟩
      show Env.kindOf _ y ≠ _; rw [kC y h]; decide
  · rcases oc_lookup hz with ⟨_, rfl⟩ | ⟨_, h⟩
    · exact Nat.succ_ne_self _
    · exact Nat.ne_of_lt (oldlt z zc h)
  · rcases oc_lookup hz with ⟨_, rfl⟩ | ⟨_, h⟩
    · exact base_ge _ (Nat.le_succ _)
    · exact X.env.cb z zc (clOf_lookup hcl' h)
  · rcases List.mem_append.mp hy with hy | hy
    · obtain ⟨p, hp, e⟩ := List.mem_map.mp hy; cases e
    · obtain ⟨p, hp, e⟩ := List.mem_map.mp hy
      cases e
      rcases kf p.1 (List.mem_map.mpr ⟨p, hp, rfl⟩) with e | e <;> (rw [e] at hk; cases hk)
  · rcases oc_lookup hc with ⟨e, rfl⟩ | ⟨_, h⟩
    · exact ⟨_, ownC y e⟩
    · obtain ⟨u, o, h1, h2⟩ := old y cc h
      exact ⟨u, o, kk _ _ h1, h2⟩
  · rcases List.mem_append.mp hy with hy | hy
    · obtain ⟨p, hp, e⟩ := List.mem_map.mp hy; cases e
    · obtain ⟨p, hp, e⟩ := List.mem_map.mp hy
      cases e
      have hpm : p.1 ∈ fr.map (·.1) := List.mem_map.mpr ⟨p, hp, rfl⟩
      have hc' : (clOf f.env sc.names).lookup p.1 = some cc := by rw [← oc_other (frne _ hpm)]; exact hc
      obtain ⟨h1, h2⟩ := hfr p hp
      obtain ⟨u', ⟨o, q1, q2⟩, e'⟩ := X.fr.celv _ _ cc h1 (X.env.cls _ h2).1 (clOf_lookup hcl' hc')
      exact ⟨u', ⟨o, kk _ _ q1, q2⟩, e'⟩
  · rcases oc_lookup hc with ⟨e, rfl⟩ | ⟨_, h⟩
    · exact none_ge _ (Nat.le_succ _)
    · exact X.fr.co y cc (clOf_lookup hcl' h)
end
section
variable {f : Fx} {ρ : Loc} {σ : St}

/-- a store, and the one place that it turns -/
theorem At.store2 {A : Around} {s : Shared} (X : At f ρ σ A s) {x : Str} {v : Value} {ρ' : Loc} {P : Unit → Shared → Prop} (hs : SetAt x (er v) ρ ρ')
    (h : ∀ s' La, At f ρ' σ A s' → ((f.env.kindOf x = some .local ∧ La = f.env.locals) ∨ (f.env.kindOf x ≠ some .local ∧ f.env.cells.lookup x = some La)) → Heap.SameBut La s.heap s'.heap → P () s') : wpAny (model prg f.c.w) A (storeName f.env x v) P NoE s := by
  have nm := hs.has
  have hmem := hs.mem X.env.nd
  obtain ⟨m, hns, hv⟩ := X.fr.loc
  have Xf := X.fr
  rcases X.env.kinds x nm with hk | ⟨hk, cc, hc⟩
  · refine wpAny_storeName_local hk hns (fun h' hn' sb => ?_) (by rw [X.env.kind]; rfl)
    refine h _ _ ⟨X.ok, hs.names ▸ X.env, X.room, X.same sb X.env.lb Xf.lo, ⟨⟨⟨_, hn', fun y u hy hky => ?_⟩, fun z zc hp => ?_, fun y u cc' hy hky hc' => ?_⟩, Xf.lo, Xf.co⟩, X.sh.heap _ _⟩ (.inl ⟨hk, rfl⟩) sb
    · rcases hmem _ _ hy with ⟨rfl, e⟩ | ⟨e1, e2⟩
      · exact ⟨v, by simp, by simpa using e.symm⟩
      · obtain ⟨u', h1, h2⟩ := hv y u e2 hky
        exact ⟨u', by simp [e1, h1], h2⟩
    · obtain ⟨u, hu⟩ := Xf.cell z zc hp
      exact ⟨u, hu.sameBut sb (X.env.lc z zc hp)⟩
    · rcases hmem _ _ hy with ⟨rfl, e⟩ | ⟨e1, e2⟩
      · exact absurd hk hky
      · obtain ⟨u', h1, h2⟩ := Xf.celv y u cc' e2 hky hc'
        exact ⟨u', h1.sameBut sb (X.env.lc _ _ hc'), h2⟩
  · have hcm := mem_of_lookup hc
    obtain ⟨u₀, hu₀⟩ := Xf.cell _ _ hc
    have go : ∀ h', h'.IsCell cc (some v) → Heap.SameBut cc s.heap h' → P () { s with heap := h' } := by
      intro h' hc1 sb
      refine h _ cc ⟨X.ok, hs.names ▸ X.env, X.room, X.same sb (X.env.cb _ _ hc) (Xf.co _ _ hc), ⟨⟨⟨m, hns.sameBut sb (fun e => X.env.lc _ _ hc e.symm), fun y u hy hky => ?_⟩, fun z zc hp => ?_, fun y u cc' hy hky hc' => ?_⟩, Xf.lo, Xf.co⟩, X.sh.heap _ _⟩ (.inr ⟨by rcases hk with hk | hk <;> rw [hk] <;> decide, hc⟩) sb
      · rcases hmem _ _ hy with ⟨rfl, e⟩ | ⟨e1, e2⟩
        · rcases hk with hk | hk <;> rw [hk] at hky <;> cases hky
        · exact hv y u e2 hky
      · obtain ⟨u, hu⟩ := Xf.cell z zc hp
        by_cases e : zc = cc
        · exact ⟨_, e ▸ hc1⟩
        · exact ⟨u, hu.sameBut sb e⟩
      · rcases hmem _ _ hy with ⟨rfl, e⟩ | ⟨e1, e2⟩
        · rw [hc] at hc'; cases hc'
          exact ⟨v, hc1, by simpa using e.symm⟩
        · obtain ⟨u', h1, h2⟩ := Xf.celv y u cc' e2 hky hc'
          refine ⟨u', h1.sameBut sb ?_, h2⟩
          rintro rfl
          exact e1 (name_of_addr X.env.apart (mem_of_lookup hc') hcm)
    rcases hk with hk | hk
    · exact wpAny_storeName_cell X.env.kind hk hc hu₀ go
    · unfold storeName
      simp only [hk, X.env.kind]
      exact wpAny_bind (wpAny_cellOf hc (wpAny_cellSet hu₀ go))

/-- the places of names -/
noncomputable def Pl (f : Fx) (ns : List Str) (b : Addr) : Prop := b = f.env.locals ∨ ∃ y ∈ ns, f.env.kindOf y ≠ some .local ∧ f.env.cells.lookup y = some b
noncomputable def TG (fr : List (Str × Value)) (σ : St) (target : Expr) (x : Value) (ρo ρo' : Loc) : Prop := ρo'.map (·.1) = ρo.map (·.1) ∧
  ∀ (f' : Fx) A s u (P : Unit → Shared → Prop), At f' (ρo ++ frL fr) σ A s → er u = x → (∀ s', At f' (ρo' ++ frL fr) σ A s' → (∀ b o, ¬ Pl f' (ρo.map (·.1)) b → s.heap.get? b = some o → s'.heap.get? b = some o) → P () s') → wpAny (model prg f'.c.w) A (assign target f'.env u) P NoE s
theorem SetAt.app {x : Str} {v : Value} {r r' : Loc} (t : Loc) (h : SetAt x v r r') : SetAt x v (r ++ t) (r' ++ t) := by
  induction h with
  | here o r => exact .here _ _
  | there p _ ih => exact .there _ ih
theorem TG.name {fr : List (Str × Value)} {x : Str} {p : Pos} {v : Value} {ρo ρo' : Loc} (h : SetAt x v ρo ρo') : TG fr σ (.Name x p) v ρo ρo' := ⟨h.names, fun f' A s u P X e k => by
  refine wpAny_assign_Name (X.store2 ((e.symm ▸ h).app (frL fr)) fun s' La Y hL sb => k s' Y fun b o hb e => ?_)
  refine (sb.2 b ?_).trans e
  rintro rfl
  rcases hL with ⟨_, e⟩ | ⟨h1, h2⟩
  · exact hb (.inl e)
  · exact hb (.inr ⟨x, h.has, h1, h2⟩)⟩

structure CT (f : Fx) (sc : Scope) (ol : List Str) (oc : Option Str) (D : Addr → Prop) (s1 : Shared) (J Dad L : Addr) (fp : List Addr) (Sw : Nat → Heap → Prop) : Prop where
  ex : ∀ i h, Sw i h → ∃ o, h.get? J = some o
  jn : s1.heap.get? J = none
  dn : s1.heap.get? Dad = none
  jb : f.c.b.get? J = none
  db : f.c.b.get? Dad = none
  jL : J < L
  dL : Dad < L
  jd : J ≠ Dad
  cells : ∀ y cc, (clOf f.env sc.names).lookup y = some cc → ∃ o, s1.heap.get? cc = some o
  lt : ∀ b o, s1.heap.get? b = some o → b < L
  Dob : ∀ b, D b → ∃ o, s1.heap.get? b = some o
  fp : ∀ b ∈ fp, b = J ∨ D b
  hol : ∀ y ∈ ol, sc.names.lookup y = some .local
structure CI (f : Fx) (sc : Scope) (oc : Option Str) (fr : List (Str × Value)) (gl cl : List Str) (D : Addr → Prop) (A : Around) (σ1 : St) (s1 : Shared) (J Dad L : Addr) (Sw : Nat → Heap → Prop) (own : List Str) (i : Nat) (ρo : Loc) (σi : St) (acc : Obj → Prop) (s : Shared) : Prop where
  at_ : At ((cwFx f sc oc gl cl L).more D) (ρo ++ frL fr) σi A s
  kp : Kp f.fz σ1 s1.heap σi s.heap
  st : Sw i s.heap
  jn : σi J = none
  dn : σi Dad = none
  obj : ∃ ob, s.heap.get? Dad = some ob ∧ acc ob
  nm : ρo.map (·.1) = own

variable {sc : Scope} {ol : List Str} {oc : Option Str} {fr : List (Str × Value)} {gl cl : List Str} {D : Addr → Prop} {A : Around} {σ1 σi : St} {s1 s : Shared} {J Dad L : Addr} {Sw : Nat → Heap → Prop} {own : List Str} {i : Nat} {ρo : Loc} {acc : Obj → Prop} {fp : List Addr} {n : Nat} {Pv : Nat → Value → Prop}
theorem CT.nfa (T : CT f sc ol oc D s1 J Dad L fp Sw) {b : Addr} (hb : s1.heap.get? b = none) (hL : b < L) : ¬ fa ((cwFx f sc oc gl cl L).more D).env b := by
  rintro (e | ⟨y, e⟩)
  · exact Nat.ne_of_lt hL e
  · rcases oc_lookup e with ⟨_, e⟩ | ⟨_, h⟩
    · rw [e] at hL; exact Nat.not_lt.mpr (Nat.le_succ L) hL
    · obtain ⟨o, ho⟩ := T.cells _ _ h
      rw [hb] at ho; cases ho
theorem CI.wx {σ' : St} {s' : Shared} (T : CT f sc ol oc D s1 J Dad L fp Sw) (W : Walks prg f.c.w A J fp [J] n Pv Sw) (C : CI f sc oc fr gl cl D A σ1 s1 J Dad L Sw own i ρo σi acc s) (X' : At ((cwFx f sc oc gl cl L).more D) (ρo ++ frL fr) σ' A s') (k : Kp ((cwFx f sc oc gl cl L).more D).fz σi s.heap σ' s'.heap) :
    CI f sc oc fr gl cl D A σ1 s1 J Dad L Sw own i ρo σ' acc s' := by
  obtain ⟨ob, ho, ha⟩ := C.obj
  have hd := k _ _ ho (.inl C.dn)
  have frm : ∀ b ∈ fp, ∀ o, s.heap.get? b = some o → s'.heap.get? b = some o := fun b hb o e => by
    rcases T.fp b hb with rfl | hb
    · exact (k _ _ e (.inl C.jn)).1
    · exact (k _ _ e (.inr (.inr hb))).1
  refine ⟨X', fun a o e nn => ?_, W.frame _ _ _ C.st frm, ?_, hd.2.trans C.dn, ⟨ob, hd.1, ha⟩, C.nm⟩
  · obtain ⟨q1, q2⟩ := C.kp a o e nn
    obtain ⟨r1, r2⟩ := k a o q1 (nn.imp (fun h => q2.trans h) .inl)
    exact ⟨r1, r2.trans q2⟩
  · obtain ⟨o, ho⟩ := T.ex _ _ C.st
    exact (k _ _ ho (.inl C.jn)).2.trans C.jn
theorem CI.item {h' : Heap} {tk : Nat} (T : CT f sc ol oc D s1 J Dad L fp Sw) (C : CI f sc oc fr gl cl D A σ1 s1 J Dad L Sw own i ρo σi acc s) (st : Sw (i + 1) h') (k : ∀ b o, b ∉ [J] → s.heap.get? b = some o → h'.get? b = some o) :
    CI f sc oc fr gl cl D A σ1 s1 J Dad L Sw own (i + 1) ρo σi acc { s with heap := h', toks := tk } := by
  obtain ⟨ob, ho, ha⟩ := C.obj
  refine ⟨C.at_.but (I := J) (fun b o hb e => k b o (by simpa using hb) e) (C.at_.sh.heap _ _) C.jn T.jb (T.nfa T.jn T.jL), fun a o e nn => ?_, st, C.jn, C.dn, ⟨ob, k _ _ (by simpa using T.jd.symm) ho, ha⟩, C.nm⟩
  obtain ⟨q1, q2⟩ := C.kp a o e nn
  exact ⟨k a o (by simp; rintro rfl; rw [T.jn] at e; cases e) q1, q2⟩
theorem CT.pl (T : CT f sc ol oc D s1 J Dad L fp Sw) {b : Addr} (h : Pl ((cwFx f sc oc gl cl L).more D) (ol ++ oc.toList) b) : L ≤ b := by
  rcases h with e | ⟨y, hy, h1, h2⟩
  · exact Nat.le_of_eq e.symm
  · rcases oc_lookup h2 with ⟨_, e⟩ | ⟨h3, h4⟩
    · rw [e]; exact Nat.le_succ L
    · exfalso
      rcases List.mem_append.mp hy with hy | hy
      · exact h1 (lookup_relabel_local (T.hol y hy))
      · exact h3 (by simpa using hy)
theorem CI.tg {ρo' : Loc} {s' : Shared} (T : CT f sc ol oc D s1 J Dad L fp Sw) (W : Walks prg f.c.w A J fp [J] n Pv Sw) (C : CI f sc oc fr gl cl D A σ1 s1 J Dad L Sw (ol ++ oc.toList) i ρo σi acc s) (X' : At ((cwFx f sc oc gl cl L).more D) (ρo' ++ frL fr) σi A s')
    (hn : ρo'.map (·.1) = ρo.map (·.1)) (k : ∀ b o, ¬ Pl ((cwFx f sc oc gl cl L).more D) (ρo.map (·.1)) b → s.heap.get? b = some o → s'.heap.get? b = some o) :
    CI f sc oc fr gl cl D A σ1 s1 J Dad L Sw (ol ++ oc.toList) i ρo' σi acc s' := by
  rw [C.nm] at k hn
  have k' : ∀ b o, b < L → s.heap.get? b = some o → s'.heap.get? b = some o := fun b o hb e => k b o (fun h => Nat.not_lt.mpr (T.pl h) hb) e
  obtain ⟨ob, ho, ha⟩ := C.obj
  refine ⟨X', fun a o e nn => ?_, W.frame _ _ _ C.st fun b hb o e => ?_, C.jn, C.dn, ⟨ob, k' _ _ T.dL ho, ha⟩, hn⟩
  · obtain ⟨q1, q2⟩ := C.kp a o e nn
    exact ⟨k' a o (T.lt a o e) q1, q2⟩
  · rcases T.fp b hb with rfl | hb
    · exact k' _ _ T.jL e
    · obtain ⟨o', ho'⟩ := T.Dob b hb
      exact k' _ _ (T.lt b o' ho') e
theorem CI.putA {h' : Heap} {tk : Nat} {acc' : Obj → Prop} {ob : Obj} (T : CT f sc ol oc D s1 J Dad L fp Sw) (W : Walks prg f.c.w A J fp [J] n Pv Sw) (C : CI f sc oc fr gl cl D A σ1 s1 J Dad L Sw own i ρo σi acc s) (sb : Heap.SameBut Dad s.heap h') (ho : h'.get? Dad = some ob) (ha : acc' ob) :
    CI f sc oc fr gl cl D A σ1 s1 J Dad L Sw own i ρo σi acc' { s with heap := h', toks := tk } := by
  refine ⟨C.at_.but (I := Dad) (fun b o hb e => (sb.2 b hb).trans e) (C.at_.sh.heap _ _) C.dn T.db (T.nfa T.dn T.dL), fun a o e nn => ?_, W.frame _ _ _ C.st fun b hb o e => (sb.2 b ?_).trans e, C.jn, C.dn, ⟨ob, ho, ha⟩, C.nm⟩
  · obtain ⟨q1, q2⟩ := C.kp a o e nn
    exact ⟨(sb.2 a (by rintro rfl; rw [T.dn] at e; cases e)).trans q1, q2⟩
  · rcases T.fp b hb with rfl | hb
    · exact T.jd
    · obtain ⟨o', ho'⟩ := T.Dob b hb
      rintro rfl; rw [T.dn] at ho'; cases ho'
theorem Rep.add {c : Cx} {h : Heap} {a : Addr} {o : AO} {ob : Obj} (r : Rep c σ h) (hb : c.b.get? a = none) (ho : h.get? a = some ob) (hr : ORel c o ob) (hd : ∀ kvs, o = .dic kvs → (a == sysModules) = false) : Rep c (σ.set a o) h :=
  ⟨r.base, fun b x e => by
    by_cases hc : b = a
    · subst hc; rw [St.set_same] at e; cases e; exact ⟨ob, ho, hr⟩
    · rw [St.set_ne σ _ hc] at e; exact r.obj b x e, fun b x e => by
    by_cases hc : b = a
    · subst hc; exact hb
    · rw [St.set_ne σ _ hc] at e; exact r.new b x e, fun b kvs e => by
    by_cases hc : b = a
    · subst hc; rw [St.set_same] at e; cases e; exact hd _ rfl
    · rw [St.set_ne σ _ hc] at e; exact r.dm b kvs e⟩
/-- the end: what was gathered comes into the state -/
theorem CI.fin {h' h'' : Heap} {tk : Nat} {ac : Obj → Prop} {o : AO} {Q : Value → St → Prop} (T : CT f sc ol oc D s1 J Dad L fp Sw) (C : CI f sc oc fr gl cl D A σ1 s1 J Dad L Sw own i ρo σi ac s) (hk : ∀ b o, b ∉ [J] → s.heap.get? b = some o → h'.get? b = some o) (sb : Heap.SameBut L h' h'') (hr : ∀ ob, ac ob → ORel f.c o ob) (hd : ∀ kvs, o = .dic kvs → (Dad == sysModules) = false)
    (q : Q (.ref Dad) (σi.set Dad o)) : Post f.c f.fz σ1 s1 Q (.ref Dad) { s with heap := h'', toks := tk } := by
  obtain ⟨ob, ho, ha⟩ := C.obj
  have X := C.at_.but (I := J) (s' := { s with heap := h', toks := tk }) (fun b o hb e => hk b o (by simpa using hb) e) (C.at_.sh.heap _ _) C.jn T.jb (T.nfa T.jn T.jL)
  have hL : f.c.b.get? L = none := X.env.lb
  have hσ : σi L = none := X.fr.lo
  have r1 : Rep f.c σi h'' := ⟨fun b x e => (sb.2 b (by rintro rfl; rw [hL] at e; cases e)).trans (X.rep.base b x e), fun b x e => by
    obtain ⟨ob, g1, g2⟩ := X.rep.obj b x e
    exact ⟨ob, (sb.2 b (by rintro rfl; rw [hσ] at e; cases e)).trans g1, g2⟩, X.rep.new, X.rep.dm⟩
  have hdL : Dad ≠ L := Nat.ne_of_lt T.dL
  refine ⟨σi.set Dad o, r1.add T.db ((sb.2 _ hdL).trans (hk _ _ (by simpa using T.jd.symm) ho)) (hr ob ha) hd, fun a x e nn => ?_, C.at_.sh.heap _ _, q⟩
  obtain ⟨q1, q2⟩ := C.kp a x e nn
  have hne : a ≠ Dad := by rintro rfl; rw [T.dn] at e; cases e
  exact ⟨(sb.2 a (Nat.ne_of_lt (T.lt a x e))).trans (hk _ _ (by simp; rintro rfl; rw [T.jn] at e; cases e) q1), by rw [St.set_ne _ _ hne]; exact q2⟩
end
section
variable {f : Fx} {ρ : Loc} {σ : St}
variable {sc : Scope} {ol : List Str} {oc : Option Str} {fr : List (Str × Value)} {gl cl : List Str} {D : Addr → Prop} {A : Around} {σ1 σi : St} {s1 s2 s : Shared} {J Dad L : Addr} {Sw : Nat → Heap → Prop} {own : List Str} {i : Nat} {ρo : Loc} {fp : List Addr} {n : Nat} {Pv : Nat → Value → Prop}

theorem compLoop_own {prog : Program} {w : World} {R : Result → Shared → Prop} {elt target iter : Expr} {ifs : List Expr} {scope : Scope} {pos : Pos} {it acc : Value} {env : Env} (I : Nat → Shared → Prop)
    (turn : ∀ n s, I n s → wpAny (model prog w) A (pyNext it) (fun r s₁ => match r with
      | none => R (.ok .next) s₁
      | some v => wpAny (model prog w) A (letOwnedTupleGo target it v) (fun _ s₀ => wpAny (model prog w) A (assign target env v) (fun _ s₂ =>
          wpAny (model prog w) A (tests ifs env) (fun ok s₃ =>
            if ok = true then wpAny (model prog w) A (eval elt env) (fun x s₄ =>
              wpAny (model prog w) A (call (.builtin "list.append") [acc, x]) (fun _ s₅ => ∃ m, m < n ∧ I m s₅) NoE s₄) NoE s₃
            else ∃ m, m < n ∧ I m s₃) NoE s₂) NoE s₀) NoE s₁) NoE s)
    (n : Nat) (h : I n s) :
    codeAny (model prog w) A (.compLoop (.ListComp elt [⟨target, iter, ifs, 0⟩] scope pos) 0 it acc env) R s := by
  refine codeAny_loop rfl I (fun n s hI => ?_) n h
  show wpAny _ A ((compTurn (.ListComp elt [⟨target, iter, ifs, 0⟩] scope pos) 0 it acc env).onRaise (fun x => do noteFrame x env; theTreesLotGoes x)) _ _ s
  refine wpAny_noted ?_
  rw [compTurn_list]
  refine wpAny_bind (wpAny_standAt (wpAny_bind (wpAny_mono (turn n s hI) (fun r s₁ h₁ => ?_) fun _ _ h' => h'.elim)))
  cases r with
  | none => exact wpAny_pure h₁
  | some v =>
    refine wpAny_bind (wpAny_mono h₁ (fun _ s0 h0 => ?_) fun _ _ h' => h'.elim)
    refine wpAny_bind (wpAny_mono h0 (fun _ s₂ h₂ => wpAny_bind (wpAny_mono h₂ (fun ok s₃ h₃ => ?_) fun _ _ h' => h'.elim)) fun _ _ h' => h'.elim)
    cases ok with
    | false => exact wpAny_pure ⟨rfl, h₃⟩
    | true =>
      exact wpAny_bind (wpAny_bind (wpAny_mono h₃ (fun x s₄ h₄ => wpAny_bind (wpAny_mono h₄ (fun _ s₅ h₅ => wpAny_pure (wpAny_pure ⟨rfl, h₅⟩)) fun _ _ h' => h'.elim)) fun _ _ h' => h'.elim))

theorem CT.mk' (X1 : At f ρ σ1 A s1) (X2 : At f ρ σ1 A s2) (k2 : Ka s1 s2) (ho : CW sc ol oc (fr.map (·.1)) gl cl) (hfr : ∀ p ∈ fr, (p.1, some p.2) ∈ ρ ∧ p.1 ∈ f.cl) (hDo : ∀ b, D b → σ1 b ≠ none ∨ f.c.b.get? b ≠ none) (hJ : s1.heap.get? J = none) (hst : Sw 0 s2.heap) (hex : ∀ i h, Sw i h → ∃ o, h.get? J = some o) (hfp : ∀ b ∈ fp, b = J ∨ D b) :
    CT f sc ol oc D s1 J s2.heap.objs.size (s2.heap.objs.size + 1) fp Sw := by
  obtain ⟨oJ, hoJ⟩ := hex _ _ hst
  have hJlt := Heap.lt_size hoJ
  have d0 : s1.heap.get? s2.heap.objs.size = none := by
    cases e : s1.heap.get? s2.heap.objs.size with
    | none => rfl
    | some o => exact absurd (Heap.lt_size (k2 _ _ e)) (Nat.lt_irrefl _)
  have hcl : ∀ y ∈ freeOf sc, ∃ c, f.env.cells.lookup y = some c := fun y hy => by
    obtain ⟨p, hp, rfl⟩ := List.mem_map.mp (ho.sub y hy)
    exact (X1.env.cls _ (hfr p hp).2).2
  have hcl' : ∀ p ∈ sc.names, p.2 = .free → ∃ c, f.env.cells.lookup p.1 = some c := fun p hp hk => hcl _ (List.mem_map.mpr ⟨p, List.mem_filter.mpr ⟨hp, by simp [hk]⟩, rfl⟩)
  refine ⟨hex, hJ, d0, ?_, ?_, Nat.lt_succ_of_lt hJlt, Nat.lt_succ_self _, Nat.ne_of_lt hJlt, fun y cc h => ?_, fun b o e => Nat.lt_succ_of_lt (Heap.lt_size (k2 _ _ e)), fun b hb => ?_, hfp, ho.hol⟩
  · cases e : f.c.b.get? J with
    | none => rfl
    | some o => rw [X1.rep.base _ _ e] at hJ; cases hJ
  · cases e : f.c.b.get? s2.heap.objs.size with
    | none => rfl
    | some o => rw [X1.rep.base _ _ e] at d0; cases d0
  · obtain ⟨u, o, h1, _⟩ := X1.fr.cell y cc (clOf_lookup hcl' h)
    exact ⟨o, h1⟩
  · rcases hDo b hb with h | h
    · obtain ⟨o, ho⟩ := Option.ne_none_iff_exists'.mp h
      obtain ⟨ob, g, _⟩ := X1.rep.obj _ _ ho
      exact ⟨ob, g⟩
    · obtain ⟨o, ho⟩ := Option.ne_none_iff_exists'.mp h
      exact ⟨o, X1.rep.base _ _ ho⟩

noncomputable def LAcc (ys : List Value) (ob : Obj) : Prop := ∃ its nn, ob = listOf its nn ∧ its.toList.map er = ys
/-- a list comprehension -/
theorem compL_core {RR : Value → Addr → Result → Shared → Prop} {elt target iter : Expr} {ifs : List Expr} {pos : Pos} {xs : List Value} (X1 : At f ρ σ1 A s1) (X2 : At f ρ σ1 A s2) (k2 : Ka s1 s2) (ho : CW sc ol oc (fr.map (·.1)) gl cl) (hfr : ∀ p ∈ fr, (p.1, some p.2) ∈ ρ ∧ p.1 ∈ f.cl) (hDo : ∀ b, D b → σ1 b ≠ none ∨ f.c.b.get? b ≠ none)
    (W : Walks prg f.c.w A J fp [J] xs.length Pv Sw) (hst : Sw 0 s2.heap) (hPv : ∀ i v, i < xs.length → Pv i v → xs[i]? = some (er v)) (hJ : s1.heap.get? J = none) (hex : ∀ i h, Sw i h → ∃ o, h.get? J = some o) (hfp : ∀ b ∈ fp, b = J ∨ D b)
    (hlo : ∀ i v (s : Shared) (P : Unit → Shared → Prop), Sw i s.heap → P () s → wpAny (model prg f.c.w) A (letOwnedTupleGo target (.ref J) v) P NoE s) (hl : xs.length ≤ 1000000) (I : Nat → Loc → List Value → St → Prop) (h0 : I 0 (ownL ol oc) [] σ1)
    (hturn : ∀ L i x ρo ys σi, xs[i]? = some x → I i ρo ys σi → ∃ ρo', TG fr σi target x ρo ρo' ∧ WX ((cwFx f sc oc gl cl L).more D) (ρo' ++ frL fr) σi (tests ifs (cwFx f sc oc gl cl L).env) fun ok σ3 => if ok = true then WV ((cwFx f sc oc gl cl L).more D) (ρo' ++ frL fr) σ3 (eval elt (cwFx f sc oc gl cl L).env) fun y σ4 => I (i + 1) ρo' (ys ++ [y]) σ4 else I (i + 1) ρo' ys σ3)
    (hend : ∀ Dad L ρo ys σi s5 h' tk, CT f sc ol oc D s1 J Dad L fp Sw → CI f sc oc fr gl cl D A σ1 s1 J Dad L Sw (ol ++ oc.toList) xs.length ρo σi (LAcc ys) s5 → (∀ b o, b ∉ [J] → s5.heap.get? b = some o → h'.get? b = some o) → ys.length ≤ xs.length → I xs.length ρo ys σi → RR (.ref Dad) L (.ok .next) { s5 with heap := h', toks := tk }) :
    wpAny (model prg f.c.w) A (newList []) (fun acc s₃ => wpAny (model prg f.c.w) A (newFunctionEnv sc f.env.globals (clOf f.env sc.names) [] f.env.qual none .none (some f.env)) (fun cenv s₄ =>
      codeAny (model prg f.c.w) A (.compStart (.ListComp elt [⟨target, iter, ifs, 0⟩] sc pos) 0 (.ref J) acc { cenv with scope := relabel sc f.env }) (RR acc cenv.locals) s₄) NoE s₃) NoE s2 := by
  refine wpAny_newObj_type ?_
  have X3 : At f ρ σ1 A { s2 with heap := s2.heap.push { cls := .type "list", data := .seq ([] : List Value).toArray } } := X2.ka (push_ka s2 _) (X2.sh.heap _ _)
  refine newEnvC ho.ocn ?_
  obtain ⟨X4, k4⟩ := X3.compW ho hfr
  have eL : ({ s2 with heap := s2.heap.push { cls := .type "list", data := .seq ([] : List Value).toArray } } : Shared).heap.objs.size = s2.heap.objs.size + 1 := Heap.size_push ..
  rw [eL] at X4 ⊢
  have T := CT.mk' X1 X2 k2 ho hfr hDo hJ hst hex hfp
  generalize hs4 : ({ s2 with heap := ocHeap oc ((s2.heap.push { cls := .type "list", data := .seq ([] : List Value).toArray }).push frameObj) } : Shared) = s4 at X4 k4 ⊢
  have k3 : Ka s2 s4 := (push_ka s2 _).trans k4
  have C0 : CI f sc oc fr gl cl D A σ1 s1 J s2.heap.objs.size (s2.heap.objs.size + 1) Sw (ol ++ oc.toList) 0 (ownL ol oc) σ1 (LAcc []) s4 := by
    refine ⟨X4.refz, (k2.trans k3).kp, W.frame _ _ _ hst fun b _ o e => k3 b o e, ?_, ?_, ⟨_, k4 _ _ (Heap.get?_push_size _ rfl), #[], _, rfl, rfl⟩, by simp [List.map_map, Function.comp_def]⟩
    · cases e : σ1 J with
      | none => rfl
      | some o => obtain ⟨ob, g, _⟩ := X1.rep.obj _ _ e; rw [hJ] at g; cases g
    · cases e : σ1 s2.heap.objs.size with
      | none => rfl
      | some o => obtain ⟨ob, g, _⟩ := X1.rep.obj _ _ e; rw [T.dn] at g; cases g
  have hLb : f.c.b.get? (s2.heap.objs.size + 1) = none := X4.env.lb
  have loop : codeAny (model prg f.c.w) A (.compLoop (.ListComp elt [⟨target, iter, ifs, 0⟩] sc pos) 0 (.ref J) (.ref s2.heap.objs.size) (cwFx f sc oc gl cl (s2.heap.objs.size + 1)).env) (RR (.ref s2.heap.objs.size) (s2.heap.objs.size + 1)) s4 := by
    refine compLoop_own (fun m s' => (Ey4 fun i ρo ys σi => Ay5 (m = xs.length - i) (i ≤ xs.length) (ys.length ≤ i) (I i ρo ys σi) (CI f sc oc fr gl cl D A σ1 s1 J s2.heap.objs.size (s2.heap.objs.size + 1) Sw (ol ++ oc.toList) i ρo σi (LAcc ys) s'))) ?_ xs.length ⟨0, _, [], σ1, rfl, Nat.zero_le _, Nat.le_refl _, h0, C0⟩
    rintro m s5 ⟨i, ρo, ys, σi, rfl, hi, hys, hI, C⟩
    by_cases hlt : i < xs.length
    · refine W.item i s5 _ _ hlt C.st fun v h' tk hv hst' hk => ?_
      have C1 := C.item (tk := tk) T hst' hk
      refine hlo (i + 1) v _ _ hst' ?_
      obtain ⟨ρo', htg, hw⟩ := hturn (s2.heap.objs.size + 1) i _ ρo ys σi (hPv i v hlt hv) hI
      refine htg.2 ((cwFx f sc oc gl cl (s2.heap.objs.size + 1)).more D) A _ v _ C1.at_ rfl fun s6 X6 k6 => ?_
      have C2 := C1.tg T W X6 htg.1 k6
      refine WX.use (f := (cwFx f sc oc gl cl (s2.heap.objs.size + 1)).more D) hw X6 fun ok s7 σ7 X7 k7 q7 => ?_
      have C3 := C2.wx T W X7 k7
      cases ok with
      | false =>
        rw [if_neg (by decide)] at q7 ⊢
        exact ⟨_, by kspl_open wln, i + 1, ρo', ys, σ7, rfl, hlt, by kspl_open wln, q7, C3⟩
      | true =>
        rw [if_pos rfl] at q7 ⊢
        refine WX.use (f := (cwFx f sc oc gl cl (s2.heap.objs.size + 1)).more D) q7 X7 fun y s8 σ8 X8 k8 q8 => ?_
        have C4 := C3.wx T W X8 k8
        obtain ⟨ob, hob, its, nn, rfl, he⟩ := C4.obj
        have hz : its.size = ys.length := size_er he
        refine wpAny_list_append_plain (hsz := by rw [sizeLine_eq]; kspl_open wln) ⟨nn, hob⟩ fun h9 ⟨n9, hp9⟩ sb9 => ?_
        exact ⟨_, by kspl_open wln, i + 1, ρo', ys ++ [er y], σ8, rfl, hlt, by simp; kspl_open wln, q8, C4.putA (tk := s8.toks) T W sb9 hp9 ⟨_, n9, rfl, by simp [he]⟩⟩
    · have hi' : i = xs.length := by kspl_open wln
      subst hi'
      refine W.done s5 _ _ C.st fun h' tk hk => ?_
      exact hend _ _ ρo ys σi s5 h' tk T C hk hys hI
  exact codeAny_compStart_list loop (W.self 0 _ _ _ C0.st loop)
theorem compL_post {Q : Value → St → Prop} {ys : List Value} {s5 : Shared} {h' : Heap} {tk : Nat} (T : CT f sc ol oc D s1 J Dad L fp Sw) (C : CI f sc oc fr gl cl D A σ1 s1 J Dad L Sw own i ρo σi (LAcc ys) s5) (hk : ∀ b o, b ∉ [J] → s5.heap.get? b = some o → h'.get? b = some o) (hl : ys.length ≤ 1000000) (q : Q (.ref Dad) (σi.set Dad (.list ys))) :
    compPost (model prg f.c.w) A NoE none (Post f.c f.fz σ1 s1 fun v σ' => Q (er v) σ') (.ref Dad) L (.ok .next) { s5 with heap := h', toks := tk } := by
  obtain ⟨m', hm', hv'⟩ := C.at_.fr.loc
  have LJ : L ∉ [J] := by simp; exact Nat.ne_of_gt T.jL
  refine ⟨m', hm'.at' fun o e => hk _ o LJ e, fun h'' sb => ?_⟩
  exact CI.fin (s := s5) (tk := tk) T C hk sb (o := .list ys) (fun ob t00 => by obtain ⟨its, nn, e1, e2⟩ := t00; exact ⟨its, nn, e1, e2, hl⟩) (fun _ h => by cases h) q
theorem WV.compW {elt iter : Expr} {x : Str} {px : Pos} {ifs : List Expr} {pos : Pos} {Q : Value → St → Prop} (ol : List Str) (oc : Option Str) (fr : List (Str × Value)) (gl cl : List Str) (ho : CW sc ol oc (fr.map (·.1)) gl cl) (hfr : ∀ p ∈ fr, (p.1, some p.2) ∈ ρ ∧ p.1 ∈ f.cl)
    (hi : WV f ρ σ (eval iter f.env) fun v σ1 => (Ey3 fun a xs D => Ay4 (v = .ref a) (Iter f σ1 (.ref a) xs D) (xs.length ≤ 1000000) ((Ey1 fun (I : Nat → Loc → List Value → St → Prop) => Ay3 (I 0 (ownL ol oc) [] σ1) ((∀ L i v ρo ys σi, xs[i]? = some v → I i ρo ys σi → (Ey1 fun ρo' => Ay2 (SetAt x v ρo ρo') (WX ((cwFx f sc oc gl cl L).more D) (ρo' ++ frL fr) σi (tests ifs (cwFx f sc oc gl cl L).env) fun ok σ3 => if ok = true then WV ((cwFx f sc oc gl cl L).more D) (ρo' ++ frL fr) σ3 (eval elt (cwFx f sc oc gl cl L).env) fun y σ4 => I (i + 1) ρo' (ys ++ [y]) σ4 else I (i + 1) ρo' ys σ3)))) ((∀ ρo ys σi b, I xs.length ρo ys σi → σi b = none → Q (.ref b) (σi.set b (.list ys))))))))
    (hns : ∀ x, foldedSetIterable iter f.env x = Pure.pure x := by intro _; rfl) : WV f ρ σ (eval (.ListComp elt [⟨.Name x px, iter, ifs, 0⟩] sc pos) f.env) Q := fun A s X => by
  rw [eval_ListComp]
  refine wpAny_comprehension_free (cl := clOf f.env sc.names) (use := none) rfl hns (closureFor_eq fun y hy => ?_) ho.kind ho.names (WX.use hi X fun u s1 σ1 X1 k1 tq => ?_)
  · obtain ⟨p, hp, rfl⟩ := List.mem_map.mp (ho.sub y hy)
    exact (X.env.cls _ (hfr p hp).2).2
  obtain ⟨a, xs, D, e1, hit, hl, I, h0, hturn, hend⟩ := tq
  rw [er_ref e1]
  obtain ⟨hD, hit⟩ := hit
  refine hit f ρ A s1 _ rfl X1.r fun it s2 X2r k2 t20 => ?_
  obtain ⟨J, fp, Pv, Sw, e2, W, hst, hPv, hfp, hJ, hex⟩ := t20
  subst e2
  have X2 := X1.ka k2 X2r.sh
  have core := compL_core (RR := compPost (model prg f.c.w) A NoE none (Post f.c f.fz σ1 s1 fun v σ' => Q (er v) σ')) (elt := elt) (target := .Name x px) (iter := iter) (ifs := ifs) (pos := pos) X1 X2 k2 ho hfr hD W hst hPv hJ hex hfp (fun i v s P _ h => wpAny_pure h) hl I h0 (fun L i v ρo ys σi hx hI => let ⟨ρo', h1, h2⟩ := hturn L i v ρo ys σi hx hI; ⟨ρo', TG.name h1, h2⟩) fun Dad L ρo ys σi s5 h' tk T C hk hys hI => compL_post T C hk (by kspl_open wln) (hend ρo ys σi _ hI C.dn)
  have wk : ∀ (acc : Value) (C : Addr) (r : Result) (s' : Shared), compPost (model prg f.c.w) A NoE none (Post f.c f.fz σ1 s1 fun v σ' => Q (er v) σ') acc C r s' → compPost (model prg f.c.w) A NoE none (Post f.c f.fz σ s fun v σ' => Q (er v) σ') acc C r s' := by
    intro acc C r s' h
    cases r with
    | ok fl =>
      obtain ⟨m, h1, h2⟩ := h
      refine ⟨m, h1, fun h' sb => ?_⟩
      obtain ⟨σ', a1, a2, a3, a4⟩ := h2 h' sb
      exact ⟨σ', a1, k1.trans a2, a3, a4⟩
    | error e => exact h
  exact wpAny_mono core (fun acc s3 h3 => wpAny_mono h3 (fun cenv s4 h4 => codeAny_mono h4 fun r s' hr => wk _ _ _ _ hr) fun _ _ e => e) fun _ _ e => e
/-- x = [a comprehension] -/
theorem S1.compW {elt iter : Expr} {x y : Str} {px py : Pos} {ifs : List Expr} {pos spos : Pos} {Q : Flow → Loc → St → Prop} (ol : List Str) (oc : Option Str) (fr : List (Str × Value)) (gl cl : List Str) (ho : CW sc ol oc (fr.map (·.1)) gl cl) (hfr : ∀ p ∈ fr, (p.1, some p.2) ∈ ρ ∧ p.1 ∈ f.cl)
    (hi : WV f ρ σ (eval iter f.env) fun v σ1 => (Ey3 fun a xs D => Ay4 (v = .ref a) (Iter f σ1 (.ref a) xs D) (xs.length ≤ 1000000) ((Ey1 fun (I : Nat → Loc → List Value → St → Prop) => Ay3 (I 0 (ownL ol oc) [] σ1) ((∀ L i v ρo ys σi, xs[i]? = some v → I i ρo ys σi → (Ey1 fun ρo' => Ay2 (SetAt x v ρo ρo') (WX ((cwFx f sc oc gl cl L).more D) (ρo' ++ frL fr) σi (tests ifs (cwFx f sc oc gl cl L).env) fun ok σ3 => if ok = true then WV ((cwFx f sc oc gl cl L).more D) (ρo' ++ frL fr) σ3 (eval elt (cwFx f sc oc gl cl L).env) fun y σ4 => I (i + 1) ρo' (ys ++ [y]) σ4 else I (i + 1) ρo' ys σ3)))) ((∀ ρo ys σi b, I xs.length ρo ys σi → σi b = none → NQ y ρ Q (.ref b) (σi.set b (.list ys))))))))
    (hns : ∀ x, foldedSetIterable iter f.env x = Pure.pure x := by intro _; rfl) : S1 f ρ σ (.Assign [.Name y py] (.ListComp elt [⟨.Name x px, iter, ifs, 0⟩] sc pos) spos) Q := fun A s X => by
  obtain ⟨bb, hbb⟩ : ∃ bb, bb = (f.env.blockKind == ScopeKind.function && f.env.kindOf y == some NameKind.local && py.line == pos.line && !sc.names.any fun x => x.1 == y && (x.2 == NameKind.local || x.2 == NameKind.cell)) := ⟨_, rfl⟩
  have hsw : swapsWith (.ListComp elt [⟨.Name x px, iter, ifs, 0⟩] sc pos) (some (.Name y py)) spos.line f.env = Pure.pure bb := by rw [hbb]; rfl
  cases bb with
  | false =>
    refine wpAny_Assign_Name (WX.use (WV.compW (f := f) (px := px) (pos := pos) (elt := elt) (ifs := ifs) ol oc fr gl cl ho hfr (Q := NQ y ρ Q) (WX.mono hi ?_) hns) X fun v s1 σ1 X1 k1 t30 => by obtain ⟨ρ', hs, q⟩ := t30; exact X1.store hs fun s2 X2 k2 => X2.postS hs.names (k1.s.trans k2) q) hsw
    rintro v σ' ⟨a, xs, D, e1, hit, hl, I, h0, hturn, hend⟩
    exact ⟨a, xs, D, e1, hit, hl, I, h0, hturn, hend⟩
  | true =>
    have hy : f.env.kindOf y = some .local := by
      simp only [Bool.true_eq, Bool.and_eq_true, beq_iff_eq] at hbb
      exact hbb.1.1.2
    rw [exec_Assign_Name_used _ _ _ _ hsw]
    refine wpAny_bind (wpAny_standAt (wpAny_bind ?_))
    show wpAny _ A (do let _ ← comprehension (.ListComp elt [⟨.Name x px, iter, ifs, 0⟩] sc pos) sc f.env _ (newList []) false (eval iter f.env) (some (assign (.Name y py) f.env))) _ _ s
    refine wpAny_bind (wpAny_mono (wpAny_comprehension_free (cl := clOf f.env sc.names) (use := some (assign (.Name y py) f.env)) (Q := fun _ s' => PostS f.c f.fz f.env ρ σ s (fun fl ρ' σ' => Q (erF fl) ρ' σ') .next s') rfl hns (closureFor_eq fun y hy => ?_) ho.kind ho.names (WX.use hi X fun u s1 σ1 X1 k1 tq => ?_)) (fun _ s' hq => wpAny_pure (wpAny_pure hq)) fun _ _ e => e)
    · obtain ⟨p, hp, rfl⟩ := List.mem_map.mp (ho.sub y hy)
      exact (X.env.cls _ (hfr p hp).2).2
    obtain ⟨a, xs, D, e1, hit, hl, I, h0, hturn, hend⟩ := tq
    rw [er_ref e1]
    obtain ⟨hD, hit⟩ := hit
    refine hit f ρ A s1 _ rfl X1.r fun it s2 X2r k2 t50 => ?_
    obtain ⟨J, fp, Pv, Sw, e2, W, hst, hPv, hfp, hJ, hex⟩ := t50
    subst e2
    have X2 := X1.ka k2 X2r.sh
    refine wpAny_mono (compL_core (RR := compPost (model prg f.c.w) A NoE (some (assign (.Name y py) f.env)) (fun _ s' => PostS f.c f.fz f.env ρ σ s (fun fl ρ' σ' => Q (erF fl) ρ' σ') .next s')) (elt := elt) (target := .Name x px) (iter := iter) (ifs := ifs) (pos := pos) X1 X2 k2 ho hfr hD W hst hPv hJ hex hfp (fun i v s P _ h => wpAny_pure h) hl I h0 (fun L i v ρo ys σi hx hI => let ⟨ρo', h1, h2⟩ := hturn L i v ρo ys σi hx hI; ⟨ρo', TG.name h1, h2⟩) fun Dad L ρo ys σi s5 h' tk T C hk hys hI => ?_) (fun _ _ h => h) fun _ _ e => e
    obtain ⟨ρ', hs, q⟩ := hend ρo ys σi Dad hI C.dn
    obtain ⟨m', hm', hv'⟩ := C.at_.fr.loc
    have LJ : L ∉ [J] := by simp; exact Nat.ne_of_gt T.jL
    have hm5 : h'.Ns L m' := hm'.at' fun o e => hk _ o LJ e
    obtain ⟨ob, hob, its, nn, rfl, he⟩ := C.obj
    have Xc := C.at_.but (I := J) (s' := { s5 with heap := h', toks := tk }) (fun b o hb e => hk b o (by simpa using hb) e) (C.at_.sh.heap _ _) C.jn T.jb (T.nfa T.jn T.jL)
    have kp5 : Kp f.fz σ1 s1.heap (σi.set Dad (.list ys)) h' := fun a x e nn => by
      obtain ⟨q1, q2⟩ := C.kp a x e nn
      have hne : a ≠ Dad := by rintro rfl; rw [T.dn] at e; cases e
      exact ⟨hk _ _ (by simp; rintro rfl; rw [T.jn] at e; cases e) q1, by rw [St.set_ne _ _ hne]; exact q2⟩
    have X5 : At f ρ (σi.set Dad (.list ys)) A { s5 with heap := h', toks := tk } := X1.step (fz := f.fz) (Xc.rep.add T.db (hk _ _ (by simpa using T.jd.symm) hob) (o := .list ys) ⟨its, nn, rfl, he, by kspl_open wln⟩ (fun _ h => by cases h)) kp5 (C.at_.sh.heap _ _)
    show wpAny _ A (assign (.Name y py) f.env (.ref Dad)) _ _ _
    refine wpAny_assign_Name (X5.store2 hs fun s6 La X6 hLa sb6 => ?_)
    have hLaL : La = f.env.locals := by
      rcases hLa with ⟨_, e⟩ | ⟨e, _⟩
      · exact e
      · exact absurd hy e
    subst hLaL
    have locold : ∃ o, s1.heap.get? f.env.locals = some o := by
      obtain ⟨m, ⟨o, es, ep, ho, _⟩, _⟩ := X1.fr.loc
      exact ⟨o, ho⟩
    have hlL : L ≠ f.env.locals := by
      obtain ⟨o, ho⟩ := locold
      exact Nat.ne_of_gt (T.lt _ o ho)
    refine ⟨m', hm5.sameBut sb6 hlL, fun h'' sb => ?_⟩
    have Lf : ¬ fa f.env L := by
      rintro (e | ⟨z, e⟩)
      · exact hlL e
      · obtain ⟨u, o, ho, _⟩ := X1.fr.cell z L e
        exact Nat.lt_irrefl _ (T.lt _ o ho)
    have hLb : f.c.b.get? L = none := Xc.env.lb
    have hσL : (σi.set Dad (.list ys)) L = none := by rw [St.set_ne _ _ (Nat.ne_of_gt T.dL)]; exact Xc.fr.lo
    have X7 := X6.but (I := L) (s' := { s6 with heap := h'' }) (fun b o hb e => (sb.2 b hb).trans e) (X6.sh.heap _ s6.toks) hσL hLb Lf
    refine X7.postS hs.names (fun a o e nn hf => ?_) q
    obtain ⟨q1, q2⟩ := k1 a o e nn
    have nn1 : σ1 a = none ∨ f.fz a := nn.imp (fun h => q2.trans h) id
    obtain ⟨q3, q4⟩ := kp5 a o q1 nn1
    refine ⟨(sb.2 a (Nat.ne_of_lt (T.lt a o q1))).trans ((sb6.2 a fun e => hf (.inl e)).trans q3), q4.trans q2⟩


/-! comprehensions whose parts are pure -/
noncomputable abbrev compOk (sc : Scope) (x : Str) (fr gl : List Str) : Bool := cwOk sc [x] none fr gl fr
noncomputable abbrev CompOk (sc : Scope) (x : Str) (fr gl : List Str) : Prop := CW sc [x] none fr gl fr
theorem CompOk.of {sc : Scope} {x : Str} {fr gl : List Str} (h : compOk sc x fr gl = true) : CompOk sc x fr gl := CW.of h
theorem AtR.less {D : Addr → Prop} {A : Around} {s : Shared} (X : AtR (f.more D) ρ σ A s) : AtR f ρ σ A s := ⟨X.ok, ⟨X.env.kind, X.env.gs, X.env.bs, X.env.glob, X.env.nd, X.env.kinds, X.env.apart, X.env.cls, X.env.dbg⟩, X.room, X.rep, X.fr, X.sh⟩
theorem AtR.more {D : Addr → Prop} {A : Around} {s : Shared} (X : AtR f ρ σ A s) : AtR (f.more D) ρ σ A s := ⟨X.ok, ⟨X.env.kind, X.env.gs, X.env.bs, X.env.glob, X.env.nd, X.env.kinds, X.env.apart, X.env.cls, X.env.dbg⟩, X.room, X.rep, X.fr, X.sh⟩
theorem Pb.more {α : Type} {t : Sem α} {b : α} {D : Addr → Prop} (h : Pb f ρ σ t b) : Pb (f.more D) ρ σ t b := Pb.mk fun _ _ _ X k => h.use X.less fun _ X1 k1 => k _ X1.more k1
theorem Pr.more {t : Sem Value} {v : Value} {D : Addr → Prop} (h : Pr f ρ σ t v) : Pr (f.more D) ρ σ t v := Pr.mk fun _ _ _ X k => h.use X.less fun _ _ X1 k1 e => k _ _ X1.more k1 e
inductive CompI (x : Str) (xs : List Value) (pc : Value → Bool) (g : Value → Value) (σ' : St) (i : Nat) (ρo : Loc) (ys : List Value) (σi : St) : Prop
  | mk (o : Option Value) (h1 : ρo = [(x, o)]) (h2 : ys = ((xs.take i).filter pc).map g) (h3 : σi = σ') : CompI x xs pc g σ' i ρo ys σi
theorem comp_turn {D : Addr → Prop} {x : Str} {fr : List (Str × Value)} {gl' : List Str} {ifs : List Expr} {elt : Expr} {xs : List Value} {pc : Value → Bool} {g : Value → Value} {σ' : St} (hel : CompEl f σ' x fr gl' ifs elt xs pc g) :
    ∀ L i v ρo ys σi, xs[i]? = some v → CompI x xs pc g σ' i ρo ys σi → (Ey1 fun ρo' => Ay2 (SetAt x v ρo ρo') (WX ((cwFx f sc none gl' (fr.map (·.1)) L).more D) (ρo' ++ frL fr) σi (tests ifs (cwFx f sc none gl' (fr.map (·.1)) L).env) fun ok σ3 => if ok = true then WV ((cwFx f sc none gl' (fr.map (·.1)) L).more D) (ρo' ++ frL fr) σ3 (eval elt (cwFx f sc none gl' (fr.map (·.1)) L).env) fun y σ4 => CompI x xs pc g σ' (i + 1) ρo' (ys ++ [y]) σ4 else CompI x xs pc g σ' (i + 1) ρo' ys σ3)) := by
  rintro L i v ρo ys σi hv ⟨o, rfl, rfl, rfl⟩
  obtain ⟨h1, h2⟩ := hel f.c.os f.c.dr f.c.gn (cwFx f sc none gl' (fr.map (·.1)) L).env v (List.mem_of_getElem? hv)
  have e : ((xs.take (i + 1)).filter pc).map g = ((xs.take i).filter pc).map g ++ (([v] : List Value).filter pc).map g := by
    rw [List.take_add_one, hv, List.filter_append, List.map_append]; rfl
  refine ⟨_, .here _ _, WX.of_pb (Pb.more h1) ?_⟩
  cases hp : pc v with
  | true =>
    rw [if_pos rfl]
    exact WV.of_pr (Pr.more (h2 hp)) ⟨_, rfl, by rw [e]; simp [hp], rfl⟩
  | false => exact ⟨_, rfl, by rw [e]; simp [hp], rfl⟩
inductive CEQ (f : Fx) (x : Str) (fr : List (Str × Value)) (gl' : List Str) (ifs : List Expr) (elt : Expr) (pc : Value → Bool) (g : Value → Value) (R : Addr → St → Prop) (v : Value) (σ' : St) : Prop
  | mk (a : Addr) (xs : List Value) (D : Addr → Prop) (e : v = .ref a) (hit : Iter f σ' (.ref a) xs D) (hl : xs.length ≤ 1000000) (hel : CompEl f σ' x fr gl' ifs elt xs pc g) (q : ∀ b, σ' b = none → R b (σ'.set b (.list ((xs.filter pc).map g)))) : CEQ f x fr gl' ifs elt pc g R v σ'
/-- a comprehension in the state -/
theorem WV.comp {elt iter : Expr} {x : Str} {px : Pos} {ifs : List Expr} {sc : Scope} {pos : Pos} {Q : Value → St → Prop} (fr : List (Str × Value)) (gl' : List Str) (pc : Value → Bool) (g : Value → Value)
    (hi : WV f ρ σ (eval iter f.env) (CEQ f x fr gl' ifs elt pc g fun b => Q (.ref b)))
    (ho : CompOk sc x (fr.map (·.1)) gl') (hfr : ∀ p ∈ fr, (p.1, some p.2) ∈ ρ ∧ p.1 ∈ f.cl) (hns : ∀ x, foldedSetIterable iter f.env x = Pure.pure x := by intro _; rfl) : WV f ρ σ (eval (.ListComp elt [⟨.Name x px, iter, ifs, 0⟩] sc pos) f.env) Q :=
  WV.compW [x] none fr gl' (fr.map (·.1)) ho hfr (WX.mono hi fun v σ' t => by
    obtain ⟨a, xs, D, e, hit, hl, hel, q⟩ := t
    refine ⟨a, xs, D, e, hit, hl, CompI x xs pc g σ', ⟨none, rfl, rfl, rfl⟩, comp_turn hel, fun ρo ys σi b hI hb => ?_⟩
    obtain ⟨o, rfl, rfl, rfl⟩ := hI
    rw [List.take_length]; exact q b hb) hns
/-- x = [a comprehension] -/
theorem S1.comp {elt iter : Expr} {x y : Str} {px py : Pos} {ifs : List Expr} {sc : Scope} {pos spos : Pos} {Q : Flow → Loc → St → Prop} (fr : List (Str × Value)) (gl' : List Str) (pc : Value → Bool) (g : Value → Value)
    (hi : WV f ρ σ (eval iter f.env) (CEQ f x fr gl' ifs elt pc g fun b => NQ y ρ Q (.ref b)))
    (ho : CompOk sc x (fr.map (·.1)) gl') (hfr : ∀ p ∈ fr, (p.1, some p.2) ∈ ρ ∧ p.1 ∈ f.cl) (hns : ∀ x, foldedSetIterable iter f.env x = Pure.pure x := by intro _; rfl) :
    S1 f ρ σ (.Assign [.Name y py] (.ListComp elt [⟨.Name x px, iter, ifs, 0⟩] sc pos) spos) Q :=
  S1.compW [x] none fr gl' (fr.map (·.1)) ho hfr (WX.mono hi fun v σ' t => by
    obtain ⟨a, xs, D, e, hit, hl, hel, q⟩ := t
    refine ⟨a, xs, D, e, hit, hl, CompI x xs pc g σ', ⟨none, rfl, rfl, rfl⟩, comp_turn hel, fun ρo ys σi b hI hb => ?_⟩
    obtain ⟨o, rfl, rfl, rfl⟩ := hI
    rw [List.take_length]; exact q b hb) hns
end
section
variable {f : Fx} {ρ : Loc} {σ : St}
variable {sc : Scope} {ol : List Str} {oc : Option Str} {fr : List (Str × Value)} {gl cl : List Str} {D : Addr → Prop} {A : Around} {σ1 σi : St} {s1 s2 s : Shared} {J Dad L : Addr} {Sw : Nat → Heap → Prop} {own : List Str} {i : Nat} {ρo : Loc} {fp : List Addr} {n : Nat} {Pv : Nat → Value → Prop}

noncomputable def DAcc (c : Cx) (kvs : List (Int × Value)) (ob : Obj) : Prop := ∃ raw, ob.IsDictOf (intKind prg c.w) raw ∧ raw.map (fun p => (p.1, er p.2)) = kvs
/-- a dict comprehension, of ints -/
theorem compD_core {Q : Value → St → Prop} {kx vx iter : Expr} {x : Str} {px : Pos} {pos : Pos} {xs : List Value} (X1 : At f ρ σ1 A s1) (X2 : At f ρ σ1 A s2) (k2 : Ka s1 s2) (ho : CW sc ol oc (fr.map (·.1)) gl cl) (hfr : ∀ p ∈ fr, (p.1, some p.2) ∈ ρ ∧ p.1 ∈ f.cl) (hDo : ∀ b, D b → σ1 b ≠ none ∨ f.c.b.get? b ≠ none)
    (W : Walks prg f.c.w A J fp [J] xs.length Pv Sw) (hst : Sw 0 s2.heap) (hPv : ∀ i v, i < xs.length → Pv i v → xs[i]? = some (er v)) (hJ : s1.heap.get? J = none) (hex : ∀ i h, Sw i h → ∃ o, h.get? J = some o) (hfp : ∀ b ∈ fp, b = J ∨ D b)
    (hl : xs.length ≤ 100000) (I : Nat → Loc → List (Int × Value) → St → Prop) (h0 : I 0 (ownL ol oc) [] σ1)
    (hturn : ∀ L i v ρo kvs σi, xs[i]? = some v → I i ρo kvs σi → (Ey1 fun ρo' => Ay2 (SetAt x v ρo ρo') (WV ((cwFx f sc oc gl cl L).more D) (ρo' ++ frL fr) σi (eval kx (cwFx f sc oc gl cl L).env) fun k σ3 => (Ey1 fun ki => Ay2 (k = .int ki 0) (WV ((cwFx f sc oc gl cl L).more D) (ρo' ++ frL fr) σ3 (eval vx (cwFx f sc oc gl cl L).env) fun y σ4 => I (i + 1) ρo' (stored kvs ki y) σ4)))))
    (hend : ∀ ρo kvs σi b, I xs.length ρo kvs σi → σi b = none → Q (.ref b) (σi.set b (.dic kvs))) :
    wpAny (model prg f.c.w) A newDict (fun acc s₃ => wpAny (model prg f.c.w) A (newFunctionEnv sc f.env.globals (clOf f.env sc.names) [] f.env.qual none .none (some f.env)) (fun cenv s₄ =>
      codeAny (model prg f.c.w) A (.compStart (.DictComp kx vx [⟨.Name x px, iter, [], 0⟩] sc pos) 0 (.ref J) acc { cenv with scope := relabel sc f.env }) (compPost (model prg f.c.w) A NoE none (Post f.c f.fz σ1 s1 fun v σ' => Q (er v) σ') acc cenv.locals) s₄) NoE s₃) NoE s2 := by
  refine wpAny_newObj_type ?_
  have X3 : At f ρ σ1 A { s2 with heap := s2.heap.push { cls := .type "dict", data := .dict #[] } } := X2.ka (push_ka s2 _) (X2.sh.heap _ _)
  refine newEnvC ho.ocn ?_
  obtain ⟨X4, k4⟩ := X3.compW ho hfr
  have eL : ({ s2 with heap := s2.heap.push { cls := .type "dict", data := .dict #[] } } : Shared).heap.objs.size = s2.heap.objs.size + 1 := Heap.size_push ..
  rw [eL] at X4 ⊢
  have T := CT.mk' X1 X2 k2 ho hfr hDo hJ hst hex hfp
  have hsys := X2.big
  have hd0 : ∃ ob, (s2.heap.push { cls := .type "dict", data := .dict #[] }).get? s2.heap.objs.size = some ob ∧ DAcc f.c [] ob := by
    obtain ⟨ob, h1, h2⟩ := Heap.dictOf_iff.mp (Heap.DictOf.new (knd := intKind prg f.c.w) s2.heap)
    exact ⟨ob, h1, [], h2, rfl⟩
  generalize hs4 : ({ s2 with heap := ocHeap oc ((s2.heap.push { cls := .type "dict", data := .dict #[] }).push frameObj) } : Shared) = s4 at X4 k4 ⊢
  have k3 : Ka s2 s4 := (push_ka s2 _).trans k4
  have C0 : CI f sc oc fr gl cl D A σ1 s1 J s2.heap.objs.size (s2.heap.objs.size + 1) Sw (ol ++ oc.toList) 0 (ownL ol oc) σ1 (DAcc f.c []) s4 := by
    obtain ⟨ob, h1, h2⟩ := hd0
    refine ⟨X4.refz, (k2.trans k3).kp, W.frame _ _ _ hst fun b _ o e => k3 b o e, ?_, ?_, ⟨ob, k4 _ _ h1, h2⟩, by simp [List.map_map, Function.comp_def]⟩
    · cases e : σ1 J with
      | none => rfl
      | some o => obtain ⟨ob, g, _⟩ := X1.rep.obj _ _ e; rw [hJ] at g; cases g
    · cases e : σ1 s2.heap.objs.size with
      | none => rfl
      | some o => obtain ⟨ob, g, _⟩ := X1.rep.obj _ _ e; rw [T.dn] at g; cases g
  have loop : codeAny (model prg f.c.w) A (.compLoop (.DictComp kx vx [⟨.Name x px, iter, [], 0⟩] sc pos) 0 (.ref J) (.ref s2.heap.objs.size) (cwFx f sc oc gl cl (s2.heap.objs.size + 1)).env) (compPost (model prg f.c.w) A NoE none (Post f.c f.fz σ1 s1 fun v σ' => Q (er v) σ') (.ref s2.heap.objs.size) (s2.heap.objs.size + 1)) s4 := by
    refine codeAny_compLoop_testsD (fun m s' => (Ey4 fun i ρo kvs σi => Ay5 (m = xs.length - i) (i ≤ xs.length) (kvs.length ≤ i) (I i ρo kvs σi) (CI f sc oc fr gl cl D A σ1 s1 J s2.heap.objs.size (s2.heap.objs.size + 1) Sw (ol ++ oc.toList) i ρo σi (DAcc f.c kvs) s'))) ?_ xs.length ⟨0, _, [], σ1, rfl, Nat.zero_le _, Nat.le_refl _, h0, C0⟩
    rintro m s5 ⟨i, ρo, kvs, σi, rfl, hi, hys, hI, C⟩
    by_cases hlt : i < xs.length
    · refine W.item i s5 _ _ hlt C.st fun v h' tk hv hst' hk => ?_
      have C1 := C.item (tk := tk) T hst' hk
      obtain ⟨ρo', hset, hw⟩ := hturn (s2.heap.objs.size + 1) i _ ρo kvs σi (hPv i v hlt hv) hI
      have htg : TG fr σi (.Name x px) (er v) ρo ρo' := TG.name hset
      refine wpAny_mono (htg.2 ((cwFx f sc oc gl cl (s2.heap.objs.size + 1)).more D) A _ v (fun _ s6 => At ((cwFx f sc oc gl cl (s2.heap.objs.size + 1)).more D) (ρo' ++ frL fr) σi A s6 ∧ ∀ b o, ¬ Pl ((cwFx f sc oc gl cl (s2.heap.objs.size + 1)).more D) (ρo.map (·.1)) b → h'.get? b = some o → s6.heap.get? b = some o) C1.at_ rfl fun s6 X6 k6 => ⟨X6, k6⟩) (fun _ s6 t00 => ?_) fun _ _ e => e.elim
      obtain ⟨X6, k6⟩ := t00
      have C2 := C1.tg T W X6 htg.1 k6
      refine wpAny_tests_nil ?_
      rw [if_pos rfl]
      refine wpAny_mono (WX.use (f := (cwFx f sc oc gl cl (s2.heap.objs.size + 1)).more D) hw X6 (P := fun k s7 => (Ey1 fun σ7 => Ay2 (CI f sc oc fr gl cl D A σ1 s1 J s2.heap.objs.size (s2.heap.objs.size + 1) Sw (ol ++ oc.toList) (i + 1) ρo' σ7 (DAcc f.c kvs) s7) ((Ey1 fun ki => Ay2 (er k = .int ki 0) (WV ((cwFx f sc oc gl cl (s2.heap.objs.size + 1)).more D) (ρo' ++ frL fr) σ7 (eval vx (cwFx f sc oc gl cl (s2.heap.objs.size + 1)).env) fun y σ4 => I (i + 1) ρo' (stored kvs ki y) σ4))))) fun k s7 σ7 X7 k7 q7 => ⟨σ7, C2.wx T W X7 k7, q7⟩) (fun k s7 t10 => ?_) fun _ _ e => e.elim
      obtain ⟨σ7, C3, ki, hki, hw2⟩ := t10
      obtain ⟨t, rfl⟩ := er_int hki
      refine wpAny_mono (WX.use (f := (cwFx f sc oc gl cl (s2.heap.objs.size + 1)).more D) hw2 C3.at_ (P := fun y s8 => (Ey1 fun σ8 => Ay2 (CI f sc oc fr gl cl D A σ1 s1 J s2.heap.objs.size (s2.heap.objs.size + 1) Sw (ol ++ oc.toList) (i + 1) ρo' σ8 (DAcc f.c kvs) s8) (I (i + 1) ρo' (stored kvs ki (er y)) σ8))) fun y s8 σ8 X8 k8 q8 => ⟨σ8, C3.wx T W X8 k8, q8⟩) (fun y s8 t20 => ?_) fun _ _ e => e.elim
      obtain ⟨σ8, C4, q8⟩ := t20
      obtain ⟨ob, hob, raw, hraw, he⟩ := C4.obj
      have hz : raw.length = kvs.length := by subst he; simp
      refine wpAny_dictSet_pairs (knd := intKind prg f.c.w) (k := ki) (by simp [intKind, Value.isInt]) (Heap.dictOf_iff.mpr ⟨ob, hob, hraw⟩) (fun h9 hd9 sb9 => ?_) (by rw [sizeLine_eq]; kspl_open wln)
      obtain ⟨ob9, ho9, hr9⟩ := Heap.dictOf_iff.mp hd9
      have := stored_len kvs ki (er y)
      exact ⟨_, by kspl_open wln, i + 1, ρo', stored kvs ki (er y), σ8, rfl, hlt, by kspl_open wln, q8, C4.putA (tk := s8.toks + 1) T W sb9 ho9 ⟨_, hr9, stored_er he _ _⟩⟩
    · have hi' : i = xs.length := by kspl_open wln
      subst hi'
      refine W.done s5 _ _ C.st fun h' tk hk => ?_
      obtain ⟨m', hm', hv'⟩ := C.at_.fr.loc
      have LJ : (s2.heap.objs.size + 1) ∉ [J] := by simp; exact Nat.ne_of_gt T.jL
      refine ⟨m', hm'.at' fun o e => hk _ o LJ e, fun h'' sb => ?_⟩
      exact CI.fin (s := s5) (tk := tk) T C hk sb (o := .dic kvs) (fun ob t30 => by obtain ⟨raw, e1, e2⟩ := t30; exact ⟨raw, e1, e2, by kspl_open wln⟩) (fun _ _ => hsys) (hend ρo kvs σi _ hI C.dn)
  exact codeAny_compStart_dict loop (W.self 0 _ _ _ C0.st loop)
theorem WV.compD {kx vx iter : Expr} {x : Str} {px : Pos} {pos : Pos} {Q : Value → St → Prop} (ol : List Str) (oc : Option Str) (fr : List (Str × Value)) (gl cl : List Str) (ho : CW sc ol oc (fr.map (·.1)) gl cl) (hfr : ∀ p ∈ fr, (p.1, some p.2) ∈ ρ ∧ p.1 ∈ f.cl)
    (hi : WV f ρ σ (eval iter f.env) fun v σ1 => (Ey3 fun a xs D => Ay4 (v = .ref a) (Iter f σ1 (.ref a) xs D) (xs.length ≤ 100000) ((Ey1 fun (I : Nat → Loc → List (Int × Value) → St → Prop) => Ay3 (I 0 (ownL ol oc) [] σ1) ((∀ L i v ρo kvs σi, xs[i]? = some v → I i ρo kvs σi → (Ey1 fun ρo' => Ay2 (SetAt x v ρo ρo') (WV ((cwFx f sc oc gl cl L).more D) (ρo' ++ frL fr) σi (eval kx (cwFx f sc oc gl cl L).env) fun k σ3 => (Ey1 fun ki => Ay2 (k = .int ki 0) (WV ((cwFx f sc oc gl cl L).more D) (ρo' ++ frL fr) σ3 (eval vx (cwFx f sc oc gl cl L).env) fun y σ4 => I (i + 1) ρo' (stored kvs ki y) σ4)))))) ((∀ ρo kvs σi b, I xs.length ρo kvs σi → σi b = none → Q (.ref b) (σi.set b (.dic kvs))))))))
    (hns : ∀ x, foldedSetIterable iter f.env x = Pure.pure x := by intro _; rfl) : WV f ρ σ (eval (.DictComp kx vx [⟨.Name x px, iter, [], 0⟩] sc pos) f.env) Q := fun A s X => by
  rw [arm_eval_DictComp]
  refine wpAny_comprehension_free (cl := clOf f.env sc.names) (use := none) rfl hns (closureFor_eq fun y hy => ?_) ho.kind ho.names (WX.use hi X fun u s1 σ1 X1 k1 tq => ?_)
  · obtain ⟨p, hp, rfl⟩ := List.mem_map.mp (ho.sub y hy)
    exact (X.env.cls _ (hfr p hp).2).2
  obtain ⟨a, xs, D, e1, hit, hl, I, h0, hturn, hend⟩ := tq
  rw [er_ref e1]
  obtain ⟨hD, hit⟩ := hit
  refine hit f ρ A s1 _ rfl X1.r fun it s2 X2r k2 t50 => ?_
  obtain ⟨J, fp, Pv, Sw, e2, W, hst, hPv, hfp, hJ, hex⟩ := t50
  subst e2
  have X2 := X1.ka k2 X2r.sh
  have core := compD_core (Q := Q) (kx := kx) (vx := vx) (x := x) (px := px) (iter := iter) (pos := pos) X1 X2 k2 ho hfr hD W hst hPv hJ hex hfp hl I h0 hturn hend
  have wk : ∀ (acc : Value) (C : Addr) (r : Result) (s' : Shared), compPost (model prg f.c.w) A NoE none (Post f.c f.fz σ1 s1 fun v σ' => Q (er v) σ') acc C r s' → compPost (model prg f.c.w) A NoE none (Post f.c f.fz σ s fun v σ' => Q (er v) σ') acc C r s' := by
    intro acc C r s' h
    cases r with
    | ok fl =>
      obtain ⟨m, h1, h2⟩ := h
      refine ⟨m, h1, fun h' sb => ?_⟩
      obtain ⟨σ', a1, a2, a3, a4⟩ := h2 h' sb
      exact ⟨σ', a1, k1.trans a2, a3, a4⟩
    | error e => exact h
  exact wpAny_mono core (fun acc s3 h3 => wpAny_mono h3 (fun cenv s4 h4 => codeAny_mono h4 fun r s' hr => wk _ _ _ _ hr) fun _ _ e => e) fun _ _ e => e
end
section
variable {f : Fx} {ρ : Loc} {σ : St}

/-- a method of what a call gives -/
theorem WV.methC {o : Expr} {name : Str} {apos pos : Pos} {es : List Expr} {b : String} {Q : Value → St → Prop} (h : WV f ρ σ (eval o f.env) fun ov σ1 => Mth f σ1 ov name b ∧ WLs f ρ σ1 es fun vs σ2 => WC f.c f.n f.fz σ2 (.builtin b) (ov :: vs) Q)
    (hb : attributeBase o name f.env (eval o f.env) = eval o f.env := by rfl) (hp : (apos.endLine == pos.line) = true := by rfl) (hes : es.all plainS = true := by rfl) (hn : es.length < 30 := by decide) : WV f ρ σ (eval (.Call (.Attribute o name apos) es [] pos) f.env) Q := fun A s X => by
  show wpAny _ _ (do
    let ov ← attributeBase o name f.env (eval o f.env)
    standAt apos.atName
    methodCall o name apos pos f.env ov (es.length + 0) (backTo pos (starEach es f.env)) []) _ _ _
  rw [hb]
  have form : methodCallForm (es.length + 0) (backTo pos (starEach es f.env)) [] = true := by
    unfold methodCallForm
    have h1 : (backTo pos (starEach es f.env)).all (fun x => !x.1) = true := by
      have := backTo_plain (p := pos) (env := f.env) hes
      rw [List.all_eq_true]
      intro x hx
      rw [List.any_eq_false] at this
      simpa using this x hx
    rw [h1]; simp; kspl_open wln
  show wpAny _ _ (do
      let ov ← eval o f.env
      standAt apos.atName
      let (f', first) ← holding [ov] (calleeOf (methodCallForm (es.length + 0) (backTo pos (starEach es f.env)) []) o f.env ov name)
      let callPos ← methodCallPos (methodCallForm (es.length + 0) (backTo pos (starEach es f.env)) []) o f.env apos pos
      callWith callPos f' first (backTo pos (starEach es f.env)) []) _ _ _
  rw [form]
  refine wpAny_bind (WX.use h X fun raw s1 σ1 X1 k1 ⟨hm, hargs⟩ => wpAny_bind (wpAny_standAt (wpAny_bind (wpAny_holding ?_))))
  show wpAny _ _ (getMethod raw name _) _ _ _
  refine hm ρ A s1 raw _ _ X1.r rfl ?_
  show wpAny _ _ (methodCallPos true o f.env apos pos >>= _) _ _ _
  have e : methodCallPos true o f.env apos pos = Pure.pure pos := by unfold methodCallPos; rw [hp]; rfl
  rw [e]
  refine wpAny_bind (wpAny_pure ?_)
  refine callWith_builtin (backTo_plain hes) (evalArgs_all hes (WX.use (hargs pos) X1 fun vs s2 σ2 X2 k2 q => ?_))
  exact WC.use q X2 (by simp) fun v _ _ X3 k3 q3 => X3.post (k1.trans (k2.trans k3)) q3

/-! the values of a dict -/
theorem Mth.dicM {a : Addr} {kvs : List (Int × Value)} {name : Str} {b : String} (ha : σ a = some (.dic kvs)) (slot : Slot "dict" name b) (ty : typeOf (.builtin b) = Pure.pure (.type "method_descriptor")) : Mth f σ (.ref a) name b := fun ρ A s raw pl P X e p => by
  rw [er_ref e] at p ⊢
  obtain ⟨raw, hl, -, -⟩ := dicAt X.rep ha
  obtain ⟨o, es, ep, ho, hc, -⟩ := hl
  exact getMethod_builtin (T := "dict") ⟨o, ho, hc.1⟩ F.plainAttrs_dict slot ty (fun b e => by cases e; exact ⟨_, ho, hc.2.1⟩) p
noncomputable abbrev valsObj (d : Addr) : Obj := { cls := .type "dict_values", data := .fields #[.ref d] }
theorem WC.values {c : Cx} {n : Nat} {fz : Addr → Prop} {d : Addr} {kvs : List (Int × Value)} {Q : Value → St → Prop} (hd : σ d = some (.dic kvs)) (q : ∀ v, σ v = none → Q (.ref v) (σ.set v (.obj (valsObj d)))) : WC c n fz σ (.builtin "dict.values") [.ref d] Q := fun A s raw e ok room r sh => by
  obtain ⟨u, rfl, e1⟩ := raw1 e
  rw [er_ref e1]
  obtain ⟨raw, hl, -, -⟩ := dicAt r hd
  have hb : (s.heap.objs.size == sysModules) = false := by
    have := PyProof.Rows.modules_low (ok.lim.keeps r.base)
    exact beq_eq_false_iff_ne.mpr (Nat.ne_of_gt this)
  exact call_meetsIn F.slot_dict_values hl.typeIs F.entry_dict_values (F.args_dict_values_1 _) (meets_dict_values (intKind prg c.w) d (r.dm _ _ hd)) ⟨⟨_, hl⟩, _, r.push (o := .obj (valsObj d)) rfl rfl hb, Kp.push _ _, sh.heap _ s.toks, q _ (St.le_none r)⟩
theorem Iter.vals {v d : Addr} {kvs : List (Int × Value)} (hv : σ v = some (.obj (valsObj d))) (hd : σ d = some (.dic kvs)) : Iter f σ (.ref v) (kvs.map (·.2)) (· = d) := by
  refine ⟨fun b e => .inl (by rw [e, hd]; simp), fun f' ρ A s P hf X k => ?_⟩
  obtain ⟨fc, fn, fzz, fe, fg, fl⟩ := f'
  obtain rfl : fc = f.c := hf
  obtain ⟨raw, hl, e2, e3⟩ := dicAt X.rep hd
  obtain ⟨ep, hd'⟩ := hl.dictAt
  obtain ⟨ob, g, e⟩ := X.rep.obj _ _ hv
  obtain rfl : ob = _ := e
  have hne : d ≠ s.heap.objs.size := Nat.ne_of_lt hd'.lt_size
  have len : raw.length = (kvs.map (·.2)).length := by subst e2; simp
  refine wpAny_pyIter_values ⟨_, g, rfl, rfl⟩ hd' (k _ _ (X.ka (push_ka s _) (X.sh.heap _ s.toks)) (push_ka s _) ⟨s.heap.objs.size, _, _, _, rfl, walks_len (Walks.dictValues (knd := intKind prg f.c.w) X.room.2.2 s.heap.objs.size d hne raw ep) len, ⟨⟨_, Heap.get?_push_size _ rfl, rfl, rfl⟩, hd'.push _⟩, fun i v hi hv => ?_, fun b hb => ?_, fresh_none _, fun i h st => ?_⟩)
  · obtain ⟨kk, h1⟩ := hv
    subst e2
    simp [h1]
  · simpa using hb
  · obtain ⟨o, ho, _⟩ := st.1; exact ⟨o, ho⟩

/-! bit_length -/
theorem Mth.bits {i : Int} : Mth f σ (.int i 0) "bit_length" "int.bit_length" := fun ρ A s raw pl P X e p => by
  obtain ⟨t, rfl⟩ := er_int e
  exact getMethod_int_bit_length p
theorem WC.bits {c : Cx} {n : Nat} {fz : Addr → Prop} {i : Int} {Q : Value → St → Prop} (q : Q (.int (Builtin.Int.intBits i) 0) σ) : WC c n fz σ (.builtin "int.bit_length") [.int i 0] Q := fun A s raw e ok room r sh => by
  obtain ⟨u, rfl, e1⟩ := raw1 e
  obtain ⟨t, rfl⟩ := er_int e1
  exact call_int_bit_length ⟨σ, r, Kp.refl _ _, sh.heap _ _, q⟩

/-! [x] * n -/
theorem foldl_app (vs : List Value) : ∀ (n : Nat) (acc : Array Value), (List.foldl (fun x1 x2 => x1 ++ x2) acc (List.replicate n vs.toArray)).toList = acc.toList ++ (List.replicate n vs).flatten
  | 0, acc => by simp
  | n + 1, acc => by
    rw [List.replicate_succ, List.foldl_cons, foldl_app vs n]
    simp [List.replicate_succ]
theorem WV.rep0 {l r : Expr} {p : Pos} {k : Int} {Q : Value → St → Prop} (h : WV f ρ σ (eval l f.env) fun a σ1 => (Ey2 fun b v => Ay6 (a = .ref b) (σ1 b = some (.list [v])) (PE f ρ σ1 r (.int k 0)) (k ≤ 100000) (-100000 ≤ k) (∀ d, σ1 d = none → Q (.ref d) (σ1.set d (.list (List.replicate k.toNat v)))))) :
    WV f ρ σ (eval (.BinOp l .Mult r p) f.env) Q := fun A s X =>
  wpAny_BinOp (WX.use h X fun u s1 σ1 X1 k1 ⟨b, v, e1, hb, hr, h1, h2, q⟩ => hr.useW X1 fun w s2 X2 k2 e2 => by
    rw [er_ref e1]
    obtain ⟨t, rfl⟩ := er_int e2
    obtain ⟨its, -, h3, h4, n, hn⟩ := listAt X2.rep hb
    have hz := size_er h3
    have hz1 : its.size = 1 := by simpa using hz
    have hne : its.isEmpty = false := by cases its with | mk l => cases l with | nil => simp at hz1 | cons _ _ => rfl
    refine wpAny_binaryOp_repeat_ref (T := "list") (U := "int") (by decide) ⟨_, hn, rfl⟩ (fun s' => typeIs_int s' k t) noFill_list_mul F.fills_int_mul F.slot_int_rmul repeat_list F.slot_int_index.lookup
      (call_meets F.slot_int_rmul (typeIs_int s2 k t) F.entry_int_rmul (F.args_int_rmul_2 _ _) (int___rmul___int_list k t b its n)
        ⟨hn, rfl, ⟨_, hn, rfl⟩, call_meets F.slot_list_mul ⟨_, hn, rfl⟩ F.entry_list_mul (F.args_list_mul_2 _ _)
          (AutoListH.list___mul___list_int_3 b its n k t (by simp [Builtin.List.listFitsIndex]; kspl_open wln) (by rw [hz1]; kspl_open wln) (by rw [hz1]; simp [Builtin.List.listTooLong, sizeLine]; kspl_open wln)) ⟨hn, ?_⟩⟩)
    have hl : (List.foldl (fun x1 x2 => x1 ++ x2) #[] (List.replicate (if its.isEmpty = true then 0 else k.toNat) its)).toList.map er = List.replicate k.toNat v := by
      rw [hne, if_neg (by decide)]
      have := foldl_app its.toList k.toNat #[]
      rw [show its.toList.toArray = its from by simp] at this
      rw [this]
      simp only [List.nil_append]
      rw [List.map_flatten, List.map_replicate, h3]
      generalize k.toNat = m
      induction m with
      | zero => rfl
      | succ m ih => rw [List.replicate_succ, List.flatten_cons, ih, List.replicate_succ]; rfl
    obtain ⟨Y, kp, hnn⟩ := X2.alloc (o := .list (List.replicate k.toNat v)) (ob := { cls := .type "list", data := .seq (List.foldl (fun x1 x2 => x1 ++ x2) #[] (List.replicate (if its.isEmpty = true then 0 else k.toNat) its)) }) ⟨_, _, rfl, hl, by simp; kspl_open wln⟩ rfl
    exact Y.post (k1.trans (k2.kp.trans kp)) (q _ hnn))
end
section
variable {f : Fx} {ρ : Loc} {σ : St}

/-- a list and a list -/
theorem WV.addL {l r : Expr} {p : Pos} {Q : Value → St → Prop} (h : WV f ρ σ (eval l f.env) fun a σ1 => WV f ρ σ1 (eval r f.env) fun b σ2 => (Ey4 fun x y xs ys => Ay6 (a = .ref x) (b = .ref y) (σ2 x = some (.list xs)) (σ2 y = some (.list ys)) (xs.length + ys.length ≤ 1000000) (∀ d, σ2 d = none → Q (.ref d) (σ2.set d (.list (xs ++ ys)))))) :
    WV f ρ σ (eval (.BinOp l .Add r p) f.env) Q := fun A s X =>
  wpAny_BinOp (WX.use h X fun u s1 σ1 X1 k1 q => WX.use q X1 fun w s2 σ2 X2 k2 tq => by
    obtain ⟨x, y, xs, ys, e1, e2, hx, hy, hl, q⟩ := tq
    rw [er_ref e1, er_ref e2]
    obtain ⟨its, -, h3, h4, n, hn⟩ := listAt X2.rep hx
    obtain ⟨its2, -, h3', h4', n', hn'⟩ := listAt X2.rep hy
    have z1 := size_er h3
    have z2 := size_er h3'
    refine PySem.P.add_list hn hn' ?_ (by rw [sizeLine_eq]; kspl_open wln)
    obtain ⟨Y, kp, hnn⟩ := X2.alloc (o := .list (xs ++ ys)) (ob := { cls := .type "list", data := .seq (its ++ its2) }) ⟨_, _, rfl, by simp [h3, h3'], by simpa using hl⟩ rfl
    exact Y.post (k1.trans (k2.trans kp)) (q _ hnn))
theorem WV.addLO {σ0 : St} {l r : Expr} {p : Pos} {x : Addr} {xs : List Value} {w : Bool} {Q : Value → St → Prop} (hl : PE f ρ σ l (.ref x))
    (hr : WV f ρ σ (eval r f.env) fun b σ2 => (Ey3 fun y ys L2 => Ay6 (b = .ref y) (Own f.fz σ0 σ2 L2) ((x, .list xs, w) ∈ L2) (((Ey1 fun w' => (y, .list ys, w') ∈ L2))) (xs.length + ys.length ≤ 1000000) (∀ d σ', Own f.fz σ0 σ' ((d, .list (xs ++ ys), true) :: L2) → Q (.ref d) σ'))) : WV f ρ σ (eval (.BinOp l .Add r p) f.env) Q :=
  WV.addL (WV.pe hl (WX.mono hr fun b σ2 tq => by obtain ⟨y, ys, L2, e, H, h1, ⟨w', h2⟩, hl, q⟩ := tq; exact ⟨x, y, xs, ys, rfl, e, H.get _ _ _ h1, H.get _ _ _ h2, hl, fun d hd => q d _ (H.alloc hd)⟩))
end
section
/-! plain: rows of text -/
noncomputable def NL (x : Str) : Prop := 10 ∉ x.cps.toList
noncomputable abbrev nlS : Str := ⟨#[10]⟩
theorem NL.app {x y : Str} (h : NL x) (h' : NL y) : NL (x ++ y) := by
  unfold NL at *
  rw [PySem.Str.cps_append, Array.toList_append, List.mem_append]
  exact fun e => e.elim h h'
theorem NL.int (i : Int) : NL (Str.ofString (toString i)) := int_text_free' 10 ⟨by decide, .inl (by decide)⟩ i
theorem cps_join : ∀ (a : Str) (b : Str) (r : List Str), (Str.join nlS (a :: b :: r)).cps.toList = a.cps.toList ++ 10 :: (Str.join nlS (b :: r)).cps.toList := by
  intro a b r
  show (a ++ nlS ++ Str.join nlS (b :: r)).cps.toList = _
  simp [PySem.Str.cps_append]
theorem cut_inj : ∀ {a b r r' : List Nat}, 10 ∉ a → 10 ∉ b → a ++ 10 :: r = b ++ 10 :: r' → a = b ∧ r = r'
  | [], [], _, _, _, _, e => by simp at e; exact ⟨rfl, e⟩
  | [], y :: b, _, _, _, hb, e => by simp at e; exact absurd e.1 (by rintro rfl; simp at hb)
  | x :: a, [], _, _, ha, _, e => by simp at e; exact absurd e.1 (by rintro rfl; simp at ha)
  | x :: a, y :: b, _, _, ha, hb, e => by
    simp only [List.cons_append, List.cons.injEq] at e
    obtain ⟨h1, h2⟩ := cut_inj (fun h => ha (List.mem_cons_of_mem _ h)) (fun h => hb (List.mem_cons_of_mem _ h)) e.2
    exact ⟨by rw [e.1, h1], h2⟩
theorem str_ext {a b : Str} (h : a.cps.toList = b.cps.toList) : a = b := PySem.Str.ext' (Array.toList_inj.mp h)
theorem join_inj : ∀ {l l' : List Str}, l ≠ [] → l' ≠ [] → (∀ x ∈ l, NL x) → (∀ x ∈ l', NL x) → Str.join nlS l = Str.join nlS l' → l = l'
  | [], _, h, _, _, _, _ => absurd rfl h
  | _, [], _, h, _, _, _ => absurd rfl h
  | [a], [b], _, _, _, _, e => by
    have e : a = b := e
    rw [e]
  | [a], b :: c :: r, _, _, ha, _, e => by
    have e : a.cps.toList = (Str.join nlS (b :: c :: r)).cps.toList := by rw [← e]; rfl
    rw [cps_join] at e
    exact absurd (show 10 ∈ a.cps.toList by rw [e]; simp) (ha a (by simp))
  | a :: c :: r, [b], _, _, _, hb, e => by
    have e : (Str.join nlS (a :: c :: r)).cps.toList = b.cps.toList := by rw [e]; rfl
    rw [cps_join] at e
    exact absurd (show 10 ∈ b.cps.toList by rw [← e]; simp) (hb b (by simp))
  | a :: c :: r, b :: d :: r', _, _, ha, hb, e => by
    have e : (Str.join nlS (a :: c :: r)).cps.toList = (Str.join nlS (b :: d :: r')).cps.toList := by rw [e]
    rw [cps_join, cps_join] at e
    obtain ⟨h1, h2⟩ := cut_inj (ha a (by simp)) (hb b (by simp)) e
    have := join_inj (l := c :: r) (l' := d :: r') (by simp) (by simp) (fun x hx => ha x (List.mem_cons_of_mem _ hx)) (fun x hx => hb x (List.mem_cons_of_mem _ hx)) (str_ext h2)
    rw [str_ext h1, this]
theorem split_back {l : List Str} (h0 : l ≠ []) (h : ∀ x ∈ l, NL x) : Txt.split (Str.join nlS l) nlS = l := by
  have hp : 1 ≤ (Txt.split (Str.join nlS l) nlS).length := split_pos _ _
  refine join_inj (by intro e; rw [e] at hp; simp at hp) h0 (PySem.StrLaws.split_free _ 10) h ?_
  exact PySem.StrLaws.join_split _ _
theorem starts_app (x y : Str) : Txt.startswith (x ++ y) x = true := by
  unfold Txt.startswith
  rw [PySem.StrLaws.subAt_eq]
  have : (x ++ y).cps.toList = x.cps.toList ++ y.cps.toList := by simp [PySem.Str.cps_append]
  rw [this]
  have hl : x.length = x.cps.toList.length := by simp [Str.length]
  simp [Str.length_append, hl]
end
section
variable {f : Fx} {ρ : Loc} {σ : St}

noncomputable abbrev strL (xs : List Str) : List Value := xs.map fun x => .str x 0
theorem strs_of : ∀ {vs : List Value} {xs : List Str}, vs.map er = strL xs → ∃ l : List (Str × Tok), vs = strValues l ∧ l.map (·.1) = xs
  | [], [], _ => ⟨[], rfl, rfl⟩
  | [], _ :: _, h => by cases h
  | _ :: _, [], h => by cases h
  | v :: vs, x :: xs, h => by
    simp only [strL, List.map_cons, List.cons.injEq] at h
    obtain ⟨t, rfl⟩ := er_str h.1
    obtain ⟨l, h1, h2⟩ := strs_of h.2
    exact ⟨(x, t) :: l, by rw [h1]; rfl, by simp [h2]⟩
theorem er_strs (l : List (Str × Tok)) : (strValues l).map er = strL (l.map (·.1)) := by
  unfold strValues strL
  rw [List.map_map, List.map_map]; rfl
theorem Mth.strM {x : Str} {name : Str} {b : String} (h : ∀ (M : Model) (A : Around) (E : Value → Shared → Prop) (s : Shared) (t : Tok) (pl : Sem Bool) (P : Value × List Value → Shared → Prop), P (.builtin b, [.str x t]) s → wpAny M A (getMethod (.str x t) name pl) P E s) : Mth f σ (.str x 0) name b := fun ρ A s raw pl P X e p => by
  obtain ⟨t, rfl⟩ := er_str e
  exact h _ _ _ _ _ _ _ p
theorem Mth.join {x : Str} : Mth f σ (.str x 0) "join" "str.join" := Mth.strM fun _ _ _ _ _ _ _ p => PySem.GM.join p
theorem Mth.split {x : Str} : Mth f σ (.str x 0) "split" "str.split" := Mth.strM fun _ _ _ _ _ _ _ p => PySem.GM.split p
theorem Mth.starts {x : Str} : Mth f σ (.str x 0) "startswith" "str.startswith" := Mth.strM fun _ _ _ _ _ _ _ p => PySem.GM.startswith p
theorem WC.join {c : Cx} {n : Nat} {fz : Addr → Prop} {D : Addr} {x : Str} {xs : List Str} {Q : Value → St → Prop} (hD : σ D = some (.list (strL xs))) (hb : ∀ y ∈ xs, y.length ≤ 1000) (hl : xs.length ≤ 1000) (hx : x.length ≤ 1000) (q : Q (.str (Str.join x xs) 0) σ) : WC c n fz σ (.builtin "str.join") [.str x 0, .ref D] Q := fun A s raw e ok room r sh => by
  obtain ⟨u, w, rfl, e1, e2⟩ := raw2 e
  obtain ⟨t, rfl⟩ := er_str e1
  rw [er_ref e2]
  obtain ⟨its, h1, h2, h3, -⟩ := listAt r hD
  obtain ⟨l, h4, h5⟩ := strs_of h2
  refine PySem.SC.join (l := l) (texts := xs) (by rw [← h4]; simpa using h1) h5 ?_ fun t' k => ⟨σ, r, Kp.refl _ _, sh.heap _ _, ?_⟩
  · unfold JoinOk
    have := PySem.StrLaws.joinFits (sep := x) (texts := xs) (B := 1000) hb (by
      have h1 : xs.length * 1000 ≤ 1000 * 1000 := Nat.mul_le_mul_right _ hl
      have h2 : xs.length * x.length ≤ 1000 * 1000 := Nat.mul_le_mul hl hx
      lia)
    rw [this]; rfl
  · show Q (.str (Txt.join x xs) 0) σ
    rw [show Txt.join x xs = Str.join x xs from PySem.StrLaws.glued_eq_join x xs]; exact q
theorem WC.starts {c : Cx} {n : Nat} {fz : Addr → Prop} {x y : Str} {Q : Value → St → Prop} (q : Q (.bool (Txt.startswith x y)) σ) : WC c n fz σ (.builtin "str.startswith") [.str x 0, .str y 0] Q := fun A s raw e ok room r sh => by
  obtain ⟨u, w, rfl, e1, e2⟩ := raw2 e
  obtain ⟨t, rfl⟩ := er_str e1
  obtain ⟨t', rfl⟩ := er_str e2
  exact PySem.SC.startswith ⟨σ, r, Kp.refl _ _, sh, q⟩
theorem WC.split {c : Cx} {n : Nat} {fz : Addr → Prop} {x y : Str} {Q : Value → St → Prop} (hx : x.length ≤ 500000) (hy : (y.length == 0) = false) (q : ∀ D, σ D = none → Q (.ref D) (σ.set D (.list (strL (Txt.split x y))))) : WC c n fz σ (.builtin "str.split") [.str x 0, .str y 0] Q := fun A s raw e ok room r sh => by
  obtain ⟨u, w, rfl, e1, e2⟩ := raw2 e
  obtain ⟨t, rfl⟩ := er_str e1
  obtain ⟨t', rfl⟩ := er_str e2
  have hb : (s.heap.objs.size == sysModules) = false := by
    have := PyProof.Rows.modules_low (ok.lim.keeps r.base)
    exact beq_eq_false_iff_ne.mpr (Nat.ne_of_gt this)
  have hlen := split_le x y
  have fin : ∀ (l : List (Str × Tok)) (tk : Nat), l.map (·.1) = Txt.split x y → Post c fz σ s (fun v σ' => Q (er v) σ') (.ref s.heap.objs.size) { s with toks := tk, heap := s.heap.push { cls := .type "list", data := .seq (strValues l).toArray } } := fun l tk hl =>
    ⟨_, r.push (o := .list (strL (Txt.split x y))) ⟨_, _, rfl, by rw [← hl, ← er_strs], by simp; kspl_open wln⟩ rfl hb, Kp.push _ _, sh.heap _ _, q _ (St.le_none r)⟩
  cases h1 : (decide (x.length < y.length) || decide (Builtin.Str.strKind x < Builtin.Str.strKind y))
  · cases hf : (Builtin.Str.occurrences x y 0 x.length (x.length + 1)).isEmpty
    · have hn : (Builtin.Str.partsBetween x (Builtin.Str.occurrences x y 0 x.length (x.length + 1)) y.length).length ≤ sizeLine := by
        have : Txt.split x y = Builtin.Str.partsBetween x (Builtin.Str.occurrences x y 0 x.length (x.length + 1)) y.length := (if_neg (ne_true_of_eq_false h1)).trans (if_neg (ne_true_of_eq_false hf))
        rw [← this, sizeLine_eq]; kspl_open wln
      refine call_meets F.slot_str_split (typeIs_str _ _ _) F.entry_str_split (F.args_str_split_2 _ _) (meets_str_split_sep x y t t' h1 hy hf (by rw [sizeLine_eq]; kspl_open wln) hn) ?_
      show Post c fz σ s _ _ { s with toks := _, heap := s.heap.push { cls := .type "list", data := .seq (strsFrom s.toks (Builtin.Str.partsBetween x (Builtin.Str.occurrences x y 0 x.length (x.length + 1)) y.length)).toArray } }
      rw [strsFrom_eq]
      exact fin _ _ ((numbered_texts _ _).trans ((if_neg (ne_true_of_eq_false h1)).trans (if_neg (ne_true_of_eq_false hf))).symm)
    · exact call_meets F.slot_str_split (typeIs_str _ _ _) F.entry_str_split (F.args_str_split_2 _ _) (meets_str_split_not_found x y t t' h1 hy hf)
        (fin [(x, t)] s.toks ((if_neg (ne_true_of_eq_false h1)).trans (if_pos hf)).symm)
  · exact call_meets F.slot_str_split (typeIs_str _ _ _) F.entry_str_split (F.args_str_split_2 _ _) (meets_str_split_cannot_occur x y t t' h1)
      (fin [(x, t)] s.toks (if_pos h1).symm)
/-- a letter of a text -/
theorem Itm.str {x : Str} {i : Int} {c : Nat} (h0 : 0 ≤ i) (hi : i < x.length) (hl : x.length ≤ 1000) (hc : x.cps[i.toNat]? = some c) : Itm f ρ σ (.str x 0) (.int i 0) (.str ⟨#[c]⟩ 0) := fun value slice hp u w e1 e2 => by
  obtain ⟨t, rfl⟩ := er_str e1
  obtain ⟨t', rfl⟩ := er_int e2
  refine Pr.mk fun _ s _ X k => ?_
  refine tail_any (typeIs_str s x t) F.slot_str_getitem.lookup (PySem.P.getItem_str (c := c) ?_ ?_ (k _ _ (X.tok _) (Ka.refl _) rfl)) (subscripted_plain hp)
  · simp; kspl_open wln
  · have : seqIndex? i x.length = some i.toNat := by unfold seqIndex?; simp; kspl_open wln
    rw [this]; exact hc
end
section
variable {f : Fx} {ρ : Loc} {σ : St}

/-! a comprehension over a tuple of the written heap, of tuples -/
noncomputable abbrev tupO (its : Array Value) : Obj := { cls := .type "tuple", data := .seq its }
theorem tg_names {fr : List (Str × Value)} {f' : Fx} {A : Around} {ts : List Expr} {ns : List Str} (hn : NameL ts ns) : ∀ {vs raw : List Value} {ρo ρo' : Loc} {s : Shared} {P : Unit → Shared → Prop}, StA ns vs ρo ρo' → raw.map er = vs → At f' (ρo ++ frL fr) σ A s →
    (∀ s', At f' (ρo' ++ frL fr) σ A s' → (∀ b o, ¬ Pl f' (ρo.map (·.1)) b → s.heap.get? b = some o → s'.heap.get? b = some o) → P () s') → wpAny (model prg f'.c.w) A (assignInOrder ((assignEach ts f'.env).map (·.2)) raw) P NoE s := by
  induction hn with
  | nil => intro vs raw ρo ρo' s P h e X k; cases h; exact wpAny_pure (k _ X fun _ _ _ e => e)
  | cons x p hn ih =>
    intro vs raw ρo ρo' s P h e X k
    cases h with
    | cons h1 h2 =>
      cases raw with
      | nil => cases e
      | cons r raw =>
        simp only [List.map_cons, List.cons.injEq] at e
        show wpAny _ _ (do PySem.holding raw (assign (.Name x p) f'.env r); assignInOrder _ raw) _ _ _
        refine wpAny_bind (wpAny_holding ((TG.name h1).2 f' A s r _ X e.1 fun s1 X1 k1 => ih h2 e.2 X1 fun s2 X2 k2 => k s2 X2 fun b o hb g => k2 b o ?_ (k1 b o hb g)))
        rwa [h1.names]
theorem TG.tup {fr : List (Str × Value)} {ts : List Expr} {ns : List Str} {its : Array Value} {vs : List Value} {ρo ρo' : Loc} {t : Addr} {k : Nat} {p : Pos} (ht : ∀ P, (KK P).lookup t = some (tupO its)) (hv : its.toList.map er = vs) (hn : NameL ts ns) (h : StA ns vs ρo ρo') : TG fr σ (.Tuple ts k p) (.ref t) ρo ρo' := ⟨h.names, fun f' A s u P X e kk => by
  rw [er_ref e]
  have hl : IsTup s.heap t its := ⟨_, X.r.kin _ _ (ht _), rfl, _, rfl⟩
  obtain ⟨e1, e2⟩ := hn.each f'.env
  refine assign_Tuple_tuple X.room.2.2 hl (by rw [e1, size_er hv, h.length]) e2 fun h' hx => ?_
  refine tg_names hn h hv (X.ka (ka_ext hx) (X.sh.heap _ s.toks)) fun s' X' k' => kk s' X' fun b o hb g => k' b o hb (ka_ext hx b o g)⟩
theorem WV.compB {elt iter : Expr} {ts : List Expr} {kt : Nat} {pt : Pos} {ns : List Str} {ifs : List Expr} {sc : Scope} {pos : Pos} {Q : Value → St → Prop} (ol : List Str) (oc : Option Str) (fr : List (Str × Value)) (gl cl : List Str) {a : Addr} {its : Array Value} (ho : CW sc ol oc (fr.map (·.1)) gl cl) (hfr : ∀ p ∈ fr, (p.1, some p.2) ∈ ρ ∧ p.1 ∈ f.cl)
    (hi : PE f ρ σ iter (.ref a)) (hb : ∀ P, (KK P).lookup a = some (tupO its)) (hl : its.size ≤ 1000) (hn : NameL ts ns) (I : Nat → Loc → List Value → St → Prop) (h0 : I 0 (ownL ol oc) [] σ)
    (hturn : ∀ L i v ρo ys σi, its[i]? = some v → I i ρo ys σi → ∃ t jts vs ρo', v = .ref t ∧ (∀ P, (KK P).lookup t = some (tupO jts)) ∧ jts.toList.map er = vs ∧ StA ns vs ρo ρo' ∧ WX ((cwFx f sc oc gl cl L).more (· = a)) (ρo' ++ frL fr) σi (tests ifs (cwFx f sc oc gl cl L).env) fun ok σ3 => if ok = true then WV ((cwFx f sc oc gl cl L).more (· = a)) (ρo' ++ frL fr) σ3 (eval elt (cwFx f sc oc gl cl L).env) fun y σ4 => I (i + 1) ρo' (ys ++ [y]) σ4 else I (i + 1) ρo' ys σ3)
    (hend : ∀ ρo ys σi b, I its.size ρo ys σi → σi b = none → Q (.ref b) (σi.set b (.list ys)))
    (hns : ∀ x, foldedSetIterable iter f.env x = Pure.pure x := by intro _; rfl) : WV f ρ σ (eval (.ListComp elt [⟨.Tuple ts kt pt, iter, ifs, 0⟩] sc pos) f.env) Q := fun A s X => by
  rw [eval_ListComp]
  refine wpAny_comprehension_free (cl := clOf f.env sc.names) (use := none) rfl hns (closureFor_eq fun y hy => ?_) ho.kind ho.names (hi.useW X fun u s1 X1 k1 e1 => ?_)
  · obtain ⟨p, hp, rfl⟩ := List.mem_map.mp (ho.sub y hy)
    exact (X.env.cls _ (hfr p hp).2).2
  rw [er_ref e1]
  have ga : s1.heap.get? a = some (tupO its) := X1.r.kin _ _ (hb _)
  have hl1 : s1.heap.IsTuple a its := ⟨_, ga, rfl, 0, rfl⟩
  have hne : a ≠ s1.heap.objs.size := Nat.ne_of_lt (Heap.lt_size ga)
  have hl' : (s1.heap.push { cls := .type "tuple_iterator", data := .fields #[.ref a, .int 0 0] }).IsTuple a its := hl1.push _
  refine wpAny_pyIter_tuple hl1 ?_
  have X2 := X1.ka (push_ka s1 { cls := .type "tuple_iterator", data := .fields #[.ref a, .int 0 0] }) (X1.sh.heap _ s1.toks)
  have hsz : (its.toList.map er).length = its.size := by simp
  have core := compL_core (RR := compPost (model prg f.c.w) A NoE none (Post f.c f.fz σ s1 fun v σ' => Q (er v) σ')) (xs := its.toList.map er) (elt := elt) (target := .Tuple ts kt pt) (iter := iter) (ifs := ifs) (pos := pos) (D := (· = a)) (fp := [s1.heap.objs.size, a]) X1 X2 (push_ka s1 _) ho hfr (fun b e => .inr (by
      rw [e]
      have := X1.ok.K _ _ (hb f.c.w.params)
      rw [this]; simp)) (walks_len (Walks.tuple X1.room.2.2 s1.heap.objs.size a hne its) hsz.symm) ⟨⟨_, Heap.get?_push_size _ rfl, rfl, rfl⟩, hl'⟩ (fun i v hi hv => by rw [getElem_er rfl, hv]; rfl) (fresh_none _) (fun i h st => by obtain ⟨o, ho, _⟩ := st.1; exact ⟨o, ho⟩) (fun b hb => by simpa using hb)
      (fun i v s P st h => ?_) (by rw [hsz]; kspl_open wln) I h0 (fun L i v ρo ys σi hx hI => ?_) fun Dad L ρo ys σi s5 h' tk T C hk hys hI => compL_post T C hk (by kspl_open wln) (hend ρo ys σi _ (hsz ▸ hI) C.dn)
  · have wk : ∀ (acc : Value) (C : Addr) (r : Result) (s' : Shared), compPost (model prg f.c.w) A NoE none (Post f.c f.fz σ s1 fun v σ' => Q (er v) σ') acc C r s' → compPost (model prg f.c.w) A NoE none (Post f.c f.fz σ s fun v σ' => Q (er v) σ') acc C r s' := by
      intro acc C r s' h
      cases r with
      | ok fl =>
        obtain ⟨m, h1, h2⟩ := h
        refine ⟨m, h1, fun h' sb => ?_⟩
        obtain ⟨σ', a1, a2, a3, a4⟩ := h2 h' sb
        exact ⟨σ', a1, k1.kp.trans a2, a3, a4⟩
      | error e => exact h
    exact wpAny_mono core (fun acc s3 h3 => wpAny_mono h3 (fun cenv s4 h4 => codeAny_mono h4 fun r s' hr => wk _ _ _ _ hr) fun _ _ e => e) fun _ _ e => e
  · unfold letOwnedTupleGo
    obtain ⟨o, g, hc, hd⟩ := st.1
    cases v with
    | ref w =>
      refine wpAny_bind (wpAny_load g ?_)
      rw [hc, hd]
      exact wpAny_pure h
    | _ => exact wpAny_pure h
  · rw [getElem_er rfl] at hx
    obtain ⟨v', hv', rfl⟩ := Option.map_eq_some_iff.mp hx
    obtain ⟨t, jts, vs, ρo', rfl, q1, q2, q3, q4⟩ := hturn L i v' ρo ys σi hv' hI
    exact ⟨ρo', TG.tup q1 q2 hn q3, q4⟩

/-! strings -/
theorem WV.addS {l r : Expr} {p : Pos} {Q : Value → St → Prop} (h : WV f ρ σ (eval l f.env) fun v σ1 => (Ey1 fun x => Ay2 (v = .str x 0) (WV f ρ σ1 (eval r f.env) fun u σ2 => (Ey1 fun y => Ay3 (u = .str y 0) (x.length + y.length ≤ 1000000) (Q (.str (x ++ y) 0) σ2))))) : WV f ρ σ (eval (.BinOp l .Add r p) f.env) Q := fun A s X =>
  wpAny_BinOp (WX.use h X fun u s1 σ1 X1 k1 tq => by
    obtain ⟨x, e1, q⟩ := tq
    refine WX.use q X1 fun w s2 σ2 X2 k2 tr => ?_
    obtain ⟨y, e2, hl, q⟩ := tr
    obtain ⟨t, rfl⟩ := er_str e1; obtain ⟨t', rfl⟩ := er_str e2
    exact SB.add (fun t'' kk => (X2.ka (s' := { s2 with toks := kk }) (fun _ _ e => e) (X2.sh.heap _ _)).post (k1.trans k2) q) (by rw [sizeLine_eq]; kspl_open wln))
theorem strOf_len (x : String) : (Str.ofString x).length = x.length := PySem.ofString_length ..
/-- a text with no newline, not long -/
noncomputable def Sm (n : Nat) (x : Str) : Prop := NL x ∧ x.length ≤ n
theorem Sm.app {a b : Nat} {x y : Str} (h : Sm a x) (h' : Sm b y) : Sm (a + b) (x ++ y) := ⟨h.1.app h'.1, by rw [Str.length_append]; have := h.2; have := h'.2; kspl_open wln⟩
theorem Sm.le {a b : Nat} {x : Str} (h : Sm a x) (hab : a ≤ b) : Sm b x := ⟨h.1, Nat.le_trans h.2 hab⟩
theorem Sm.int {i : Int} (h : i.natAbs ≤ 1000) : Sm 5 (Str.ofString (toString i)) := ⟨NL.int i, by
  have := int_text_length_le10 (a := i) (k := 4) (by decide) (by kspl_open wln)
  rw [strOf_len]; exact this⟩
theorem len_join (s : Str) (B : Nat) : ∀ l : List Str, (∀ x ∈ l, x.length ≤ B) → (Str.join s l).length ≤ l.length * (B + s.length)
  | [], _ => by simp [Str.join]; decide
  | [a], h => by have := h a (by simp); show a.length ≤ _; simp; kspl_open wln
  | a :: b :: r, h => by
    have ih := len_join s B (b :: r) fun x hx => h x (List.mem_cons_of_mem _ hx)
    have ha := h a (by simp)
    show (a ++ s ++ Str.join s (b :: r)).length ≤ _
    rw [Str.length_append, Str.length_append, List.length_cons, Nat.succ_mul]
    lia
theorem NL.join {s : Str} (hs : NL s) : ∀ l : List Str, (∀ x ∈ l, NL x) → NL (Str.join s l)
  | [], _ => by show NL (Str.join s []); unfold NL Str.join; decide
  | [a], h => h a (by simp)
  | a :: b :: r, h => ((h a (by simp)).app hs).app (NL.join hs (b :: r) fun x hx => h x (List.mem_cons_of_mem _ hx))
/-- an expression that gives a short row of text -/
noncomputable def PS (f : Fx) (ρ : Loc) (σ : St) (e : Expr) (n : Nat) : Prop := ∃ x, PE f ρ σ e (.str x 0) ∧ Sm n x
theorem WV.ps {e : Expr} {n : Nat} {Q : Value → St → Prop} (h : PS f ρ σ e n) (q : ∀ x, Sm n x → Q (.str x 0) σ) : WV f ρ σ (eval e f.env) Q :=
  let ⟨x, h1, h2⟩ := h; WV.pe h1 (q x h2)
theorem PS.name {x : Str} {p : Pos} {y : Str} {n : Nat} (hm : (x, some (.str y 0)) ∈ ρ) (h : Sm n y) : PS f ρ σ (.Name x p) n := ⟨y, PE.name hm, h⟩
theorem PS.ite {t a b : Expr} {p : Pos} {c : Bool} {n : Nat} (ht : PT f ρ σ t c) (h1 : PS f ρ σ a n) (h2 : PS f ρ σ b n) : PS f ρ σ (.IfExp t a b p) n := by
  obtain ⟨x, h1, h3⟩ := h1
  obtain ⟨y, h2, h4⟩ := h2
  have := PE.ite (p := p) ht (fun _ => h1) (fun _ => h2)
  cases c
  · exact ⟨y, this, h4⟩
  · exact ⟨x, this, h3⟩
theorem PS.add {l r : Expr} {p : Pos} {a b : Nat} (h : PS f ρ σ l a) (h' : PS f ρ σ r b) (hab : a + b ≤ 1000 := by decide) : PS f ρ σ (.BinOp l .Add r p) (a + b) := by
  obtain ⟨x, h1, h2⟩ := h
  obtain ⟨y, h3, h4⟩ := h'
  exact ⟨_, PE.bin h1 h3 (Bin.addS (by have := h2.2; have := h4.2; kspl_open wln)), h2.app h4⟩
theorem PS.lit {x : Str} {k : Nat} {p : Pos} (n : Nat) (h : Sm n x) : PS f ρ σ (.Constant (.str x) k p) n := ⟨x, PE.str, h⟩
theorem PS.int {e : Expr} {p p' : Pos} {i : Int} (hm : ("str" : Str) ∈ f.gl) (he : PE f ρ σ e (.int i 0)) (h : i.natAbs ≤ 1000) (hes : plainS e = true := by rfl) : PS f ρ σ (.Call (.Name "str" p') [e] [] p) 5 :=
  ⟨_, PE.strI hm he (by
    have h2 : i.natAbs < 2 ^ 1920 := Nat.lt_of_lt_of_le (show i.natAbs < 2 ^ 11 by kspl_open wln) (Nat.pow_le_pow_right (by decide) (by decide))
    by_cases e : i.natAbs = 0
    · rw [e]; decide
    · exact (Nat.log2_lt e).mpr h2) hes, Sm.int h⟩
end
section
variable {f : Fx} {ρ : Loc} {σ : St}

theorem WV.appendW {σ0 : St} {L : List Ent} {o e : Expr} {apos pos : Pos} {a : Addr} {xs : List Value} {w : Bool} {Q : Value → St → Prop} (ho : PE f ρ σ o (.ref a)) (hx : (a, .list xs, w) ∈ L) (H : Own f.fz σ0 σ L)
    (he : WV f ρ σ (eval e f.env) fun v σ1 => (Ey3 fun ys L1 L' => Ay4 (Own f.fz σ0 σ1 L1) (Put a (.list ys) (.list (ys ++ [v])) L1 L') (ys.length < 1000000) (∀ σ', Own f.fz σ0 σ' L' → Q .none σ')))
    (hb : plainB o = true := by rfl) (hps : (apos.endLine == pos.line) = true := by rfl) (hes : plainS e = true := by rfl) : WV f ρ σ (eval (.Call (.Attribute o "append" apos) [e] [] pos) f.env) Q := by
  refine WV.meth (b := "list.append") (WV.pe ho ⟨Mth.append (H.get _ _ _ hx), WLs.cons (WX.mono he ?_) hes⟩) hb hps (by simp [hes]) (by simp)
  rintro v σ1 ⟨ys, L1, L', H1, hp, hl, q⟩
  exact WLs.nil (WC.append (H1.get _ _ _ hp.mem) hl (H1.wr _ _ hp.mem) (q _ (H1.turn hp)))
theorem WV.and1 {e : Expr} {p : Pos} {Q : Value → St → Prop} (h : WV f ρ σ (eval e f.env) Q) : WV f ρ σ (eval (.BoolOp .And [e] p) f.env) Q := h
/-- the walk of a def's body, of a def with defaults -/
theorem WC.fnB {c : Cx} {n : Nat} {fz : Addr → Prop} {a : Addr} {args : List Value} {ρ : Loc} {gl cl : List Str} {pa : List (Str × Value)} {rest : List Str} {Q : Value → St → Prop} (hρ : pa.map (fun p => (p.1, some p.2)) ++ rest.map (fun x => (x, none)) = ρ) (hfn : IsFn a)
    (hsc : ∀ P, scopeOk (fdo a P).scope (pa.map (·.1) ++ rest) gl cl (pa.map (·.1)) = true)
    (hb : ∀ raw s, raw.map er = args → (KK c.w.params).In s.heap → ∃ binds, BindsTo s (fdo a c.w.params) ⟨raw, []⟩ binds ∧ binds.map (fun p => (p.1, er p.2)) = pa)
    (h : ∀ env, SS ⟨c, n, fz, env, gl, cl⟩ ρ σ (bodyOf (fdo a c.w.params)) fun fl _ σ' => Q (retOf fl) σ') :
    WC c (n + 1) fz σ (.ref a) args Q := WC.fn hfn hsc hb fun env => WS.mono (hρ ▸ h env) fun fl ρ' σ' _ q => by
  have : er (retOf fl) = retOf (erF fl) := by cases fl <;> rfl
  rw [this]; exact q
theorem tests_oneW {c : Expr} {Q : Bool → St → Prop} (h : WT f ρ σ c Q) : WX f ρ σ (tests [c] f.env) Q := fun A s X => by
  unfold tests
  rw [List.forIn_cons]
  refine wpAny_bind ?_
  rw [if_pos rfl]
  refine wpAny_bind (WX.use h X fun b s1 σ1 X1 k1 q => wpAny_pure ?_)
  dsimp only
  rw [List.forIn_nil]
  exact wpAny_pure (X1.post k1 q)
end
section
variable {f : Fx} {ρ : Loc} {σ : St}

theorem WC.maxL {c : Cx} {n : Nat} {fz : Addr → Prop} {a : Addr} {ns : List Int} {Q : Value → St → Prop} (ha : σ a = some (.list (intL ns))) (hne : ns ≠ []) (q : ∀ M, M ∈ ns → (∀ x ∈ ns, x ≤ M) → Q (.int M 0) σ) : WC c n fz σ (.builtin "max") [.ref a] Q := fun A s raw e ok room r sh => by
  obtain ⟨u, rfl, e1⟩ := raw1 e
  rw [er_ref e1]
  obtain ⟨its, h1, h2, h3, -⟩ := listAt r ha
  have hi : IntsAre its.toList ns := intsAre_of h2
  obtain ⟨xs, hxs⟩ := hi.allInts.items
  have hnum := hi.numsOf
  rw [show its.toList.toArray = its from rfl] at hxs
  subst hxs
  rw [nums_intItems] at hnum
  have hsz : 0 < xs.size := by
    have h4 := size_er h2
    simp [intItems] at h4
    have := List.length_pos_iff.mpr hne
    lia
  refine max_intList room.2.2 h1 hsz fun v h' tk hv hk => ?_
  obtain ⟨t, rfl⟩ := intItems_at hv
  obtain ⟨h5, h6⟩ := argBest_gt (numAt xs) (xs.size - 1)
  have kk : Ka s { s with heap := h', toks := tk } := hk
  refine ⟨σ, r.ka kk, kk.kp, sh.heap _ _, q _ ?_ fun x hx => ?_⟩
  · rw [← hnum, numAt_eq]; exact getD_mem (by rw [List.length_map, Array.length_toList]; kspl_open wln)
  · rw [← hnum] at hx
    obtain ⟨j, hj, rfl⟩ := mem_getD hx
    rw [List.length_map, Array.length_toList] at hj
    rw [← numAt_eq]; exact h6 j (by kspl_open wln)
theorem valueAt_nd {kvs : List (Int × Value)} (nd : (kvs.map (·.1)).Nodup) {k : Int} {v : Value} (h : (k, v) ∈ kvs) : valueAt kvs k = some v := by
  unfold valueAt
  induction kvs with
  | nil => cases h
  | cons p r ih =>
    obtain ⟨n1, n2⟩ := List.nodup_cons.mp nd
    rcases List.mem_cons.mp h with e | h
    · subst e; simp
    · rw [List.find?_cons_of_neg]
      · exact ih n2 h
      · intro e
        have e : p.1 = k := by simpa using e
        exact n1 (List.mem_map.mpr ⟨(k, v), h, e.symm⟩)
theorem Cmp.neD {a b : Addr} {kvs : List (Int × Value)} (ha : σ a = some (.dic kvs)) (hb : σ b = some (.dic kvs)) (nd : (kvs.map (·.1)).Nodup) (hv : ∀ p ∈ kvs, ∃ i, p.2 = .int i 0) : Cmp f ρ σ .NotEq (.ref a) (.ref b) false := fun u v e1 e2 => by
  rw [er_ref e1, er_ref e2]
  refine Pr.mk fun A s P X k => ?_
  obtain ⟨ra, d1, q1, -⟩ := dicAt X.rep ha
  obtain ⟨rb, d2, q2, -⟩ := dicAt X.rep hb
  have hla : ra.length = rb.length := by have h1 := congrArg List.length q1; have h2 := congrArg List.length q2; simp at h1 h2; kspl_open wln
  have hits : ∀ l : List (Int × Value), (∀ p ∈ l, p ∈ ra) → KeqHits A.in1 s rb l true := by
    intro l
    induction l with
    | nil => intro _; exact .nil
    | cons p l ih =>
      intro h
      have hp : (p.1, er p.2) ∈ kvs := q1 ▸ List.mem_map.mpr ⟨p, h p (List.mem_cons_self ..), rfl⟩
      have h1 := valueAt_nd nd hp
      rw [valueAt_er q2] at h1
      obtain ⟨y, hy, ey⟩ := Option.map_eq_some_iff.mp h1
      obtain ⟨i, hi⟩ := hv _ hp
      obtain ⟨t, ht⟩ := er_int hi
      rw [show er p.2 = .int i 0 from hi] at ey
      obtain ⟨t', rfl⟩ := er_int ey
      have he : SeqAt.EqAt A.in1 s p.2 (.int i t') true := by
        rw [ht]
        have := SeqAt.EqAt.int_int (A := A.in1) (s := s) i t i t'
        simpa using this
      obtain ⟨pk, pv⟩ := p
      exact KeqHits.hit hy he (ih fun x hx => h x (List.mem_cons_of_mem _ hx))
  refine keq_ne (r := true) (X.rep.dm _ _ ha) (X.rep.dm _ _ hb) d1 d2 (by have := Room.u X.room; kspl_open wln) (fun _ => hits ra fun _ h => h) ?_
  rw [hla]
  simp
  exact k _ _ X (Ka.refl _) rfl
end
section
variable {f : Fx} {ρ : Loc} {σ : St}
theorem Subscript_plain {M : World} {A : Around} {E : Value → Shared → Prop} {s : Shared} {env : Env} {value : Expr} {lower upper : Option Expr} {p pos : Pos} {T id : String} {Q : Value → Shared → Prop}
    (hl : typeLookup (.type T) "__getitem__" = pure (some (.builtin id)))
    (h : wpAny (model prg M) A (eval value env) (fun o s₁ => wpAny (model prg M) A (eval (.Slice lower upper none p) env) (fun i s₂ => s₂.TypeIs o T ∧ wpAny (model prg M) A (getItem o i) Q E s₂) E s₁) E s) :
    wpAny (model prg M) A (eval (.Subscript value (.Slice lower upper none p) pos) env) Q E s := by
  rw [eval_Subscript]
  refine wpAny_bind (wpAny_mono h (fun o s₁ h₁ => wpAny_bind (wpAny_holding (wpAny_mono h₁ (fun i s₂ h₂ => wpAny_bind (wpAny_standAt ?_)) fun _ _ x => x)))
    fun _ _ x => x)
  have fin : wpAny (model prg M) A (operate [i, o] (getItem o i)) (fun r s₃ => wpAny (model prg M) A (letTemporaryGo value o r >>= fun _ => pure r) Q E s₃) E s₂ :=
    wpAny_operating (wpAny_mono h₂.2 (fun r s₃ h₃ => wpAny_bind (wpAny_letTemporaryGo (wpAny_pure h₃))) fun _ _ x => x)
  first
    | (refine wpAny_bind ?_
       rw [getitemInPython_of_ne h₂.1.not_modules]
       refine wpAny_bind (wpAny_specialOf h₂.1 hl ?_)
       first
         | exact wpAny_pure (wpAny_bind fin)
         | exact wpAny_bind (wpAny_pure (wpAny_bind fin))
         | exact wpAny_bind fin)
    | (refine wpAny_bind (wpAny_specialOf h₂.1 hl ?_)
       first
         | exact wpAny_bind (wpAny_pure (wpAny_bind fin))
         | exact wpAny_bind fin)
theorem WV.sliceA {value : Expr} {lo hi : Option Expr} {p pos : Pos} {Q : Value → St → Prop} (h : WV f ρ σ (eval value f.env) fun v σ1 => (Ey4 fun a xs l u => Ay5 (v = .ref a) (σ1 a = some (.list xs)) (PPart f ρ σ1 lo l) (PPart f ρ σ1 hi u) (∀ b, σ1 b = none → Q (.ref b) (σ1.set b (.list (picks xs l u none)))))) :
    WV f ρ σ (eval (.Subscript value (.Slice lo hi none p) pos) f.env) Q := fun A s X =>
  Subscript_plain (T := "list") list_getitem_lookup (WX.use h X fun v s1 σ1 X1 k1 ⟨a, xs, l, u, e, ha, hl, hu, q⟩ => wpAny_Slice (hl.use X1 fun vl s2 X2 k2 pl => hu.use X2 fun vu s3 X3 k3 pu => by
    obtain ⟨its, hl, h2, h3, -⟩ := listAt X3.rep ha
    obtain ⟨Y, kp, hn⟩ := X3.slice ha h2 h3 (lo := l) (hi := u) (st := none) { cls := .type "slice", data := .fields #[vl, vu, .none] }
    rw [er_ref e, evalPart_none]
    refine wpAny_pure ⟨(hl.push _).typeIs, wpAny_getItem_list_slice (hl.push _) (Heap.IsSliceOf.new ..) pl pu .none (by simp) ?_ (by rw [sizeLine_eq, size_er h2]; kspl_open wln)⟩
    rw [Heap.size_push]
    exact Y.post (k1.trans (k2.kp.trans (k3.kp.trans kp))) (q _ hn)))
end
section
variable {f : Fx} {ρ : Loc} {σ : St}

/-! bools in a list -/
noncomputable abbrev bolL (bs : List Bool) : List Value := bs.map .bool
noncomputable def isB (b : Bool) : Value → Bool
  | .bool c => c == b
  | _ => false
theorem er_bools : ∀ {its : List Value} {bs : List Bool}, its.map er = bolL bs → its = bolL bs
  | [], [], _ => rfl
  | [], _ :: _, h => by cases h
  | _ :: _, [], h => by cases h
  | v :: its, b :: bs, h => by
    simp only [bolL, List.map_cons, List.cons.injEq] at h
    rw [er_bool h.1, er_bools h.2]; rfl
theorem any_isB (b : Bool) (bs : List Bool) : (bolL bs).any (isB b) = bs.any (· == b) := by
  induction bs with
  | nil => rfl
  | cons c bs ih => simp only [List.map_cons, List.any_cons, ih]; rfl
theorem Cmp.notInB {a : Addr} {bs : List Bool} {b : Bool} (ha : σ a = some (.list (bolL bs))) : Cmp f ρ σ .NotIn (.bool b) (.ref a) (!(bs.any (· == b))) := fun u w e1 e2 => by
  rw [er_ref e2, er_bool e1]
  refine Pr.mk fun A s _ X k => ?_
  obtain ⟨its, hl, h2, h3, -⟩ := listAt X.rep ha
  have hb := er_bools h2
  refine SeqInW.notIn_listW (isB b) (fun y hy => ?_) hl ?_
  · have hy : y ∈ its.toList := by simpa using hy
    rw [hb] at hy
    obtain ⟨c, -, rfl⟩ := List.mem_map.mp hy
    exact fun prog w A E s Q h => SeqAt.EqAt.bool_bool c b prog w E Q h
  · rw [← Array.any_toList, hb, any_isB]
    exact k _ _ X (Ka.refl _) rfl

/-! ints in a range -/
theorem meets_range (r : Addr) (a b c k : Int) (t u v x : Tok) : Meets (Builtin.«range.__contains__» ⟨[.ref r, .int k x], []⟩)
    (fun _ R s => s.heap.get? r = some { cls := .type "range", data := .fields #[.int a t, .int b u, .int c v] } ∧ R (.ok (.ret (.bool (Builtin.Range.rangePlace? a b c k).isSome))) s) :=
  .of_wp fun prog w A R s h => by obtain ⟨hp, g, d, tk, os⟩ := s; obtain ⟨hl, h⟩ := h; wp_walk; exact ⟨_, rfl, h⟩
theorem place_rng (n k : Int) : (Builtin.Range.rangePlace? 0 n 1 k).isSome = (decide (0 ≤ k) && decide (k < n)) := by
  unfold Builtin.Range.rangePlace?
  have h1 : k % 1 = 0 := Int.emod_one k
  simp [h1]
  split <;> simp_all
theorem Cmp.notInR {a : Addr} {n k : Int} (ha : σ a = some (.rng n)) : Cmp f ρ σ .NotIn (.int k 0) (.ref a) (!(decide (0 ≤ k) && decide (k < n))) := fun u w e1 e2 => by
  rw [er_ref e2]; obtain ⟨x, rfl⟩ := er_int e1
  refine Pr.mk fun A s _ X kk => ?_
  obtain ⟨ob, g, t, u, v, rfl, -, -⟩ := X.rep.obj _ _ ha
  refine SeqRoads2.notIn_meets (T := "range") ⟨_, g, rfl⟩ F.slot_range_contains F.entry_range_contains (F.args_range_contains_2 _ _) (meets_range a 0 n 1 k t u v x) ⟨g, _, rfl, ?_⟩
  rw [place_rng]
  exact kk _ _ X (Ka.refl _) rfl
end
section
variable {f : Fx} {ρ : Loc} {σ : St}

theorem PE.intI {e : Expr} {p p' : Pos} {i : Int} (hm : ("int" : Str) ∈ f.gl) (he : PE f ρ σ e (.int i 0)) (hes : plainS e = true := by rfl) : PE f ρ σ (.Call (.Name "int" p') [e] [] p) (.int i 0) :=
  PE.callT1 (PE.built hm b_int boot_int (by decide) rfl) he (fun u e1 => by
    obtain ⟨t, rfl⟩ := er_int e1
    exact Pr.mk fun _ s _ X k => call_int_int (k _ _ X (Ka.refl _) rfl)) rfl hes
/-- a slice of a list of the base -/
theorem WV.sliceB {value : Expr} {lo hi : Option Expr} {l u : Option Int} {p pos : Pos} {a : Addr} {its : Array Value} {Q : Value → St → Prop} (hv : PE f ρ σ value (.ref a)) (hb : f.c.b.IsList a its) (hz : its.size ≤ 1000000) (hl : PPart f ρ σ lo l) (hu : PPart f ρ σ hi u)
    (q : ∀ b, σ b = none → Q (.ref b) (σ.set b (.list (picks (its.toList.map er) l u none)))) (ht : ∀ o r, letTemporaryGo value o r = pure () := by intro _ _; rfl) : WV f ρ σ (eval (.Subscript value (.Slice lo hi none p) pos) f.env) Q := fun A s X =>
  wpAny_Subscript_list_slice (hv.useW X fun v s1 X1 k1 e => hl.use X1 fun vl s2 X2 k2 pl => hu.use X2 fun vu s3 X3 k3 pu => by
    obtain ⟨o, g, hc⟩ := id hb
    have hl3 : s3.heap.IsList a its := ⟨o, X3.rep.base _ _ g, hc⟩
    have X4 : At f ρ σ A { s3 with heap := s3.heap.push { cls := .type "slice", data := .fields #[vl, vu, .none] } } := X3.ka (push_ka s3 _) (X3.sh.heap _ s3.toks)
    have := X4.alloc (o := .list (picks (its.toList.map er) l u none)) (ob := { cls := .type "list", data := .seq (slicePick its l u none) }) ⟨_, _, rfl, picks_er rfl l u none, by rw [← picks_er rfl]; simpa using pick_len its l u none hz⟩ rfl
    have e4 : (s3.heap.push { cls := .type "slice", data := .fields #[vl, vu, .none] }).objs.size = s3.heap.objs.size + 1 := Heap.size_push ..
    simp only [e4] at this
    obtain ⟨Y, kp, hn⟩ := this
    exact ⟨a, its, l, u, er_ref e, hl3, by rw [sizeLine_eq]; kspl_open wln, pl, pu, Y.post (k1.kp.trans (k2.kp.trans (k3.kp.trans ((push_ka s3 _).kp.trans kp)))) (q _ hn)⟩) ht
/-- a.x, a.y = v, u -/
theorem WA.attr2 {o1 o2 : Expr} {n1 n2 : Str} {p1 p2 p : Pos} {k : Nat} {t : Addr} {v1 v2 : Value} {Q : Loc → St → Prop} (ht : σ t = some (.tup [v1, v2]))
    (h : WA f ρ σ (.Attribute o1 n1 p1) v1 fun ρ1 σ1 => WA f ρ1 σ1 (.Attribute o2 n2 p2) v2 Q) : WA f ρ σ (.Tuple [.Attribute o1 n1 p1, .Attribute o2 n2 p2] k p) (.ref t) Q := fun u e A s X => by
  rw [er_ref e]
  obtain ⟨its, -, h2, h3, hl⟩ := tupAt X.rep ht
  refine assign_Tuple_tuple X.room.2.2 hl (by rw [size_er h2]; rfl) rfl fun h' hx => ?_
  obtain ⟨r1, r2, er⟩ : ∃ r1 r2, its.toList = [r1, r2] := by
    rcases hq : its.toList with _ | ⟨r1, _ | ⟨r2, _ | ⟨r3, l⟩⟩⟩ <;> rw [hq] at h2 <;> simp at h2
    exact ⟨r1, r2, rfl⟩
  rw [er] at h2 ⊢
  simp only [List.map_cons, List.map_nil, List.cons.injEq, and_true] at h2
  have key : WS f ρ σ (assignInOrder ((assignEach [.Attribute o1 n1 p1, .Attribute o2 n2 p2] f.env).map (·.2)) [r1, r2]) fun _ ρ' σ' => Q ρ' σ' := by
    show WS f ρ σ (do PySem.holding [r2] (assign (.Attribute o1 n1 p1) f.env r1); assignInOrder [assign (.Attribute o2 n2 p2) f.env] [r2]) _
    refine WS.bind (WS.holding (WS.mono (h r1 h2.1) fun _ ρ1 σ1 _ q => ?_))
    show WS f ρ1 σ1 (do PySem.holding [] (assign (.Attribute o2 n2 p2) f.env r2); assignInOrder [] []) _
    exact WS.bind (WS.holding (WS.mono (q r2 h2.2) fun _ ρ2 σ2 _ q2 => WS.pure q2))
  exact WS.use key (X.ka (ka_ext hx) (X.sh.heap _ s.toks)) fun _ s2 ρ2 σ2 X2 nm k2 q2 => X2.postS nm ((ka_ext hx).kp.s.trans k2) q2
theorem S1.attr2 {o1 o2 e1 e2 : Expr} {n1 n2 : Str} {p1 p2 p p' pos : Pos} {k k' : Nat} {Q : Flow → Loc → St → Prop}
    (h : WV f ρ σ (eval (.Tuple [e1, e2] k' p') f.env) fun v σ' => (Ey3 fun t v1 v2 => Ay3 (v = .ref t) (σ' t = some (.tup [v1, v2])) (WA f ρ σ' (.Attribute o1 n1 p1) v1 fun ρ1 σ1 => WA f ρ1 σ1 (.Attribute o2 n2 p2) v2 fun ρ2 σ2 => Q .next ρ2 σ2))) :
    S1 f ρ σ (.Assign [.Tuple [.Attribute o1 n1 p1, .Attribute o2 n2 p2] k p] (.Tuple [e1, e2] k' p') pos) Q := fun A s X => by
  refine Assign_Tuple (WX.use h X fun v s1 σ1 X1 k1 ⟨t, v1, v2, ev, ht, q⟩ => ?_) (swapsSole_no rfl) ?_
  · exact WS.use (WA.attr2 ht q v ev) X1 fun _ s2 ρ2 σ2 X2 nm k2 q2 => X2.postS nm (k1.s.trans k2) q2
  · unfold swappedStores
    dsimp only
    split
    · rfl
    · split
      · rfl
      · rfl
end
section
variable {f : Fx} {ρ : Loc} {σ : St}

noncomputable def clo (g : Pg) (k : Int) : List Int := Classical.epsilon fun r => Clo g [] [k] r
theorem clo_of {g : Pg} {k : Int} {r : List Int} (h : Clo g [] [k] r) : r = clo g k := h.det (Classical.epsilon_spec (p := fun r => Clo g [] [k] r) ⟨r, h⟩)
noncomputable def isR (g : Pg) (x : Int) : Bool := (g.insts[x.toNat]?.map (·.op == 1)).getD false
noncomputable def outAt (g : Pg) (x : Int) : Int := (g.insts[x.toNat]?.map (·.out)).getD 0
noncomputable def outs (g : Pg) (k : Int) : List Int := ((clo g k).filter (isR g)).map (outAt g)

theorem outs_ok {g : Pg} (hs : Sound g) {k : Int} {fo : List Int} (e : fo = clo g k) (h : ∀ x ∈ fo, InR g x) (hl : fo.length ≤ g.insts.length) : (∀ y ∈ outs g k, InR g y) ∧ (outs g k).length ≤ g.insts.length := by
  unfold outs
  rw [← e]
  refine ⟨fun y hy => ?_, ?_⟩
  · obtain ⟨x, hx, rfl⟩ := List.mem_map.mp hy
    obtain ⟨hx, hr⟩ := List.mem_filter.mp hx
    obtain ⟨i, hi, _⟩ := (h x hx).at_
    simp [isR, hi] at hr
    simp only [outAt, hi, Option.map_some, Option.getD_some]
    exact hs.outs _ i hi hr
  · rw [List.length_map]; exact Nat.le_trans (List.length_filter_le ..) hl
noncomputable def nv (g : Pg) (x : Int) : Value := .int ((outs g x).length : Nat) 0
inductive Bfs (g : Pg) : List Int → List Int → List Int → Prop
  | nil (fo : List Int) : Bfs g fo [] fo
  | skip {fo : List Int} {n : Int} {st r : List Int} : n ∈ fo → Bfs g fo st r → Bfs g fo (n :: st) r
  | go {fo : List Int} {n : Int} {st r : List Int} : n ∉ fo → Bfs g (fo ++ [n]) (st ++ outs g n) r → Bfs g fo (n :: st) r
theorem Bfs.det {g : Pg} {fo st r r' : List Int} (h : Bfs g fo st r) (h' : Bfs g fo st r') : r = r' := by
  induction h with
  | nil => cases h'; rfl
  | skip hm _ ih =>
    cases h' with
    | skip _ h => exact ih h
    | go hn _ => exact absurd hm hn
  | go hn _ ih =>
    cases h' with
    | skip hm _ => exact absurd hm hn
    | go _ h => exact ih h

noncomputable def tab (v : Int → Value) (l : List Int) : List (Int × Value) := l.map fun n => (n, v n)
theorem tab_isSome (v : Int → Value) (ns : List Int) (k : Int) : (valueAt (tab v ns) k).isSome = ns.contains k := by
  induction ns with
  | nil => rfl
  | cons n ns ih =>
    unfold valueAt at ih ⊢
    simp only [tab, List.map_cons, List.find?_cons, List.contains_cons]
    by_cases e : n = k
    · subst e; simp
    · have e2 : (k == n) = false := by simpa using fun h : k = n => e h.symm
      simp only [e, decide_false, e2, Bool.false_or]
      exact ih
theorem tab_at (v : Int → Value) {ns : List Int} {k : Int} (h : k ∈ ns) : valueAt (tab v ns) k = some (v k) := by
  induction ns with
  | nil => cases h
  | cons n ns ih =>
    unfold valueAt at ih ⊢
    simp only [tab, List.map_cons, List.find?_cons]
    by_cases e : n = k
    · subst e; simp
    · simp only [e, decide_false]
      exact ih ((List.mem_cons.mp h).resolve_left fun h => e h.symm)
theorem tab_stored (v : Int → Value) {ns : List Int} {k : Int} (h : k ∉ ns) : stored (tab v ns) k (v k) = tab v (ns ++ [k]) := by
  unfold stored
  have : (tab v ns).any (fun kv => decide (kv.1 = k)) = false := by
    rw [List.any_eq_false]
    intro p hp
    obtain ⟨n, hn, e⟩ := List.mem_map.mp hp
    subst e
    simp only [decide_eq_true_eq]
    rintro rfl
    exact h hn
  rw [this]
  simp [tab]
theorem Cmp.notInTO {fz : Addr → Prop} {σ0 : St} {L : List Ent} {a : Addr} {v : Int → Value} {ns : List Int} {i : Int} {w : Bool} (H : Own fz σ0 σ L) (h : (a, .dic (tab v ns), w) ∈ L) : Cmp f ρ σ .NotIn (.int i 0) (.ref a) (!ns.contains i) := by
  rw [← tab_isSome v]; exact Cmp.notInD (H.get _ _ _ h)

theorem IsI.uniq {x : Addr} {i j : In} (h : IsI σ x i) (h' : IsI σ x j) : i = j := by
  obtain ⟨d, h1, h2⟩ := h
  obtain ⟨d', h1', h2'⟩ := h'
  rw [h1] at h1'
  cases h1'
  rw [h2] at h2'
  cases i; cases j
  simp [In.fs] at h2'
  simp [h2']
theorem neIn : Nonempty In := ⟨⟨0, 0, 0, 0, 0, false, false⟩⟩
noncomputable def inOf (σ : St) (x : Addr) : In := @Classical.epsilon In neIn fun i => IsI σ x i
theorem inOf_eq {x : Addr} {i : In} (h : IsI σ x i) : inOf σ x = i := IsI.uniq (Classical.epsilon_spec_aux neIn (fun i => IsI σ x i) ⟨i, h⟩) h
noncomputable def refOf (r : PR) : Value → Value
  | .int x _ => .ref (r.xs[x.toNat]?.getD 0)
  | v => v
noncomputable def isRV (g : Pg) : Value → Bool
  | .int x _ => isR g x
  | _ => false
noncomputable def outV (g : Pg) : Value → Value
  | .int x _ => .int (outAt g x) 0
  | v => v
noncomputable def isRA (σ : St) : Value → Bool
  | .ref x => (inOf σ x).op == 1
  | _ => false
noncomputable def outA (σ : St) : Value → Value
  | .ref x => .int (inOf σ x).out 0
  | v => v
theorem outs_by {g : Pg} {r : PR} {p : Addr} (hp : IsP σ p g r) : ∀ {l : List Int}, (∀ x ∈ l, InR g x) → ((((intL l).map (refOf r)).filter (isRA σ)).map (outA σ)) = intL ((l.filter (isR g)).map (outAt g))
  | [], _ => rfl
  | x :: l, h => by
    obtain ⟨i, hi, _⟩ := (h x (List.mem_cons_self ..)).at_
    obtain ⟨y, hy, hI⟩ := hp.ix hi
    have ih := outs_by hp (l := l) fun z hz => h z (List.mem_cons_of_mem _ hz)
    have e1 : refOf r (.int x 0) = .ref y := by simp [refOf, hy]
    have e2 : isRA σ (.ref y) = isR g x := by simp [isRA, isR, inOf_eq hI, hi]
    have e3 : outA σ (.ref y) = .int (outAt g x) 0 := by simp [outA, outAt, inOf_eq hI, hi]
    simp only [intL, List.map_cons, List.filter_cons, e1, e2] at ih ⊢
    by_cases hr : isR g x = true
    · simp only [hr, if_true, List.map_cons, e3, ih]
    · simp only [hr, if_false, Bool.false_eq_true]; exact ih
theorem outs_by2 {g : Pg} : ∀ (l : List Int), (intL l).filter (isRV g) = intL (l.filter (isR g)) ∧ (intL l).map (outV g) = intL (l.map (outAt g))
  | [] => ⟨rfl, rfl⟩
  | x :: l => by
    obtain ⟨h1, h2⟩ := outs_by2 (g := g) l
    constructor
    · simp only [intL, List.map_cons, List.filter_cons] at h1 ⊢
      rw [show isRV g (.int x 0) = isR g x from rfl]
      by_cases hr : isR g x = true
      · simp only [hr, if_true, List.map_cons, h1]
      · simp only [hr, if_false, Bool.false_eq_true]; exact h1
    · simp only [intL, List.map_cons, outV] at h2 ⊢
      rw [h2]
end
section
/-! plain: powers of two -/
noncomputable def pw (m : Int) : Nat := Builtin.Int.intBits (m - 1)
noncomputable def cnt (ms : List Int) (p : Nat) : Nat := (ms.filter fun m => decide (0 < m) && pw m == p).length
noncomputable abbrev cntL (ms : List Int) (n : Nat) : List Int := (List.range n).map fun p => (cnt ms p : Int)
structure Tops (ms : List Int) (n : Nat) : Prop where
  above : ∀ p, n ≤ p → cnt ms p = 0
  top : 0 < n → cnt ms (n - 1) ≠ 0
theorem Tops.uniq {ms : List Int} {n n' : Nat} (h : Tops ms n) (h' : Tops ms n') : n = n' := by
  rcases Nat.lt_trichotomy n n' with h1 | h1 | h1
  · exact absurd (h.above (n' - 1) (by kspl_open wln)) (h'.top (by kspl_open wln))
  · exact h1
  · exact absurd (h'.above (n - 1) (by kspl_open wln)) (h.top (by kspl_open wln))
theorem cnt_snoc (ms : List Int) (m : Int) (p : Nat) : cnt (ms ++ [m]) p = cnt ms p + (if (decide (0 < m) && pw m == p) = true then 1 else 0) := by
  unfold cnt
  rw [List.filter_append, List.length_append]
  congr 1
  simp only [List.filter_cons, List.filter_nil]
  split <;> simp
theorem pw_le : ∀ m : Nat, m < 65 → pw (m : Int) ≤ 6 := by
  have h : (List.range 65).all (fun m => decide (pw (m : Int) ≤ 6)) = true := by decide +kernel
  intro m hm
  rw [List.all_eq_true] at h
  simpa using h m (List.mem_range.mpr hm)
theorem pw_in : ∀ m : Nat, m < 65 → ∀ a : Nat, a < 7 → (decide ((0 : Int) < (m : Int)) && (decide (((2 : Int) ^ a).fdiv 2 < (m : Int)) && decide ((m : Int) ≤ (2 : Int) ^ a))) = (decide ((0 : Int) < (m : Int)) && pw (m : Int) == a) := by
  have h : (List.range 65).all (fun m => (List.range 7).all fun a => (decide ((0 : Int) < (m : Int)) && (decide (((2 : Int) ^ a).fdiv 2 < (m : Int)) && decide ((m : Int) ≤ (2 : Int) ^ a))) == (decide ((0 : Int) < (m : Int)) && pw (m : Int) == a)) = true := by decide +kernel
  intro m hm a ha
  rw [List.all_eq_true] at h
  have h2 := h m (List.mem_range.mpr hm)
  rw [List.all_eq_true] at h2
  exact eq_of_beq (h2 a (List.mem_range.mpr ha))
theorem cnt_grow {ms : List Int} {n p : Nat} (h : ∀ q, n ≤ q → cnt ms q = 0) : intL (cntL ms n) ++ List.replicate ((p : Int) + 1 - (n : Int)).toNat (Value.int 0 0) = intL (cntL ms (max n (p + 1))) := by
  have e : max n (p + 1) = n + ((p : Int) + 1 - (n : Int)).toNat := by kspl_open wln
  rw [e]
  generalize ((p : Int) + 1 - (n : Int)).toNat = k
  induction k with
  | zero => simp
  | succ k ih =>
    rw [List.replicate_succ', ← List.append_assoc, ih]
    rw [show n + (k + 1) = n + k + 1 by kspl_open wln]
    simp only [cntL, List.range_succ, List.map_append, List.map_cons, List.map_nil]
    rw [h (n + k) (by kspl_open wln)]; rfl
theorem cnt_bump {ms : List Int} {m : Int} {n : Nat} (h0 : 0 < m) (hn : pw m < n) : (intL (cntL ms n)).set (pw m) (.int ((cnt ms (pw m) : Int) + 1) 0) = intL (cntL (ms ++ [m]) n) := by
  apply List.ext_getElem?
  intro q
  rw [List.getElem?_set]
  simp only [List.getElem?_map, List.length_map, List.length_range]
  by_cases hq : q < n
  · rw [List.getElem?_range hq]
    simp only [Option.map_some]
    rw [cnt_snoc]
    by_cases e : pw m = q
    · subst e
      simp [h0, hn]
    · have e2 : (pw m == q) = false := by simpa using e
      simp [e, e2]
  · rw [List.getElem?_eq_none (by simp; kspl_open wln)]
    simp only [Option.map_none]
    rw [if_neg (by kspl_open wln)]
theorem Tops.bump {ms : List Int} {m : Int} {n : Nat} (h : Tops ms n) (h0 : 0 < m) : Tops (ms ++ [m]) (max n (pw m + 1)) := by
  refine ⟨fun p hp => ?_, fun hp => ?_⟩
  · rw [cnt_snoc, h.above p (by kspl_open wln), if_neg (by simp; kspl_open wln)]
  · rw [cnt_snoc]
    by_cases e : n ≤ pw m
    · rw [show max n (pw m + 1) - 1 = pw m by kspl_open wln]
      simp [h0]
    · have := h.top (by kspl_open wln)
      rw [show max n (pw m + 1) - 1 = n - 1 by kspl_open wln]
      lia
theorem Tops.same {ms : List Int} {m : Int} {n : Nat} (h : Tops ms n) (h0 : ¬ 0 < m) : Tops (ms ++ [m]) n ∧ cntL (ms ++ [m]) n = cntL ms n := by
  have e : ∀ p, cnt (ms ++ [m]) p = cnt ms p := fun p => by rw [cnt_snoc, if_neg (by simp [h0])]; rfl
  exact ⟨⟨fun p hp => by rw [e]; exact h.above p hp, fun hp => by rw [e]; exact h.top hp⟩, by simp [cntL, e]⟩
theorem Tops.nil : Tops [] 0 := ⟨fun _ _ => rfl, fun h => by kspl_open wln⟩
theorem cntL_len (ms : List Int) (n : Nat) : (intL (cntL ms n)).length = n := by simp
end
local macro_rules | `(tactic| kspl_open wmem) => `(tactic| first
  | (with_reducible first | exact List.mem_cons_self | exact mq1 | exact mq2 | exact mq3 | exact mq4 | assumption)
  | (with_reducible apply List.mem_cons_of_mem; kspl_open wmem))
local macro_rules | `(tactic| kspl_open wset) => `(tactic| first
  | (with_reducible first | exact SetAt.here _ _ | exact sq1 | exact sq2 | exact sq3 | exact sq4 | exact sq5)
  | (with_reducible apply SetAt.there; kspl_open wset))
local macro_rules | `(tactic| kspl_open wput) => `(tactic| first
  | with_reducible exact Put.here _
  | with_reducible assumption
  | (with_reducible apply Put.there; kspl_open wput))
local macro_rules | `(tactic| kspl_open wfrz) => `(tactic| first
  | with_reducible exact Frz.here _ _
  | (with_reducible apply Frz.there; kspl_open wfrz))
local macro_rules | `(tactic| kspl_open wglobi) => `(tactic| first
  | ((with_reducible first | refine PE.globI ?_ g_INST_ALT | refine PE.globI ?_ g_INST_RANGE | refine PE.globI ?_ g_INST_CAPTURE | refine PE.globI ?_ g_INST_EMPTY | refine PE.globI ?_ g_INST_MATCH | refine PE.globI ?_ g_INST_NOP | refine PE.globI ?_ g_INST_FAIL | refine PE.globI ?_ g_EMPTY_ALL | refine PE.globR ?_ g_FLATTEN_STEPS); kspl_open wmem))
local macro_rules | `(tactic| kspl_open wef) => `(tactic| first
  | (kspl_open wpe; with_reducible assumption; with_reducible assumption; with_unfolding_all rfl))
local macro_rules | `(tactic| kspl_open wattr) => `(tactic| first
  | ((with_reducible first | apply PE.i_op | apply PE.i_out | apply PE.i_arg | apply PE.i_low | apply PE.i_high | apply PE.i_is_folded | apply PE.i_is_last | apply PE.p_insts | apply PE.p_start | apply PE.p_start_loose | apply PE.p_is_flat | apply PE.p_heads | apply PE.p_is_reversed | apply PE.p_is_anchored_start | apply PE.p_is_anchored_end | apply PE.p_prefix | apply PE.p_is_prefix_folded); kspl_open wef))
local macro_rules | `(tactic| kspl_open wpe) => `(tactic| first
  | with_reducible exact PE.int
  | (with_reducible apply PE.name; kspl_open wmem)
  | kspl_open wglobi
  | kspl_open wattr
  | (with_reducible first | exact PE.bool | exact PE.str | exact PE.none)
  | (with_reducible apply PE.p_inst; kspl_open wpe; kspl_open wpe; with_reducible assumption; with_reducible assumption; with_reducible assumption; with_reducible assumption; with_unfolding_all rfl; with_unfolding_all rfl)
  | (with_reducible apply PE.bin; kspl_open wpe; kspl_open wpe; kspl_open wbin)
  | (with_reducible apply PE.neg; kspl_open wpe)
  | kspl_open wextra)
local macro_rules | `(tactic| kspl_open wextra) => `(tactic| first
  | (with_reducible apply PE.lenO; kspl_open wmem; kspl_open wpe; with_reducible assumption; kspl_open wmem; with_unfolding_all rfl)
  | (with_reducible apply PE.lenP; kspl_open wmem; kspl_open wpe; with_reducible assumption; with_reducible assumption; with_unfolding_all rfl)
  | (with_reducible refine PE.built ?_ b_range boot_range (by decide) rfl; kspl_open wmem)
  | (with_reducible refine PE.built ?_ b_max boot_max (by decide) rfl; kspl_open wmem)
  | (with_reducible refine PE.built ?_ b_sorted boot_sorted (by decide) rfl; kspl_open wmem)
  | (with_reducible refine PE.built ?_ b_str boot_str (by decide) rfl; kspl_open wmem)
  | (with_reducible refine PE.built ?_ b_int boot_int (by decide) rfl; kspl_open wmem))
local macro_rules | `(tactic| kspl_open wbin) => `(tactic| first
  | with_reducible exact Bin.add
  | with_reducible exact Bin.sub
  | (with_reducible apply Bin.mod; decide)
  | (with_reducible apply Bin.div; decide; decide)
  | with_reducible exact Bin.and)
local macro_rules | `(tactic| kspl_open wcmp) => `(tactic| first
  | (with_reducible first | exact Cmp.eqI | exact Cmp.neI | exact Cmp.ltI | exact Cmp.leI | exact Cmp.gtI | exact Cmp.isNotS | exact Cmp.isNotN | exact Cmp.inSteps)
  | kspl_open wcmpx)
local macro_rules | `(tactic| kspl_open wcmpx) => `(tactic| first
  | (with_reducible apply Cmp.notInMO; kspl_open wam)
  | (with_reducible apply Cmp.inMO; kspl_open wam)
  | (with_reducible apply Cmp.notInTO; kspl_open wam)
  | (with_reducible apply Cmp.notInLO; kspl_open wam)
  | (with_reducible apply Cmp.notInMB; with_reducible assumption; with_reducible assumption)
  | (with_reducible apply Cmp.inMB; with_reducible assumption; with_reducible assumption))
local macro_rules | `(tactic| kspl_open wam) => `(tactic| first
  | (with_reducible assumption; kspl_open wmem))
local macro_rules | `(tactic| kspl_open wtru) => `(tactic| first
  | with_reducible exact Tru.bool
  | (with_reducible apply Tru.listO; with_reducible assumption; kspl_open wmem))
local macro_rules | `(tactic| kspl_open wpt) => `(tactic| first
  | (with_reducible apply PT.not; kspl_open wpt)
  | (with_reducible apply PT.and; kspl_open wpt; (intro _; kspl_open wpt))
  | (with_reducible apply PT.and1; kspl_open wpt)
  | (with_reducible apply PT.or; kspl_open wpt; (intro _; kspl_open wpt))
  | (with_reducible apply PT.or1; kspl_open wpt)
  | (with_reducible apply PT.cmp; kspl_open wpe; kspl_open wpe; kspl_open wcmp; with_unfolding_all rfl)
  | (with_reducible apply PT.chain; kspl_open wpe; kspl_open wchain)
  | (with_reducible apply PT.val; kspl_open wpe; kspl_open wtru; with_unfolding_all rfl))
local macro_rules | `(tactic| kspl_open wchain) => `(tactic| first
  | (with_reducible apply PChain.cons; kspl_open wpe; kspl_open wcmp; (intro _; kspl_open wchain))
  | (with_reducible apply PChain.last; kspl_open wpe; kspl_open wcmp; with_unfolding_all rfl))
local macro_rules | `(tactic| kspl_open wpes) => `(tactic| first
  | with_reducible exact PEs.nil
  | (with_reducible apply PEs.cons; kspl_open wpe; kspl_open wpes))
local macro_rules | `(tactic| kspl_open wpis) => `(tactic| first
  | with_reducible exact PIs.nil
  | (with_reducible apply PIs.cons; kspl_open wpe; kspl_open wpis))
local macro_rules | `(tactic| kspl_open wstr) => `(tactic| first
  | with_reducible exact StR.nil _
  | (with_reducible apply StR.cons; kspl_open wstr; kspl_open wset))
local macro_rules | `(tactic| kspl_open wsta) => `(tactic| first
  | with_reducible exact StA.nil _
  | (with_reducible refine StA.cons (by kspl_open wset) ?_; kspl_open wsta))
local macro_rules | `(tactic| kspl_open wx1) => `(tactic| first
  | with_reducible exact PutF.nil
  | with_reducible exact PutF.here _ _
  | (with_reducible apply PutF.there; (dsimp only; decide); kspl_open wx1))
local macro_rules | `(tactic| kspl_open wle) => `(tactic| first
  | exact leB rfl
  | exact List.forall_mem_nil _
  | rfl
  | simp)
section
variable {f : Fx} {ρ : Loc} {σ : St}



noncomputable def P_ways (g : Pg) (k : Int) (i : In) : Value → List Ent → Prop := fun v L => (Ey1 fun a => Ay2 (v = .ref a) (L = [(a, .list (intL (ways g k i)), true)]))
theorem wc_ways {c : Cx} {n : Nat} {fz : Addr → Prop} {p : Addr} {g : Pg} {r : PR} {k : Int} {i : In} (hp : IsP σ p g r) (h0 : 0 ≤ k) (hi : g.insts[k.toNat]? = some i) (hfz : ∀ a, fz a → σ a ≠ none) :
    WC c (n + 1) fz σ (.ref 78) [.ref p, .int k 0] (Ret fz σ (P_ways g k i)) := by
  refine WC.fnO (ρ := [("prog", some (.ref p)), ("number", some (.int k 0)), ("inst", none), ("found", none)]) (gl := ["INST_ALT", "INST_CAPTURE", "INST_EMPTY", "INST_NOP"]) (cl := []) (pa := [("prog", .ref p), ("number", .int k 0)]) (rest := ["inst", "found"]) rfl (.of fun P => by kernel_rfl) (fun P => by kernel_rfl) (hb2 fun P u v => by kernel_rfl) fun env => ?_
  · have H : Own fz σ σ [] := Own.start hfz
    obtain ⟨x, hx, hI⟩ := hp.ix hi
    conv => arg 4; whnf
    refine SS.cons (S1.name (WV.pe (by kspl_open wpe) ⟨_, by kspl_open wset, ?_⟩))
    refine SS.cons (S1.ite (by kspl_open wpt) (fun hb => ?_) (fun hb => ?_))
    · refine SS.cons (S1.ret (WV.newL (by kspl_open wpes) H (fun a σ' H => ?_)))
      exact ⟨_, H, a, rfl, by simp [ways, hb]⟩
    · refine SS.nil ?_
      refine SS.cons (S1.name (WV.newL .nil H fun a σ H => ⟨_, by kspl_open wset, ?_⟩))
      refine SS.cons (S1.iteW (WT.inT (by kspl_open wpe) (by kspl_open wpis) H fun σ H => ?_))
      split
      · refine SS.cons (S1.expr (WV.appendO (by kspl_open wpe) (by kspl_open wpe) H (by kspl_open wput) (by kspl_open wle) fun σ H => ?_))
        refine SS.nil ?_
        refine SS.cons (S1.ite (by kspl_open wpt) (fun h3 => ?_) (fun h3 => ?_))
        · refine SS.cons (S1.expr (WV.appendO (by kspl_open wpe) (by kspl_open wpe) H (by kspl_open wput) (by kspl_open wle) fun σ H => ?_))
          refine SS.nil ?_
          refine SS.cons (S1.ret (WV.pe (by kspl_open wpe) ?_))
          exact ⟨_, H, a, rfl, by simp [ways, *]⟩
        · refine SS.nil ?_
          refine SS.cons (S1.ret (WV.pe (by kspl_open wpe) ?_))
          exact ⟨_, H, a, rfl, by simp [ways, *]⟩
      · refine SS.nil ?_
        refine SS.cons (S1.ite (by kspl_open wpt) (fun h3 => ?_) (fun h3 => ?_))
        · refine SS.cons (S1.expr (WV.appendO (by kspl_open wpe) (by kspl_open wpe) H (by kspl_open wput) (by kspl_open wle) fun σ H => ?_))
          refine SS.nil ?_
          refine SS.cons (S1.ret (WV.pe (by kspl_open wpe) ?_))
          exact ⟨_, H, a, rfl, by simp [ways, *]⟩
        · refine SS.nil ?_
          refine SS.cons (S1.ret (WV.pe (by kspl_open wpe) ?_))
          exact ⟨_, H, a, rfl, by simp [ways, *]⟩
end
section
variable {f : Fx} {ρ : Loc} {σ : St}


/-- o.a = v, of an owned object -/
theorem S1.setAO {σ0 : St} {L L' : List Ent} {o value : Expr} {a : Str} {p pos : Pos} {C x d : Addr} {v : Value} {w : Bool} {fs fs' : List (Str × Value)} {Q : Flow → Loc → St → Prop} (hv : PE f ρ σ value v) (ho : PE f ρ σ o (.ref x)) (H : Own f.fz σ0 σ L) (hx : (x, .inst C d, w) ∈ L) (hc : CA C a) (hm : (d, .ns fs, true) ∈ L) (hf : PutF a v fs fs')
    (hp : Put d (.ns fs) (.ns fs') L L') (hl : fs'.length ≤ 100) (q : ∀ σ', Own f.fz σ0 σ' L' → Q .next ρ σ') (hcm : noComp value = true := by rfl) : S1 f ρ σ (.Assign [.Attribute o a p] value pos) Q :=
  S1.assign1 (WV.pe hv (WA.attr ho (H.get _ _ _ hx) (H.get _ _ _ hp.mem) hc hf hl (H.wr _ _ hp.mem) (q _ (H.turn hp)))) hcm

theorem wc_init {c : Cx} {n : Nat} {fz : Addr → Prop} {σ0 σ : St} {x d : Addr} {args : List Value} {i : In} (hlast : i.last = false) (H : Own fz σ0 σ [(x, .inst cI d, true), (d, .ns [], true)])
    (hb : ∀ raw s, raw.map er = .ref x :: args → (KK c.w.params).In s.heap → ∃ binds, BindsTo s (fdo 36 c.w.params) ⟨raw, []⟩ binds ∧ binds.map (fun p => (p.1, er p.2)) = [(("self" : Str), .ref x), (("op" : Str), .int i.op 0), (("out" : Str), .int i.out 0), (("arg" : Str), .int i.arg 0), (("low" : Str), .int i.low 0), (("high" : Str), .int i.high 0), (("is_folded" : Str), .bool i.fold)]) :
    WCc c (n + 1) fz σ (.ref 36) (.ref x :: args) fun v σ' => v = .none ∧ Own fz σ0 σ' [(x, .inst cI d, true), (d, .ns i.fs, true)] := by
  refine WCc.fn (rest := []) (gl := []) (cl := []) f_init36 (fun P => by kernel_rfl) hb fun env => ?_
  refine WS.mono (Q := fun fl _ σ' => erF fl = .next ∧ Own fz σ0 σ' [(x, .inst cI d, true), (d, .ns i.fs, true)]) ?_ fun fl _ σ' _ q => by
    obtain ⟨q1, q2⟩ := q
    cases fl <;> first | exact ⟨rfl, q2⟩ | cases q1
  show SS (⟨c, n, fz, env, [], []⟩ : Fx) ([("self", some (.ref x)), ("op", some (.int i.op 0)), ("out", some (.int i.out 0)), ("arg", some (.int i.arg 0)), ("low", some (.int i.low 0)), ("high", some (.int i.high 0)), ("is_folded", some (.bool i.fold))] : Loc) σ (bodyOf (fdo 36 c.w.params)) fun fl _ σ' => fl = .next ∧ Own fz σ0 σ' [(x, .inst cI d, true), (d, .ns i.fs, true)]
  conv => arg 4; whnf
  refine SS.cons (S1.setAO (by kspl_open wpe) (by kspl_open wpe) H (by kspl_open wmem) ca_op (by kspl_open wmem) (by kspl_open wx1) (by kspl_open wput) (by kspl_open wle) fun σ H => ?_)
  refine SS.cons (S1.setAO (by kspl_open wpe) (by kspl_open wpe) H (by kspl_open wmem) ca_out (by kspl_open wmem) (by kspl_open wx1) (by kspl_open wput) (by kspl_open wle) fun σ H => ?_)
  refine SS.cons (S1.setAO (by kspl_open wpe) (by kspl_open wpe) H (by kspl_open wmem) ca_arg (by kspl_open wmem) (by kspl_open wx1) (by kspl_open wput) (by kspl_open wle) fun σ H => ?_)
  refine SS.cons (S1.setAO (by kspl_open wpe) (by kspl_open wpe) H (by kspl_open wmem) ca_low (by kspl_open wmem) (by kspl_open wx1) (by kspl_open wput) (by kspl_open wle) fun σ H => ?_)
  refine SS.cons (S1.setAO (by kspl_open wpe) (by kspl_open wpe) H (by kspl_open wmem) ca_high (by kspl_open wmem) (by kspl_open wx1) (by kspl_open wput) (by kspl_open wle) fun σ H => ?_)
  refine SS.cons (S1.setAO (by kspl_open wpe) (by kspl_open wpe) H (by kspl_open wmem) ca_fold (by kspl_open wmem) (by kspl_open wx1) (by kspl_open wput) (by kspl_open wle) fun σ H => ?_)
  refine SS.cons (S1.setAO (by kspl_open wpe) (by kspl_open wpe) H (by kspl_open wmem) ca_last (by kspl_open wmem) (by kspl_open wx1) (by kspl_open wput) (by kspl_open wle) fun σ H => ?_)
  refine SS.nil ⟨rfl, ?_⟩
  rw [show In.fs i = _ from by unfold In.fs; rw [hlast]]
  exact H
end
section
variable {f : Fx} {ρ : Loc} {σ : St}


noncomputable def P_closure (g : Pg) (k : Int) : Value → List Ent → Prop := fun v L => (Ey2 fun a fo => Ay5 (v = .ref a) (L = [(a, .list (intL fo), true)]) (Clo g [] [k] fo) ((∀ x ∈ fo, InR g x)) (fo.length ≤ g.insts.length))
theorem wc_closure {c : Cx} {n : Nat} {fz : Addr → Prop} {p : Addr} {g : Pg} {r : PR} {k : Int} (hp : IsP σ p g r) (hs : Sound g) (hk : InR g k) (hfz : ∀ a, fz a → σ a ≠ none) :
    WC c (n + 2) fz σ (.ref 85) [.ref p, .int k 0] (Ret fz σ (P_closure g k)) := by
  refine WC.fnO (ρ := [("prog", some (.ref p)), ("root", some (.int k 0)), ("found", none), ("is_met", none), ("left", none), ("number", none)]) (gl := ["program_ways"]) (cl := []) (pa := [("prog", .ref p), ("root", .int k 0)]) (rest := ["found", "is_met", "left", "number"]) rfl (.of fun P => by kernel_rfl) (fun P => by kernel_rfl) (hb2 fun P u v => by kernel_rfl) fun env => ?_
  · have H : Own fz σ σ [] := Own.start hfz
    conv => arg 4; whnf
    refine SS.cons (S1.tupO (σ0 := σ) (.cons _ _ (.cons _ _ (.cons _ _ .nil))) ?_)
    refine WLs.cons (WV.newL .nil H fun a1 σ H => WLs.cons (WV.dic0 H fun a2 σ H => WLs.cons (WV.newL (by kspl_open wpes) H fun a3 σ H => WLs.nil ⟨_, _, H, (by kspl_open wsta), (by kspl_open wstr), fun σ H => ?_⟩)))
    let p1p := fun (m : Nat) (ρ1 : Loc) (L1 : List Ent) fo st o => (Ay8 (ρ1 = ([("prog", some (.ref p)), ("root", some (.int k 0)), ("found", some (.ref a1)), ("is_met", some (.ref a2)), ("left", some (.ref a3)), ("number", o)] : Loc)) (L1 = ([(a3, .list (intL st.reverse), true), (a2, .dic (marks fo), true), (a1, .list (intL fo), true)] : List Ent)) ((∀ x ∈ st, InR g x)) ((∀ x ∈ fo, InR g x)) ((∀ r', Clo g fo st r' → Clo g [] [k] r')) (3 * unmet g.insts.length fo + st.length ≤ m) (m ≤ 3001) (fo.length + unmet g.insts.length fo ≤ g.insts.length) : Prop)
    let I1 : Nat → Loc → List Ent → Prop := fun m ρ1 L1 => Ey3 (p1p m ρ1 L1)
    refine SS.cons (S1.whileWO H I1 (3 * g.insts.length + 1) ⟨[], [k], none, rfl, rfl, by first | exact of_decide_eq_true hk | exact eq_of_beq hk | exact ne_of_beq_false hk | exact of_decide_eq_false hk | exact beq_iff_eq.mpr hk | exact beq_false_of_ne hk | simpa using hk, (by kspl_open wle), fun _ h => h, by rw [unmet_nil]; simp, by have := hs.small; kspl_open wln, by rw [unmet_nil]; simp⟩ ?_)
    rintro m ρ1 σ L1 H ⟨fo, st, o, rfl, rfl, hst, hfo, hclo, hm, hm2, hlen⟩
    have hsm := hs.small
    refine WT.neNil (by kspl_open wpe) H (.inl ⟨_, (by kspl_open wmem)⟩) fun σ H => ?_
    cases st with
    | nil =>
      rw [if_neg (by kspl_open wle)]
      refine SS.cons (S1.ret (WV.pe (by kspl_open wpe) ⟨_, H.sub (.cons _ (.cons _ (.refl _))), a1, fo, rfl, rfl, hclo _ (.nil fo), hfo, by kspl_open wln⟩))
    | cons x st =>
      rw [if_pos (by kspl_open wle)]
      rw [show intL (x :: st).reverse = intL st.reverse ++ [.int x 0] by simp] at H
      have hx := hst x (List.mem_cons_self ..)
      refine SS.cons (S1.name (WV.popO (by kspl_open wpe) H (by kspl_open wput) fun σ H => ⟨_, (by kspl_open wset), ?_⟩))
      refine SS.cons (S1.ite (by kspl_open wpt) (fun hb => ?_) (fun hb => ?_))
      · have hn : x ∉ fo := by first | exact of_decide_eq_true hb | exact eq_of_beq hb | exact ne_of_beq_false hb | exact of_decide_eq_false hb | exact beq_iff_eq.mpr hb | exact beq_false_of_ne hb | simpa using hb
        refine SS.cons (S1.setD (by kspl_open wpe) (by kspl_open wpe) (by kspl_open wpe) H (by kspl_open wput) ?_ fun σ H => ?_)
        · (first | ((repeat first | refine lmap_lt ?_ | refine lmap_le ?_); kspl_open wln) | (rw [List.length_map]; kspl_open wln))
        rw [stored_marks hn] at H
        refine SS.cons (S1.expr (WV.appendO (by kspl_open wpe) (by kspl_open wpe) H (by kspl_open wput) ?_ fun σ H => ?_))
        · (first | ((repeat first | refine lmap_lt ?_ | refine lmap_le ?_); kspl_open wln) | (rw [List.length_map]; kspl_open wln))
        rw [intL_app] at H
        obtain ⟨i, hi, hwy⟩ := hx.at_
        refine SS.cons (S1.expr (WV.extendO (by kspl_open wpe) ⟨_, (by kspl_open wmem)⟩ (WV.sliceS (WV.callO (PE.globR (by kspl_open wmem) g_program_ways) (fun P => by kernel_rfl) (by kspl_open wpes) H (wc_ways (hp.ext H.ext) hx.1 hi H.fzs) ?_)) H))
        rintro v σ L' ⟨b, rfl, rfl⟩ H
        dsimp only [List.cons_append, List.nil_append] at H
        refine ⟨b, _, none, none, -1, rfl, H.get _ _ _ (by kspl_open wmem), .none, .none, (by kspl_open wpe), by decide, fun b2 hb2 => ⟨b2, _, _, _, rfl, H.alloc hb2, St.set_same .., ?_, (by kspl_open wput), fun σ H => ?_⟩⟩
        · rw [picks_rev]; have := ways_len g x i; simp at hm ⊢; kspl_open wln
        rw [picks_rev, ← hwy] at H
        refine SS.nil (SS.nil ⟨3 * unmet g.insts.length (fo ++ [x]) + (wy g x ++ st).length, _, ?_, H.sub (.cons _ (.cons _ (.refl _))), fo ++ [x], wy g x ++ st, _, rfl, ?_, ?_, ?_, fun r' h => hclo _ (.go hn h), Nat.le_refl _, ?_, ?_⟩)
        all_goals have hu := unmet_lt hx hn
        all_goals have hw := wy_len g x
        · simp at hm ⊢; kspl_open wln
        · simp
        · intro y hy
          rcases List.mem_append.mp hy with h | h
          · exact hs.ways x hx y h
          · exact hst y (List.mem_cons_of_mem _ h)
        · intro y hy
          rcases List.mem_append.mp hy with h | h
          · exact hfo y h
          · simp at h; exact h ▸ hx
        · simp at hm ⊢; kspl_open wln
        · simp; kspl_open wln
      · have hn : x ∈ fo := by first | exact of_decide_eq_true hb | exact eq_of_beq hb | exact ne_of_beq_false hb | exact of_decide_eq_false hb | exact beq_iff_eq.mpr hb | exact beq_false_of_ne hb | simpa using hb
        refine SS.nil (SS.nil ⟨3 * unmet g.insts.length fo + st.length, _, ?_, H, fo, st, _, rfl, rfl, fun y hy => hst y (List.mem_cons_of_mem _ hy), hfo, fun r' h => hclo _ (.skip hn h), Nat.le_refl _, ?_, hlen⟩)
        all_goals simp at hm ⊢; kspl_open wln
end
section
variable {f : Fx} {ρ : Loc} {σ : St}


noncomputable def P_lways (g : Pg) (k : Int) (i : In) : Value → List Ent → Prop := fun v L => (Ey1 fun a => Ay2 (v = .ref a) (L = [(a, .list (intL (lways g k i)), true)]))
theorem wc_lways {σ0 : St} {c : Cx} {n : Nat} {fz : Addr → Prop} {p : Addr} {g : Pg} {r : PR} {k : Int} {i : In} (hp : IsP σ0 p g r) (h0 : 0 ≤ k) (hi : g.insts[k.toNat]? = some i) (hfz : ∀ a, fz a → σ0 a ≠ none) :
    WC c (n + 1) fz σ0 (.ref 242) [.ref p, .int k 0] (Ret fz σ0 (P_lways g k i)) := by
  refine WC.fnO (ρ := [("prog", some (.ref p)), ("number", some (.int k 0)), ("inst", none), ("found", none)]) (gl := ["INST_ALT", "INST_RANGE", "INST_MATCH", "INST_FAIL"]) (cl := []) (pa := [("prog", .ref p), ("number", .int k 0)]) (rest := ["inst", "found"]) rfl (.of fun P => by kernel_rfl) (fun P => by kernel_rfl) (hb2 fun P u v => by kernel_rfl) fun env => ?_
  · have H : Own fz σ0 σ0 [] := Own.start hfz
    obtain ⟨x, hx, hI⟩ := hp.ix hi
    conv => arg 4; whnf
    refine SS.cons (S1.tupO (σ0 := σ0) (.cons _ _ (.cons _ _ .nil)) ?_)
    refine WLs.cons (WV.pe (by kspl_open wpe) (WLs.cons (WV.newL .nil H fun a σ H => WLs.nil ⟨_, _, H, (by kspl_open wsta), (by kspl_open wstr), fun σ H => ?_⟩)))
    let q1p := fun (ρ1 : Loc) (L1 : List Ent) a => (Ay2 (ρ1 = ([("prog", some (.ref p)), ("number", some (.int k 0)), ("inst", some (.ref x)), ("found", some (.ref a))] : Loc)) (L1 = ([(a, .list (intL (if ![(1 : Int), 4, 6].any (· == i.op) then [i.out] else [])), true)] : List Ent)) : Prop)
    let J1 : Loc → List Ent → Prop := fun ρ1 L1 => Ey1 (q1p ρ1 L1)
    refine SS.cons (S1.cutO (σ0 := σ0) J1 (S1.iteW (WT.notInT (by kspl_open wpe) (by kspl_open wpis) H fun σ H => ?_)) ?_)
    · split
      · rename_i h
        refine SS.cons (S1.name (WV.newL (by kspl_open wpes) H fun a2 σ H => ⟨_, (by kspl_open wset), ?_⟩))
        exact SS.nil ⟨rfl, _, H.sub (.cons₂ _ (.cons _ (.refl _))), a2, rfl, by rw [if_pos h]; rfl⟩
      · rename_i h
        exact SS.nil ⟨rfl, _, H, a, rfl, by rw [if_neg h]; rfl⟩
    rintro ρ1 σ L1 H ⟨a, rfl, rfl⟩
    refine SS.cons (S1.cutO (σ0 := σ0) (fun ρ1 L1 => ρ1 = ([("prog", some (.ref p)), ("number", some (.int k 0)), ("inst", some (.ref x)), ("found", some (.ref a))] : Loc) ∧ L1 = ([(a, .list (intL ((if ![(1 : Int), 4, 6].any (· == i.op) then [i.out] else []) ++ (if i.op == 0 then [i.arg] else []))), true)] : List Ent)) (S1.ite (by kspl_open wpt) (fun h => ?_) (fun h => ?_)) ?_)
    · refine SS.cons (S1.expr (WV.appendO (by kspl_open wpe) (by kspl_open wpe) H (by kspl_open wput) ?_ fun σ H => ?_))
      · split <;> simp
      · exact SS.nil ⟨rfl, _, H, rfl, by simp [h]⟩
    · exact SS.nil ⟨rfl, _, H, rfl, by simp [h]⟩
    rintro ρ1 σ L1 H ⟨rfl, rfl⟩
    refine SS.cons (S1.ite (by kspl_open wpt) (fun h3 => ?_) (fun h3 => ?_))
    · refine SS.cons (S1.expr (WV.appendO (by kspl_open wpe) (by kspl_open wpe) H (by kspl_open wput) ?_ fun σ H => ?_))
      · (repeat' split) <;> simp
      · refine SS.nil ?_
        refine SS.cons (S1.ret (WV.pe (by kspl_open wpe) ?_))
        exact ⟨_, H, a, rfl, by simp [lways, h3]⟩
    · refine SS.nil ?_
      refine SS.cons (S1.ret (WV.pe (by kspl_open wpe) ?_))
      exact ⟨_, H, a, rfl, by simp [lways, h3]⟩
end
section
variable {f : Fx} {ρ : Loc} {σ : St}


theorem wc_down {c : Cx} {p : Addr} {g : Pg} {r : PR} (hs : Sound g) : ∀ (m : Nat) {fz : Addr → Prop} {σ0 σ : St} {L : List Ent} {k : Int} {fo : List Int} {a : Addr}, IsP σ0 p g r → InR g k → Own fz σ0 σ L → (a, .list (intL fo), true) ∈ L → unmet g.insts.length fo ≤ m → (∀ x ∈ fo, InR g x) → fo.length + unmet g.insts.length fo ≤ g.insts.length →
    WC c (m + 2) fz σ (.ref 249) [.ref p, .int k 0, .ref a] fun v σ' => ∃ fo' L', v = .ref a ∧ Put a (.list (intL fo)) (.list (intL fo')) L L' ∧ Own fz σ0 σ' L' ∧ (∀ st r', Clo g fo' st r' → Clo g fo (k :: st) r') ∧ (∀ x ∈ fo', InR g x) ∧ unmet g.insts.length fo' ≤ unmet g.insts.length fo ∧ fo'.length + unmet g.insts.length fo' ≤ g.insts.length := by
  intro m
  induction m with
  | zero => ?_
  | succ m ih => ?_
  all_goals
    intro fz σ0 σ L k fo a hp hk H hm hu hfo hlen
    have nd := H.nd
    refine WC.fnO (ρ := [("prog", some (.ref p)), ("number", some (.int k 0)), ("found", some (.ref a)), ("way", none)]) (gl := ["_law_ways", "_law_down"]) (cl := []) (pa := [("prog", .ref p), ("number", .int k 0), ("found", .ref a)]) (rest := ["way"]) rfl (.of fun P => by kernel_rfl) (fun P => by kernel_rfl) (fun P raw e => ?_) fun env => ?_
    · obtain ⟨u, v, w, rfl, e1, e2, e3⟩ := raw3 e
      exact ⟨[("prog", u), ("number", v), ("found", w)], by kernel_rfl, pa3 e1 e2 e3⟩
    conv => arg 4; whnf
    refine SS.cons (S1.ite (by kspl_open wpt) (fun hb => ?_) (fun hb => ?_))
    rotate_left
    · have hn : k ∈ fo := by first | exact of_decide_eq_true hb | exact eq_of_beq hb | exact ne_of_beq_false hb | exact of_decide_eq_false hb | exact beq_iff_eq.mpr hb | exact beq_false_of_ne hb | simpa using hb
      refine SS.nil ?_
      refine SS.cons (S1.ret (WV.pe (by kspl_open wpe) ⟨fo, L, rfl, Put.self hm, H, fun st r' h => .skip hn h, hfo, Nat.le_refl _, hlen⟩))
    have hn : k ∉ fo := by first | exact of_decide_eq_true hb | exact eq_of_beq hb | exact ne_of_beq_false hb | exact of_decide_eq_false hb | exact beq_iff_eq.mpr hb | exact beq_false_of_ne hb | simpa using hb
    have hul := unmet_lt hk hn
    have hsm := hs.small
  · exfalso; lia
  · obtain ⟨L1, hput⟩ := Put.ex (.list (intL fo ++ [.int k 0])) hm
    refine SS.cons (S1.expr (WV.appendO (by kspl_open wpe) (by kspl_open wpe) H (by kspl_open wput) ?_ fun σ H => ?_))
    · (first | ((repeat first | refine lmap_lt ?_ | refine lmap_le ?_); kspl_open wln) | (rw [List.length_map]; kspl_open wln))
    rw [intL_app] at hput
    obtain ⟨i, hi, hwy⟩ := hk.at_
    refine SS.cons (S1.forO (σ0 := σ0) (WV.callO (PE.globR (by kspl_open wmem) g__law_ways) ((fun P => by kernel_rfl)) (by kspl_open wpes) H (wc_lways (hp.ext H.ext) hk.1 hi H.fzs) ?_))
    rintro v σ L' ⟨b, rfl, rfl⟩ H
    dsimp only [List.cons_append, List.nil_append] at H
    rw [lways_eq hs hi, ← hwy] at H
    let p1p := fun (i : Nat) (ρ2 : Loc) (L2 : List Ent) fi o Li => (Ay7 (ρ2 = ([("prog", some (.ref p)), ("number", some (.int k 0)), ("found", some (.ref a)), ("way", o)] : Loc)) (L2 = (b, .list (intL (wy g k)), false) :: Li) (Put a (.list (intL fo)) (.list (intL fi)) L Li) ((∀ st r', Clo g fi ((wy g k).drop i ++ st) r' → Clo g (fo ++ [k]) (wy g k ++ st) r')) ((∀ x ∈ fi, InR g x)) (unmet g.insts.length fi ≤ unmet g.insts.length (fo ++ [k])) (fi.length + unmet g.insts.length fi ≤ g.insts.length) : Prop)
    let I1 : Nat → Loc → List Ent → Prop := fun i ρ2 L2 => Ey3 (p1p i ρ2 L2)
    refine ⟨_, _, b, _, rfl, Iter.list (H.get _ _ _ (by kspl_open wmem)), H.moreO (Frz.here _ _), I1, ⟨fo ++ [k], none, L1, rfl, rfl, hput, fun st r' h => h, ?_, Nat.le_refl _, by simp; kspl_open wln⟩, ?_, ?_⟩
    · intro y hy
      rcases List.mem_append.mp hy with h | h
      · exact hfo y h
      · simp at h; exact h ▸ hk
    · rintro i x ρ2 σ2 L2 hx H ⟨fi, o, Li, rfl, rfl, hpi, hcl, hfi, hui, hli⟩
      rw [List.getElem?_map] at hx
      obtain ⟨w, hw, rfl⟩ := Option.map_eq_some_iff.mp hx
      have hwr := hs.ways k hk w (List.mem_of_getElem? hw)
      refine ⟨_, (by kspl_open wset), ?_⟩
      refine SS.cons (S1.expr (WV.callG (PE.globR (by kspl_open wmem) g__law_down) (fun P => by kernel_rfl) (WLs.pes (by kspl_open wpes) rfl (((ih hp hwr H (List.mem_cons_of_mem _ hpi.mem') (by kspl_open wln) hfi hli).le (by show m + 2 ≤ m + 2; kspl_open wln)).mono ?_))))
      rintro v σ3 ⟨fo', L', rfl, hp2, H, hcl2, hfo', hu', hl'⟩
      obtain ⟨L3, rfl, hp3⟩ := hp2.ro rfl
      · refine SS.nil ⟨_, H, fo', _, _, rfl, rfl, hpi.trans nd hp3, fun st r' h => hcl st r' ?_, hfo', by kspl_open wln, hl'⟩
        · have hd : (wy g k).drop i = w :: (wy g k).drop (i + 1) := by
            obtain ⟨hlt, e⟩ := List.getElem?_eq_some_iff.mp hw
            rw [← e]; exact List.drop_eq_getElem_cons hlt
          rw [hd, List.cons_append]
          exact hcl2 _ _ h
    · rintro ρ2 σ2 L2 H ⟨fi, o, Li, rfl, rfl, hpi, hcl, hfi, hui, hli⟩
      refine SS.nil ?_
      refine SS.cons (S1.ret (WV.pe (by kspl_open wpe) ⟨fi, Li, rfl, hpi, H.sub (List.sublist_cons_self ..), fun st r' h => .go hn (hcl st r' ?_), hfi, by kspl_open wln, hli⟩))
      simpa using h
end
section
variable {f : Fx} {ρ : Loc} {σ : St}


/-- where lists begin -/
noncomputable def headsTo (g : Pg) (n : Nat) : List Int := 0 :: ((List.range n).filter fun k => (g.insts[k]?.map (·.last)).getD false).map fun k => ((k : Nat) : Int) + 1
theorem headsTo_len (g : Pg) (n : Nat) : (headsTo g n).length ≤ n + 1 := by
  unfold headsTo; simp only [List.length_cons, List.length_map]
  have := List.length_filter_le (fun k => (g.insts[k]?.map (·.last)).getD false) (List.range n)
  simp at this; kspl_open wln
theorem headsTo_succ (g : Pg) (n : Nat) (i : In) (h : g.insts[n]? = some i) : headsTo g (n + 1) = headsTo g n ++ (if i.last then [((n : Nat) : Int) + 1] else []) := by
  unfold headsTo
  rw [List.range_succ, List.filter_append, List.map_append, List.cons_append]
  congr 2
  simp only [List.filter_cons, List.filter_nil, h, Option.map_some, Option.getD_some]
  split <;> simp
noncomputable def headsOf (g : Pg) : List Int := headsTo g (g.insts.length - 1)

noncomputable def P_heads (g : Pg) : Value → List Ent → Prop := fun v L => (Ey1 fun a => Ay2 (v = .ref a) (L = [(a, .list (intL (headsOf g)), true)]))
theorem wc_heads {σ0 : St} {c : Cx} {n : Nat} {fz : Addr → Prop} {p : Addr} {g : Pg} {r : PR} (hp : IsP σ0 p g r) (hsm : g.insts.length ≤ 1000) (hfz : ∀ a, fz a → σ0 a ≠ none) :
    WC c (n + 1) fz σ0 (.ref 152) [.ref p] (Ret fz σ0 (P_heads g)) := by
  refine WC.fnO (ρ := [("prog", some (.ref p)), ("found", none), ("number", none)]) (gl := ["range", "len"]) (cl := []) (pa := [("prog", .ref p)]) (rest := ["found", "number"]) rfl (.of fun P => by kernel_rfl) (fun P => by kernel_rfl) (hb1 fun P u => by kernel_rfl) fun env => ?_
  · have H : Own fz σ0 σ0 [] := Own.start hfz
    conv => arg 4; whnf
    refine SS.cons (S1.name (WV.newL (by kspl_open wpes) H fun a σ H => ⟨_, (by kspl_open wset), ?_⟩))
    refine SS.cons (S1.forO (σ0 := σ0) (WV.callT (by kspl_open wpe) (WLs.pes (.cons (by kspl_open wpe) .nil) rfl (WC.range1 (by kspl_open wln) (by kspl_open wln) fun b hb => ?_))))
    let p1p := fun (i : Nat) (ρ2 : Loc) (L2 : List Ent) o => (Ay2 (ρ2 = ([("prog", some (.ref p)), ("found", some (.ref a)), ("number", o)] : Loc)) (L2 = ([(a, .list (intL (headsTo g i)), true)] : List Ent)) : Prop)
    let I1 : Nat → Loc → List Ent → Prop := fun i ρ2 L2 => Ey1 (p1p i ρ2 L2)
    refine ⟨_, _, b, _, rfl, Iter.rng (St.set_same ..), Own.moreN ((H.alloc hb).sub (List.sublist_cons_self ..)), I1, ⟨none, rfl, rfl⟩, ?_, ?_⟩
    · rintro i x ρ2 σ2 L2 hx H ⟨o, rfl, rfl⟩
      have hi : i < g.insts.length - 1 := by
        have := (List.getElem?_eq_some_iff.mp hx).1
        simp [upto] at this; kspl_open wln
      have hxe : x = .int (i : Int) 0 := by
        obtain ⟨h1, h2⟩ := List.getElem?_eq_some_iff.mp hx
        simp [upto] at h2; exact h2.symm
      subst hxe
      refine ⟨_, (by kspl_open wset), ?_⟩
      have hg : g.insts[i]? = some g.insts[i] := List.getElem?_eq_getElem (by kspl_open wln)
      obtain ⟨y, hy, hI⟩ := hp.ix hg
      have h0 : (0 : Int) ≤ (i : Int) := by kspl_open wln
      have hy' : r.xs[((i : Nat) : Int).toNat]? = some y := by first | exact of_decide_eq_true hy | exact eq_of_beq hy | exact ne_of_beq_false hy | exact of_decide_eq_false hy | exact beq_iff_eq.mpr hy | exact beq_false_of_ne hy | simpa using hy
      refine SS.cons (S1.ite (by kspl_open wpt) (fun hb => ?_) (fun hb => ?_))
      · refine SS.cons (S1.expr (WV.appendO (by kspl_open wpe) (by kspl_open wpe) H (by kspl_open wput) ?_ fun σ H => ?_))
        · have := headsTo_len g i; (first | ((repeat first | refine lmap_lt ?_ | refine lmap_le ?_); kspl_open wln) | (rw [List.length_map]; kspl_open wln))
        refine SS.nil (SS.nil ⟨_, H, _, rfl, ?_⟩)
        rw [headsTo_succ g i _ hg, hb]; simp
      · refine SS.nil (SS.nil ⟨_, H, _, rfl, ?_⟩)
        rw [headsTo_succ g i _ hg, hb]; simp
    · rintro ρ2 σ2 L2 H ⟨o, rfl, rfl⟩
      refine SS.cons (S1.ret (WV.pe (by kspl_open wpe) ⟨_, H, a, rfl, ?_⟩))
      have : (upto ((g.insts.length : Int) - 1)).length = g.insts.length - 1 := by simp [upto]
      rw [this]; rfl
end
section
variable {f : Fx} {ρ : Loc} {σ : St}


noncomputable def capTo (l : List In) : Int := l.foldl (fun m x => if x.op == 2 then max m (x.arg.fdiv 2) else m) 0
theorem take_succ_of {α} {l : List α} {n : Nat} {x : α} (h : l[n]? = some x) : l.take (n + 1) = l.take n ++ [x] := by rw [List.take_add_one, h]; rfl
theorem refs_get {xs : List Addr} {n : Nat} {v : Value} (h : (refs xs)[n]? = some v) : ∃ x, xs[n]? = some x ∧ v = .ref x := by
  rw [List.getElem?_map] at h
  obtain ⟨x, h1, h2⟩ := Option.map_eq_some_iff.mp h
  exact ⟨x, h1, h2.symm⟩
theorem capTo_snoc (l : List In) (x : In) : capTo (l ++ [x]) = if x.op == 2 then max (capTo l) (x.arg.fdiv 2) else capTo l := by unfold capTo; rw [List.foldl_append]; rfl

noncomputable def P_captures (g : Pg) : Value → List Ent → Prop := fun v L => v = .int (capTo g.insts) 0 ∧ L = []
theorem wc_captures {σ0 : St} {c : Cx} {n : Nat} {fz : Addr → Prop} {p : Addr} {g : Pg} {r : PR} (hp : IsP σ0 p g r) (hfz : ∀ a, fz a → σ0 a ≠ none) :
    WC c (n + 1) fz σ0 (.ref 99) [.ref p] (Ret fz σ0 (P_captures g)) := by
  refine WC.fnO (ρ := [("prog", some (.ref p)), ("most", none), ("inst", none)]) (gl := ["INST_CAPTURE", "max"]) (cl := []) (pa := [("prog", .ref p)]) (rest := ["most", "inst"]) rfl (.of fun P => by kernel_rfl) (fun P => by kernel_rfl) (hb1 fun P u => by kernel_rfl) fun env => ?_
  · have H : Own fz σ0 σ0 [] := Own.start hfz
    conv => arg 4; whnf
    refine SS.cons (S1.name (WV.pe (by kspl_open wpe) ⟨_, by kspl_open wset, ?_⟩))
    refine SS.cons (S1.forO (σ0 := σ0) (WV.pe (by kspl_open wpe) ?_))
    let p1p := fun (i : Nat) (ρ2 : Loc) (L2 : List Ent) o => (Ay2 (ρ2 = ([("prog", some (.ref p)), ("most", some (.int (capTo (g.insts.take i)) 0)), ("inst", o)] : Loc)) (L2 = []) : Prop)
    let I1 : Nat → Loc → List Ent → Prop := fun i ρ2 L2 => Ey1 (p1p i ρ2 L2)
    refine ⟨_, _, _, _, rfl, Iter.list hp.L, H.moreB hp.L, I1, ⟨none, rfl, rfl⟩, ?_, ?_⟩
    · rintro i x ρ2 σ2 L2 hx H ⟨o, rfl, rfl⟩
      obtain ⟨y, hy, rfl⟩ := refs_get hx
      obtain ⟨q, hq, hI⟩ := hp.px hy
      refine ⟨_, (by kspl_open wset), ?_⟩
      have ht := take_succ_of hq
      refine SS.cons (S1.ite (by kspl_open wpt) (fun hb => ?_) (fun hb => ?_))
      · refine SS.cons (S1.name (WV.callB (by kspl_open wpe) (WLs.pes (by kspl_open wpes) rfl (WC.max2 ⟨_, (by kspl_open wset), ?_⟩))))
        refine SS.nil (SS.nil ⟨_, H, some (.ref y), ?_, rfl⟩)
        rw [ht, capTo_snoc, if_pos hb]
      · refine SS.nil (SS.nil ⟨_, H, some (.ref y), ?_, rfl⟩)
        rw [ht, capTo_snoc, if_neg (by rw [hb]; decide)]
    · rintro ρ2 σ2 L2 H ⟨o, rfl, rfl⟩
      have e : g.insts.take (refs r.xs).length = g.insts := by rw [List.length_map, hp.len, List.take_length]
      rw [e]
      exact SS.cons (S1.ret (WV.pe (by kspl_open wpe) ⟨_, H, rfl, rfl⟩))

noncomputable def kv7 (c : Int → Int) : List (Int × Value) := [(0, .int (c 0) 0), (1, .int (c 1) 0), (2, .int (c 2) 0), (3, .int (c 3) 0), (4, .int (c 4) 0), (5, .int (c 5) 0), (6, .int (c 6) 0)]
noncomputable def cntOf (l : List In) (o : Int) : Int := ((l.filter (·.op == o)).length : Nat)
theorem cntOf_snoc (l : List In) (x : In) (o : Int) : cntOf (l ++ [x]) o = if o = x.op then cntOf l o + 1 else cntOf l o := by
  unfold cntOf
  rw [List.filter_append, List.length_append]
  by_cases h : o = x.op
  · subst h; simp
  · have : (x.op == o) = false := by simpa using fun e : x.op = o => h e.symm
    simp [this, h]
theorem kv7_stored (c : Int → Int) (o v : Int) (h : 0 ≤ o ∧ o ≤ 6) : stored (kv7 c) o (.int v 0) = kv7 fun k => if k = o then v else c k := by
  have := le6 h
  rcases this with e | e | e | e | e | e | e <;> subst e <;> rfl
theorem kv7_at (c : Int → Int) (o : Int) (h : 0 ≤ o ∧ o ≤ 6) : valueAt (kv7 c) o = some (.int (c o) 0) := by
  have := le6 h
  rcases this with e | e | e | e | e | e | e <;> subst e <;> rfl
theorem kv7_congr {c d : Int → Int} (h : ∀ o, c o = d o) : kv7 c = kv7 d := by rw [funext h]

noncomputable def P_counts (g : Pg) : Value → List Ent → Prop := fun v L => (Ey1 fun a => Ay2 (v = .ref a) (L = [(a, .dic (kv7 (cntOf g.insts)), true)]))
theorem wc_counts {σ0 : St} {c : Cx} {n : Nat} {fz : Addr → Prop} {p : Addr} {g : Pg} {r : PR} (hp : IsP σ0 p g r) (hs : Sound g) (hfz : ∀ a, fz a → σ0 a ≠ none) :
    WC c (n + 1) fz σ0 (.ref 106) [.ref p] (Ret fz σ0 (P_counts g)) := by
  refine WC.fnO (ρ := [("prog", some (.ref p)), ("found", none), ("op", none), ("inst", none)]) (gl := ["INST_ALT", "INST_RANGE", "INST_CAPTURE", "INST_EMPTY", "INST_MATCH", "INST_NOP", "INST_FAIL"]) (cl := []) (pa := [("prog", .ref p)]) (rest := ["found", "op", "inst"]) rfl (.of fun P => by kernel_rfl) (fun P => by kernel_rfl) (hb1 fun P u => by kernel_rfl) fun env => ?_
  · have H : Own fz σ0 σ0 [] := Own.start hfz
    conv => arg 4; whnf
    refine SS.cons (S1.name (WV.dic0 H fun a σ H => ⟨_, (by kspl_open wset), ?_⟩))
    refine SS.cons (S1.forO (σ0 := σ0) (WV.newT (by kspl_open wpes) H fun b σ H => ?_))
    let p2p := fun (i : Nat) (ρ2 : Loc) (L2 : List Ent) o => (Ay2 (ρ2 = ([("prog", some (.ref p)), ("found", some (.ref a)), ("op", o), ("inst", none)] : Loc)) (L2 = ([(b, .tup [.int 0 0, .int 1 0, .int 2 0, .int 3 0, .int 4 0, .int 5 0, .int 6 0], false), (a, .dic ((kv7 fun _ => 0).take i), true)] : List Ent)) : Prop)
    let I2 : Nat → Loc → List Ent → Prop := fun i ρ2 L2 => Ey1 (p2p i ρ2 L2)
    refine ⟨_, _, b, _, rfl, Iter.tup (H.get _ _ _ (by kspl_open wmem)), H.moreO (Frz.here _ _), I2, ⟨none, rfl, rfl⟩, ?_, ?_⟩
    · rintro i x ρ2 σ2 L2 hx H ⟨o, rfl, rfl⟩
      have hi : i < 7 := (List.getElem?_eq_some_iff.mp hx).1
      have hxe : x = .int (i : Int) 0 := by
        have := lt7 (i := i) (by kspl_open wln)
        rcases this with e | e | e | e | e | e | e <;> subst e <;> exact (Option.some.inj hx).symm
      subst hxe
      refine ⟨_, (by kspl_open wset), ?_⟩
      refine SS.cons (S1.setD (by kspl_open wpe) (by kspl_open wpe) (by kspl_open wpe) H (by kspl_open wput) ?_ fun σ H => SS.nil ⟨_, H, _, rfl, ?_⟩)
      · rw [List.length_take]; kspl_open wln
      · have := lt7 (i := i) (by kspl_open wln)
        rcases this with e | e | e | e | e | e | e <;> subst e <;> rfl
    rintro ρ2 σ2 L2 H ⟨o, rfl, rfl⟩
    replace H := H.sub (List.sublist_cons_self ..)
    refine SS.cons (S1.forO (σ0 := σ0) (WV.pe (by kspl_open wpe) ?_))
    let p3p := fun (i : Nat) (ρ2 : Loc) (L2 : List Ent) o o' => (Ay2 (ρ2 = ([("prog", some (.ref p)), ("found", some (.ref a)), ("op", o'), ("inst", o)] : Loc)) (L2 = ([(a, .dic (kv7 (cntOf (g.insts.take i))), true)] : List Ent)) : Prop)
    let I3 : Nat → Loc → List Ent → Prop := fun i ρ2 L2 => Ey2 (p3p i ρ2 L2)
    refine ⟨_, _, _, _, rfl, Iter.list (H.ext _ _ hp.L), H.moreB hp.L, I3, ⟨none, o, rfl, rfl⟩, ?_, ?_⟩
    · rintro i x ρ2 σ2 L2 hx H ⟨o, o', rfl, rfl⟩
      obtain ⟨y, hy, rfl⟩ := refs_get hx
      obtain ⟨q, hq, hI⟩ := hp.px hy
      have hop := hs.ops i q hq
      have ht := take_succ_of hq
      refine ⟨_, (by kspl_open wset), ?_⟩
      refine SS.cons (S1.augD (by kspl_open wpe) (by kspl_open wpe) (by kspl_open wpe) H (kv7_at _ _ ⟨hop.1, hop.2.1⟩) (by kspl_open wput) (by show 7 < 1000000; decide) fun σ H => SS.nil ⟨_, H, _, _, rfl, ?_⟩)
      rw [kv7_stored _ _ _ ⟨hop.1, hop.2.1⟩, ht]
      rw [kv7_congr (d := cntOf (g.insts.take i ++ [q])) fun k => by rw [cntOf_snoc]; split <;> simp_all]
    · rintro ρ2 σ2 L2 H ⟨o, o', rfl, rfl⟩
      have e : g.insts.take (refs r.xs).length = g.insts := by rw [List.length_map, hp.len, List.take_length]
      rw [e] at H
      exact SS.cons (S1.ret (WV.pe (by kspl_open wpe) ⟨_, H, a, rfl, rfl⟩))
end
section
variable {f : Fx} {ρ : Loc} {σ : St}


noncomputable def rangeOut (i : In) : List Int := if i.op == 1 then [i.out] else []
noncomputable def steps (g : Pg) (k : Int) : List Int := wy g k ++ (match g.insts[k.toNat]? with | some i => rangeOut i | none => [])
theorem steps_at {g : Pg} {k : Int} {i : In} (h : g.insts[k.toNat]? = some i) : steps g k = ways g k i ++ rangeOut i := by unfold steps wy; rw [h]
theorem steps_len (g : Pg) (k : Int) : (steps g k).length ≤ 3 := by
  unfold steps; have := wy_len g k; rw [List.length_append]; split
  · unfold rangeOut; split <;> simp <;> lia
  · simp; kspl_open wln
theorem steps_in {g : Pg} (hs : Sound g) {k : Int} (h : InR g k) : ∀ y ∈ steps g k, InR g y := by
  intro y hy
  rcases List.mem_append.mp hy with hy | hy
  · exact hs.ways k h y hy
  · obtain ⟨i, hi, _⟩ := h.at_
    rw [hi] at hy
    unfold rangeOut at hy
    dsimp only at hy
    split at hy
    · rename_i e
      simp at hy e
      exact hy ▸ hs.outs _ i hi e
    · cases hy
inductive Rch (g : Pg) (root : Int) : Int → Prop
  | root : Rch g root root
  | step {x y : Int} : Rch g root x → y ∈ steps g x → Rch g root y
structure RL (g : Pg) (root : Int) (fo : List Int) : Prop where
  hd : ∃ rest, fo = root :: rest
  nd : fo.Nodup
  inr : ∀ x ∈ fo, InR g x
  sd : ∀ x ∈ fo, Rch g root x
  cnt : fo.length + unmet g.insts.length fo ≤ g.insts.length
theorem RL.start {g : Pg} {k : Int} (hk : InR g k) : RL g k [k] := ⟨⟨_, rfl⟩, (by kspl_open wle), by first | exact of_decide_eq_true hk | exact eq_of_beq hk | exact ne_of_beq_false hk | exact of_decide_eq_false hk | exact beq_iff_eq.mpr hk | exact beq_false_of_ne hk | simpa using hk, by simpa using Rch.root, by have := unmet_lt (fo := []) hk (by kspl_open wle); rw [unmet_nil] at this; simp at this ⊢; kspl_open wln⟩
theorem RL.add {g : Pg} {k w : Int} {fo : List Int} (h : RL g k fo) (hw : InR g w) (hr : Rch g k w) (hn : w ∉ fo) : RL g k (fo ++ [w]) := by
  obtain ⟨⟨rest, rfl⟩, h2, h3, h4, h5⟩ := h
  refine ⟨⟨rest ++ [w], rfl⟩, ?_, ?_, ?_, ?_⟩
  · refine List.nodup_append.mpr ⟨h2, (by kspl_open wle), fun a ha b hb => ?_⟩
    simp only [List.mem_singleton] at hb
    subst hb
    rintro rfl; exact hn ha
  · intro x hx; rcases List.mem_append.mp hx with hx | hx
    · exact h3 x hx
    · simp at hx; exact hx ▸ hw
  · intro x hx; rcases List.mem_append.mp hx with hx | hx
    · exact h4 x hx
    · simp at hx; exact hx ▸ hr
  · have := unmet_lt hw hn; simp only [List.length_append, List.length_singleton] at this ⊢; kspl_open wln
theorem RL.all {g : Pg} {k : Int} {fo : List Int} (h : RL g k fo) (hc : ∀ x ∈ fo, ∀ y ∈ steps g x, y ∈ fo) (x : Int) : x ∈ fo ↔ Rch g k x := by
  refine ⟨h.sd x, fun hr => ?_⟩
  induction hr with
  | root => obtain ⟨rest, rfl⟩ := h.hd; simp
  | step _ hy ih => exact hc _ ih _ hy

noncomputable def adk (ns : List Int) (k : Int) : List Int := if ns.contains k then ns else ns ++ [k]
noncomputable def qit (g : Pg) (k : Int) : Nat → List Int
  | 0 => [k]
  | t + 1 => (steps g ((qit g k t)[t]?.getD 0)).foldl adk (qit g k t)
noncomputable def QR (g : Pg) (k : Int) (fo : List Int) : Prop := ∃ t, fo = qit g k t ∧ t = fo.length ∧ ∀ j, j < t → j < (qit g k j).length
theorem QR.det {g : Pg} {k : Int} {a b : List Int} (h : QR g k a) (h' : QR g k b) : a = b := by
  obtain ⟨t, e1, e2, h1⟩ := h
  obtain ⟨t', e1', e2', h1'⟩ := h'
  have : t = t' := by
    rcases Nat.lt_trichotomy t t' with h | h | h
    · have := h1' t h; rw [← e1] at this; kspl_open wln
    · exact h
    · have := h1 t' h; rw [← e1'] at this; kspl_open wln
  rw [e1, e1', this]

noncomputable def P_reached (g : Pg) (k : Int) : Value → List Ent → Prop := fun v L => (Ey2 fun a fo => Ay5 (v = .ref a) (L = [(a, .list (intL fo), true)]) (RL g k fo) ((∀ x, x ∈ fo ↔ Rch g k x)) (QR g k fo))
theorem wc_reached {σ0 : St} {c : Cx} {n : Nat} {fz : Addr → Prop} {p : Addr} {g : Pg} {r : PR} {k : Int} (hp : IsP σ0 p g r) (hs : Sound g) (hk : InR g k) (hfz : ∀ a, fz a → σ0 a ≠ none) :
    WC c (n + 2) fz σ0 (.ref 92) [.ref p, .int k 0] (Ret fz σ0 (P_reached g k)) := by
  refine WC.fnO (ρ := [("prog", some (.ref p)), ("root", some (.int k 0)), ("found", none), ("is_met", none), ("at", none), ("number", none), ("ways", none), ("way", none)]) (gl := ["program_ways", "len", "INST_RANGE"]) (cl := []) (pa := [("prog", .ref p), ("root", .int k 0)]) (rest := ["found", "is_met", "at", "number", "ways", "way"]) rfl (.of fun P => by kernel_rfl) (fun P => by kernel_rfl) (hb2 fun P u v => by kernel_rfl) fun env => ?_
  · have H : Own fz σ0 σ0 [] := Own.start hfz
    have hsm := hs.small
    conv => arg 4; whnf
    refine SS.cons (S1.tupO (σ0 := σ0) (.cons _ _ (.cons _ _ (.cons _ _ .nil))) ?_)
    refine WLs.cons (WV.newL (by kspl_open wpes) H fun a1 σ H => WLs.cons (WV.dicN (.cons (by kspl_open wpe) (by kspl_open wpe) .nil) H fun a2 σ H => WLs.cons (WV.pe (by kspl_open wpe) (WLs.nil ⟨_, _, H, (by kspl_open wsta), (by kspl_open wstr), fun σ H => ?_⟩))))
    rw [show merged [] [(k, Value.bool true)] = marks [k] from rfl] at H
    let p1p := fun (m : Nat) (ρ1 : Loc) (L1 : List Ent) (t : Nat) (fo : List Int) (o1 o2 o3 : Option Value) => (Ay8 (ρ1 = ([("prog", some (.ref p)), ("root", some (.int k 0)), ("found", some (.ref a1)), ("is_met", some (.ref a2)), ("at", some (.int (t : Int) 0)), ("number", o1), ("ways", o2), ("way", o3)] : Loc)) (L1 = ([(a2, .dic (marks fo), true), (a1, .list (intL fo), true)] : List Ent)) (RL g k fo) ((∀ j x, j < t → fo[j]? = some x → ∀ y ∈ steps g x, y ∈ fo)) (t ≤ fo.length) (m = g.insts.length - t) (fo = qit g k t) (∀ j, j < t → j < (qit g k j).length) : Prop)
    let I1 : Nat → Loc → List Ent → Prop := fun m ρ1 L1 => Ey5 (p1p m ρ1 L1)
    refine SS.cons (S1.whileO (σ0 := σ0) H I1 g.insts.length ⟨0, [k], none, none, none, rfl, rfl, RL.start hk, fun _ _ h => absurd h (Nat.not_lt_zero _), (by kspl_open wle), (by kspl_open wle), rfl, fun _ h => absurd h (Nat.not_lt_zero _)⟩ ?_)
    rintro m ρ1 σ L1 H ⟨t, fo, o1, o2, o3, rfl, rfl, hR, hcl, htl, rfl, hq, hqj⟩
    refine ⟨_, (by kspl_open wpt), fun hb => ?_, fun hb => ?_⟩
    rotate_left
    · have ht : t = fo.length := by simp at hb; kspl_open wln
      exact SS.cons (S1.ret (WV.pe (by kspl_open wpe) ⟨_, H.sub (List.sublist_cons_self ..), a1, fo, rfl, rfl, hR, hR.all fun x hx y hy => by
        obtain ⟨j, hj, e⟩ := List.getElem_of_mem hx
        exact hcl j x (by kspl_open wln) (by rw [List.getElem?_eq_getElem hj, e]) y hy, ⟨t, hq, ht, hqj⟩⟩))
    have ht : t < fo.length := by simp at hb; kspl_open wln
    have hcnt := hR.cnt
    obtain ⟨x, hxe⟩ : ∃ x, fo[t]? = some x := ⟨_, List.getElem?_eq_getElem ht⟩
    have hxr := hR.inr x (List.mem_of_getElem? hxe)
    have hxx := hR.sd x (List.mem_of_getElem? hxe)
    have hx1 : (intL fo)[((t : Nat) : Int).toNat]? = some (.int x 0) := by simp [hxe]
    obtain ⟨i, hi, hwy⟩ := hxr.at_
    obtain ⟨y, hy, hI⟩ := hp.ix hi
    have hx0 := hxr.1
    refine SS.cons (S1.name (WV.pe (PE.item (by kspl_open wpe) (by kspl_open wpe) (Itm.list (H.get _ _ _ (by kspl_open wmem)) (Int.natCast_nonneg t) hx1)) ⟨_, (by kspl_open wset), ?_⟩))
    refine SS.cons (S1.name (WV.pe (by kspl_open wpe) ⟨_, by kspl_open wset, ?_⟩))
    refine SS.cons (S1.name (WV.callO (PE.globR (by kspl_open wmem) g_program_ways) (fun P => by kernel_rfl) (by kspl_open wpes) H (wc_ways (hp.ext H.ext) hx0 hi H.fzs) ?_))
    rintro v σ L' ⟨b, rfl, rfl⟩ H
    refine ⟨_, (by kspl_open wset), ?_⟩
    dsimp only [List.cons_append, List.nil_append] at H
    refine SS.cons (S1.cutO (σ0 := σ0) (fun ρ1 L1 => ρ1 = ([("prog", some (.ref p)), ("root", some (.int k 0)), ("found", some (.ref a1)), ("is_met", some (.ref a2)), ("at", some (.int ((t : Int) + 1) 0)), ("number", some (.int x 0)), ("ways", some (.ref b)), ("way", o3)] : Loc) ∧ L1 = ([(b, .list (intL (steps g x)), true), (a2, .dic (marks fo), true), (a1, .list (intL fo), true)] : List Ent)) (S1.ite (by kspl_open wpt) (fun h => ?_) (fun h => ?_)) ?_)
    · refine SS.cons (S1.expr (WV.appendO (by kspl_open wpe) (by kspl_open wpe) H (by kspl_open wput) ?_ fun σ H => ?_))
      · have := ways_len g x i; (first | ((repeat first | refine lmap_lt ?_ | refine lmap_le ?_); kspl_open wln) | (rw [List.length_map]; kspl_open wln))
      rw [intL_app] at H
      exact SS.nil ⟨rfl, _, H, rfl, by rw [steps_at hi]; simp [rangeOut, h]⟩
    · exact SS.nil ⟨rfl, _, H, rfl, by rw [steps_at hi]; simp [rangeOut, h]⟩
    rintro ρ1 σ L1 H ⟨rfl, rfl⟩
    refine SS.cons (S1.forO (σ0 := σ0) (WV.pe (by kspl_open wpe) ?_))
    let p2p := fun (i : Nat) (ρ2 : Loc) (L2 : List Ent) fi o => (Ay6 (ρ2 = ([("prog", some (.ref p)), ("root", some (.int k 0)), ("found", some (.ref a1)), ("is_met", some (.ref a2)), ("at", some (.int ((t : Int) + 1) 0)), ("number", some (.int x 0)), ("ways", some (.ref b)), ("way", o)] : Loc)) (L2 = ([(b, .list (intL (steps g x)), false), (a2, .dic (marks fi), true), (a1, .list (intL fi), true)] : List Ent)) (RL g k fi) (((Ey1 fun more => fi = fo ++ more))) ((∀ y ∈ (steps g x).take i, y ∈ fi)) (fi = ((steps g x).take i).foldl adk fo) : Prop)
    let I2 : Nat → Loc → List Ent → Prop := fun i ρ2 L2 => Ey2 (p2p i ρ2 L2)
    refine ⟨_, _, b, _, rfl, Iter.list (H.get _ _ _ (by kspl_open wmem)), H.moreO (Frz.here _ _), I2, ⟨fo, o3, rfl, rfl, hR, ⟨[], (by kspl_open wle)⟩, (by kspl_open wle), (by kspl_open wle)⟩, ?_, ?_⟩
    · rintro i z ρ2 σ2 L2 hz H ⟨fi, o, rfl, rfl, hRi, ⟨more, rfl⟩, hall, hfold⟩
      rw [List.getElem?_map] at hz
      obtain ⟨w, hw, rfl⟩ := Option.map_eq_some_iff.mp hz
      have hwm := List.mem_of_getElem? hw
      have hwr := steps_in hs hxr w hwm
      have hci := hRi.cnt
      refine ⟨_, (by kspl_open wset), ?_⟩
      refine SS.cons (S1.ite (by kspl_open wpt) (fun h => ?_) (fun h => ?_))
      · have hn : w ∉ fo ++ more := by first | exact of_decide_eq_true h | exact eq_of_beq h | exact ne_of_beq_false h | exact of_decide_eq_false h | exact beq_iff_eq.mpr h | exact beq_false_of_ne h | simpa using h
        refine SS.cons (S1.setD (by kspl_open wpe) (by kspl_open wpe) (by kspl_open wpe) H (by kspl_open wput) ?_ fun σ H => ?_)
        · (first | ((repeat first | refine lmap_lt ?_ | refine lmap_le ?_); kspl_open wln) | (rw [List.length_map]; kspl_open wln))
        rw [stored_marks hn] at H
        refine SS.cons (S1.expr (WV.appendO (by kspl_open wpe) (by kspl_open wpe) H (by kspl_open wput) ?_ fun σ H => ?_))
        · (first | ((repeat first | refine lmap_lt ?_ | refine lmap_le ?_); kspl_open wln) | (rw [List.length_map]; kspl_open wln))
        rw [intL_app] at H
        refine SS.nil (SS.nil ⟨_, H, _, _, rfl, rfl, hRi.add hwr (.step hxx hwm) hn, ⟨more ++ [w], (by kspl_open wle)⟩, fun y hy => ?_, by rw [take_succ_of hw, List.foldl_append, ← hfold]; simp only [List.foldl_cons, List.foldl_nil, adk]; rw [if_neg (by first | exact of_decide_eq_true hn | exact eq_of_beq hn | exact ne_of_beq_false hn | exact of_decide_eq_false hn | exact beq_iff_eq.mpr hn | exact beq_false_of_ne hn | simpa using hn)]⟩)
        rw [take_succ_of hw] at hy
        rcases List.mem_append.mp hy with hy | hy
        · exact List.mem_append_left _ (hall y hy)
        · exact List.mem_append_right _ hy
      · have hn : w ∈ fo ++ more := by rw [Bool.not_eq_false', List.contains_iff_mem] at h; exact h
        refine SS.nil (SS.nil ⟨_, H, _, some (.int w 0), rfl, rfl, hRi, ⟨more, rfl⟩, fun y hy => ?_, by rw [take_succ_of hw, List.foldl_append, ← hfold]; simp only [List.foldl_cons, List.foldl_nil, adk]; rw [if_pos (by first | exact of_decide_eq_true hn | exact eq_of_beq hn | exact ne_of_beq_false hn | exact of_decide_eq_false hn | exact beq_iff_eq.mpr hn | exact beq_false_of_ne hn | simpa using hn)]⟩)
        rw [take_succ_of hw] at hy
        rcases List.mem_append.mp hy with hy | hy
        · exact hall y hy
        · simp at hy; exact hy ▸ hn
    · rintro ρ2 σ2 L2 H ⟨fi, o, rfl, rfl, hRi, ⟨more, rfl⟩, hall, hfold⟩
      refine SS.nil ⟨g.insts.length - (t + 1), _, Nat.sub_lt_sub_left (by kspl_open wln) (Nat.lt_succ_self t), H.sub (List.sublist_cons_self ..), t + 1, fo ++ more, _, _, o, rfl, rfl, hRi, fun j x' hj hx' y hy => ?_, by simp; kspl_open wln, rfl, ?_, fun j hj => ?_⟩
      rotate_left
      · rw [hfold, List.take_of_length_le (by kspl_open wle)]
        show _ = (steps g ((qit g k t)[t]?.getD 0)).foldl adk (qit g k t)
        rw [← hq, hxe]; rfl
      · by_cases e : j < t
        · exact hqj j e
        · have : j = t := by kspl_open wln
          rw [this, ← hq]; exact ht
      by_cases hjt : j < t
      · rw [List.getElem?_append_left (by kspl_open wln)] at hx'
        exact List.mem_append_left _ (hcl j x' hjt hx' y hy)
      · have : j = t := by kspl_open wln
        subst this
        rw [List.getElem?_append_left ht, hxe] at hx'
        cases hx'
        exact hall y (by rw [List.take_of_length_le (by kspl_open wle)]; exact hy)
end
section
variable {f : Fx} {ρ : Loc} {σ : St}


noncomputable def wvs (g : Pg) (mo : List Int) : List Int := mo.flatMap (steps g)
theorem wvs_snoc (g : Pg) (mo : List Int) (x : Int) : wvs g (mo ++ [x]) = wvs g mo ++ steps g x := by unfold wvs; simp
theorem wvs_len (g : Pg) : ∀ mo, (wvs g mo).length ≤ 3 * mo.length
  | [] => by simp [wvs]
  | x :: mo => by
    have := wvs_len g mo
    have := steps_len g x
    unfold wvs at *
    rw [List.flatMap_cons, List.length_append, List.length_cons]; kspl_open wln

noncomputable def P_lreached (g : Pg) (k : Int) : Value → List Ent → Prop := fun v L => (Ey2 fun a fo => Ay4 (v = .ref a) (L = [(a, .list (intL fo), true)]) (RL g k fo) (∀ x, x ∈ fo ↔ Rch g k x))
theorem wc_lreached {σ0 : St} {c : Cx} {n : Nat} {fz : Addr → Prop} {p : Addr} {g : Pg} {r : PR} {k : Int} (hp : IsP σ0 p g r) (hs : Sound g) (hk : InR g k) (hfz : ∀ a, fz a → σ0 a ≠ none) :
    WC c (n + 2) fz σ0 (.ref 273) [.ref p, .int k 0] (Ret fz σ0 (P_lreached g k)) := by
  refine WC.fnO (ρ := [("prog", some (.ref p)), ("root", some (.int k 0)), ("found", none), ("more", none), ("ways", none), ("number", none), ("way", none)]) (gl := ["_law_ways", "INST_RANGE"]) (cl := []) (pa := [("prog", .ref p), ("root", .int k 0)]) (rest := ["found", "more", "ways", "number", "way"]) rfl (.of fun P => by kernel_rfl) (fun P => by kernel_rfl) (hb2 fun P u v => by kernel_rfl) fun env => ?_
  · have H : Own fz σ0 σ0 [] := Own.start hfz
    have hsm := hs.small
    conv => arg 4; whnf
    refine SS.cons (S1.tupO (σ0 := σ0) (.cons _ _ (.cons _ _ .nil)) ?_)
    refine WLs.cons (WV.newL (by kspl_open wpes) H fun a1 σ H => WLs.cons (WV.newL (by kspl_open wpes) H fun a2 σ H => WLs.nil ⟨_, _, H, (by kspl_open wsta), (by kspl_open wstr), fun σ H => ?_⟩))
    let p1p := fun (m : Nat) (ρ1 : Loc) (L1 : List Ent) (a2 : Addr) (fo mo : List Int) (o1 o2 o3 : Option Value) => (Ay7 (ρ1 = ([("prog", some (.ref p)), ("root", some (.int k 0)), ("found", some (.ref a1)), ("more", some (.ref a2)), ("ways", o1), ("number", o2), ("way", o3)] : Loc)) (L1 = ([(a2, .list (intL mo), true), (a1, .list (intL fo), true)] : List Ent)) (RL g k fo) ((∀ x ∈ mo, x ∈ fo)) (mo.length ≤ fo.length) ((∀ x ∈ fo, x ∉ mo → ∀ y ∈ steps g x, y ∈ fo)) (2 * unmet g.insts.length fo + (if mo = [] then 0 else 1) ≤ m) : Prop)
    let I1 : Nat → Loc → List Ent → Prop := fun m ρ1 L1 => Ey6 (p1p m ρ1 L1)
    refine SS.cons (S1.whileWO (σ0 := σ0) H I1 (2 * unmet g.insts.length [k] + 1) ⟨a2, [k], [k], none, none, none, rfl, rfl, RL.start hk, fun _ h => h, Nat.le_refl _, fun _ h h' => absurd h h', (by kspl_open wle)⟩ ?_)
    rintro m ρ1 σ L1 H ⟨a2, fo, mo, o1, o2, o3, rfl, rfl, hR, hmo, hml, hcl, hm⟩
    have hcnt := hR.cnt
    refine WT.neNil (by kspl_open wpe) H (.inl ⟨_, (by kspl_open wmem)⟩) fun σ H => ?_
    by_cases hmn : mo = []
    · subst hmn
      rw [if_neg (by kspl_open wle)]
      exact SS.cons (S1.ret (WV.pe (by kspl_open wpe) ⟨_, H.sub (List.sublist_cons_self ..), a1, fo, rfl, rfl, hR, hR.all fun x hx => hcl x hx (by kspl_open wle)⟩))
    rw [if_pos (by cases mo with | nil => exact absurd rfl hmn | cons _ _ => simp)]
    rw [if_neg hmn] at hm
    refine SS.cons (S1.name (WV.newL .nil H fun b σ H => ⟨_, (by kspl_open wset), ?_⟩))
    refine SS.cons (S1.forO (σ0 := σ0) (WV.pe (by kspl_open wpe) ?_))
    let p2p := fun (i : Nat) (ρ2 : Loc) (L2 : List Ent) o => (Ay2 (ρ2 = ([("prog", some (.ref p)), ("root", some (.int k 0)), ("found", some (.ref a1)), ("more", some (.ref a2)), ("ways", some (.ref b)), ("number", o), ("way", o3)] : Loc)) (L2 = ([(b, .list (intL (wvs g (mo.take i))), true), (a2, .list (intL mo), false), (a1, .list (intL fo), true)] : List Ent)) : Prop)
    let I2 : Nat → Loc → List Ent → Prop := fun i ρ2 L2 => Ey1 (p2p i ρ2 L2)
    refine ⟨_, _, a2, _, rfl, Iter.list (H.get _ _ _ (by kspl_open wmem)), H.moreO (Frz.there _ (Frz.here _ _)), I2, ⟨o2, rfl, rfl⟩, ?_, ?_⟩
    · rintro i z ρ2 σ2 L2 hz H ⟨o, rfl, rfl⟩
      rw [List.getElem?_map] at hz
      obtain ⟨x, hw, rfl⟩ := Option.map_eq_some_iff.mp hz
      have hxr := hR.inr x (hmo x (List.mem_of_getElem? hw))
      obtain ⟨q, hi, hwy⟩ := hxr.at_
      obtain ⟨y, hy, hI⟩ := hp.ix hi
      have hx0 := hxr.1
      have hlen := wvs_len g (mo.take i)
      rw [List.length_take] at hlen
      refine ⟨_, (by kspl_open wset), ?_⟩
      refine SS.cons (S1.expr (WV.extendO (by kspl_open wpe) ⟨_, (by kspl_open wmem)⟩ (WV.callO (PE.globR (by kspl_open wmem) g__law_ways) (fun P => by kernel_rfl) (by kspl_open wpes) H (wc_lways (hp.ext H.ext) hx0 hi H.fzs) ?_) H))
      rintro v σ L' ⟨d, rfl, rfl⟩ H
      dsimp only [List.cons_append, List.nil_append] at H
      rw [lways_eq hs hi] at H
      refine ⟨d, _, _, _, rfl, H, H.get _ _ _ (by kspl_open wmem), ?_, (by kspl_open wput), fun σ H => ?_⟩
      · have := ways_len g x q; (first | ((repeat first | refine lmap_lt ?_ | refine lmap_le ?_); kspl_open wln) | (simp only [List.length_map]; kspl_open wln))
      rw [intL_apps] at H
      refine SS.cons (S1.cutO (σ0 := σ0) (fun ρ1 L1 => ρ1 = ([("prog", some (.ref p)), ("root", some (.int k 0)), ("found", some (.ref a1)), ("more", some (.ref a2)), ("ways", some (.ref b)), ("number", some (.int x 0)), ("way", o3)] : Loc) ∧ L1 = ([(b, .list (intL (wvs g (mo.take (i + 1)))), true), (a2, .list (intL mo), false), (a1, .list (intL fo), true)] : List Ent)) (S1.ite (by kspl_open wpt) (fun h => ?_) (fun h => ?_)) ?_)
      · refine SS.cons (S1.expr (WV.appendO (by kspl_open wpe) (by kspl_open wpe) H (by kspl_open wput) ?_ fun σ H => ?_))
        · have := ways_len g x q; simp only [List.length_map, List.length_append]; kspl_open wln
        rw [intL_app] at H
        exact SS.nil ⟨rfl, _, H.sub (List.sublist_cons_self ..), rfl, by rw [take_succ_of hw, wvs_snoc, steps_at hi]; simp [rangeOut, h]⟩
      · exact SS.nil ⟨rfl, _, H.sub (List.sublist_cons_self ..), rfl, by rw [take_succ_of hw, wvs_snoc, steps_at hi]; simp [rangeOut, h]⟩
      rintro ρ1 σ L1 H ⟨rfl, rfl⟩
      exact SS.nil ⟨_, H, _, rfl, rfl⟩
    rintro ρ2 σ2 L2 H ⟨o, rfl, rfl⟩
    rw [List.take_of_length_le (by kspl_open wle)] at H
    have hlen := wvs_len g mo
    refine SS.cons (S1.name (WV.newL .nil H fun a3 σ H => ⟨_, (by kspl_open wset), ?_⟩))
    replace H : Own _ _ _ [(a3, .list [], true), (b, .list (intL (wvs g mo)), true), (a1, .list (intL fo), true)] := H.sub (.cons₂ _ (.cons₂ _ (.cons _ (.refl _))))
    refine SS.cons (S1.forO (σ0 := σ0) (WV.pe (by kspl_open wpe) ?_))
    let p3p := fun (i : Nat) (ρ2 : Loc) (L2 : List Ent) mi o' => (Ay5 (ρ2 = ([("prog", some (.ref p)), ("root", some (.int k 0)), ("found", some (.ref a1)), ("more", some (.ref a3)), ("ways", some (.ref b)), ("number", o), ("way", o')] : Loc)) (L2 = ([(a3, .list (intL mi), true), (b, .list (intL (wvs g mo)), false), (a1, .list (intL (fo ++ mi)), true)] : List Ent)) (RL g k (fo ++ mi)) (unmet g.insts.length (fo ++ mi) + mi.length ≤ unmet g.insts.length fo) (∀ y ∈ (wvs g mo).take i, y ∈ fo ++ mi) : Prop)
    let I3 : Nat → Loc → List Ent → Prop := fun i ρ2 L2 => Ey2 (p3p i ρ2 L2)
    refine ⟨_, _, b, _, rfl, Iter.list (H.get _ _ _ (by kspl_open wmem)), H.moreO (Frz.there _ (Frz.here _ _)), I3, ⟨[], o3, rfl, (by kspl_open wle), by first | exact of_decide_eq_true hR | exact eq_of_beq hR | exact ne_of_beq_false hR | exact of_decide_eq_false hR | exact beq_iff_eq.mpr hR | exact beq_false_of_ne hR | simpa using hR, (by kspl_open wle), (by kspl_open wle)⟩, ?_, ?_⟩
    · rintro i z ρ2 σ2 L2 hz H ⟨mi, o', rfl, rfl, hRi, hu, hall⟩
      rw [List.getElem?_map] at hz
      obtain ⟨w, hw, rfl⟩ := Option.map_eq_some_iff.mp hz
      have hwm := List.mem_of_getElem? hw
      obtain ⟨x, hx, hwx⟩ := List.mem_flatMap.mp hwm
      have hxr := hR.inr x (hmo x hx)
      have hwr := steps_in hs hxr w hwx
      have hci := hRi.cnt
      refine ⟨_, (by kspl_open wset), ?_⟩
      refine SS.cons (S1.ite (by kspl_open wpt) (fun h => ?_) (fun h => ?_))
      · have hn : w ∉ fo ++ mi := by first | exact of_decide_eq_true h | exact eq_of_beq h | exact ne_of_beq_false h | exact of_decide_eq_false h | exact beq_iff_eq.mpr h | exact beq_false_of_ne h | simpa using h
        have hul := unmet_lt hwr hn
        simp only [List.length_append] at hci
        refine SS.cons (S1.expr (WV.appendO (by kspl_open wpe) (by kspl_open wpe) H (by kspl_open wput) ?_ fun σ H => ?_))
        · simp only [List.length_map, List.length_append]; kspl_open wln
        rw [intL_app] at H
        refine SS.cons (S1.expr (WV.appendO (by kspl_open wpe) (by kspl_open wpe) H (by kspl_open wput) ?_ fun σ H => ?_))
        · (first | ((repeat first | refine lmap_lt ?_ | refine lmap_le ?_); kspl_open wln) | (simp only [List.length_map]; kspl_open wln))
        rw [intL_app] at H
        refine SS.nil (SS.nil ⟨_, H, mi ++ [w], some (.int w 0), rfl, (by kspl_open wle), by simpa using hRi.add hwr (.step (hR.sd x (hmo x hx)) hwx) hn, by simp only [List.append_assoc] at hul ⊢; simp; kspl_open wln, fun y hy => ?_⟩)
        rw [take_succ_of hw] at hy
        rw [← List.append_assoc]
        rcases List.mem_append.mp hy with hy | hy
        · exact List.mem_append_left _ (hall y hy)
        · exact List.mem_append_right _ hy
      · have hn : w ∈ fo ++ mi := by rw [Bool.not_eq_false', List.contains_iff_mem] at h; exact h
        refine SS.nil (SS.nil ⟨_, H, mi, some (.int w 0), rfl, rfl, hRi, hu, fun y hy => ?_⟩)
        rw [take_succ_of hw] at hy
        rcases List.mem_append.mp hy with hy | hy
        · exact hall y hy
        · simp only [List.mem_singleton] at hy; exact hy ▸ hn
    · rintro ρ2 σ2 L2 H ⟨mi, o', rfl, rfl, hRi, hu, hall⟩
      rw [List.take_of_length_le (by kspl_open wle)] at hall
      refine SS.nil ⟨2 * unmet g.insts.length (fo ++ mi) + (if mi = [] then 0 else 1), _, ?_, H.sub (.cons₂ _ (.cons _ (.refl _))), a3, fo ++ mi, mi, _, _, o', rfl, rfl, hRi, fun x hx => List.mem_append_right _ hx, (by kspl_open wle), fun x hx hxm y hy => ?_, Nat.le_refl _⟩
      · cases mi with
        | nil => simp at hm hu ⊢; kspl_open wln
        | cons z mi => simp only [List.length_cons] at hu; rw [if_neg (by kspl_open wle)]; kspl_open wln
      · have hxf : x ∈ fo := by rcases List.mem_append.mp hx with h | h; exact h; exact absurd h hxm
        by_cases hxo : x ∈ mo
        · exact hall y (List.mem_flatMap.mpr ⟨x, hxo, hy⟩)
        · exact List.mem_append_left _ (hcl x hxf hxo y hy)
end
section
variable {f : Fx} {ρ : Loc} {σ : St}


theorem intL_mem {l : List Int} {v : Value} (h : v ∈ intL l) : ∃ x ∈ l, v = .int x 0 := by
  obtain ⟨x, hx, e⟩ := List.mem_map.mp h; exact ⟨x, hx, e.symm⟩

noncomputable def P_louts (g : Pg) (k : Int) : Value → List Ent → Prop := fun v L => (Ey1 fun a => Ay3 (v = .ref a) (L = [(a, .list (intL (outs g k)), true)]) ((∀ y ∈ outs g k, InR g y) ∧ (outs g k).length ≤ g.insts.length))
theorem wc_louts {σ0 : St} {c : Cx} {n : Nat} {fz : Addr → Prop} {p : Addr} {g : Pg} {r : PR} {k : Int} (hp : IsP σ0 p g r) (hs : Sound g) (hk : InR g k) (hn : g.insts.length + 2 ≤ n) (hfz : ∀ a, fz a → σ0 a ≠ none) :
    WC c (n + 1) fz σ0 (.ref 254) [.ref p, .int k 0] (Ret fz σ0 (P_louts g k)) := by
  refine WC.fnO (ρ := [("prog", some (.ref p)), ("number", some (.int k 0)), ("insts", none)]) (gl := ["_law_down"]) (cl := ["prog"]) (pa := [("prog", .ref p), ("number", .int k 0)]) (rest := ["insts"]) rfl (.of fun P => by kernel_rfl) (fun P => by kernel_rfl) (hb2 fun P u v => by kernel_rfl) fun env => ?_
  · have H : Own fz σ0 σ0 [] := Own.start hfz
    have hsm := hs.small
    conv => arg 4; whnf
    refine SS.cons (S1.comp [("prog", .ref p)] [] (fun _ => true) (refOf r) (WV.callG (PE.globR (by kspl_open wmem) g__law_down) (fun P => by kernel_rfl) (WLs.cons (WV.pe (by kspl_open wpe) (WLs.cons (WV.pe (by kspl_open wpe) (WLs.cons (WV.newL .nil H fun a σ H => WLs.nil ?_))))))) (CompOk.of (by rfl)) (by intro q hq; simp at hq; subst hq; exact ⟨(by kspl_open wmem), (by kspl_open wmem)⟩))
    refine ((wc_down (fo := []) hs g.insts.length hp hk H (List.mem_cons_self ..) (by rw [unmet_nil]; exact Nat.le_refl _) (by kspl_open wle) (by rw [unmet_nil]; simp)).le hn).mono ?_
    rintro v σ' ⟨fo, L', rfl, hput, H, hcl, hfo, -, hl⟩
    obtain rfl : L' = [(a, .list (intL fo), true)] := by
      rcases hput with _ | ⟨_, ⟨⟩⟩; rfl
    have hfe := clo_of (hcl [] _ (.nil fo))
    refine ⟨a, _, _, rfl, Iter.list (H.get _ _ _ (by kspl_open wmem)), by (first | ((repeat first | refine lmap_lt ?_ | refine lmap_le ?_); kspl_open wln) | (rw [List.length_map]; kspl_open wln)), ?_, fun b hb => ⟨_, (by kspl_open wset), ?_⟩⟩
    · intro os dr gn env v hv
      obtain ⟨x, hx, rfl⟩ := intL_mem hv
      obtain ⟨i, hi, _⟩ := (hfo x hx).at_
      obtain ⟨y, hy, hI⟩ := hp.ix hi
      have hx0 := (hfo x hx).1
      refine ⟨tests_nil, fun _ => ?_⟩
      rw [show refOf r (.int x 0) = .ref y by simp [refOf, hy]]
      change PE _ [_, (("prog" : Str), some (Value.ref p))] _ _ _
      exact (by kspl_open wpe)
    have H2 := H.alloc (o := .list (((intL fo).filter fun _ => true).map (refOf r))) hb
    rw [List.filter_eq_self.mpr (by kspl_open wle)] at H2 ⊢
    generalize σ'.set b _ = σ at H2 ⊢
    refine SS.cons (S1.ret (WV.comp [] ["INST_RANGE"] (isRA σ0) (outA σ0) (WV.pe (by kspl_open wpe) ⟨b, _, _, rfl, Iter.list (H2.get _ _ _ (by kspl_open wmem)), by (first | ((repeat first | refine lmap_lt ?_ | refine lmap_le ?_); kspl_open wln) | (simp only [List.length_map]; kspl_open wln)), ?_, fun b2 hb2 => ⟨_, (H2.alloc hb2).sub (.cons₂ _ (.cons _ (.cons _ (.refl _)))), b2, rfl, ?_, outs_ok hs hfe hfo (by kspl_open wln)⟩⟩) (CompOk.of (by rfl)) (by kspl_open wle)))
    · intro os dr gn env v hv
      obtain ⟨v1, hv1, rfl⟩ := List.mem_map.mp hv
      obtain ⟨x, hx, rfl⟩ := intL_mem hv1
      obtain ⟨i, hi, _⟩ := (hfo x hx).at_
      obtain ⟨y, hy, hI⟩ := hp.ix hi
      rw [show refOf r (.int x 0) = .ref y by simp [refOf, hy]]
      rw [show isRA σ0 (.ref y) = (i.op == 1) by simp [isRA, inOf_eq hI], show outA σ0 (.ref y) = .int i.out 0 by simp [outA, inOf_eq hI]]
      exact ⟨tests_one (ρ := [(("inst" : Str), some (Value.ref y))]) (by kspl_open wpt), fun _ => (show PE _ [(("inst" : Str), some (Value.ref y))] _ _ _ from (by kspl_open wpe))⟩
    · rw [outs_by hp hfo]; unfold outs; rw [← hfe]
end
section
variable {f : Fx} {ρ : Loc} {σ : St}


noncomputable def P_places (g : Pg) : Value → List Ent → Prop := fun v L => (Ey2 fun a fo => Ay5 (v = .ref a) (L = [(a, .dic (tab (nv g) fo), true)]) (Bfs g [] [g.start] fo) (fo.length ≤ g.insts.length) (∀ x ∈ fo, (outs g x).length ≤ g.insts.length))
theorem wc_places {σ0 : St} {c : Cx} {n : Nat} {fz : Addr → Prop} {p : Addr} {g : Pg} {r : PR} (hp : IsP σ0 p g r) (hs : Sound g) (hk : InR g g.start) (hN : g.insts.length ≤ 100) (hn : g.insts.length + 3 ≤ n) (hfz : ∀ a, fz a → σ0 a ≠ none) :
    WC c (n + 1) fz σ0 (.ref 261) [.ref p] (Ret fz σ0 (P_places g)) := by
  refine WC.fnO (ρ := [("prog", some (.ref p)), ("found", none), ("left", none), ("place", none), ("outs", none)]) (gl := ["_law_outs", "len"]) (cl := []) (pa := [("prog", .ref p)]) (rest := ["found", "left", "place", "outs"]) rfl (.of fun P => by kernel_rfl) (fun P => by kernel_rfl) (hb1 fun P u => by kernel_rfl) fun env => ?_
  · have H : Own fz σ0 σ0 [] := Own.start hfz
    conv => arg 4; whnf
    refine SS.cons (S1.tupO (σ0 := σ0) (.cons _ _ (.cons _ _ .nil)) ?_)
    refine WLs.cons (WV.dic0 H fun a1 σ H => WLs.cons (WV.newL (by kspl_open wpes) H fun a2 σ H => WLs.nil ⟨_, _, H, (by kspl_open wsta), (by kspl_open wstr), fun σ H => ?_⟩))
    let p1p := fun (m : Nat) (ρ1 : Loc) (L1 : List Ent) fo st o o2 => (Ay8 (ρ1 = ([("prog", some (.ref p)), ("found", some (.ref a1)), ("left", some (.ref a2)), ("place", o), ("outs", o2)] : Loc)) (L1 = ([(a2, .list (intL st), true), (a1, .dic (tab (nv g) fo), true)] : List Ent)) ((∀ x ∈ st, InR g x)) ((∀ r', Bfs g fo st r' → Bfs g [] [g.start] r')) (101 * unmet g.insts.length fo + st.length ≤ m) (m ≤ 10101) (fo.length + unmet g.insts.length fo ≤ g.insts.length) (∀ x ∈ fo, (outs g x).length ≤ g.insts.length) : Prop)
    let I1 : Nat → Loc → List Ent → Prop := fun m ρ1 L1 => Ey4 (p1p m ρ1 L1)
    refine SS.cons (S1.whileWO H I1 (101 * g.insts.length + 1) ⟨[], [g.start], none, none, rfl, rfl, by first | exact of_decide_eq_true hk | exact eq_of_beq hk | exact ne_of_beq_false hk | exact of_decide_eq_false hk | exact beq_iff_eq.mpr hk | exact beq_false_of_ne hk | simpa using hk, fun _ h => h, by rw [unmet_nil]; simp, by kspl_open wln, by rw [unmet_nil]; simp, (by kspl_open wle)⟩ ?_)
    rintro m ρ1 σ L1 H ⟨fo, st, o, o2, rfl, rfl, hst, hclo, hm, hm2, hlen, hol⟩
    refine WT.neNil (by kspl_open wpe) H (.inl ⟨_, (by kspl_open wmem)⟩) fun σ H => ?_
    cases st with
    | nil =>
      rw [if_neg (by kspl_open wle)]
      exact SS.cons (S1.ret (WV.pe (by kspl_open wpe) ⟨_, H.sub (List.sublist_cons_self ..), a1, fo, rfl, rfl, hclo _ (.nil fo), by kspl_open wln, hol⟩))
    | cons x st =>
      rw [if_pos (by kspl_open wle)]
      rw [show intL (x :: st) = .int x 0 :: intL st from rfl] at H
      have hx := hst x (List.mem_cons_self ..)
      refine SS.cons (S1.name (WV.pop0O (by kspl_open wpe) (by kspl_open wpe) H (by kspl_open wput) fun σ H => ⟨_, (by kspl_open wset), ?_⟩))
      refine SS.cons (S1.ite (by kspl_open wpt) (fun hb => ?_) (fun hb => ?_))
      · have hn' : x ∉ fo := by first | exact of_decide_eq_true hb | exact eq_of_beq hb | exact ne_of_beq_false hb | exact of_decide_eq_false hb | exact beq_iff_eq.mpr hb | exact beq_false_of_ne hb | simpa using hb
        have hu := unmet_lt hx hn'
        refine SS.cons (S1.name (WV.callO (PE.globR (by kspl_open wmem) g__law_outs) (fun P => by kernel_rfl) (by kspl_open wpes) H ((wc_louts (n := n - 1) (hp.ext H.ext) hs hx (by kspl_open wln) H.fzs).le (by show n - 1 + 1 ≤ n; kspl_open wln)) ?_))
        rintro v σ L' ⟨b, rfl, rfl, hor, hoL⟩ H
        refine ⟨_, (by kspl_open wset), ?_⟩
        dsimp only [List.cons_append, List.nil_append] at H
        refine SS.cons (S1.setD (by kspl_open wpe) (by kspl_open wpe) (by kspl_open wpe) H (by kspl_open wput) ?_ fun σ H => ?_)
        · unfold tab; (first | ((repeat first | refine lmap_lt ?_ | refine lmap_le ?_); kspl_open wln) | (rw [List.length_map]; kspl_open wln))
        rw [show (Value.int ((intL (outs g x)).length : Nat) 0) = nv g x by simp [nv], tab_stored (nv g) hn'] at H
        refine SS.cons (S1.expr (WV.extendO (by kspl_open wpe) ⟨_, (by kspl_open wmem)⟩ (WV.pe (by kspl_open wpe) ⟨b, _, _, _, rfl, H, H.get _ _ _ (by kspl_open wmem), ?_, (by kspl_open wput), fun σ H => ?_⟩) H))
        · simp only [List.length_map, List.length_cons] at hm ⊢; kspl_open wln
        rw [intL_apps] at H
        refine SS.nil (SS.nil ⟨101 * unmet g.insts.length (fo ++ [x]) + (st ++ outs g x).length, _, ?_, H.sub (List.sublist_cons_self ..), fo ++ [x], st ++ outs g x, _, _, rfl, rfl, ?_, fun r' h => hclo _ (.go hn' h), Nat.le_refl _, ?_, ?_, ?_⟩)
        · simp only [List.length_append, List.length_cons] at hm ⊢; kspl_open wln
        · intro y hy
          rcases List.mem_append.mp hy with h | h
          · exact hst y (List.mem_cons_of_mem _ h)
          · exact hor y h
        · simp only [List.length_append, List.length_cons] at hm ⊢; kspl_open wln
        · simp only [List.length_append, List.length_singleton] at hu ⊢; kspl_open wln
        · intro y hy
          rcases List.mem_append.mp hy with h | h
          · exact hol y h
          · simp only [List.mem_singleton] at h; exact h ▸ hoL
      · have hn' : x ∈ fo := by first | exact of_decide_eq_true hb | exact eq_of_beq hb | exact ne_of_beq_false hb | exact of_decide_eq_false hb | exact beq_iff_eq.mpr hb | exact beq_false_of_ne hb | simpa using hb
        refine SS.nil (SS.nil ⟨101 * unmet g.insts.length fo + st.length, _, ?_, H, fo, st, _, _, rfl, rfl, fun y hy => hst y (List.mem_cons_of_mem _ hy), fun r' h => hclo _ (.skip hn' h), Nat.le_refl _, ?_, hlen, hol⟩)
        all_goals simp only [List.length_cons] at hm ⊢; kspl_open wln
end
section
variable {f : Fx} {ρ : Loc} {σ : St}


noncomputable def P_fanouts (g : Pg) : Value → List Ent → Prop := fun v L => (Ey2 fun a fo => Ay5 (v = .ref a) (L = [(a, .dic (tab (nv g) fo), true)]) (Bfs g [] [g.start] fo) (fo.length ≤ g.insts.length) (∀ x ∈ fo, (outs g x).length ≤ g.insts.length))
theorem wc_fanouts {σ0 : St} {c : Cx} {n : Nat} {fz : Addr → Prop} {p : Addr} {g : Pg} {r : PR} (hp : IsP σ0 p g r) (hs : Sound g) (hk : InR g g.start) (hN : g.insts.length ≤ 100) (hfz : ∀ a, fz a → σ0 a ≠ none) :
    WC c (n + 3) fz σ0 (.ref 111) [.ref p] (Ret fz σ0 (P_fanouts g)) := by
  refine WC.fnO (ρ := [("prog", some (.ref p)), ("found", none), ("left", none), ("at", none), ("root", none), ("ranges", none)]) (gl := ["program_closure", "len"]) (cl := ["prog"]) (pa := [("prog", .ref p)]) (rest := ["found", "left", "at", "root", "ranges"]) rfl (.of fun P => by kernel_rfl) (fun P => by kernel_rfl) (hb1 fun P u => by kernel_rfl) fun env => ?_
  · have H : Own fz σ0 σ0 [] := Own.start hfz
    conv => arg 4; whnf
    refine SS.cons (S1.tupO (σ0 := σ0) (.cons _ _ (.cons _ _ (.cons _ _ .nil))) ?_)
    refine WLs.cons (WV.dic0 H fun a1 σ H => WLs.cons (WV.newL (by kspl_open wpes) H fun a2 σ H => WLs.cons (WV.pe (by kspl_open wpe) (WLs.nil ⟨_, _, H, (by kspl_open wsta), (by kspl_open wstr), fun σ H => ?_⟩))))
    let p1p := fun (m : Nat) (ρ1 : Loc) (L1 : List Ent) (t : Nat) (fo ls : List Int) (o o2 : Option Value) => (Ay9 (ρ1 = ([("prog", some (.ref p)), ("found", some (.ref a1)), ("left", some (.ref a2)), ("at", some (.int (t : Int) 0)), ("root", o), ("ranges", o2)] : Loc)) (L1 = ([(a2, .list (intL ls), true), (a1, .dic (tab (nv g) fo), true)] : List Ent)) ((∀ x ∈ ls, InR g x)) ((∀ r', Bfs g fo (ls.drop t) r' → Bfs g [] [g.start] r')) (101 * unmet g.insts.length fo + (ls.length - t) ≤ m) (t ≤ ls.length) (ls.length ≤ 1 + 100 * fo.length) (fo.length + unmet g.insts.length fo ≤ g.insts.length) (∀ x ∈ fo, (outs g x).length ≤ g.insts.length) : Prop)
    let I1 : Nat → Loc → List Ent → Prop := fun m ρ1 L1 => Ey5 (p1p m ρ1 L1)
    refine SS.cons (S1.whileO (σ0 := σ0) H I1 (101 * g.insts.length + 1) ⟨0, [], [g.start], none, none, rfl, rfl, by first | exact of_decide_eq_true hk | exact eq_of_beq hk | exact ne_of_beq_false hk | exact of_decide_eq_false hk | exact beq_iff_eq.mpr hk | exact beq_false_of_ne hk | simpa using hk, fun _ h => h, by rw [unmet_nil]; simp, (by kspl_open wle), (by kspl_open wle), by rw [unmet_nil]; simp, (by kspl_open wle)⟩ ?_)
    rintro m ρ1 σ L1 H ⟨t, fo, ls, o, o2, rfl, rfl, hls, hclo, hm, htl, hll, hlen, hol⟩
    refine ⟨_, (by kspl_open wpt), fun hb => ?_, fun hb => ?_⟩
    rotate_left
    · have ht : ls.drop t = [] := by rw [List.drop_eq_nil_iff]; simp at hb; kspl_open wln
      rw [ht] at hclo
      exact SS.cons (S1.ret (WV.pe (by kspl_open wpe) ⟨_, H.sub (List.sublist_cons_self ..), a1, fo, rfl, rfl, hclo _ (.nil fo), by kspl_open wln, hol⟩))
    have ht : t < ls.length := by simp at hb; kspl_open wln
    obtain ⟨x, hxe⟩ : ∃ x, ls[t]? = some x := ⟨_, List.getElem?_eq_getElem ht⟩
    have hx := hls x (List.mem_of_getElem? hxe)
    have hdr : ls.drop t = x :: ls.drop (t + 1) := by
      obtain ⟨h1, h2⟩ := List.getElem?_eq_some_iff.mp hxe
      rw [← h2]; exact List.drop_eq_getElem_cons h1
    rw [hdr] at hclo
    have hx1 : (intL ls)[((t : Nat) : Int).toNat]? = some (.int x 0) := by simp [hxe]
    refine SS.cons (S1.name (WV.pe (PE.item (by kspl_open wpe) (by kspl_open wpe) (Itm.list (H.get _ _ _ (by kspl_open wmem)) (Int.natCast_nonneg t) hx1)) ⟨_, (by kspl_open wset), ?_⟩))
    refine SS.cons (S1.name (WV.pe (by kspl_open wpe) ⟨_, by kspl_open wset, ?_⟩))
    refine SS.cons (S1.ite (by kspl_open wpt) (fun hb => ?_) (fun hb => ?_))
    · have hn' : x ∉ fo := by first | exact of_decide_eq_true hb | exact eq_of_beq hb | exact ne_of_beq_false hb | exact of_decide_eq_false hb | exact beq_iff_eq.mpr hb | exact beq_false_of_ne hb | simpa using hb
      have hu := unmet_lt hx hn'
      refine SS.cons (S1.comp [("prog", .ref p)] ["INST_RANGE"] (isRV g) id (WV.callO (PE.globR (by kspl_open wmem) g_program_closure) (fun P => by kernel_rfl) (by kspl_open wpes) H (wc_closure (hp.ext H.ext) hs hx H.fzs) ?_) (CompOk.of (by rfl)) (by intro q hq; simp at hq; subst hq; exact ⟨(by kspl_open wmem), (by kspl_open wmem)⟩))
      rintro v σ L' ⟨b, cs, rfl, rfl, hcl, hcs, hcn⟩ H
      dsimp only [List.cons_append, List.nil_append] at H
      have hfe := clo_of hcl
      obtain ⟨hor, hoL⟩ := outs_ok hs hfe hcs hcn
      refine ⟨b, _, _, rfl, Iter.list (H.get _ _ _ (by kspl_open wmem)), by (first | ((repeat first | refine lmap_lt ?_ | refine lmap_le ?_); kspl_open wln) | (rw [List.length_map]; kspl_open wln)), ?_, fun b1 hb1 => ⟨_, (by kspl_open wset), ?_⟩⟩
      · intro os dr gn env v hv
        obtain ⟨y, hy, rfl⟩ := intL_mem hv
        obtain ⟨i, hi, _⟩ := (hcs y hy).at_
        obtain ⟨z, hz, hI⟩ := hp.ix hi
        have hy0 := (hcs y hy).1
        rw [show isRV g (.int y 0) = (i.op == 1) by simp [isRV, isR, hi]]
        exact ⟨tests_one (ρ := [(("number" : Str), some (Value.int y 0)), (("prog" : Str), some (Value.ref p))]) (by kspl_open wpt), fun _ => (show PE _ [(("number" : Str), some (Value.int y 0)), (("prog" : Str), some (Value.ref p))] _ _ (Value.int y 0) from (by kspl_open wpe))⟩
      have H2 := H.alloc (o := .list (((intL cs).filter (isRV g)).map id)) hb1
      rw [List.map_id, (outs_by2 cs).1] at H2 ⊢
      generalize σ.set b1 _ = σ at H2 ⊢
      clear H
      have H := H2
      have hrl : (cs.filter (isR g)).length = (outs g x).length := by unfold outs; rw [← hfe, List.length_map]
      refine SS.cons (S1.setD (by kspl_open wpe) (by kspl_open wpe) (by kspl_open wpe) H (by kspl_open wput) ?_ fun σ H => ?_)
      · unfold tab; (first | ((repeat first | refine lmap_lt ?_ | refine lmap_le ?_); kspl_open wln) | (rw [List.length_map]; kspl_open wln))
      rw [show (Value.int ((intL (cs.filter (isR g))).length : Nat) 0) = nv g x by simp only [nv, List.length_map, hrl], tab_stored (nv g) hn'] at H
      refine SS.cons (S1.expr (WV.extendO (by kspl_open wpe) ⟨_, (by kspl_open wmem)⟩ (WV.comp [("prog", .ref p)] [] (fun _ => true) (outV g) (WV.pe (by kspl_open wpe) ⟨b1, _, _, rfl, Iter.list (H.get _ _ _ (by kspl_open wmem)), by rw [List.length_map, hrl]; kspl_open wln, ?_, fun b2 hb2 => ⟨b2, _, _, _, rfl, H.alloc hb2, St.set_same .., ?_, (by kspl_open wput), fun σ H => ?_⟩⟩) (CompOk.of (by rfl)) (by intro q hq; simp at hq; subst hq; exact ⟨(by kspl_open wmem), (by kspl_open wmem)⟩)) H))
      · intro os dr gn env v hv
        obtain ⟨y, hy, rfl⟩ := intL_mem hv
        have hyc := (List.mem_filter.mp hy).1
        obtain ⟨i, hi, _⟩ := (hcs y hyc).at_
        obtain ⟨z, hz, hI⟩ := hp.ix hi
        have hy0 := (hcs y hyc).1
        rw [show outV g (.int y 0) = .int i.out 0 by simp [outV, outAt, hi]]
        exact ⟨tests_nil, fun _ => (show PE _ [(("number" : Str), some (Value.int y 0)), (("prog" : Str), some (Value.ref p))] _ _ _ from (by kspl_open wpe))⟩
      · rw [List.filter_eq_self.mpr (by kspl_open wle)]; simp only [List.length_map, hrl]; kspl_open wln
      rw [List.filter_eq_self.mpr (by kspl_open wle), (outs_by2 _).2, intL_apps] at H
      have hoe : (cs.filter (isR g)).map (outAt g) = outs g x := by unfold outs; rw [← hfe]
      rw [hoe] at H
      refine SS.nil (SS.nil ⟨101 * unmet g.insts.length (fo ++ [x]) + ((ls ++ outs g x).length - (t + 1)), _, ?_, H.sub ?_, t + 1, fo ++ [x], ls ++ outs g x, _, _, rfl, rfl, ?_, fun r' h => hclo _ (.go hn' ?_), Nat.le_refl _, ?_, ?_, ?_, ?_⟩)
      · simp only [List.length_append] at hm ⊢; kspl_open wln
      · exact .cons _ (.cons _ (.cons _ (.refl _)))
      · intro y hy
        rcases List.mem_append.mp hy with h | h
        · exact hls y h
        · exact hor y h
      · rwa [List.drop_append_of_le_length (by kspl_open wln)] at h
      · simp only [List.length_append]; kspl_open wln
      · simp only [List.length_append, List.length_singleton]; kspl_open wln
      · simp only [List.length_append, List.length_singleton] at hu ⊢; kspl_open wln
      · intro y hy
        rcases List.mem_append.mp hy with h | h
        · exact hol y h
        · simp only [List.mem_singleton] at h; exact h ▸ hoL
    · have hn' : x ∈ fo := by first | exact of_decide_eq_true hb | exact eq_of_beq hb | exact ne_of_beq_false hb | exact of_decide_eq_false hb | exact beq_iff_eq.mpr hb | exact beq_false_of_ne hb | simpa using hb
      refine SS.nil (SS.nil ⟨101 * unmet g.insts.length fo + (ls.length - (t + 1)), _, by first | exact Nat.lt_of_lt_of_le (Nat.add_lt_add_left (Nat.sub_lt_sub_left ht (Nat.lt_succ_self t)) _) hm | kspl_open wln, H, t + 1, fo, ls, _, _, rfl, rfl, hls, fun r' h => hclo _ (.skip hn' h), Nat.le_refl _, by kspl_open wln, hll, hlen, hol⟩)
end
section
variable {f : Fx} {ρ : Loc} {σ : St}


noncomputable def digits : Int → List Int → List Int
  | _, [] => []
  | n, b :: bs => n.fmod b :: digits (n.fdiv b) bs
theorem digits_len : ∀ (n : Int) (bs : List Int), (digits n bs).length = bs.length
  | _, [] => rfl
  | n, b :: bs => by simp [digits, digits_len]
noncomputable def P_digits (bs : List Int) (k : Int) : Value → List Ent → Prop := fun v L => (Ey1 fun a => Ay2 (v = .ref a) (L = [(a, .list (intL (digits k bs)), true)]))
theorem wc_digits {σ0 : St} {c : Cx} {n : Nat} {fz : Addr → Prop} {b : Addr} {bs : List Int} {k : Int} (hb : σ0 b = some (.list (intL bs))) (hbs : ∀ x ∈ bs, 0 < x ∧ x < 1000) (hl : bs.length ≤ 100) (hfz : ∀ a, fz a → σ0 a ≠ none) :
    WC c (n + 1) fz σ0 (.ref 228) [.int k 0, .ref b] (Ret fz σ0 (P_digits bs k)) := by
  refine WC.fnO (ρ := [("number", some (.int k 0)), ("bases", some (.ref b)), ("found", none), ("base", none)]) (gl := []) (cl := []) (pa := [("number", .int k 0), ("bases", .ref b)]) (rest := ["found", "base"]) rfl (.of fun P => by kernel_rfl) (fun P => by kernel_rfl) (hb2 fun P u v => by kernel_rfl) fun env => ?_
  · have H : Own fz σ0 σ0 [] := Own.start hfz
    conv => arg 4; whnf
    refine SS.cons (S1.name (WV.newL .nil H fun a σ H => ⟨_, (by kspl_open wset), ?_⟩))
    refine SS.cons (S1.forO (σ0 := σ0) (WV.pe (by kspl_open wpe) ?_))
    let p1p := fun (i : Nat) (ρ2 : Loc) (L2 : List Ent) cur done o => (Ay3 (ρ2 = ([("number", some (.int cur 0)), ("bases", some (.ref b)), ("found", some (.ref a)), ("base", o)] : Loc)) (L2 = ([(a, .list (intL done), true)] : List Ent)) (digits k bs = done ++ digits cur (bs.drop i)) : Prop)
    let I1 : Nat → Loc → List Ent → Prop := fun i ρ2 L2 => Ey3 (p1p i ρ2 L2)
    refine ⟨_, _, _, _, rfl, Iter.list (H.ext _ _ hb), H.moreB hb, I1, ⟨k, [], none, rfl, rfl, rfl⟩, ?_, ?_⟩
    · rintro i x ρ2 σ2 L2 hx H ⟨cur, done, o, rfl, rfl, hd⟩
      rw [List.getElem?_map] at hx
      obtain ⟨y, hy, rfl⟩ := Option.map_eq_some_iff.mp hx
      have hyb := hbs y (List.mem_of_getElem? hy)
      have hdr : bs.drop i = y :: bs.drop (i + 1) := by
        obtain ⟨h1, h2⟩ := List.getElem?_eq_some_iff.mp hy
        rw [← h2]; exact List.drop_eq_getElem_cons h1
      have hlen := congrArg List.length hd
      rw [digits_len, List.length_append] at hlen
      refine ⟨_, (by kspl_open wset), ?_⟩
      refine SS.cons (S1.expr (WV.appendO (by kspl_open wpe) (PE.bin (by kspl_open wpe) (by kspl_open wpe) (Bin.mod (by kspl_open wln))) H (by kspl_open wput) ?_ fun σ H => ?_))
      · (first | ((repeat first | refine lmap_lt ?_ | refine lmap_le ?_); kspl_open wln) | (rw [List.length_map]; kspl_open wln))
      rw [intL_app] at H
      refine SS.cons (S1.name (WV.pe (PE.bin (by kspl_open wpe) (by kspl_open wpe) (Bin.div (by kspl_open wln) (by kspl_open wln))) ⟨_, (by kspl_open wset), SS.nil ⟨_, H, _, _, some (.int y 0), rfl, rfl, ?_⟩⟩))
      rw [hd, hdr, digits]; simp
    · rintro ρ2 σ2 L2 H ⟨cur, done, o, rfl, rfl, hd⟩
      refine SS.cons (S1.ret (WV.pe (by kspl_open wpe) ⟨_, H, a, rfl, ?_⟩))
      rw [hd, List.drop_eq_nil_of_le (by kspl_open wle)]; simp [digits]

noncomputable def fways (i : In) : List Int := if i.op == 0 then [i.out, i.arg] else if i.op == 5 then [i.out] else []
noncomputable def P_fways (i : In) : Value → List Ent → Prop := fun v L => (Ey1 fun a => Ay2 (v = .ref a) (L = [(a, .tup (intL (fways i)), true)]))
theorem wc_fways {σ0 : St} {c : Cx} {n : Nat} {fz : Addr → Prop} {x : Addr} {i : In} (hI : IsI σ0 x i) (hfz : ∀ a, fz a → σ0 a ≠ none) :
    WC c (n + 1) fz σ0 (.ref 181) [.ref x] (Ret fz σ0 (P_fways i)) := by
  refine WC.fnO (ρ := [("inst", some (.ref x))]) (gl := ["INST_ALT", "INST_NOP"]) (cl := []) (pa := [("inst", .ref x)]) (rest := []) rfl (.of fun P => by kernel_rfl) (fun P => by kernel_rfl) (hb1 fun P u => by kernel_rfl) fun env => ?_
  · have H : Own fz σ0 σ0 [] := Own.start hfz
    conv => arg 4; whnf
    refine SS.cons (S1.ite (by kspl_open wpt) (fun h => ?_) (fun h => ?_))
    · exact SS.cons (S1.ret (WV.newT (by kspl_open wpes) H fun a σ H => ⟨_, H, a, rfl, by simp [fways, h]⟩))
    refine SS.nil ?_
    refine SS.cons (S1.ite (by kspl_open wpt) (fun h2 => ?_) (fun h2 => ?_))
    · exact SS.cons (S1.ret (WV.newT (by kspl_open wpes) H fun a σ H => ⟨_, H, a, rfl, by simp [fways, h, h2]⟩))
    refine SS.nil ?_
    exact SS.cons (S1.ret (WV.newT .nil H fun a σ H => ⟨_, H, a, rfl, by simp [fways, h, h2]⟩))

noncomputable def instBad (i : In) : Bool := (i.op == 1 && !(decide (0 ≤ i.low) && (decide (i.low ≤ i.high) && decide (i.high ≤ 255)))) || (i.op == 2 && decide (i.arg < 2)) || (i.op == 3 && (i.arg == 0 || Builtin.bitAnd i.arg 63 != i.arg)) || (i.op == 4 && decide (i.arg < 0))
noncomputable def Fault (b : Bool) (v : Value) : Prop := (b = true ∧ ∃ s : Str, v = .str s 0 ∧ s.length ≤ 100) ∨ (b = false ∧ v = .none)
noncomputable def P_ifault (i : In) : Value → List Ent → Prop := fun v L => Fault (instBad i) v ∧ L = []
theorem wc_ifault {σ0 : St} {c : Cx} {n : Nat} {fz : Addr → Prop} {x : Addr} {i : In} (hI : IsI σ0 x i) (hfz : ∀ a, fz a → σ0 a ≠ none) :
    WC c (n + 1) fz σ0 (.ref 159) [.ref x] (Ret fz σ0 (P_ifault i)) := by
  refine WC.fnO (ρ := [("inst", some (.ref x))]) (gl := ["INST_RANGE", "INST_CAPTURE", "INST_EMPTY", "EMPTY_ALL", "INST_MATCH"]) (cl := []) (pa := [("inst", .ref x)]) (rest := []) rfl (.of fun P => by kernel_rfl) (fun P => by kernel_rfl) (hb1 fun P u => by kernel_rfl) fun env => ?_
  · have H : Own fz σ0 σ0 [] := Own.start hfz
    conv => arg 4; whnf
    refine SS.cons (S1.ite (by kspl_open wpt) (fun h1 => ?_) (fun h1 => ?_))
    · exact SS.cons (S1.ret (WV.pe (by kspl_open wpe) ⟨_, H, .inl ⟨by simp only [instBad, h1, Bool.true_or], _, rfl, by decide⟩, rfl⟩))
    refine SS.nil ?_
    refine SS.cons (S1.ite (by kspl_open wpt) (fun h2 => ?_) (fun h2 => ?_))
    · exact SS.cons (S1.ret (WV.pe (by kspl_open wpe) ⟨_, H, .inl ⟨by simp only [instBad, h2, Bool.true_or, Bool.or_true], _, rfl, by decide⟩, rfl⟩))
    refine SS.nil ?_
    refine SS.cons (S1.ite (by kspl_open wpt) (fun h3 => ?_) (fun h3 => ?_))
    · exact SS.cons (S1.ret (WV.pe (by kspl_open wpe) ⟨_, H, .inl ⟨by simp only [instBad, h3, Bool.true_or, Bool.or_true], _, rfl, by decide⟩, rfl⟩))
    refine SS.nil ?_
    refine SS.cons (S1.ite (by kspl_open wpt) (fun h4 => ?_) (fun h4 => ?_))
    · exact SS.cons (S1.ret (WV.pe (by kspl_open wpe) ⟨_, H, .inl ⟨by simp only [instBad, h4, Bool.or_true], _, rfl, by decide⟩, rfl⟩))
    refine SS.nil ?_
    exact SS.cons (S1.ret (WV.pe (by kspl_open wpe) ⟨_, H, .inr ⟨by simp only [instBad, h1, h2, h3, h4, Bool.or_false], rfl⟩, rfl⟩))
end
section
variable {f : Fx} {ρ : Loc} {σ : St}


noncomputable def wayBad (g : Pg) (hs : List Int) (w : Int) : Bool := !(decide (0 ≤ w) && decide (w < (g.insts.length : Int))) || (g.flat && !hs.contains w)
noncomputable def goals (i : In) : List Int := if i.op == 0 then [i.out, i.arg] else [i.out]
noncomputable def waysBad (g : Pg) (hs : List Int) (i : In) : Bool := ![(4 : Int), 6].any (· == i.op) && (goals i).any (wayBad g hs)
theorem WV.mono {t : Sem Value} {Q Q' : Value → St → Prop} (h : WV f ρ σ t Q) (k : ∀ v σ', Q v σ' → Q' v σ') : WV f ρ σ t Q' := WX.mono h fun _ _ q => k _ _ q
theorem take_any {α} (q : α → Bool) {l : List α} (h : ∀ x ∈ l, q x = false) : l.any q = false := by rw [List.any_eq_false]; intro x hx; rw [h x hx]; decide
noncomputable def P_wfault (g : Pg) (i : In) (hs : List Int) : Value → List Ent → Prop := fun v L => Fault (waysBad g hs i) v ∧ L = []
theorem wc_wfault {σ0 : St} {c : Cx} {n : Nat} {fz : Addr → Prop} {p h : Addr} {g : Pg} {r : PR} {k : Int} {i : In} {hs : List Int} (hp : IsP σ0 p g r) (h0 : 0 ≤ k) (hi : g.insts[k.toNat]? = some i) (hh : σ0 h = some (.dic (marks hs))) (hfz : ∀ a, fz a → σ0 a ≠ none) :
    WC c (n + 1) fz σ0 (.ref 166) [.ref p, .int k 0, .ref h] (Ret fz σ0 (P_wfault g i hs)) := by
  refine WC.fnO (ρ := [("prog", some (.ref p)), ("number", some (.int k 0)), ("heads", some (.ref h)), ("inst", none), ("way", none)]) (gl := ["INST_MATCH", "INST_FAIL", "INST_ALT", "len"]) (cl := []) (pa := [("prog", .ref p), ("number", .int k 0), ("heads", .ref h)]) (rest := ["inst", "way"]) rfl (.of fun P => by kernel_rfl) (fun P => by kernel_rfl) (hb3 fun P u v w => by kernel_rfl) fun env => ?_
  · have H : Own fz σ0 σ0 [] := Own.start hfz
    obtain ⟨x, hx, hI⟩ := hp.ix hi
    conv => arg 4; whnf
    refine SS.cons (S1.name (WV.pe (by kspl_open wpe) ⟨_, by kspl_open wset, ?_⟩))
    refine SS.cons (S1.iteW (WT.inT (by kspl_open wpe) (by kspl_open wpis) H fun σ H => ?_))
    split
    · rename_i hb
      exact SS.cons (S1.ret (WV.pe (by kspl_open wpe) ⟨_, H, .inr ⟨by simp only [waysBad, hb]; rfl, rfl⟩, rfl⟩))
    rename_i hb
    refine SS.nil ?_
    refine SS.cons (S1.forO (σ0 := σ0) (WV.mono (Q := fun v σ' => ∃ a, v = .ref a ∧ Own fz σ0 σ' [(a, .list (intL (goals i)), true)]) (WV.ite (WT.pt (b := i.op == 0) (by kspl_open wpt) (by
        by_cases h0 : (i.op == 0) = true
        · rw [if_pos h0]
          exact WV.newL (by kspl_open wpes) H fun a σ H => ⟨a, rfl, by simpa [goals, h0] using H⟩
        · rw [if_neg h0]
          exact WV.newL (by kspl_open wpes) H fun a σ H => ⟨a, rfl, by simpa [goals, h0] using H⟩))) ?_))
    rintro v σ' ⟨a, e, H⟩
    let p1p := fun (j : Nat) (ρ2 : Loc) (L2 : List Ent) o => (Ay3 (ρ2 = ([("prog", some (.ref p)), ("number", some (.int k 0)), ("heads", some (.ref h)), ("inst", some (.ref x)), ("way", o)] : Loc)) (L2 = ([(a, .list (intL (goals i)), false)] : List Ent)) (∀ y ∈ (goals i).take j, wayBad g hs y = false) : Prop)
    let I1 : Nat → Loc → List Ent → Prop := fun j ρ2 L2 => Ey1 (p1p j ρ2 L2)
    refine ⟨_, _, a, _, e, Iter.list (H.get _ _ _ (by kspl_open wmem)), H.moreO (Frz.here _ _), I1, ⟨none, rfl, rfl, (by kspl_open wle)⟩, ?_, ?_⟩
    · rintro j z ρ2 σ2 L2 hz H ⟨o, rfl, rfl, hall⟩
      rw [List.getElem?_map] at hz
      obtain ⟨w, hw, rfl⟩ := Option.map_eq_some_iff.mp hz
      have hwm := List.mem_of_getElem? hw
      have bad : wayBad g hs w = true → waysBad g hs i = true := fun h => by
        unfold waysBad
        rw [Bool.and_eq_true]
        exact ⟨by first | exact of_decide_eq_true hb | exact eq_of_beq hb | exact ne_of_beq_false hb | exact of_decide_eq_false hb | exact beq_iff_eq.mpr hb | exact beq_false_of_ne hb | simpa using hb, List.any_eq_true.mpr ⟨w, hwm, h⟩⟩
      refine ⟨_, (by kspl_open wset), ?_⟩
      refine SS.cons (S1.ite (by kspl_open wpt) (fun h1 => ?_) (fun h1 => ?_))
      · exact SS.cons (S1.ret (WV.pe (by kspl_open wpe) ⟨_, H.less.sub (.cons _ (.refl _)), .inl ⟨bad (by simp only [wayBad, h1, Bool.true_or]), _, rfl, by decide⟩, rfl⟩))
      refine SS.nil ?_
      refine SS.cons (S1.ite (by kspl_open wpt) (fun h2 => ?_) (fun h2 => ?_))
      · exact SS.cons (S1.ret (WV.pe (by kspl_open wpe) ⟨_, H.less.sub (.cons _ (.refl _)), .inl ⟨bad (by simp only [wayBad, h2, Bool.or_true]), _, rfl, by decide⟩, rfl⟩))
      refine SS.nil (SS.nil ⟨_, H, _, rfl, rfl, fun y hy => ?_⟩)
      rw [take_succ_of hw] at hy
      rcases List.mem_append.mp hy with hy | hy
      · exact hall y hy
      · simp only [List.mem_singleton] at hy
        rw [hy]; simp only [wayBad, h1, h2, Bool.or_false]
    · rintro ρ2 σ2 L2 H ⟨o, rfl, rfl, hall⟩
      rw [List.take_of_length_le (by kspl_open wle)] at hall
      exact SS.cons (S1.ret (WV.pe (by kspl_open wpe) ⟨_, H.sub (.cons _ (.refl _)), .inr ⟨by unfold waysBad; rw [take_any _ hall, Bool.and_false], rfl⟩, rfl⟩))
end
section
variable {f : Fx} {ρ : Loc} {σ : St}


theorem stored_marks' (ns : List Int) (k : Int) : stored (marks ns) k (.bool true) = marks (if ns.contains k then ns else ns ++ [k]) := by
  by_cases h : k ∈ ns
  · rw [if_pos (by first | exact of_decide_eq_true h | exact eq_of_beq h | exact ne_of_beq_false h | exact of_decide_eq_false h | exact beq_iff_eq.mpr h | exact beq_false_of_ne h | simpa using h)]
    unfold stored
    have : (marks ns).any (fun kv => decide (kv.1 = k)) = true := List.any_eq_true.mpr ⟨(k, .bool true), List.mem_map.mpr ⟨k, h, rfl⟩, (by kspl_open wle)⟩
    rw [if_pos this, List.map_map]
    apply List.map_congr_left
    intro n _
    simp only [Function.comp]
    split
    · rename_i e; rw [e]
    · rfl
  · rw [if_neg (by first | exact of_decide_eq_true h | exact eq_of_beq h | exact ne_of_beq_false h | exact of_decide_eq_false h | exact beq_iff_eq.mpr h | exact beq_false_of_ne h | simpa using h)]; exact stored_marks h
noncomputable def instWrong (g : Pg) (hs : List Int) (i : In) : Bool := instBad i || waysBad g hs i || (g.flat && i.op == 0)
noncomputable def bodyWrong (g : Pg) : Bool := (g.insts.any (instWrong g (headsOf g)) || [g.start, g.loose].any (wayBad g (headsOf g))) || (g.flat && (!decide (g.heads = headsOf g) || !((g.insts.getLast?.map (·.last)).getD false)))
noncomputable def wrong (g : Pg) : Bool := (g.insts.isEmpty || (g.insts[0]?.map (·.op != 6)).getD false) || bodyWrong g
/-- what is added is told by whether it is empty -/
theorem wrong_congr {g : Pg} {hs hs' : List Int} (h : ∀ w, hs.contains w = hs'.contains w) : (∀ w, wayBad g hs w = wayBad g hs' w) ∧ ∀ i, instWrong g hs i = instWrong g hs' i := by
  have h1 : ∀ w, wayBad g hs w = wayBad g hs' w := fun w => by unfold wayBad; rw [h]
  refine ⟨h1, fun i => ?_⟩
  unfold instWrong waysBad
  have : wayBad g hs = wayBad g hs' := funext h1
  rw [this]


noncomputable def P_faults (g : Pg) : Value → List Ent → Prop := fun v L => (Ey2 fun a xs => Ay4 (v = .ref a) (L = [(a, .list xs, true)]) (xs.isEmpty = !wrong g) (xs.length ≤ 10000))
theorem wc_faults {σ0 : St} {c : Cx} {n : Nat} {fz : Addr → Prop} {p : Addr} {g : Pg} {r : PR} (hp : IsP σ0 p g r) (hN : g.insts.length ≤ 1000) (hfz : ∀ a, fz a → σ0 a ≠ none) :
    WC c (n + 2) fz σ0 (.ref 173) [.ref p] (Ret fz σ0 (P_faults g)) := by
  refine WC.fnO (ρ := [("prog", some (.ref p)), ("found", none), ("told", none), ("heads", none), ("number", none), ("inst", none), ("fault", none)]) (gl := ["program_heads", "range", "len", "inst_fault", "program_ways_fault", "str", "INST_ALT", "INST_FAIL"]) (cl := []) (pa := [("prog", .ref p)]) (rest := ["found", "told", "heads", "number", "inst", "fault"]) rfl (.of fun P => by kernel_rfl) (fun P => by kernel_rfl) (hb1 fun P u => by kernel_rfl) fun env => ?_
  have H : Own fz σ0 σ0 [] := Own.start hfz
  conv => arg 4; whnf
  refine SS.cons (S1.name (WV.newL .nil H fun a1 σ H => ⟨_, (by kspl_open wset), ?_⟩))
  refine SS.cons (S1.iteW (WT.or (WT.eqNil (by kspl_open wpe) H (.inr hp.L) fun σ H => ?_)))
  by_cases hE : g.insts = []
  · have : r.xs = [] := List.length_eq_zero_iff.mp (by rw [hp.len, hE]; rfl)
    rw [if_pos (by rw [this]; rfl), if_pos rfl]
    refine SS.cons (S1.ret (WV.newL (by kspl_open wpes) H fun a σ H => ⟨_, H.sub (.cons_cons _ (.cons _ (.refl _))), a, _, rfl, rfl, ?_, (by kspl_open wle)⟩))
    simp [wrong, hE]
  obtain ⟨i0, hi0⟩ : ∃ i0, g.insts[0]? = some i0 := by
    cases h : g.insts with
    | nil => exact absurd h hE
    | cons a b => exact ⟨a, rfl⟩
  have hEe : g.insts.isEmpty = false := by first | exact of_decide_eq_true hE | exact eq_of_beq hE | exact ne_of_beq_false hE | exact of_decide_eq_false hE | exact beq_iff_eq.mpr hE | exact beq_false_of_ne hE | simpa using hE
  obtain ⟨x0, hx0, hI0⟩ := hp.ix hi0
  have h00 : (0 : Int) ≤ 0 := Int.le_refl _
  have hx0' : r.xs[((0 : Int)).toNat]? = some x0 := hx0
  rw [if_neg (by have := hp.len; intro h; simp at h; rw [h] at this; exact hE (List.length_eq_zero_iff.mp this.symm))]
  refine WT.or1 (WT.pt (by kspl_open wpt) ?_)
  by_cases h6 : (i0.op != 6) = true
  · rw [if_pos h6]
    refine SS.cons (S1.ret (WV.newL (by kspl_open wpes) H fun a σ H => ⟨_, H.sub (.cons_cons _ (.cons _ (.refl _))), a, _, rfl, rfl, ?_, (by kspl_open wle)⟩))
    simp only [wrong, hi0, Option.map_some, Option.getD_some, h6, Bool.or_true, Bool.true_or]; rfl
  rw [if_neg h6]
  have hw : wrong g = bodyWrong g := by
    simp only [wrong, hi0, Option.map_some, Option.getD_some, hEe, Bool.false_or]
    rw [Bool.not_eq_true] at h6
    rw [h6, Bool.false_or]
  refine SS.nil ?_
  refine SS.cons (S1.name (WV.callO (PE.globR (by kspl_open wmem) g_program_heads) (fun P => by kernel_rfl) (by kspl_open wpes) H (wc_heads (hp.ext H.ext) hN H.fzs) ?_))
  rintro v σ L' ⟨a2, rfl, rfl⟩ H
  refine ⟨_, (by kspl_open wset), ?_⟩
  dsimp only [List.cons_append, List.nil_append] at H
  refine SS.cons (S1.name (WV.dic0 H fun a3 σ H => ⟨_, (by kspl_open wset), ?_⟩))
  have htl : (headsOf g).length ≤ 1001 := by have := headsTo_len g (g.insts.length - 1); unfold headsOf; kspl_open wln
  refine SS.cons (S1.forO (σ0 := σ0) (WV.pe (by kspl_open wpe) ?_))
  let p1p := fun (i : Nat) (ρ2 : Loc) (L2 : List Ent) hs o => (Ay4 (ρ2 = ([("prog", some (.ref p)), ("found", some (.ref a1)), ("told", some (.ref a2)), ("heads", some (.ref a3)), ("number", o), ("inst", none), ("fault", none)] : Loc)) (L2 = ([(a3, .dic (marks hs), true), (a2, .list (intL (headsOf g)), false), (a1, .list [], true)] : List Ent)) (hs.length ≤ i) (∀ w, w ∈ hs ↔ w ∈ (headsOf g).take i) : Prop)
  let I1 : Nat → Loc → List Ent → Prop := fun i ρ2 L2 => Ey2 (p1p i ρ2 L2)
  refine ⟨_, _, a2, _, rfl, Iter.list (H.get _ _ _ (by kspl_open wmem)), H.moreO (Frz.there _ (Frz.here _ _)), I1, ⟨[], none, rfl, rfl, (by kspl_open wle), (by kspl_open wle)⟩, ?_, ?_⟩
  · rintro i z ρ2 σ2 L2 hz H ⟨hs, o, rfl, rfl, hsl, hsm⟩
    have hil := (List.getElem?_eq_some_iff.mp hz).1
    rw [List.getElem?_map] at hz
    obtain ⟨w, hw, rfl⟩ := Option.map_eq_some_iff.mp hz
    rw [List.length_map] at hil
    refine ⟨_, (by kspl_open wset), ?_⟩
    refine SS.cons (S1.setD (by kspl_open wpe) (by kspl_open wpe) (by kspl_open wpe) H (by kspl_open wput) ?_ fun σ H => ?_)
    · (first | ((repeat first | refine lmap_lt ?_ | refine lmap_le ?_); kspl_open wln) | (rw [List.length_map]; kspl_open wln))
    rw [stored_marks'] at H
    refine SS.nil ⟨_, H, _, some (.int w 0), rfl, rfl, ?_, fun y => ?_⟩
    · split <;> (try simp only [List.length_append, List.length_singleton]) <;> lia
    · rw [take_succ_of hw, List.mem_append]
      split
      · rename_i hc
        have hc : w ∈ hs := by first | exact of_decide_eq_true hc | exact eq_of_beq hc | exact ne_of_beq_false hc | exact of_decide_eq_false hc | exact beq_iff_eq.mpr hc | exact beq_false_of_ne hc | simpa using hc
        rw [hsm]
        refine ⟨.inl, fun h => h.elim id fun h => ?_⟩
        simp only [List.mem_singleton] at h
        exact h ▸ (hsm w).mp hc
      · rw [List.mem_append, hsm]
  rintro ρ2 σ2 L2 H ⟨hs, o, rfl, rfl, hsl, hsm⟩
  have hmem : ∀ w, hs.contains w = (headsOf g).contains w := fun w => by
    have := hsm w
    rw [List.take_of_length_le (by kspl_open wle)] at this
    rw [Bool.eq_iff_iff, List.contains_iff_mem, List.contains_iff_mem]; exact this
  obtain ⟨hcw, hci⟩ := wrong_congr (g := g) hmem
  refine SS.cons (S1.forO (σ0 := σ0) (WV.callT (by kspl_open wpe) (WLs.pes (.cons (by kspl_open wpe) .nil) rfl (WC.range1 (by kspl_open wln) (by kspl_open wln) fun b hb => ?_))))
  let p2p := fun (i : Nat) (ρ2 : Loc) (L2 : List Ent) xs o1 o2 o3 => (Ay4 (ρ2 = ([("prog", some (.ref p)), ("found", some (.ref a1)), ("told", some (.ref a2)), ("heads", some (.ref a3)), ("number", o1), ("inst", o2), ("fault", o3)] : Loc)) (L2 = ([(a3, .dic (marks hs), true), (a2, .list (intL (headsOf g)), false), (a1, .list xs, true)] : List Ent)) (xs.isEmpty = !((g.insts.take i).any (instWrong g hs))) (xs.length ≤ 3 * i) : Prop)
  let I2 : Nat → Loc → List Ent → Prop := fun i ρ2 L2 => Ey4 (p2p i ρ2 L2)
  refine ⟨_, _, b, _, rfl, Iter.rng (St.set_same ..), Own.moreN ((H.alloc hb).sub (List.sublist_cons_self ..)), I2, ⟨[], o, none, none, rfl, rfl, rfl, (by kspl_open wle)⟩, ?_, ?_⟩
  · rintro i x ρ2 σ2 L2 hx H ⟨xs, o1, o2, o3, rfl, rfl, hxe, hxl⟩
    have hi : i < g.insts.length := by
      have := (List.getElem?_eq_some_iff.mp hx).1
      simpa [upto] using this
    have hxe' : x = .int (i : Int) 0 := by
      obtain ⟨h1, h2⟩ := List.getElem?_eq_some_iff.mp hx
      simp [upto] at h2; exact h2.symm
    subst hxe'
    refine ⟨_, (by kspl_open wset), ?_⟩
    have hg : g.insts[i]? = some g.insts[i] := List.getElem?_eq_getElem hi
    generalize g.insts[i] = q at hg
    have ht := take_succ_of hg
    obtain ⟨y, hy, hI⟩ := hp.ix hg
    have h0 : (0 : Int) ≤ (i : Int) := by kspl_open wln
    have hy' : r.xs[((i : Nat) : Int).toNat]? = some y := by first | exact of_decide_eq_true hy | exact eq_of_beq hy | exact ne_of_beq_false hy | exact of_decide_eq_false hy | exact beq_iff_eq.mpr hy | exact beq_false_of_ne hy | simpa using hy
    have hg' : g.insts[((i : Nat) : Int).toNat]? = some q := by first | exact of_decide_eq_true hg | exact eq_of_beq hg | exact ne_of_beq_false hg | exact of_decide_eq_false hg | exact beq_iff_eq.mpr hg | exact beq_false_of_ne hg | simpa using hg
    have hlog : ((i : Nat) : Int).natAbs.log2 < 1920 := log2_small h0 (by kspl_open wln)
    have hsl := strI_len hlog
    refine SS.cons (S1.name (WV.pe (by kspl_open wpe) ⟨_, by kspl_open wset, ?_⟩))
    refine SS.cons (S1.forO (σ0 := σ0) (WV.tup (WLs.cons (WV.callO (PE.globR (by kspl_open wmem) g_inst_fault) (fun P => by kernel_rfl) (by kspl_open wpes) H (wc_ifault (hI.ext H.ext) H.fzs) ?_))))
    rintro v1 σ L' ⟨hF1, rfl⟩ H
    dsimp only [List.cons_append, List.nil_append] at H
    refine WLs.cons (WV.callO (PE.globR (by kspl_open wmem) g_program_ways_fault) (fun P => by kernel_rfl) (by kspl_open wpes) H (wc_wfault (hp.ext H.ext) h0 hg' (H.get _ _ _ (by kspl_open wmem)) H.fzs) ?_)
    rintro v2 σ L' ⟨hF2, rfl⟩ H
    dsimp only [List.cons_append, List.nil_append] at H
    refine WLs.nil ⟨(by kspl_open wle), fun t htn => ?_⟩
    have hFl : ∀ (j : Nat) (x' : Value), [v1, v2][j]? = some x' → ∃ b, [instBad q, waysBad g hs q][j]? = some b ∧ Fault b x' := by
      intro j x' h
      match j, h with
      | 0, h => cases h; exact ⟨_, rfl, hF1⟩
      | 1, h => cases h; exact ⟨_, rfl, hF2⟩
      | (j + 2), h => simp at h
    let p3p := fun (j : Nat) (ρ2 : Loc) (L2 : List Ent) ys o => (Ay4 (ρ2 = ([("prog", some (.ref p)), ("found", some (.ref a1)), ("told", some (.ref a2)), ("heads", some (.ref a3)), ("number", some (.int (i : Int) 0)), ("inst", some (.ref y)), ("fault", o)] : Loc)) (L2 = ([(t, .tup [v1, v2], false), (a3, .dic (marks hs), true), (a2, .list (intL (headsOf g)), false), (a1, .list ys, true)] : List Ent)) (ys.isEmpty = (xs.isEmpty && !(([instBad q, waysBad g hs q].take j).any id))) (ys.length ≤ xs.length + j) : Prop)
    let I3 : Nat → Loc → List Ent → Prop := fun j ρ2 L2 => Ey2 (p3p j ρ2 L2)
    refine ⟨_, _, t, _, rfl, Iter.tup (St.set_same ..), (H.alloc htn).moreO (Frz.here _ _), I3, ⟨xs, o3, rfl, rfl, (by kspl_open wle), (by kspl_open wle)⟩, ?_, ?_⟩
    · rintro j x' ρ2 σ2 L2 hx' H ⟨ys, o, rfl, rfl, hye, hyl⟩
      obtain ⟨b', hb', hF⟩ := hFl j x' hx'
      have hj : j < 2 := (List.getElem?_eq_some_iff.mp hx').1
      have htb := take_succ_of hb'
      refine ⟨_, (by kspl_open wset), ?_⟩
      rcases hF with ⟨rfl, s, rfl, hs100⟩ | ⟨rfl, rfl⟩
      · refine SS.cons (S1.ite (b := true) (by kspl_open wpt) (fun h => ?_) (fun h => by cases h))
        refine SS.cons (S1.expr (WV.appendO (by kspl_open wpe) (PE.bin (PE.bin (PE.strI (by kspl_open wmem) (by kspl_open wpe) hlog) PE.str (Bin.addS ?_)) (by kspl_open wpe) (Bin.addS ?_)) H (by kspl_open wput) (by kspl_open wln) fun σ H => ?_))
        · have : (Str.ofString ": ").length = 2 := by decide
          lia
        · have : (Str.ofString ": ").length = 2 := by decide
          rw [Str.length_append]; kspl_open wln
        refine SS.nil (SS.nil ⟨_, H, _, _, rfl, rfl, ?_, by simp; kspl_open wln⟩)
        rw [htb]; simp
      · refine SS.cons (S1.ite (b := false) (by kspl_open wpt) (fun h => by cases h) (fun h => ?_))
        refine SS.nil (SS.nil ⟨_, H, ys, _, rfl, rfl, ?_, by kspl_open wln⟩)
        rw [htb]; simp [hye]
    rintro ρ2 σ2 L2 H ⟨ys, o, rfl, rfl, hye, hyl⟩
    replace H := H.sub (List.sublist_cons_self ..)
    have hyl : ys.length ≤ xs.length + 2 := hyl
    have hye : ys.isEmpty = (xs.isEmpty && !(instBad q || waysBad g hs q)) := by rw [hye]; simp
    refine SS.cons (S1.ite (by kspl_open wpt) (fun h => ?_) (fun h => ?_))
    · refine SS.cons (S1.expr (WV.appendO (by kspl_open wpe) (PE.bin (PE.strI (by kspl_open wmem) (by kspl_open wpe) hlog) PE.str (Bin.addS ?_)) H (by kspl_open wput) (by kspl_open wln) fun σ H => ?_))
      · have : (Str.ofString ": an ALT in a list").length ≤ 100 := by decide
        lia
      refine SS.nil (SS.nil ⟨_, H, _, _, _, _, rfl, rfl, ?_, by simp; kspl_open wln⟩)
      rw [ht]; simp [instWrong, h]
    · refine SS.nil (SS.nil ⟨_, H, ys, _, _, _, rfl, rfl, ?_, by kspl_open wln⟩)
      rw [ht, hye, hxe]; simp [instWrong, h]
  rintro ρ2 σ2 L2 H ⟨xs, o1, o2, o3, rfl, rfl, hxe, hxl⟩
  rw [List.take_of_length_le (by simp [upto])] at hxe
  have hxl : xs.length ≤ 3000 := by simp [upto] at hxl; kspl_open wln
  refine SS.cons (S1.forO (σ0 := σ0) (WV.newT (by kspl_open wpes) H fun t σ H => ?_))
  let p4p := fun (j : Nat) (ρ2 : Loc) (L2 : List Ent) ys o => (Ay4 (ρ2 = ([("prog", some (.ref p)), ("found", some (.ref a1)), ("told", some (.ref a2)), ("heads", some (.ref a3)), ("number", o), ("inst", o2), ("fault", o3)] : Loc)) (L2 = ([(t, .tup [.int g.start 0, .int g.loose 0], false), (a3, .dic (marks hs), true), (a2, .list (intL (headsOf g)), false), (a1, .list ys, true)] : List Ent)) (ys.isEmpty = (xs.isEmpty && !(([g.start, g.loose].take j).any (wayBad g hs)))) (ys.length ≤ xs.length + j) : Prop)
  let I4 : Nat → Loc → List Ent → Prop := fun j ρ2 L2 => Ey2 (p4p j ρ2 L2)
  refine ⟨_, _, t, _, rfl, Iter.tup (H.get _ _ _ (by kspl_open wmem)), H.moreO (Frz.here _ _), I4, ⟨xs, o1, rfl, rfl, (by kspl_open wle), (by kspl_open wle)⟩, ?_, ?_⟩
  · rintro j z ρ2 σ2 L2 hz H ⟨ys, o, rfl, rfl, hye, hyl⟩
    rw [show [Value.int g.start 0, Value.int g.loose 0] = intL [g.start, g.loose] from rfl, List.getElem?_map] at hz
    obtain ⟨w, hw, rfl⟩ := Option.map_eq_some_iff.mp hz
    have hj : j < 2 := (List.getElem?_eq_some_iff.mp hw).1
    have htb := take_succ_of hw
    refine ⟨_, (by kspl_open wset), ?_⟩
    refine SS.cons (S1.ite (by kspl_open wpt) (fun h => ?_) (fun h => ?_))
    · refine SS.cons (S1.expr (WV.appendO (by kspl_open wpe) (by kspl_open wpe) H (by kspl_open wput) (by kspl_open wln) fun σ H => ?_))
      refine SS.nil (SS.nil ⟨_, H, _, _, rfl, rfl, ?_, by simp; kspl_open wln⟩)
      rw [htb, List.any_append]; simp only [wayBad, List.any_cons, h, Bool.true_or, Bool.or_true]; simp
    · refine SS.nil (SS.nil ⟨_, H, ys, _, rfl, rfl, ?_, by kspl_open wln⟩)
      rw [htb, List.any_append, hye]; simp only [wayBad, List.any_cons, h, List.any_nil, Bool.or_false]
  rintro ρ2 σ2 L2 H ⟨ys, o, rfl, rfl, hye, hyl⟩
  have hye : ys.isEmpty = (xs.isEmpty && !([g.start, g.loose].any (wayBad g hs))) := hye
  have hyl : ys.length ≤ xs.length + 2 := hyl
  obtain ⟨ql, hql⟩ : ∃ ql, g.insts[g.insts.length - 1]? = some ql := ⟨_, List.getElem?_eq_getElem (by have := List.length_pos_iff.mpr hE; kspl_open wln)⟩
  obtain ⟨yl, hyl', hIl⟩ := hp.ix hql
  have hpos := List.length_pos_iff.mpr hE
  have hlast : g.insts.getLast? = some ql := by rw [List.getLast?_eq_getElem?]; exact hql
  have hbw : bodyWrong g = ((g.insts.any (instWrong g hs) || [g.start, g.loose].any (wayBad g hs)) || (g.flat && (!decide (g.heads = headsOf g) || !ql.last))) := by
    unfold bodyWrong
    rw [show instWrong g hs = instWrong g (headsOf g) from funext hci, show wayBad g hs = wayBad g (headsOf g) from funext hcw, hlast]; rfl
  refine SS.cons (S1.ite (b := g.flat && (!decide (g.heads = headsOf g) || !ql.last)) (PT.and (by kspl_open wpt) (fun _ => PT.and1 (PT.or (PT.cmp (by kspl_open wpe) (by kspl_open wpe) (Cmp.neIL (H.ext _ _ hp.H) (H.get _ _ _ (by kspl_open wmem)))) (fun _ => PT.or1 (PT.not (PT.val (PE.i_is_last (PE.item (PE.p_insts (by kspl_open wpe) hp H) (by kspl_open wpe) (Itm.listN (H.ext _ _ hp.L) (by decide) (by simp [hp.len]; kspl_open wln) (by
    rw [List.getElem?_map]
    have : ((-1 : Int) + ((refs r.xs).length : Int)).toNat = g.insts.length - 1 := by rw [List.length_map, hp.len]; exact last_at (List.length_pos_iff.mpr hE)
    rw [this, hyl']; rfl))) hIl H) Tru.bool)))))) (fun h => ?_) (fun h => ?_))
  · refine SS.cons (S1.expr (WV.appendO (by kspl_open wpe) (by kspl_open wpe) H (by kspl_open wput) (by kspl_open wln) fun σ H => ?_))
    refine SS.nil (SS.cons (S1.ret (WV.pe (by kspl_open wpe) ⟨_, H.sub (.cons _ (.cons _ (.cons _ (.refl _)))), a1, _, rfl, rfl, ?_, by simp; kspl_open wln⟩)))
    rw [hw, hbw, h]; simp
  · refine SS.nil (SS.cons (S1.ret (WV.pe (by kspl_open wpe) ⟨_, H.sub (.cons _ (.cons _ (.cons _ (.refl _)))), a1, _, rfl, rfl, ?_, by kspl_open wln⟩)))
    rw [hw, hbw, h, hye, hxe]; simp
end
section
variable {f : Fx} {ρ : Loc} {σ : St}


theorem k_Inst (P : Params) : keepIn (KK P) (.ref 39) = true := by kernel_rfl
theorem k_Program (P : Params) : keepIn (KK P) (.ref 60) = true := by kernel_rfl
/-- o.a = v where v may make things -/
theorem S1.setAW {σ0 : St} {o value : Expr} {a : Str} {p pos : Pos} {Q : Flow → Loc → St → Prop} (hv : WV f ρ σ (eval value f.env) fun v σ1 => (Ey8 fun L L' C x d w fs fs' => Ay9 (PE f ρ σ1 o (.ref x)) (Own f.fz σ0 σ1 L) ((x, .inst C d, w) ∈ L) (CA C a) ((d, .ns fs, true) ∈ L) (PutF a v fs fs') (Put d (.ns fs) (.ns fs') L L') (fs'.length ≤ 100) (∀ σ', Own f.fz σ0 σ' L' → Q .next ρ σ'))) (hcm : noComp value = true := by rfl) : S1 f ρ σ (.Assign [.Attribute o a p] value pos) Q :=
  S1.assign1 (WX.mono hv fun v σ1 ⟨L, L', C, x, d, w, fs, fs', ho, H, hx, hc, _, hf, hp, hl, q⟩ => WA.attr ho (H.get _ _ _ hx) (H.get _ _ _ hp.mem) hc hf hl (H.wr _ _ hp.mem) (q _ (H.turn hp))) hcm

noncomputable abbrev instE (x d : Addr) (i : In) : List Ent := [(x, .inst cI d, true), (d, .ns i.fs, true)]
noncomputable def P_instG (i : In) : Value → List Ent → Prop := fun v L => (Ey2 fun x d => Ay2 (v = .ref x) (L = instE x d i))
theorem wc_instG {c : Cx} {n : Nat} {fz : Addr → Prop} {σ0 : St} {args : List Value} {i : In} (hlast : i.last = false) (hfz : ∀ a, fz a → σ0 a ≠ none)
    (hb : ∀ x raw s, raw.map er = .ref x :: args → (KK c.w.params).In s.heap → ∃ binds, BindsTo s (fdo 36 c.w.params) ⟨raw, []⟩ binds ∧ binds.map (fun p => (p.1, er p.2)) = [(("self" : Str), .ref x), (("op" : Str), .int i.op 0), (("out" : Str), .int i.out 0), (("arg" : Str), .int i.arg 0), (("low" : Str), .int i.low 0), (("high" : Str), .int i.high 0), (("is_folded" : Str), .bool i.fold)]) :
    WC c (n + 2) fz σ0 (.ref 39) args (Ret fz σ0 (P_instG i)) := by
  refine WC.new m_inst i_inst t_inst fun d x hd hx hne => ?_
  have H : Own fz σ0 ((σ0.set d (.ns [])).set x (.inst cI d)) [(x, .inst cI d, true), (d, .ns [], true)] := ((Own.start hfz).alloc hd).alloc (by rw [St.set_ne _ _ hne.symm]; exact hx)
  intro A s raw hraw ok room rep sh
  refine codeAny_mono (wc_init hlast H (hb x) A s raw hraw ok room rep sh) fun r s' hr => ?_
  cases r with
  | error e => exact hr
  | ok fl =>
    cases fl with
    | ret v =>
      obtain ⟨σ', h1, h2, h3, h4, h5⟩ := hr
      exact ⟨σ', h1, h2, h3, h4, _, h5, x, d, rfl, rfl⟩
    | _ => exact hr.elim
noncomputable def P_inst1 (op : Int) : Value → List Ent → Prop := fun v L => (Ey2 fun x d => Ay2 (v = .ref x) (L = instE x d ⟨op, 0, 0, 0, 0, false, false⟩))
theorem wc_inst1 {c : Cx} {n : Nat} {fz : Addr → Prop} {σ0 : St} {op : Int} (hfz : ∀ a, fz a → σ0 a ≠ none) : WC c (n + 2) fz σ0 (.ref 39) [.int op 0] (Ret fz σ0 (P_inst1 op)) :=
  wc_instG rfl hfz fun x raw s e h => by
    obtain ⟨u, v, rfl, e1, e2⟩ := raw2 e
    exact ⟨_, bi_2 h u v, by simp only [List.map_cons, List.map_nil, e1, e2] <;> rfl⟩
noncomputable def P_inst2 (op out : Int) : Value → List Ent → Prop := fun v L => (Ey2 fun x d => Ay2 (v = .ref x) (L = instE x d ⟨op, out, 0, 0, 0, false, false⟩))
theorem wc_inst2 {c : Cx} {n : Nat} {fz : Addr → Prop} {σ0 : St} {op out : Int} (hfz : ∀ a, fz a → σ0 a ≠ none) : WC c (n + 2) fz σ0 (.ref 39) [.int op 0, .int out 0] (Ret fz σ0 (P_inst2 op out)) :=
  wc_instG rfl hfz fun x raw s e h => by
    obtain ⟨u, v, w, rfl, e1, e2, e3⟩ := raw3 e
    exact ⟨_, bi_3 h u v w, by simp only [List.map_cons, List.map_nil, e1, e2, e3] <;> rfl⟩
noncomputable def P_inst3 (op out arg : Int) : Value → List Ent → Prop := fun v L => (Ey2 fun x d => Ay2 (v = .ref x) (L = instE x d ⟨op, out, arg, 0, 0, false, false⟩))
theorem wc_inst3 {c : Cx} {n : Nat} {fz : Addr → Prop} {σ0 : St} {op out arg : Int} (hfz : ∀ a, fz a → σ0 a ≠ none) : WC c (n + 2) fz σ0 (.ref 39) [.int op 0, .int out 0, .int arg 0] (Ret fz σ0 (P_inst3 op out arg)) :=
  wc_instG rfl hfz fun x raw s e h => by
    cases raw with
    | nil => cases e
    | cons r raw =>
      simp only [List.map_cons, List.cons.injEq] at e
      obtain ⟨e0, e⟩ := e
      obtain ⟨u, v, w, rfl, e1, e2, e3⟩ := raw3 e
      exact ⟨_, bi_4 h r u v w, by simp only [List.map_cons, List.map_nil, e0, e1, e2, e3] <;> rfl⟩
noncomputable def P_inst6 (op out arg low high : Int) (fold : Bool) : Value → List Ent → Prop := fun v L => (Ey2 fun x d => Ay2 (v = .ref x) (L = instE x d ⟨op, out, arg, low, high, fold, false⟩))
theorem wc_inst6 {c : Cx} {n : Nat} {fz : Addr → Prop} {σ0 : St} {op out arg low high : Int} {fold : Bool} (hfz : ∀ a, fz a → σ0 a ≠ none) : WC c (n + 2) fz σ0 (.ref 39) [.int op 0, .int out 0, .int arg 0, .int low 0, .int high 0, .bool fold] (Ret fz σ0 (P_inst6 op out arg low high fold)) :=
  wc_instG rfl hfz fun x raw s e h => by
    cases raw with
    | nil => cases e
    | cons r raw =>
      simp only [List.map_cons, List.cons.injEq] at e
      obtain ⟨e0, e⟩ := e
      rcases raw with _ | ⟨u, _ | ⟨v, _ | ⟨w, raw⟩⟩⟩ <;> simp only [List.map_nil, List.map_cons, List.cons.injEq, reduceCtorEq, and_false, false_and] at e
      obtain ⟨e1, e2, e3, e⟩ := e
      obtain ⟨u', v', w', rfl, e4, e5, e6⟩ := raw3 e
      exact ⟨_, bi_7 h r u v w u' v' w', by simp only [List.map_cons, List.map_nil, e0, e1, e2, e3, e4, e5, e6] <;> rfl⟩

theorem bi_p {P : Params} {s : Shared} (h : (KK P).In s.heap) (a : Value) : BindsTo s (fdo 57 P) ⟨[a], []⟩ [(("self" : Str), a)] := BindsTo.of_eq (by kernel_rfl)
noncomputable abbrev failI : In := ⟨6, 0, 0, 0, 0, false, false⟩
noncomputable abbrev newPg : Pg := ⟨[failI], 0, 0, false, []⟩
noncomputable def progPost (v : Value) (L : List Ent) : Prop := (Ey6 fun p d1 a b x d => Ay2 (v = .ref p) (L = [(b, .list [], true), (a, .list [.ref x], true), (x, .inst cI d, true), (d, .ns failI.fs, true), (p, .inst cP d1, true), (d1, .ns (newPg.fs ⟨d1, a, b, [x]⟩), true)]))
theorem wc_program {c : Cx} {n : Nat} {fz : Addr → Prop} {σ0 : St} (hfz : ∀ a, fz a → σ0 a ≠ none) : WC c (n + 4) fz σ0 (.ref 60) [] (Ret fz σ0 progPost) := by
  refine WC.new m_prog i_prog t_prog fun d1 p hd hx hne => ?_
  have H : Own fz σ0 ((σ0.set d1 (.ns [])).set p (.inst cP d1)) [(p, .inst cP d1, true), (d1, .ns [], true)] := ((Own.start hfz).alloc hd).alloc (by rw [St.set_ne _ _ hne.symm]; exact hx)
  generalize (σ0.set d1 (.ns [])).set p (.inst cP d1) = σ at H
  refine WCc.fn (pa := [(("self" : Str), .ref p)]) (rest := []) (gl := ["Inst", "INST_FAIL"]) (cl := []) f_init57 (fun P => by kernel_rfl) (fun raw s e hh => ?_) fun env => ?_
  · obtain ⟨u, rfl, e1⟩ := raw1 e
    exact ⟨_, bi_p hh u, by simp [e1]⟩
  refine WS.mono (Q := fun fl _ σ' => erF fl = .next ∧ Ret fz σ0 progPost (.ref p) σ') ?_ fun fl _ σ' _ q => by
    obtain ⟨q1, q2⟩ := q
    cases fl <;> first | exact ⟨rfl, q2⟩ | cases q1
  show SS (⟨c, n + 2, fz, env, ["Inst", "INST_FAIL"], []⟩ : Fx) ([("self", some (.ref p))] : Loc) σ (bodyOf (fdo 57 c.w.params)) fun fl _ σ' => fl = .next ∧ Ret fz σ0 progPost (.ref p) σ'
  conv => arg 4; whnf
  refine SS.cons (S1.setAW (σ0 := σ0) (WV.list (WLs.cons (WV.callO (PE.globR (by kspl_open wmem) g_Inst) k_Inst (by kspl_open wpes) H (wc_inst1 H.fzs) ?_))))
  rintro v σ L' ⟨x, d, rfl, rfl⟩ H
  dsimp only [List.cons_append, List.nil_append] at H
  refine WLs.nil ⟨(by kspl_open wle), fun a ha => ⟨_, _, _, _, _, _, _, _, (by kspl_open wpe), H.alloc ha, (by kspl_open wmem), ca_insts, (by kspl_open wmem), (by kspl_open wx1), (by kspl_open wput), (by kspl_open wle), fun σ H => ?_⟩⟩
  refine SS.cons (S1.setAO (by kspl_open wpe) (by kspl_open wpe) H (by kspl_open wmem) ca_start (by kspl_open wmem) (by kspl_open wx1) (by kspl_open wput) (by kspl_open wle) fun σ H => ?_)
  refine SS.cons (S1.setAO (by kspl_open wpe) (by kspl_open wpe) H (by kspl_open wmem) ca_loose (by kspl_open wmem) (by kspl_open wx1) (by kspl_open wput) (by kspl_open wle) fun σ H => ?_)
  refine SS.cons (S1.setAO (by kspl_open wpe) (by kspl_open wpe) H (by kspl_open wmem) ca_rev (by kspl_open wmem) (by kspl_open wx1) (by kspl_open wput) (by kspl_open wle) fun σ H => ?_)
  refine SS.cons (S1.setAO (by kspl_open wpe) (by kspl_open wpe) H (by kspl_open wmem) ca_anS (by kspl_open wmem) (by kspl_open wx1) (by kspl_open wput) (by kspl_open wle) fun σ H => ?_)
  refine SS.cons (S1.setAO (by kspl_open wpe) (by kspl_open wpe) H (by kspl_open wmem) ca_anE (by kspl_open wmem) (by kspl_open wx1) (by kspl_open wput) (by kspl_open wle) fun σ H => ?_)
  refine SS.cons (S1.setAO (by kspl_open wpe) (by kspl_open wpe) H (by kspl_open wmem) ca_flat (by kspl_open wmem) (by kspl_open wx1) (by kspl_open wput) (by kspl_open wle) fun σ H => ?_)
  refine SS.cons (S1.setAW (σ0 := σ0) (WV.newL .nil H fun b σ H => ⟨_, _, _, _, _, _, _, _, (by kspl_open wpe), H, (by kspl_open wmem), ca_heads, (by kspl_open wmem), (by kspl_open wx1), (by kspl_open wput), (by kspl_open wle), fun σ H => ?_⟩))
  refine SS.cons (S1.setAO (v := .bytes #[] 0) (PE.bytes (x := [])) (by kspl_open wpe) H (by kspl_open wmem) ca_prefix (by kspl_open wmem) (by kspl_open wx1) (by kspl_open wput) (by kspl_open wle) fun σ H => ?_)
  refine SS.cons (S1.setAO (by kspl_open wpe) (by kspl_open wpe) H (by kspl_open wmem) ca_pf (by kspl_open wmem) (by kspl_open wx1) (by kspl_open wput) (by kspl_open wle) fun σ H => ?_)
  refine SS.cons (S1.setAO (by kspl_open wpe) (by kspl_open wpe) H (by kspl_open wmem) ca_cuts (by kspl_open wmem) (by kspl_open wx1) (by kspl_open wput) (by kspl_open wle) fun σ H => ?_)
  exact SS.nil ⟨rfl, _, H, p, d1, a, b, x, d, rfl, rfl⟩
end
section
variable {f : Fx} {ρ : Loc} {σ : St}


theorem wc_twin {σ0 : St} {c : Cx} {n : Nat} {fz : Addr → Prop} {q : Addr} {g : Pg} {r : PR} (hp : IsP σ0 q g r) (hfz : ∀ a, fz a → σ0 a ≠ none) : WC c (n + 5) fz σ0 (.ref 71) [.ref q] (Ret fz σ0 progPost) := by
  refine WC.fnO (ρ := [("prog", some (.ref q)), ("found", none)]) (gl := ["Program"]) (cl := []) (pa := [("prog", .ref q)]) (rest := ["found"]) rfl (.of fun P => by kernel_rfl) (fun P => by kernel_rfl) (hb1 fun P u => by kernel_rfl) fun env => ?_
  have H : Own fz σ0 σ0 [] := Own.start hfz
  conv => arg 4; whnf
  refine SS.cons (S1.name (WV.callO (PE.globR (by kspl_open wmem) g_Program) k_Program .nil H (wc_program H.fzs) ?_))
  rintro v σ L' ⟨p, d1, a, b, x, d, rfl, rfl⟩ H
  refine ⟨_, (by kspl_open wset), ?_⟩
  dsimp only [List.cons_append, List.nil_append] at H
  refine SS.cons (S1.setAO (by kspl_open wpe) (by kspl_open wpe) H (by kspl_open wmem) ca_rev (by kspl_open wmem) (by kspl_open wx1) (by kspl_open wput) (by kspl_open wle) fun σ H => ?_)
  refine SS.cons (S1.setAO (by kspl_open wpe) (by kspl_open wpe) H (by kspl_open wmem) ca_anS (by kspl_open wmem) (by kspl_open wx1) (by kspl_open wput) (by kspl_open wle) fun σ H => ?_)
  refine SS.cons (S1.setAO (by kspl_open wpe) (by kspl_open wpe) H (by kspl_open wmem) ca_anE (by kspl_open wmem) (by kspl_open wx1) (by kspl_open wput) (by kspl_open wle) fun σ H => ?_)
  refine SS.cons (S1.setAO (by kspl_open wpe) (by kspl_open wpe) H (by kspl_open wmem) ca_prefix (by kspl_open wmem) (by kspl_open wx1) (by kspl_open wput) (by kspl_open wle) fun σ H => ?_)
  refine SS.cons (S1.setAO (by kspl_open wpe) (by kspl_open wpe) H (by kspl_open wmem) ca_pf (by kspl_open wmem) (by kspl_open wx1) (by kspl_open wput) (by kspl_open wle) fun σ H => ?_)
  exact SS.cons (S1.ret (WV.pe (by kspl_open wpe) ⟨_, H, p, d1, a, b, x, d, rfl, rfl⟩))

noncomputable def P_key (i : In) : Value → List Ent → Prop := fun v L => (Ey1 fun t => Ay2 (v = .ref t) (L = [(t, .tup (keyV i), true)]))
theorem wc_key {σ0 : St} {c : Cx} {n : Nat} {fz : Addr → Prop} {x : Addr} {i : In} (hI : IsI σ0 x i) (hfz : ∀ a, fz a → σ0 a ≠ none) : WC c (n + 1) fz σ0 (.ref 209) [.ref x] (Ret fz σ0 (P_key i)) := by
  refine WC.fnO (ρ := [("inst", some (.ref x))]) (gl := []) (cl := []) (pa := [("inst", .ref x)]) (rest := []) rfl (.of fun P => by kernel_rfl) (fun P => by kernel_rfl) (hb1 fun P u => by kernel_rfl) fun env => ?_
  have H : Own fz σ0 σ0 [] := Own.start hfz
  conv => arg 4; whnf
  exact SS.cons (S1.ret (WV.newT (by kspl_open wpes) H fun a σ H => ⟨_, H, a, rfl, rfl⟩))

/-- a program before it is laid flat -/
structure Net (g : Pg) : Prop where
  out : ∀ (k : Nat) (i : In), g.insts[k]? = some i → i.op ≠ 4 → i.op ≠ 6 → InR g i.out
  arg : ∀ (k : Nat) (i : In), g.insts[k]? = some i → i.op = 0 → InR g i.arg
  start : InR g g.start
  loose : InR g g.loose
  small : g.insts.length ≤ 1000
  ops : ∀ (k : Nat) (i : In), g.insts[k]? = some i → 0 ≤ i.op ∧ i.op ≤ 6
  flat : g.flat = false
  zero : InR g 0
theorem fways_in {g : Pg} (hn : Net g) {k : Nat} {i : In} (h : g.insts[k]? = some i) : ∀ w ∈ fways i, InR g w := by
  intro w hw
  unfold fways at hw
  split at hw
  · rename_i e
    have e : i.op = 0 := by simpa using e
    simp only [List.mem_cons, List.not_mem_nil, or_false] at hw
    rcases hw with rfl | rfl
    · exact hn.out k i h (by kspl_open wln) (by kspl_open wln)
    · exact hn.arg k i h e
  · split at hw
    · rename_i e
      have e : i.op = 5 := by simpa using e
      simp only [List.mem_cons, List.not_mem_nil, or_false] at hw
      subst hw
      exact hn.out k i h (by kspl_open wln) (by kspl_open wln)
    · cases hw
theorem fways_len (i : In) : (fways i).length ≤ 2 := by unfold fways; repeat' split <;> simp
/-- what is met from the beginnings, closed -/
structure Shut (g : Pg) (rs M : List Int) : Prop where
  inM : ∀ x ∈ M, InR g x
  step : ∀ x ∈ M, ∀ i, g.insts[x.toNat]? = some i → isStep i.op = true → i.out ∈ M ∧ i.out ∈ rs
  ways : ∀ x ∈ M, ∀ i, g.insts[x.toNat]? = some i → ∀ w ∈ fways i, w ∈ M
  roots : ∀ x ∈ rs, x = 0 ∨ x ∈ M
  start : g.start ∈ rs
  loose : g.loose ∈ rs
  head : rs.head? = some 0
  nd : rs.Nodup
  inR : ∀ x ∈ rs, InR g x

noncomputable def P_first (g : Pg) : Value → List Ent → Prop := fun v L => (Ey3 fun a rs M => Ay3 (v = .ref a) (L = [(a, .dic (marks rs), true)]) (Shut g rs M))
theorem wc_first {σ0 : St} {c : Cx} {n : Nat} {fz : Addr → Prop} {q : Addr} {g : Pg} {r : PR} (hp : IsP σ0 q g r) (hn : Net g) (hfz : ∀ a, fz a → σ0 a ≠ none) :
    WC c (n + 2) fz σ0 (.ref 188) [.ref q] (Ret fz σ0 (P_first g)) := by
  refine WC.fnO (ρ := [("prog", some (.ref q)), ("roots", none), ("met", none), ("stack", none), ("number", none), ("inst", none)]) (gl := ["FLATTEN_STEPS", "flatten_ways", "reversed"]) (cl := []) (pa := [("prog", .ref q)]) (rest := ["roots", "met", "stack", "number", "inst"]) rfl (.of fun P => by kernel_rfl) (fun P => by kernel_rfl) (hb1 fun P u => by kernel_rfl) fun env => ?_
  have H : Own fz σ0 σ0 [] := Own.start hfz
  conv => arg 4; whnf
  refine SS.cons (S1.name (WV.dicN (.cons (by kspl_open wpe) (by kspl_open wpe) (.cons (by kspl_open wpe) (by kspl_open wpe) (.cons (by kspl_open wpe) (by kspl_open wpe) .nil))) H fun a1 σ H => ⟨_, (by kspl_open wset), ?_⟩))
  have e0 : merged [] [(0, Value.bool true), (g.loose, .bool true), (g.start, .bool true)] = marks (ad (ad [0] g.loose) g.start) := by
    show stored (stored (stored (marks []) 0 (.bool true)) g.loose (.bool true)) g.start (.bool true) = _
    rw [stored_ad, stored_ad, stored_ad]; rfl
  rw [e0] at H
  refine SS.cons (S1.tupO (σ0 := σ0) (.cons _ _ (.cons _ _ .nil)) ?_)
  refine WLs.cons (WV.dic0 H fun a2 σ H => WLs.cons (WV.newL (by kspl_open wpes) H fun a3 σ H => WLs.nil ⟨_, _, H, (by kspl_open wsta), (by kspl_open wstr), fun σ H => ?_⟩))
  have hsm := hn.small
  let p1p := fun (m : Nat) (ρ1 : Loc) (L1 : List Ent) rs me st o o2 => (Ay15 (ρ1 = ([("prog", some (.ref q)), ("roots", some (.ref a1)), ("met", some (.ref a2)), ("stack", some (.ref a3)), ("number", o), ("inst", o2)] : Loc)) (L1 = ([(a3, .list (intL st), true), (a2, .dic (marks me), true), (a1, .dic (marks rs), true)] : List Ent)) ((∀ x ∈ st, InR g x)) ((∀ x ∈ me, InR g x)) ((∀ x ∈ me, ∀ i, g.insts[x.toNat]? = some i → isStep i.op = true → (i.out ∈ me ∨ i.out ∈ st) ∧ i.out ∈ rs)) ((∀ x ∈ me, ∀ i, g.insts[x.toNat]? = some i → ∀ w ∈ fways i, w ∈ me ∨ w ∈ st)) ((∀ x ∈ rs, x = 0 ∨ x ∈ me ∨ x ∈ st)) (g.start ∈ rs) (g.loose ∈ rs) (rs.head? = some 0) (rs.Nodup) ((∀ x ∈ rs, InR g x)) (4 * unmet g.insts.length me + st.length ≤ m) (me.length + unmet g.insts.length me ≤ g.insts.length) (st.length ≤ 2 + 3 * me.length) : Prop)
  let I1 : Nat → Loc → List Ent → Prop := fun m ρ1 L1 => Ey5 (p1p m ρ1 L1)
  refine SS.cons (S1.whileO (σ0 := σ0) H I1 (4 * g.insts.length + 2) ⟨_, [], [g.start, g.loose], none, none, rfl, rfl, ?_, (by kspl_open wle), (by kspl_open wle), (by kspl_open wle), ?_, ?_, ?_, ?_, ?_, ?_, by rw [unmet_nil]; simp, by rw [unmet_nil]; simp, (by kspl_open wle)⟩ ?_)
  · intro x hx
    simp only [List.mem_cons, List.not_mem_nil, or_false] at hx
    rcases hx with rfl | rfl
    · exact hn.start
    · exact hn.loose
  · intro x hx
    rw [mem_ad, mem_ad] at hx
    simp only [List.mem_cons, List.not_mem_nil, or_false] at hx ⊢
    rcases hx with (h | h) | h
    · exact .inl h
    · exact .inr (.inr (.inr h))
    · exact .inr (.inr (.inl h))
  · rw [mem_ad]; exact .inr rfl
  · rw [mem_ad, mem_ad]; exact .inl (.inr rfl)
  · exact ad_head (ad_head rfl)
  · exact nodup_ad (nodup_ad (by kspl_open wle))
  · intro x hx
    rw [mem_ad, mem_ad] at hx
    simp only [List.mem_cons, List.not_mem_nil, or_false] at hx
    rcases hx with (rfl | rfl) | rfl
    · exact hn.zero
    · exact hn.loose
    · exact hn.start
  rintro m ρ1 σ L1 H ⟨rs, me, st, o, o2, rfl, rfl, hst, hme, hstep, hways, hrs, hs1, hs2, hhd, hnd, hrr, hm, hlen, hsl⟩
  refine ⟨_, (by kspl_open wpt), fun hb => ?_, fun hb => ?_⟩
  rotate_left
  · have hst0 : st = [] := by first | exact of_decide_eq_true hb | exact eq_of_beq hb | exact ne_of_beq_false hb | exact of_decide_eq_false hb | exact beq_iff_eq.mpr hb | exact beq_false_of_ne hb | simpa using hb
    subst hst0
    refine SS.cons (S1.ret (WV.pe (by kspl_open wpe) ⟨_, H.sub (.cons _ (.cons _ (.refl _))), a1, rs, me, rfl, rfl, hme, ?_, ?_, ?_, hs1, hs2, hhd, hnd, hrr⟩))
    · intro x hx i hi h
      obtain ⟨h1, h2⟩ := hstep x hx i hi h
      exact ⟨h1.resolve_right (by kspl_open wle), h2⟩
    · intro x hx i hi w hw
      exact (hways x hx i hi w hw).resolve_right (by kspl_open wle)
    · intro x hx
      exact (hrs x hx).imp_right fun h => h.resolve_right (by kspl_open wle)
  obtain ⟨st, x, rfl⟩ : ∃ s x, st = s ++ [x] := by
    have hne : st ≠ [] := by first | exact of_decide_eq_true hb | exact eq_of_beq hb | exact ne_of_beq_false hb | exact of_decide_eq_false hb | exact beq_iff_eq.mpr hb | exact beq_false_of_ne hb | simpa using hb
    exact ⟨st.dropLast, st.getLast hne, (List.dropLast_concat_getLast hne).symm⟩
  rw [← intL_app] at H
  have hx := hst x (by kspl_open wle)
  refine SS.cons (S1.name (WV.popO (by kspl_open wpe) H (by kspl_open wput) fun σ H => ⟨_, (by kspl_open wset), ?_⟩))
  refine SS.cons (S1.ite (by kspl_open wpt) (fun h1 => ?_) (fun h1 => ?_))
  · have hmx : x ∈ me := by first | exact of_decide_eq_true h1 | exact eq_of_beq h1 | exact ne_of_beq_false h1 | exact of_decide_eq_false h1 | exact beq_iff_eq.mpr h1 | exact beq_false_of_ne h1 | simpa using h1
    have mv : ∀ y, (y ∈ me ∨ y ∈ st ++ [x]) → y ∈ me ∨ y ∈ st := by
      rintro y (h | h)
      · exact .inl h
      · rcases List.mem_append.mp h with h | h
        · exact .inr h
        · simp only [List.mem_singleton] at h; exact .inl (h ▸ hmx)
    refine SS.cons (S1.cont ⟨4 * unmet g.insts.length me + st.length, _, ?_, H, rs, me, st, _, _, rfl, rfl, fun y hy => hst y (by simp [hy]), hme, fun y hy i hi h => ?_, fun y hy i hi w hw => mv _ (hways y hy i hi w hw), fun y hy => (hrs y hy).imp_right (mv _), hs1, hs2, hhd, hnd, hrr, Nat.le_refl _, hlen, ?_⟩)
    · simp at hm; kspl_open wln
    · obtain ⟨q1, q2⟩ := hstep y hy i hi h
      exact ⟨mv _ q1, q2⟩
    · simp at hsl; kspl_open wln
  have hmx : x ∉ me := by first | exact of_decide_eq_true h1 | exact eq_of_beq h1 | exact ne_of_beq_false h1 | exact of_decide_eq_false h1 | exact beq_iff_eq.mpr h1 | exact beq_false_of_ne h1 | simpa using h1
  refine SS.nil ?_
  refine SS.cons (S1.setD (by kspl_open wpe) (by kspl_open wpe) (by kspl_open wpe) H (by kspl_open wput) ?_ fun σ H => ?_)
  · (first | ((repeat first | refine lmap_lt ?_ | refine lmap_le ?_); kspl_open wln) | (rw [List.length_map]; kspl_open wln))
  rw [stored_marks hmx] at H
  obtain ⟨i, hi, -⟩ := hx.at_
  obtain ⟨y, hy, hI⟩ := hp.ix hi
  have hx0 := hx.1
  refine SS.cons (S1.name (WV.pe (by kspl_open wpe) ⟨_, by kspl_open wset, ?_⟩))
  have hu := unmet_lt hx hmx
  have hul : me.length + 1 + unmet g.insts.length (me ++ [x]) ≤ g.insts.length := by kspl_open wln
  have hrl := nodup_inR hnd hrr
  have fw := fways_in hn hi
  have fl := fways_len i
  let q1p := fun (ρ' : Loc) (L' : List Ent) rs' st' => (Ay3 (ρ' = ([("prog", some (.ref q)), ("roots", some (.ref a1)), ("met", some (.ref a2)), ("stack", some (.ref a3)), ("number", some (.int x 0)), ("inst", some (.ref y))] : Loc)) (L' = ([(a3, .list (intL st'), true), (a2, .dic (marks (me ++ [x])), true), (a1, .dic (marks rs'), true)] : List Ent)) ((isStep i.op = false ∧ rs' = rs ∧ st' = st ∨ isStep i.op = true ∧ rs' = ad rs i.out ∧ st' = st ++ [i.out])) : Prop)
  let J1 : Loc → List Ent → Prop := fun ρ' L' => Ey2 (q1p ρ' L')
  refine SS.cons (S1.cutO (σ0 := σ0) J1 ?_ ?_)
  · refine S1.ite (by kspl_open wpt) (fun h2 => ?_) (fun h2 => ?_)
    · refine SS.cons (S1.setD (by kspl_open wpe) (by kspl_open wpe) (by kspl_open wpe) H (by kspl_open wput) ?_ fun σ H => ?_)
      · (first | ((repeat first | refine lmap_lt ?_ | refine lmap_le ?_); kspl_open wln) | (rw [List.length_map]; kspl_open wln))
      rw [stored_ad] at H
      refine SS.cons (S1.expr (WV.appendO (by kspl_open wpe) (by kspl_open wpe) H (by kspl_open wput) ?_ fun σ H => ?_))
      · rw [List.length_map]; simp at hsl; kspl_open wln
      rw [intL_app] at H
      exact SS.nil ⟨rfl, _, H, _, _, rfl, rfl, .inr ⟨h2, rfl, rfl⟩⟩
    · exact SS.nil ⟨rfl, _, H, _, _, rfl, rfl, .inl ⟨h2, rfl, rfl⟩⟩
  rintro ρ2 σ L2 H ⟨rs', st', rfl, rfl, hd⟩
  have hop := hn.ops _ i hi
  have hrs' : ∀ z, z ∈ rs' ↔ z ∈ rs ∨ (isStep i.op = true ∧ z = i.out) := by
    intro z
    rcases hd with ⟨e, rfl, rfl⟩ | ⟨e, rfl, rfl⟩
    · simp [e]
    · rw [mem_ad]; simp [e]
  have hst' : ∀ z, z ∈ st' ↔ z ∈ st ∨ (isStep i.op = true ∧ z = i.out) := by
    intro z
    rcases hd with ⟨e, rfl, rfl⟩ | ⟨e, rfl, rfl⟩
    · simp [e]
    · simp [e]
  have hstl : st'.length ≤ st.length + 1 := by rcases hd with ⟨e, rfl, rfl⟩ | ⟨e, rfl, rfl⟩ <;> simp
  have hhd' : rs'.head? = some 0 := by
    rcases hd with ⟨e, rfl, rfl⟩ | ⟨e, rfl, rfl⟩
    · exact hhd
    · exact ad_head hhd
  have hnd' : rs'.Nodup := by
    rcases hd with ⟨e, rfl, rfl⟩ | ⟨e, rfl, rfl⟩
    · exact hnd
    · exact nodup_ad hnd
  have hout : isStep i.op = true → InR g i.out := fun e => hn.out _ i hi (by rintro h; rw [h] at e; cases e) (by rintro h; rw [h] at e; cases e)
  clear hd
  have hsl : st.length + 1 ≤ 2 + 3 * me.length := by first | exact of_decide_eq_true hsl | exact eq_of_beq hsl | exact ne_of_beq_false hsl | exact of_decide_eq_false hsl | exact beq_iff_eq.mpr hsl | exact beq_false_of_ne hsl | simpa using hsl
  refine SS.cons (S1.expr (WV.extendRevO (σ0 := σ0) (by kspl_open wmem) (by kspl_open wpe) ⟨_, (by kspl_open wmem)⟩ (WV.callO (PE.globR (by kspl_open wmem) g_flatten_ways) (fun P => by kernel_rfl) (by kspl_open wpes) H (wc_fways (hI.ext H.ext) H.fzs) ?_) H))
  rintro v σ L' ⟨b, rfl, rfl⟩ H
  dsimp only [List.cons_append, List.nil_append] at H
  refine ⟨b, _, _, _, rfl, H, H.get _ _ _ (by kspl_open wmem), by (first | ((repeat first | refine lmap_lt ?_ | refine lmap_le ?_); kspl_open wln) | (simp only [List.length_map]; kspl_open wln)), (by kspl_open wput), fun σ H => ?_⟩
  rw [← List.map_reverse, intL_apps] at H
  have mv : ∀ z, (z ∈ me ∨ z ∈ st ++ [x]) → z ∈ me ++ [x] ∨ z ∈ st' ++ (fways i).reverse := by
    rintro z (h | h)
    · exact .inl (by simp [h])
    · rcases List.mem_append.mp h with h | h
      · exact .inr (List.mem_append_left _ ((hst' z).mpr (.inl h)))
      · simp only [List.mem_singleton] at h; exact .inl (by simp [h])
  have self : ∀ z ∈ me ++ [x], z ∈ me ∨ z = x := fun z hz => by first | exact of_decide_eq_true hz | exact eq_of_beq hz | exact ne_of_beq_false hz | exact of_decide_eq_false hz | exact beq_iff_eq.mpr hz | exact beq_false_of_ne hz | simpa using hz
  have at_x : ∀ j, g.insts[x.toNat]? = some j → j = i := fun j hj => by rw [hi] at hj; exact (Option.some.inj hj).symm
  refine SS.nil ⟨4 * unmet g.insts.length (me ++ [x]) + (st' ++ (fways i).reverse).length, _, ?_, H.sub (List.sublist_cons_self ..), rs', me ++ [x], st' ++ (fways i).reverse, _, _, rfl, rfl, ?_, ?_, ?_, ?_, ?_, (hrs' _).mpr (.inl hs1), (hrs' _).mpr (.inl hs2), hhd', hnd', ?_, Nat.le_refl _, ?_, ?_⟩
  · simp at hm ⊢; kspl_open wln
  · intro z hz
    rcases List.mem_append.mp hz with h | h
    · rcases (hst' z).mp h with h | ⟨h2, rfl⟩
      · exact hst z (by simp [h])
      · exact hout h2
    · exact fw z (by first | exact of_decide_eq_true h | exact eq_of_beq h | exact ne_of_beq_false h | exact of_decide_eq_false h | exact beq_iff_eq.mpr h | exact beq_false_of_ne h | simpa using h)
  · intro z hz
    rcases self z hz with h | rfl
    · exact hme z h
    · exact hx
  · intro z hz j hj h
    rcases self z hz with h' | rfl
    · obtain ⟨q1, q2⟩ := hstep z h' j hj h
      exact ⟨mv _ q1, (hrs' _).mpr (.inl q2)⟩
    · obtain rfl := at_x j hj
      exact ⟨.inr (List.mem_append_left _ ((hst' _).mpr (.inr ⟨h, rfl⟩))), (hrs' _).mpr (.inr ⟨h, rfl⟩)⟩
  · intro z hz j hj w hw
    rcases self z hz with h' | rfl
    · exact mv _ (hways z h' j hj w hw)
    · obtain rfl := at_x j hj
      exact .inr (List.mem_append_right _ (by first | exact of_decide_eq_true hw | exact eq_of_beq hw | exact ne_of_beq_false hw | exact of_decide_eq_false hw | exact beq_iff_eq.mpr hw | exact beq_false_of_ne hw | simpa using hw))
  · intro z hz
    rcases (hrs' z).mp hz with h | ⟨h, rfl⟩
    · exact (hrs z h).imp_right (mv _)
    · exact .inr (.inr (List.mem_append_left _ ((hst' _).mpr (.inr ⟨h, rfl⟩))))
  · intro z hz
    rcases (hrs' z).mp hz with h | ⟨h, rfl⟩
    · exact hrr z h
    · exact hout h
  · simp; kspl_open wln
  · simp; kspl_open wln
end
section
variable {f : Fx} {ρ : Loc} {σ : St}


theorem marks_keys (ns : List Int) : (marks ns).map (·.1) = ns := by
  induction ns with
  | nil => rfl
  | cons n ns ih => simp only [marks, List.map_cons] at ih ⊢; rw [ih]
/-- roots within what is met -/
structure Rts (g : Pg) (rs M : List Int) : Prop where
  inM : ∀ x ∈ M, InR g x
  ways : ∀ x ∈ M, ∀ i, g.insts[x.toNat]? = some i → ∀ w ∈ fways i, w ∈ M
  roots : ∀ x ∈ rs, x = 0 ∨ x ∈ M
  inR : ∀ x ∈ rs, InR g x
  nd : rs.Nodup

noncomputable def P_shared (rs M : List Int) : Value → List Ent → Prop := fun v L => (Ey2 fun b sh => Ay4 (v = .ref b) (L = [(b, .list (intL sh), true)]) (sh.Nodup) (∀ x ∈ sh, x ∈ M ∧ x ∉ rs))
theorem wc_shared {σ0 : St} {c : Cx} {n : Nat} {fz : Addr → Prop} {q a : Addr} {g : Pg} {r : PR} {rs M : List Int} (hp : IsP σ0 q g r) (hn : Net g) (h0 : ∀ i, g.insts[0]? = some i → i.op = 6) (ha : σ0 a = some (.dic (marks rs))) (hR : Rts g rs M) (hfz : ∀ a, fz a → σ0 a ≠ none) :
    WC c (n + 2) fz σ0 (.ref 195) [.ref r.L, .ref a] (Ret fz σ0 (P_shared rs M)) := by
  refine WC.fnO (ρ := [("insts", some (.ref r.L)), ("roots", some (.ref a)), ("owners", none), ("shared", none), ("root", none), ("stack", none), ("way", none)]) (gl := ["flatten_ways", "list"]) (cl := []) (pa := [("insts", .ref r.L), ("roots", .ref a)]) (rest := ["owners", "shared", "root", "stack", "way"]) rfl (.of fun P => by kernel_rfl) (fun P => by kernel_rfl) (hb2 fun P u v => by kernel_rfl) fun env => ?_
  have H : Own fz σ0 σ0 [] := Own.start hfz
  have hsm := hn.small
  conv => arg 4; whnf
  refine SS.cons (S1.tupO (σ0 := σ0) (.cons _ _ (.cons _ _ .nil)) ?_)
  refine WLs.cons (WV.dic0 H fun a1 σ H => WLs.cons (WV.dic0 H fun a2 σ H => WLs.nil ⟨_, _, H, (by kspl_open wsta), (by kspl_open wstr), fun σ H => ?_⟩))
  refine SS.cons (S1.forO (σ0 := σ0) (WV.pe (by kspl_open wpe) ?_))
  let p1p := fun (i : Nat) (ρ2 : Loc) (L2 : List Ent) (ow : List (Int × Int)) (sh : List Int) (o1 o2 o3 : Option Value) => (Ay6 (ρ2 = ([("insts", some (.ref r.L)), ("roots", some (.ref a)), ("owners", some (.ref a1)), ("shared", some (.ref a2)), ("root", o1), ("stack", o2), ("way", o3)] : Loc)) (L2 = ([(a2, .dic (marks sh), true), (a1, .dic (otab ow), true)] : List Ent)) (sh.Nodup) ((∀ x ∈ sh, x ∈ M ∧ x ∉ rs)) ((∀ p ∈ ow, p.1 ∈ M)) (ow.length + unmet g.insts.length (ow.map (·.1)) ≤ g.insts.length) : Prop)
  let I1 : Nat → Loc → List Ent → Prop := fun i ρ2 L2 => Ey5 (p1p i ρ2 L2)
  refine ⟨_, _, a, _, rfl, Iter.dic (H.ext _ _ ha), H.moreB ha, I1, ⟨[], [], none, none, none, rfl, rfl, (by kspl_open wle), (by kspl_open wle), (by kspl_open wle), by simp [unmet_nil]⟩, ?_, ?_⟩
  · rintro i z ρ2 σ L2 hz H ⟨ow, sh, o1, o2, o3, rfl, rfl, hnd, hsh, how, hcnt⟩
    simp only [marks, List.map_map, Function.comp_def] at hz
    rw [List.getElem?_map] at hz
    obtain ⟨root, hw, rfl⟩ := Option.map_eq_some_iff.mp hz
    have hroot := List.mem_of_getElem? hw
    refine ⟨_, (by kspl_open wset), ?_⟩
    refine SS.cons (S1.name (WV.newL (by kspl_open wpes) H fun a3 σ H => ⟨_, (by kspl_open wset), ?_⟩))
    let p2p := fun (m : Nat) (ρ1 : Loc) (L1 : List Ent) (ow : List (Int × Int)) (sh st : List Int) (o3 : Option Value) => (Ay9 (ρ1 = ([("insts", some (.ref r.L)), ("roots", some (.ref a)), ("owners", some (.ref a1)), ("shared", some (.ref a2)), ("root", some (.int root 0)), ("stack", some (.ref a3)), ("way", o3)] : Loc)) (L1 = ([(a3, .list (intL st), true), (a2, .dic (marks sh), true), (a1, .dic (otab ow), true)] : List Ent)) (sh.Nodup) ((∀ x ∈ sh, x ∈ M ∧ x ∉ rs)) ((∀ p ∈ ow, p.1 ∈ M)) (ow.length + unmet g.insts.length (ow.map (·.1)) ≤ g.insts.length) ((∀ x ∈ st, x = 0 ∨ x ∈ M)) (2 * unmet g.insts.length (ow.map (·.1)) + st.length ≤ m) (m ≤ 2001) : Prop)
    let I2 : Nat → Loc → List Ent → Prop := fun m ρ1 L1 => Ey4 (p2p m ρ1 L1)
    refine SS.cons (S1.whileO (σ0 := σ0) H I2 (2 * unmet g.insts.length (ow.map (·.1)) + 1) ⟨ow, sh, [root], o3, rfl, rfl, hnd, hsh, how, hcnt, by intro x hx; simp at hx; subst hx; exact hR.roots _ hroot, (by kspl_open wle), by kspl_open wln⟩ ?_)
    rintro m ρ1 σ L1 H ⟨ow, sh, st, o3, rfl, rfl, hnd, hsh, how, hcnt, hst, hm, hm2⟩
    refine ⟨_, (by kspl_open wpt), fun hb => ?_, fun hb => ?_⟩
    rotate_left
    · exact SS.nil ⟨_, H.sub (List.sublist_cons_self ..), ow, sh, _, _, _, rfl, rfl, hnd, hsh, how, hcnt⟩
    obtain ⟨st, x, rfl⟩ : ∃ s x, st = s ++ [x] := by
      have hne : st ≠ [] := by first | exact of_decide_eq_true hb | exact eq_of_beq hb | exact ne_of_beq_false hb | exact of_decide_eq_false hb | exact beq_iff_eq.mpr hb | exact beq_false_of_ne hb | simpa using hb
      exact ⟨st.dropLast, st.getLast hne, (List.dropLast_concat_getLast hne).symm⟩
    rw [← intL_app] at H
    have hx := hst x (by kspl_open wle)
    have hxr : InR g x := by
      rcases hx with rfl | h
      · exact hn.zero
      · exact hR.inM _ h
    obtain ⟨q, hi, -⟩ := hxr.at_
    obtain ⟨y, hy, hI⟩ := hp.ix hi
    have hwM : ∀ w ∈ fways q, w ∈ M := by
      intro w hw
      rcases hx with rfl | h
      · have := h0 q hi
        unfold fways at hw
        simp [this] at hw
      · exact hR.ways x h q hi w hw
    have fl := fways_len q
    refine SS.cons (S1.forO (σ0 := σ0) (WV.callOW (PE.globR (by kspl_open wmem) g_flatten_ways) (fun P => by kernel_rfl) (WLs.cons (WV.subW rfl (WV.pe (by kspl_open wpe) (WV.popO (by kspl_open wpe) H (by kspl_open wput) fun σ H => ⟨.ref y, Itm.list (H.ext _ _ hp.L) hxr.1 (by simp [hy]), WLs.nil ⟨_, _, H, wc_fways (hI.ext H.ext) H.fzs, ?_⟩⟩))))))
    rintro v σ L' ⟨b, rfl, rfl⟩ H
    dsimp only [List.cons_append, List.nil_append] at H
    let p3p := fun (j : Nat) (ρ2 : Loc) (L2 : List Ent) (ow' : List (Int × Int)) (sh' st' : List Int) (o3 : Option Value) => (Ay8 (ρ2 = ([("insts", some (.ref r.L)), ("roots", some (.ref a)), ("owners", some (.ref a1)), ("shared", some (.ref a2)), ("root", some (.int root 0)), ("stack", some (.ref a3)), ("way", o3)] : Loc)) (L2 = ([(b, .tup (intL (fways q)), false), (a3, .list (intL st'), true), (a2, .dic (marks sh'), true), (a1, .dic (otab ow'), true)] : List Ent)) (sh'.Nodup) ((∀ x ∈ sh', x ∈ M ∧ x ∉ rs)) ((∀ p ∈ ow', p.1 ∈ M)) (ow'.length + unmet g.insts.length (ow'.map (·.1)) ≤ g.insts.length) ((∀ x ∈ st', x = 0 ∨ x ∈ M)) (2 * unmet g.insts.length (ow'.map (·.1)) + st'.length < m) : Prop)
    let I3 : Nat → Loc → List Ent → Prop := fun j ρ2 L2 => Ey4 (p3p j ρ2 L2)
    refine ⟨_, _, b, _, rfl, Iter.tup (H.get _ _ _ (by kspl_open wmem)), H.moreO (Frz.here _ _), I3, ⟨ow, sh, st, o3, rfl, rfl, hnd, hsh, how, hcnt, fun y hy => hst y (by simp [hy]), by simp at hm; kspl_open wln⟩, ?_, ?_⟩
    · rintro j z ρ2 σ L2 hz H ⟨ow, sh, st, o3, rfl, rfl, hnd, hsh, how, hcnt, hst, hm⟩
      rw [List.getElem?_map] at hz
      obtain ⟨w, hw, rfl⟩ := Option.map_eq_some_iff.mp hz
      have hwm := hwM w (List.mem_of_getElem? hw)
      have hwr := hR.inM w hwm
      refine ⟨_, (by kspl_open wset), ?_⟩
      refine SS.cons (S1.ite (PT.or (PT.cmp (by kspl_open wpe) (by kspl_open wpe) (Cmp.inMB H ha)) (fun _ => PT.or1 (by kspl_open wpt))) (fun h1 => ?_) (fun h1 => ?_))
      · exact SS.cons (S1.cont ⟨_, H, ow, sh, st, _, rfl, rfl, hnd, hsh, how, hcnt, hst, hm⟩)
      have h1 : w ∉ rs ∧ w ∉ sh := by first | exact of_decide_eq_true h1 | exact eq_of_beq h1 | exact ne_of_beq_false h1 | exact of_decide_eq_false h1 | exact beq_iff_eq.mpr h1 | exact beq_false_of_ne h1 | simpa using h1
      refine SS.nil ?_
      refine SS.cons (S1.ite (PT.cmp (by kspl_open wpe) (by kspl_open wpe) (Cmp.notInOO H (by kspl_open wmem))) (fun h2 => ?_) (fun h2 => ?_))
      · have hno := otab_none (k := w) (ow := ow) (by first | exact of_decide_eq_true h2 | exact eq_of_beq h2 | exact ne_of_beq_false h2 | exact of_decide_eq_false h2 | exact beq_iff_eq.mpr h2 | exact beq_false_of_ne h2 | simpa using h2)
        have hu := unmet_lt hwr hno
        refine SS.cons (S1.setD (by kspl_open wpe) (by kspl_open wpe) (by kspl_open wpe) H (by kspl_open wput) ?_ fun σ H => ?_)
        · unfold otab; (first | ((repeat first | refine lmap_lt ?_ | refine lmap_le ?_); kspl_open wln) | (rw [List.length_map]; kspl_open wln))
        rw [otab_stored hno] at H
        refine SS.cons (S1.expr (WV.appendO (by kspl_open wpe) (by kspl_open wpe) H (by kspl_open wput) ?_ fun σ H => ?_))
        · (first | ((repeat first | refine lmap_lt ?_ | refine lmap_le ?_); kspl_open wln) | (rw [List.length_map]; kspl_open wln))
        rw [intL_app] at H
        refine SS.nil (SS.nil ⟨_, H, ow ++ [(w, root)], sh, st ++ [w], _, rfl, rfl, hnd, hsh, ?_, ?_, ?_, ?_⟩)
        · intro p hp
          rcases List.mem_append.mp hp with h | h
          · exact how p h
          · simp only [List.mem_singleton] at h; subst h; exact hwm
        · simp only [List.length_append, List.length_singleton, List.map_append, List.map_cons, List.map_nil]; kspl_open wln
        · intro y hy
          rcases List.mem_append.mp hy with h | h
          · exact hst y h
          · simp only [List.mem_singleton] at h; subst h; exact .inr hwm
        · simp only [List.length_append, List.length_singleton, List.map_append, List.map_cons, List.map_nil]; kspl_open wln
      · obtain ⟨ro, hro, -⟩ := otab_some (ow := ow) (k := w) (by first | exact of_decide_eq_true h2 | exact eq_of_beq h2 | exact ne_of_beq_false h2 | exact of_decide_eq_false h2 | exact beq_iff_eq.mpr h2 | exact beq_false_of_ne h2 | simpa using h2)
        refine SS.cons (S1.ite (PT.cmp (PE.item (by kspl_open wpe) (by kspl_open wpe) (Itm.dic (H.get _ _ _ (by kspl_open wmem)) hro)) (by kspl_open wpe) (by kspl_open wcmp)) (fun h3 => ?_) (fun h3 => ?_))
        · have hsl := nodup_inR hnd fun x hx => hR.inM x (hsh x hx).1
          refine SS.cons (S1.setD (by kspl_open wpe) (by kspl_open wpe) (by kspl_open wpe) H (by kspl_open wput) ?_ fun σ H => ?_)
          · (first | ((repeat first | refine lmap_lt ?_ | refine lmap_le ?_); kspl_open wln) | (rw [List.length_map]; kspl_open wln))
          rw [stored_ad] at H
          refine SS.nil (SS.nil (SS.nil ⟨_, H, ow, _, st, _, rfl, rfl, nodup_ad hnd, fun y hy => ?_, how, hcnt, hst, hm⟩))
          rcases mem_ad.mp hy with h | rfl
          · exact hsh y h
          · exact ⟨hwm, h1.1⟩
        · exact SS.nil (SS.nil (SS.nil ⟨_, H, ow, sh, st, _, rfl, rfl, hnd, hsh, how, hcnt, hst, hm⟩))
    · rintro ρ2 σ L2 H ⟨ow, sh, st, o3, rfl, rfl, hnd, hsh, how, hcnt, hst, hm⟩
      exact SS.nil ⟨_, _, hm, H.sub (List.sublist_cons_self ..), ow, sh, st, _, rfl, rfl, hnd, hsh, how, hcnt, hst, Nat.le_refl _, by kspl_open wln⟩
  rintro ρ2 σ L2 H ⟨ow, sh, o1, o2, o3, rfl, rfl, hnd, hsh, how, hcnt⟩
  refine SS.cons (S1.ret (WV.callT (PE.built (by kspl_open wmem) b_list boot_list (by decide) rfl) (WLs.pes (by kspl_open wpes) rfl (WC.listD (H.get _ _ _ (by kspl_open wmem)) fun b hb => ⟨_, (H.alloc hb).sub (.cons₂ _ (.cons _ (.cons _ (.refl _)))), b, sh, rfl, ?_, hnd, hsh⟩))))
  rw [marks_keys]

noncomputable def P_allroots (g : Pg) : Value → List Ent → Prop := fun v L => (Ey3 fun a rs M => Ay3 (v = .ref a) (L = [(a, .dic (marks rs), true)]) (Shut g rs M))
theorem wc_allroots {σ0 : St} {c : Cx} {n : Nat} {fz : Addr → Prop} {q : Addr} {g : Pg} {r : PR} (hp : IsP σ0 q g r) (hn : Net g) (h0 : ∀ i, g.insts[0]? = some i → i.op = 6) (hfz : ∀ a, fz a → σ0 a ≠ none) :
    WC c (n + 3) fz σ0 (.ref 202) [.ref q] (Ret fz σ0 (P_allroots g)) := by
  refine WC.fnO (ρ := [("prog", some (.ref q)), ("roots", none), ("shared", none), ("number", none)]) (gl := ["first_roots", "shared_ways"]) (cl := []) (pa := [("prog", .ref q)]) (rest := ["roots", "shared", "number"]) rfl (.of fun P => by kernel_rfl) (fun P => by kernel_rfl) (hb1 fun P u => by kernel_rfl) fun env => ?_
  have H : Own fz σ0 σ0 [] := Own.start hfz
  have hsm := hn.small
  conv => arg 4; whnf
  refine SS.cons (S1.name (WV.callO (PE.globR (by kspl_open wmem) g_first_roots) (fun P => by kernel_rfl) (by kspl_open wpes) H (wc_first (hp.ext H.ext) hn H.fzs) ?_))
  rintro v σ L' ⟨a, rs, M, rfl, rfl, hS⟩ H
  refine ⟨_, (by kspl_open wset), ?_⟩
  dsimp only [List.cons_append, List.nil_append] at H
  refine SS.cons (S1.name (WV.callO (PE.globR (by kspl_open wmem) g_shared_ways) (fun P => by kernel_rfl) (by kspl_open wpes) H (wc_shared (hp.ext H.ext) hn h0 (H.get _ _ _ (by kspl_open wmem)) ⟨hS.inM, hS.ways, hS.roots, hS.inR, hS.nd⟩ H.fzs) ?_))
  rintro v σ L' ⟨b, sh, rfl, rfl, hnd, hsh⟩ H
  refine ⟨_, (by kspl_open wset), ?_⟩
  dsimp only [List.cons_append, List.nil_append] at H
  let p4p := fun (m : Nat) (ρ1 : Loc) (L1 : List Ent) (b : Addr) (rs sh : List Int) (o : Option Value) => (Ay6 (ρ1 = ([("prog", some (.ref q)), ("roots", some (.ref a)), ("shared", some (.ref b)), ("number", o)] : Loc)) (L1 = ([(b, .list (intL sh), true), (a, .dic (marks rs), true)] : List Ent)) (Shut g rs M) (sh.Nodup) ((∀ x ∈ sh, x ∈ M ∧ x ∉ rs)) (g.insts.length - rs.length ≤ m) : Prop)
  let I4 : Nat → Loc → List Ent → Prop := fun m ρ1 L1 => Ey4 (p4p m ρ1 L1)
  refine SS.cons (S1.whileO (σ0 := σ0) H I4 (g.insts.length - rs.length) ⟨b, rs, sh, none, rfl, rfl, hS, hnd, hsh, Nat.le_refl _⟩ ?_)
  rintro m ρ1 σ L1 H ⟨b, rs, sh, o, rfl, rfl, hS, hnd, hsh, hm⟩
  refine ⟨_, (by kspl_open wpt), fun hb => ?_, fun hb => ?_⟩
  rotate_left
  · exact SS.cons (S1.ret (WV.pe (by kspl_open wpe) ⟨_, H.sub (List.sublist_cons_self ..), a, rs, M, rfl, rfl, hS⟩))
  have hne : sh ≠ [] := by first | exact of_decide_eq_true hb | exact eq_of_beq hb | exact ne_of_beq_false hb | exact of_decide_eq_false hb | exact beq_iff_eq.mpr hb | exact beq_false_of_ne hb | simpa using hb
  have hrl := nodup_inR hS.nd hS.inR
  refine SS.cons (S1.forO (σ0 := σ0) (WV.pe (by kspl_open wpe) ?_))
  let p5p := fun (i : Nat) (ρ2 : Loc) (L2 : List Ent) o => (Ay2 (ρ2 = ([("prog", some (.ref q)), ("roots", some (.ref a)), ("shared", some (.ref b)), ("number", o)] : Loc)) (L2 = ([(b, .list (intL sh), false), (a, .dic (marks (rs ++ sh.take i)), true)] : List Ent)) : Prop)
  let I5 : Nat → Loc → List Ent → Prop := fun i ρ2 L2 => Ey1 (p5p i ρ2 L2)
  refine ⟨_, _, b, _, rfl, Iter.list (H.get _ _ _ (by kspl_open wmem)), H.moreO (Frz.here _ _), I5, ⟨o, rfl, (by kspl_open wle)⟩, ?_, ?_⟩
  · rintro i z ρ2 σ L2 hz H ⟨o, rfl, rfl⟩
    rw [List.getElem?_map] at hz
    obtain ⟨w, hw, rfl⟩ := Option.map_eq_some_iff.mp hz
    have hnw : w ∉ rs ++ sh.take i := by
      intro h
      rcases List.mem_append.mp h with h | h
      · exact (hsh w (List.mem_of_getElem? hw)).2 h
      · obtain ⟨h1, h2⟩ := List.getElem?_eq_some_iff.mp hw
        have := hnd
        rw [← List.take_append_drop i sh, List.nodup_append] at this
        refine this.2.2 w h w ?_ rfl
        rw [List.drop_eq_getElem_cons h1, h2]; exact List.mem_cons_self ..
    have hsl := nodup_inR hnd fun x hx => hS.inM x (hsh x hx).1
    refine ⟨_, (by kspl_open wset), ?_⟩
    refine SS.cons (S1.setD (by kspl_open wpe) (by kspl_open wpe) (by kspl_open wpe) H (by kspl_open wput) ?_ fun σ H => ?_)
    · rw [List.length_map, List.length_append, List.length_take]; kspl_open wln
    rw [stored_marks hnw] at H
    exact SS.nil ⟨_, H, _, rfl, by rw [take_succ_of hw, List.append_assoc]⟩
  rintro ρ2 σ L2 H ⟨o, rfl, rfl⟩
  rw [List.take_of_length_le (by kspl_open wle)] at H
  have hS' : Shut g (rs ++ sh) M := ⟨hS.inM, fun x hx i hi h => ⟨(hS.step x hx i hi h).1, List.mem_append_left _ (hS.step x hx i hi h).2⟩, hS.ways, fun x hx => by
    rcases List.mem_append.mp hx with h | h
    · exact hS.roots x h
    · exact .inr (hsh x h).1, List.mem_append_left _ hS.start, List.mem_append_left _ hS.loose, by
    have := hS.head
    cases rs with
    | nil => cases this
    | cons y rs => exact this, List.nodup_append.mpr ⟨hS.nd, hnd, fun x hx y hy => by rintro rfl; exact (hsh x hy).2 hx⟩, fun x hx => by
    rcases List.mem_append.mp hx with h | h
    · exact hS.inR x h
    · exact hS.inM x (hsh x h).1⟩
  have hrl' := nodup_inR hS'.nd hS'.inR
  have hpos : 0 < sh.length := List.length_pos_iff.mpr hne
  refine SS.cons (S1.name (WV.callO (PE.globR (by kspl_open wmem) g_shared_ways) (fun P => by kernel_rfl) (.cons (PE.p_insts (by kspl_open wpe) hp H) (by kspl_open wpes)) H (wc_shared (hp.ext H.ext) hn h0 (H.get _ _ _ (by kspl_open wmem)) ⟨hS'.inM, hS'.ways, hS'.roots, hS'.inR, hS'.nd⟩ H.fzs) ?_))
  rintro v σ L' ⟨b2, sh2, rfl, rfl, hnd2, hsh2⟩ H
  refine ⟨_, (by kspl_open wset), ?_⟩
  dsimp only [List.cons_append, List.nil_append] at H
  refine SS.nil ⟨g.insts.length - (rs ++ sh).length, _, ?_, H.sub (.cons₂ _ (.cons _ (.refl _))), b2, rs ++ sh, sh2, _, rfl, rfl, hS', hnd2, hsh2, Nat.le_refl _⟩
  simp only [List.length_append] at hrl' ⊢
  lia
end
section
variable {f : Fx} {ρ : Loc} {σ : St}


/-- an instruction of a flat list, before the last is told -/
noncomputable def Made (g : Pg) (rs : List Int) (m : In) : Prop :=
  m.last = false ∧ ((m.op = 5 ∧ m.out ∈ rs) ∨ (∃ (k : Nat) (i : In), g.insts[k]? = some i ∧ i.op ≠ 0 ∧ i.op ≠ 5 ∧ i.op ≠ 6 ∧ (isStep i.op = true → i.out ∈ rs) ∧ m = ⟨i.op, if i.op == 4 then 0 else i.out, i.arg, i.low, i.high, i.fold, false⟩) ∨ m = failI)
noncomputable def setLast (ms : List In) : List In := match ms.getLast? with
  | none => []
  | some m => ms.dropLast ++ [{ m with last := true }]
theorem setLast_snoc (ms : List In) (m : In) : setLast (ms ++ [m]) = ms ++ [{ m with last := true }] := by simp [setLast]

noncomputable def P_flist (g : Pg) (rs : List Int) (root : Int) : Value → List Ent → Prop := fun v L => (Ey3 fun b zs ms => Ay7 (v = .ref b) (L = (b, .list (refs (obX zs)), true) :: ents zs) (obI zs = setLast ms) (ms ≠ []) ((∀ m ∈ ms, Made g rs m)) (ms.length ≤ g.insts.length) ((root = 0 → ms = [failI])))
set_option maxHeartbeats 1000000 in
theorem wc_flist {σ0 : St} {c : Cx} {n : Nat} {fz : Addr → Prop} {q a : Addr} {g : Pg} {r : PR} {rs M : List Int} {root : Int} (hp : IsP σ0 q g r) (hn : Net g) (h0 : ∀ i, g.insts[0]? = some i → i.op = 6) (ha : σ0 a = some (.dic (marks rs))) (hS : Shut g rs M) (hroot : root ∈ rs) (hfz : ∀ a, fz a → σ0 a ≠ none) :
    WC c (n + 3) fz σ0 (.ref 216) [.ref r.L, .ref a, .int root 0] (Ret fz σ0 (P_flist g rs root)) := by
  refine WC.fnO (ρ := [("insts", some (.ref r.L)), ("roots", some (.ref a)), ("root", some (.int root 0)), ("found", none), ("kept", none), ("met", none), ("stack", none), ("number", none), ("inst", none), ("made", none), ("out", none)]) (gl := ["flatten_ways", "flatten_key", "reversed", "INST_FAIL", "INST_NOP", "INST_ALT", "INST_MATCH", "Inst"]) (cl := []) (pa := [("insts", .ref r.L), ("roots", .ref a), ("root", .int root 0)]) (rest := ["found", "kept", "met", "stack", "number", "inst", "made", "out"]) rfl (.of fun P => by kernel_rfl) (fun P => by kernel_rfl) (hb3 fun P u v w => by kernel_rfl) fun env => ?_
  have H : Own fz σ0 σ0 [] := Own.start hfz
  have hsm := hn.small
  conv => arg 4; whnf
  refine SS.cons (S1.tupO (σ0 := σ0) (.cons _ _ (.cons _ _ (.cons _ _ (.cons _ _ .nil)))) ?_)
  refine WLs.cons (WV.newL .nil H fun a1 σ H => WLs.cons (WV.dicX H fun a2 σ hsys H => WLs.cons (WV.dic0 H fun a3 σ H => WLs.cons (WV.newL (by kspl_open wpes) H fun a4 σ H => WLs.nil ⟨_, _, H, (by kspl_open wsta), (by kspl_open wstr), fun σ H => ?_⟩))))
  let p1p := fun (m : Nat) (ρ1 : Loc) (L1 : List Ent) (st me : List Int) (ob : Obj) (zs : List Ob) (T G : List Ent) (o1 o2 o3 o4 : Option Value) => (Ay12 (ρ1 = ([("insts", some (.ref r.L)), ("roots", some (.ref a)), ("root", some (.int root 0)), ("found", some (.ref a1)), ("kept", some (.ref a2)), ("met", some (.ref a3)), ("stack", some (.ref a4)), ("number", o1), ("inst", o2), ("made", o3), ("out", o4)] : Loc)) (L1 = (a4, .list (intL st), true) :: (a3, .dic (marks me), true) :: (a2, .obj ob, true) :: (a1, .list (refs (obX zs)), true) :: (ents zs ++ G)) (KDo c T ob me.length) ((∀ e ∈ T, e ∈ G)) ((∀ m ∈ obI zs, Made g rs m)) (zs.length ≤ me.length) (me.Nodup) ((∀ x ∈ me, InR g x)) ((∀ x ∈ st, x = 0 ∨ x ∈ M)) ((root = 0 → zs = [] ∧ ∀ x ∈ st, x = 0)) (3 * unmet g.insts.length me + st.length ≤ m) (m ≤ 3001) : Prop)
  let I1 : Nat → Loc → List Ent → Prop := fun m ρ1 L1 => Ey10 (p1p m ρ1 L1)
  refine SS.cons (S1.whileO (σ0 := σ0) H I1 (3 * g.insts.length + 1) ⟨[root], [], dict0, [], [], [], none, none, none, none, rfl, rfl, KDo.new c, (by kspl_open wle), (by kspl_open wle), (by kspl_open wle), (by kspl_open wle), (by kspl_open wle), by intro x hx; simp at hx; subst hx; exact hS.roots _ hroot, fun h => ⟨rfl, by simp [h]⟩, by rw [unmet_nil]; simp, by kspl_open wln⟩ ?_)
  rintro m ρ1 σ L1 H ⟨st, me, ob, zs, T, G, o1, o2, o3, o4, rfl, rfl, hK, hT, hmade, hzl, hnd, hme, hst, hr0, hm, hm2⟩
  have hml := nodup_inR hnd hme
  refine ⟨_, (by kspl_open wpt), fun hb => ?_, fun hb => ?_⟩
  rotate_left
  · let q1p := fun (ρ' : Loc) (L' : List Ent) (zs : List Ob) (G : List Ent) => (Ay6 (ρ' = ([("insts", some (.ref r.L)), ("roots", some (.ref a)), ("root", some (.int root 0)), ("found", some (.ref a1)), ("kept", some (.ref a2)), ("met", some (.ref a3)), ("stack", some (.ref a4)), ("number", o1), ("inst", o2), ("made", o3), ("out", o4)] : Loc)) (L' = (a1, .list (refs (obX zs)), true) :: (ents zs ++ G)) (zs ≠ []) ((∀ m ∈ obI zs, Made g rs m)) (zs.length ≤ g.insts.length) ((root = 0 → obI zs = [failI])) : Prop)
    let J1 : Loc → List Ent → Prop := fun ρ' L' => Ey2 (q1p ρ' L')
    refine SS.cons (S1.cutO (σ0 := σ0) J1 ?_ ?_)
    · refine S1.ite (PT.not (PT.val (by kspl_open wpe) (Tru.listO H (by kspl_open wmem)) rfl)) (fun h1 => ?_) (fun h1 => ?_)
      · obtain rfl : zs = [] := by first | exact of_decide_eq_true h1 | exact eq_of_beq h1 | exact ne_of_beq_false h1 | exact of_decide_eq_false h1 | exact beq_iff_eq.mpr h1 | exact beq_false_of_ne h1 | simpa using h1
        simp only [List.map_nil] at H
        refine SS.cons (S1.expr (WV.meth (b := "list.append") (WV.pe (by kspl_open wpe) ⟨Mth.append (H.get a1 _ _ (by kspl_open wmem)), WLs.cons (WV.callO (PE.globR (by kspl_open wmem) g_Inst) k_Inst (by kspl_open wpes) H (wc_inst1 H.fzs) ?_)⟩)))
        rintro v σ L' ⟨x, d, rfl, rfl⟩ H
        dsimp only [List.cons_append, List.nil_append] at H
        have H2 := H.turn (a := a1) (o := .list []) (o' := .list [.ref x]) (by kspl_open wput)
        refine WLs.nil (WC.append (H.get a1 _ _ (by kspl_open wmem)) (by kspl_open wle) (H.wr a1 _ (by kspl_open wmem)) ?_)
        refine SS.nil ⟨rfl, _, (H2.sub (L' := ([(x, .inst cI d, true), (d, .ns failI.fs, true), (a1, .list [.ref x], true)] : List Ent) ++ (ents [] ++ G)) ?_).perm (perm_in [_, _] [_] _), [(x, d, failI)], G, rfl, rfl, (by kspl_open wle), ?_, ?_, fun _ => rfl⟩
        · exact .cons₂ _ (.cons₂ _ (.cons _ (.cons _ (.cons _ (.cons₂ _ (.refl _))))))
        · intro m hm
          simp at hm
          subst hm
          exact ⟨rfl, .inr (.inr rfl)⟩
        · have := hn.zero.2; simp; kspl_open wln
      · have hne : zs ≠ [] := by first | exact of_decide_eq_true h1 | exact eq_of_beq h1 | exact ne_of_beq_false h1 | exact of_decide_eq_false h1 | exact beq_iff_eq.mpr h1 | exact beq_false_of_ne h1 | simpa using h1
        exact SS.nil ⟨rfl, _, H.sub (.cons _ (.cons _ (.cons _ (.refl _)))), zs, G, rfl, rfl, hne, hmade, by kspl_open wln, fun h => absurd (hr0 h).1 hne⟩
    rintro ρ2 σ L2 H ⟨zs, G, rfl, rfl, hne, hmade, hzl, hr0⟩
    obtain ⟨zs, z, rfl⟩ : ∃ s x, zs = s ++ [x] := ⟨zs.dropLast, zs.getLast hne, (List.dropLast_concat_getLast hne).symm⟩
    have hz1 : (refs (obX (zs ++ [z])))[((-1 : Int) + ((refs (obX (zs ++ [z]))).length : Int)).toNat]? = some (.ref z.1) := by
      simp only [List.map_append, List.map_cons, List.map_nil, List.length_append, List.length_map, List.length_singleton]
      rw [show ((-1 : Int) + ((zs.length + 1 : Nat) : Int)).toNat = zs.length by kspl_open wln]
      rw [List.getElem?_append_right (by kspl_open wle)]; simp
    have hpz : Put z.2.1 (.ns z.2.2.fs) (.ns ({ z.2.2 with last := true } : In).fs) ((a1, .list (refs (obX (zs ++ [z]))), true) :: (ents (zs ++ [z]) ++ G)) _ := .there _ (Put.left (ents_put zs []) G)
    refine SS.cons (S1.setAO (x := z.1) (d := z.2.1) (C := cI) (by kspl_open wpe) (PE.item (by kspl_open wpe) (by kspl_open wpe) (Itm.listN (H.get _ _ _ (by kspl_open wmem)) (by decide) (by simp; kspl_open wln) hz1)) H (List.mem_cons_of_mem _ (List.mem_append_left _ (ents_mem (by kspl_open wle)).1)) ca_last hpz.mem (putF_last _ _) hpz (by kspl_open wle) fun σ H => ?_)
    refine SS.cons (S1.ret (WV.pe (by kspl_open wpe) ⟨_, H.sub (List.Sublist.cons₂ _ (List.sublist_append_left _ _)), a1, zs ++ [(z.1, z.2.1, { z.2.2 with last := true })], obI (zs ++ [z]), rfl, ?_, ?_, (by kspl_open wle), hmade, by first | exact of_decide_eq_true hzl | exact eq_of_beq hzl | exact ne_of_beq_false hzl | exact of_decide_eq_false hzl | exact beq_iff_eq.mpr hzl | exact beq_false_of_ne hzl | simpa using hzl, hr0⟩))
    · simp
    · simp only [List.map_append, List.map_cons, List.map_nil, setLast_snoc]
  obtain ⟨st, x, rfl⟩ : ∃ s x, st = s ++ [x] := by
    have hne : st ≠ [] := by first | exact of_decide_eq_true hb | exact eq_of_beq hb | exact ne_of_beq_false hb | exact of_decide_eq_false hb | exact beq_iff_eq.mpr hb | exact beq_false_of_ne hb | simpa using hb
    exact ⟨st.dropLast, st.getLast hne, (List.dropLast_concat_getLast hne).symm⟩
  rw [← intL_app] at H
  have hx := hst x (by kspl_open wle)
  have hxr : InR g x := by
    rcases hx with rfl | h
    · exact hn.zero
    · exact hS.inM _ h
  obtain ⟨i, hi, -⟩ := hxr.at_
  obtain ⟨y, hy, hI⟩ := hp.ix hi
  refine SS.cons (S1.name (WV.popO (by kspl_open wpe) H (by kspl_open wput) fun σ H => ⟨_, (by kspl_open wset), ?_⟩))
  refine SS.cons (S1.name (WV.pe (PE.item (by kspl_open wpe) (by kspl_open wpe) (Itm.list (H.ext _ _ hp.L) hxr.1 (v := .ref y) (by simp [hy]))) ⟨_, (by kspl_open wset), ?_⟩))
  have hst' : ∀ z ∈ st, z = 0 ∨ z ∈ M := fun z hz => hst z (by simp [hz])
  refine SS.cons (S1.ite (by kspl_open wpt) (fun h1 => ?_) (fun h1 => ?_))
  · refine SS.cons (S1.cont ⟨3 * unmet g.insts.length me + st.length, _, ?_, H, st, me, ob, zs, T, G, _, _, _, _, rfl, rfl, hK, hT, hmade, hzl, hnd, hme, hst', fun h => ⟨(hr0 h).1, fun z hz => (hr0 h).2 z (by simp [hz])⟩, Nat.le_refl _, ?_⟩)
    all_goals simp at hm; kspl_open wln
  have h1 : x ∉ me ∧ i.op ≠ 6 := by first | exact of_decide_eq_true h1 | exact eq_of_beq h1 | exact ne_of_beq_false h1 | exact of_decide_eq_false h1 | exact beq_iff_eq.mpr h1 | exact beq_false_of_ne h1 | simpa using h1
  have hx0 : x ≠ 0 := by rintro rfl; exact h1.2 (h0 i hi)
  have hxM : x ∈ M := hx.resolve_left hx0
  have hr0' : root ≠ 0 := fun h => hx0 ((hr0 h).2 x (by kspl_open wle))
  refine SS.nil ?_
  refine SS.cons (S1.setD (by kspl_open wpe) (by kspl_open wpe) (by kspl_open wpe) H (by kspl_open wput) ?_ fun σ H => ?_)
  · (first | ((repeat first | refine lmap_lt ?_ | refine lmap_le ?_); kspl_open wln) | (rw [List.length_map]; kspl_open wln))
  rw [stored_marks h1.1] at H
  have hu := unmet_lt hxr h1.1
  have hop := hn.ops _ i hi
  have hnd' : (me ++ [x]).Nodup := List.nodup_append.mpr ⟨hnd, (by kspl_open wle), fun a ha b hb => by simp at hb; subst hb; rintro rfl; exact h1.1 ha⟩
  have hme' : ∀ z ∈ me ++ [x], InR g z := fun z hz => by
    rcases List.mem_append.mp hz with h | h
    · exact hme z h
    · simp only [List.mem_singleton] at h; exact h ▸ hxr
  have hml' := nodup_inR hnd' hme'
  have hsl : 3 * unmet g.insts.length (me ++ [x]) + st.length + 3 ≤ m := by simp at hm; kspl_open wln
  have fl := fways_len i
  let q2p := fun (ρ' : Loc) (L' : List Ent) (o4 : Option Value) (xm dm : Addr) (mi : In) => (Ay3 (ρ' = ([("insts", some (.ref r.L)), ("roots", some (.ref a)), ("root", some (.int root 0)), ("found", some (.ref a1)), ("kept", some (.ref a2)), ("met", some (.ref a3)), ("stack", some (.ref a4)), ("number", some (.int x 0)), ("inst", some (.ref y)), ("made", some (.ref xm)), ("out", o4)] : Loc)) (L' = (xm, .inst cI dm, true) :: (dm, .ns mi.fs, true) :: (a4, .list (intL st), true) :: (a3, .dic (marks (me ++ [x])), true) :: (a2, .obj ob, true) :: (a1, .list (refs (obX zs)), true) :: (ents zs ++ G)) (Made g rs mi) : Prop)
  let J2 : Loc → List Ent → Prop := fun ρ' L' => Ey4 (q2p ρ' L')
  refine SS.cons (S1.cutC (σ0 := σ0) J2 ?_ ?_)
  · refine S1.ite (by kspl_open wpt) (fun h2 => ?_) (fun h2 => ?_)
    · have h2 : x ≠ root ∧ x ∈ rs := by first | exact of_decide_eq_true h2 | exact eq_of_beq h2 | exact ne_of_beq_false h2 | exact of_decide_eq_false h2 | exact beq_iff_eq.mpr h2 | exact beq_false_of_ne h2 | simpa using h2
      refine SS.cons (S1.name (WV.callO (PE.globR (by kspl_open wmem) g_Inst) k_Inst (by kspl_open wpes) H (wc_inst2 H.fzs) ?_))
      rintro v σ L' ⟨xm, dm, rfl, rfl⟩ H
      refine ⟨_, (by kspl_open wset), ?_⟩
      dsimp only [List.cons_append, List.nil_append] at H
      exact SS.nil (.inl ⟨rfl, _, H, _, xm, dm, _, rfl, rfl, rfl, .inl ⟨rfl, h2.2⟩⟩)
    refine SS.cons (S1.ite (by kspl_open wpt) (fun h3 => ?_) (fun h3 => ?_))
    · refine SS.cons (S1.expr (WV.extendRevO (σ0 := σ0) (by kspl_open wmem) (by kspl_open wpe) ⟨_, (by kspl_open wmem)⟩ (WV.callO (PE.globR (by kspl_open wmem) g_flatten_ways) (fun P => by kernel_rfl) (by kspl_open wpes) H (wc_fways (hI.ext H.ext) H.fzs) ?_) H))
      rintro v σ L' ⟨b, rfl, rfl⟩ H
      dsimp only [List.cons_append, List.nil_append] at H
      refine ⟨b, _, _, _, rfl, H, H.get _ _ _ (by kspl_open wmem), by (first | ((repeat first | refine lmap_lt ?_ | refine lmap_le ?_); kspl_open wln) | (simp only [List.length_map]; kspl_open wln)), (by kspl_open wput), fun σ H => ?_⟩
      rw [← List.map_reverse, intL_apps] at H
      refine SS.cons (S1.cont (.inr ⟨rfl, 3 * unmet g.insts.length (me ++ [x]) + (st ++ (fways i).reverse).length, _, ?_, H.sub (List.sublist_cons_self ..), st ++ (fways i).reverse, me ++ [x], ob, zs, T, G, _, _, _, _, rfl, rfl, hK.mono (fun _ h => h) (by kspl_open wle), hT, hmade, by simp; kspl_open wln, hnd', hme', fun z hz => ?_, fun h => absurd h hr0', Nat.le_refl _, ?_⟩))
      · simp; kspl_open wln
      · rcases List.mem_append.mp hz with h | h
        · exact hst' z h
        · exact .inr (hS.ways x hxM i hi z (by first | exact of_decide_eq_true h | exact eq_of_beq h | exact ne_of_beq_false h | exact of_decide_eq_false h | exact beq_iff_eq.mpr h | exact beq_false_of_ne h | simpa using h))
      · simp; kspl_open wln
    have h3 : i.op ≠ 0 ∧ i.op ≠ 5 := by first | exact of_decide_eq_true h3 | exact eq_of_beq h3 | exact ne_of_beq_false h3 | exact of_decide_eq_false h3 | exact beq_iff_eq.mpr h3 | exact beq_false_of_ne h3 | simpa using h3
    refine SS.cons (S1.name (WV.pe (PE.iteI (by kspl_open wpt) (by kspl_open wpe) (by kspl_open wpe)) ⟨_, (by kspl_open wset), ?_⟩))
    refine SS.cons (S1.name (WV.callO (PE.globR (by kspl_open wmem) g_Inst) k_Inst (by kspl_open wpes) H (wc_inst6 H.fzs) ?_))
    rintro v σ L' ⟨xm, dm, rfl, rfl⟩ H
    refine ⟨_, (by kspl_open wset), ?_⟩
    dsimp only [List.cons_append, List.nil_append] at H
    exact SS.nil (SS.nil (.inl ⟨rfl, _, H, _, xm, dm, _, rfl, rfl, rfl, .inr (.inl ⟨_, i, hi, h3.1, h3.2, h1.2, fun h => (hS.step x hxM i hi h).2, rfl⟩)⟩))
  rintro ρ2 σ L2 H ⟨o4, xm, dm, mi, rfl, rfl, hmi⟩
  refine SS.cons (S1.iteW (WT.cmpW (WV.callO (PE.globR (by kspl_open wmem) g_flatten_key) (fun P => by kernel_rfl) (by kspl_open wpes) H (wc_key ⟨dm, H.get _ _ _ (by kspl_open wmem), H.get _ _ _ (by kspl_open wmem)⟩ H.fzs) ?_)))
  rintro v σ L' ⟨t, rfl, rfl⟩ H
  dsimp only [List.cons_append, List.nil_append] at H
  have hTL : ∀ (A : List Ent), ∀ e ∈ T, e ∈ A ++ (ents zs ++ G) := fun A e he => List.mem_append_right _ (List.mem_append_right _ (hT e he))
  refine WV.notInK (by kspl_open wpe) H hK (hTL [_, _, _, _, _, _, _]) (by kspl_open wmem) hsys (by kspl_open wmem) fun b => ?_
  cases b with
  | false =>
    rw [if_neg (by decide)]
    exact SS.nil (SS.nil ⟨3 * unmet g.insts.length (me ++ [x]) + st.length, _, by kspl_open wln, H.sub (.cons _ (.cons _ (.cons _ (.refl _)))), st, me ++ [x], ob, zs, T, G, _, _, _, _, rfl, rfl, hK.mono (fun _ h => h) (by kspl_open wle), hT, hmade, by simp; kspl_open wln, hnd', hme', hst', fun h => absurd h hr0', Nat.le_refl _, by kspl_open wln⟩)
  | true =>
    rw [if_pos rfl]
    refine SS.cons (S1.setItW (WV.pe (by kspl_open wpe) ⟨.ref a2, (by kspl_open wpe), WV.callO (PE.globR (by kspl_open wmem) g_flatten_key) (fun P => by kernel_rfl) (by kspl_open wpes) H (wc_key ⟨dm, H.get _ _ _ (by kspl_open wmem), H.get _ _ _ (by kspl_open wmem)⟩ H.fzs) ?_⟩))
    rintro v σ L' ⟨t2, rfl, rfl⟩ H
    dsimp only [List.cons_append, List.nil_append] at H
    refine fun ro ri rv e1 e2 e3 => Ws.setK (i := mi) (w' := true) H hK (hTL [_, _, _, _, _, _, _, _]) (by kspl_open wmem) (by kspl_open wln) e1 e2 (fun ob' => .there _ (.there _ (.there _ (.there _ (.there _ (.there _ (.here _))))))) fun ob' σ hK' H => ?_
    refine SS.cons (S1.expr (WV.appendO (by kspl_open wpe) (by kspl_open wpe) H (by kspl_open wput) ?_ fun σ H => ?_))
    · (first | ((repeat first | refine lmap_lt ?_ | refine lmap_le ?_); kspl_open wln) | (simp only [List.length_map]; kspl_open wln))
    refine SS.nil (SS.nil ⟨3 * unmet g.insts.length (me ++ [x]) + st.length, _, by kspl_open wln, H.perm (perm_made [_, _] [_, _] [_, _, _, _] (ents zs) G), st, me ++ [x], ob', zs ++ [(xm, dm, mi)], (t2, .tup (keyV mi), true) :: T, (t2, .tup (keyV mi), true) :: (t, .tup (keyV mi), true) :: G, _, _, _, _, rfl, ?_, hK'.mono (fun _ h => h) (by kspl_open wle), ?_, ?_, by simp; kspl_open wln, hnd', hme', hst', fun h => absurd h hr0', Nat.le_refl _, by kspl_open wln⟩)
    · rw [ents_app, ents_one]; simp [obE]
    · intro e he
      rcases List.mem_cons.mp he with rfl | h
      · exact List.mem_cons_self ..
      · exact List.mem_cons_of_mem _ (List.mem_cons_of_mem _ (hT e h))
    · intro m hm
      obtain ⟨z, hz, rfl⟩ := List.mem_map.mp hm
      rcases List.mem_append.mp hz with h | h
      · exact hmade _ (List.mem_map.mpr ⟨z, h, rfl⟩)
      · simp only [List.mem_singleton] at h; subst h; exact hmi
end
section
/-! plain: programs that are right -/
structure Good (g : Pg) : Prop where
  right : wrong g = false
  ops : ∀ (k : Nat) (i : In), g.insts[k]? = some i → 0 ≤ i.op ∧ i.op ≤ 6
  small : g.insts.length ≤ 60
  args : ∀ (k : Nat) (i : In), g.insts[k]? = some i → (i.op = 2 ∨ i.op = 4) → -1000 ≤ i.arg ∧ i.arg ≤ 1000
theorem wayOk {g : Pg} {hs : List Int} {w : Int} (h : wayBad g hs w = false) : InR g w ∧ (g.flat = true → w ∈ hs) := by
  unfold wayBad at h
  simp only [Bool.or_eq_false_iff, Bool.not_eq_false', Bool.and_eq_true, decide_eq_true_eq, Bool.and_eq_false_iff, List.contains_iff_mem] at h
  refine ⟨⟨h.1.1, by kspl_open wln⟩, fun hf => ?_⟩
  rcases h.2 with h2 | h2
  · rw [hf] at h2; cases h2
  · exact h2
theorem Good.parts {g : Pg} (h : Good g) : (∃ i, g.insts[0]? = some i ∧ i.op = 6) ∧ (∀ i ∈ g.insts, instWrong g (headsOf g) i = false) ∧ wayBad g (headsOf g) g.start = false ∧ wayBad g (headsOf g) g.loose = false ∧ (g.flat = true → g.heads = headsOf g ∧ ∃ i, g.insts.getLast? = some i ∧ i.last = true) := by
  have hr := h.right
  unfold wrong bodyWrong at hr
  simp only [Bool.or_eq_false_iff] at hr
  obtain ⟨⟨h1, h2⟩, ⟨h3, h4⟩, h5⟩ := hr
  cases hi : g.insts with
  | nil => rw [hi] at h1; cases h1
  | cons i0 r =>
    rw [← hi]
    have h0 : g.insts[0]? = some i0 := by rw [hi]; rfl
    refine ⟨⟨i0, h0, by rw [h0] at h2; simpa using h2⟩, fun i hm => ?_, ?_, ?_, fun hf => ?_⟩
    · rw [List.any_eq_false] at h3
      simpa using h3 i hm
    · simp at h4; exact h4.1
    · simp at h4; exact h4.2
    · rw [hf] at h5
      simp only [Bool.true_and, Bool.or_eq_false_iff, Bool.not_eq_false', decide_eq_true_eq] at h5
      refine ⟨h5.1, ?_⟩
      cases hl : g.insts.getLast? with
      | none => rw [hl] at h5; simp at h5
      | some i => rw [hl] at h5; exact ⟨i, rfl, by simpa using h5.2⟩
theorem Good.way {g : Pg} (h : Good g) {k : Nat} {i : In} (hi : g.insts[k]? = some i) (h4 : i.op ≠ 4) (h6 : i.op ≠ 6) : InR g i.out ∧ (i.op = 0 → InR g i.arg) := by
  have hw := h.parts.2.1 i (List.mem_of_getElem? hi)
  unfold instWrong waysBad at hw
  simp only [Bool.or_eq_false_iff, Bool.and_eq_false_iff] at hw
  have h46 : (![(4 : Int), 6].any (· == i.op)) = true := by simp; exact ⟨fun e => h4 e.symm, fun e => h6 e.symm⟩
  have hg := hw.1.2.resolve_left (by rw [h46]; decide)
  rw [List.any_eq_false] at hg
  unfold goals at hg
  refine ⟨?_, fun e => ?_⟩
  · have h1 : wayBad g (headsOf g) i.out = false := by
      have := hg i.out (by split <;> simp)
      simpa using this
    exact (wayOk h1).1
  · have h1 : wayBad g (headsOf g) i.arg = false := by
      have := hg i.arg (by rw [e]; simp)
      simpa using this
    exact (wayOk h1).1
theorem Good.sound {g : Pg} (h : Good g) : Sound g where
  ways := fun k hk w hw => by
    obtain ⟨i, hi, e⟩ := hk.at_
    rw [e] at hw
    unfold Mine.ways at hw
    split at hw
    · rename_i h0
      have h0 : i.op = 0 := by first | exact of_decide_eq_true h0 | exact eq_of_beq h0 | exact ne_of_beq_false h0 | exact of_decide_eq_false h0 | exact beq_iff_eq.mpr h0 | exact beq_false_of_ne h0 | simpa using h0
      have := h.way hi (by kspl_open wln) (by kspl_open wln)
      simp only [List.mem_cons, List.not_mem_nil, or_false] at hw
      rcases hw with rfl | rfl
      · exact this.1
      · exact this.2 h0
    · rcases List.mem_append.mp hw with hw | hw
      · split at hw
        · rename_i h1
          simp only [List.mem_cons, List.not_mem_nil, or_false] at hw
          subst hw
          simp at h1
          exact (h.way hi (by kspl_open wln) (by kspl_open wln)).1
        · cases hw
      · split at hw
        · rename_i h1
          simp only [List.mem_cons, List.not_mem_nil, or_false] at hw
          subst hw
          rw [Bool.and_eq_true] at h1
          obtain ⟨j, hj, hjl⟩ := (h.parts.2.2.2.2 h1.1).2
          refine ⟨by have := hk.1; kspl_open wln, ?_⟩
          have hk1 := hk.1
          have hk2 := hk.2
          by_cases hlt : k.toNat + 1 < g.insts.length
          · lia
          · exfalso
            rw [List.getLast?_eq_getElem?] at hj
            have : g.insts.length - 1 = k.toNat := by kspl_open wln
            rw [this, hi] at hj
            obtain rfl := Option.some.inj hj
            rw [hjl] at h1
            simp at h1
        · cases hw
  outs := fun k i hi h1 => (h.way hi (by kspl_open wln) (by kspl_open wln)).1
  small := by have := h.small; kspl_open wln
  ops := fun k i hi => ⟨(h.ops k i hi).1, (h.ops k i hi).2, fun h0 => by
    have hw := h.parts.2.1 i (List.mem_of_getElem? hi)
    unfold instWrong at hw
    rw [h0] at hw
    simp only [Bool.or_eq_false_iff] at hw
    simpa using hw.2⟩
theorem Good.net {g : Pg} (h : Good g) (hf : g.flat = false) : Net g where
  out := fun k i hi h4 h6 => (h.way hi h4 h6).1
  arg := fun k i hi h0 => (h.way hi (by kspl_open wln) (by kspl_open wln)).2 h0
  start := (wayOk h.parts.2.2.1).1
  loose := (wayOk h.parts.2.2.2.1).1
  small := by have := h.small; kspl_open wln
  ops := h.ops
  flat := hf
  zero := by
    obtain ⟨i, hi, _⟩ := h.parts.1
    exact ⟨Int.le_refl _, (List.getElem?_eq_some_iff.mp hi).1⟩
theorem Good.op0 {g : Pg} (h : Good g) : ∀ i, g.insts[0]? = some i → i.op = 6 := fun i hi => by
  obtain ⟨j, hj, e⟩ := h.parts.1
  rw [hi] at hj
  obtain rfl := Option.some.inj hj
  exact e

/-! plain: what is laid flat is right -/
noncomputable def look (ps : List (Int × Int)) (x : Int) : Int := match valueAt (otab ps) x with
  | some (.int r _) => r
  | _ => 0
theorem look_at {ps : List (Int × Int)} {x : Int} (h : x ∈ ps.map (·.1)) : valueAt (otab ps) x = some (.int (look ps x) 0) ∧ look ps x ∈ ps.map (·.2) := by
  have : (valueAt (otab ps) x).isSome = true := by
    cases e : (valueAt (otab ps) x).isSome with
    | true => rfl
    | false => exact absurd h (otab_none e)
  obtain ⟨r, h1, h2⟩ := otab_some this
  have e : look ps x = r := by unfold look; rw [h1]
  rw [e]
  exact ⟨h1, List.mem_map.mpr ⟨_, h2, rfl⟩⟩
noncomputable def upd (ps : List (Int × Int)) (i : In) : In := if isStep i.op || i.op == 5 then { i with out := look ps i.out } else i
theorem upd_last (ps : List (Int × Int)) (i : In) : (upd ps i).last = i.last := by unfold upd; split <;> rfl
theorem upd_op (ps : List (Int × Int)) (i : In) : (upd ps i).op = i.op := by unfold upd; split <;> rfl
noncomputable def MadeL (g : Pg) (rs : List Int) (m : In) : Prop := Made g rs { m with last := false }
theorem headsTo_congr {g g' : Pg} {n : Nat} (h : ∀ k : Nat, (g.insts[k]?.map (fun x : In => x.last)) = (g'.insts[k]?.map (fun x : In => x.last))) : headsTo g n = headsTo g' n := by
  unfold headsTo
  simp only [h]
noncomputable abbrev onPg (is : List In) : Pg := ⟨is, 0, 0, true, []⟩
structure Lay (g : Pg) (rs : List Int) (ps : List (Int × Int)) (is : List In) : Prop where
  keys : ps.map (·.1) = rs
  heads : ps.map (·.2) ++ [(is.length : Int)] = headsTo (onPg is) is.length
  made : ∀ m ∈ is, MadeL g rs m
theorem headsTo_app (is b : List In) : ∀ n, n ≤ is.length → headsTo (onPg (is ++ b)) n = headsTo (onPg is) n := by
  intro n
  induction n with
  | zero => intro _; rfl
  | succ n ih =>
    intro h
    have h1 : (onPg is).insts[n]? = some is[n] := List.getElem?_eq_getElem (by show n < is.length; kspl_open wln)
    have h2 : (onPg (is ++ b)).insts[n]? = some is[n] := by show (is ++ b)[n]? = _; rw [List.getElem?_append_left (by kspl_open wln)]; exact h1
    rw [headsTo_succ _ _ _ h1, headsTo_succ _ _ _ h2, ih (by kspl_open wln)]
theorem headsTo_block (is : List In) : ∀ (b : List In) (m : In), (∀ x ∈ b, x.last = false) → m.last = true → headsTo (onPg (is ++ (b ++ [m]))) (is ++ (b ++ [m])).length = headsTo (onPg is) is.length ++ [((is ++ (b ++ [m])).length : Int)] := by
  intro b m hb hm
  have key : ∀ k, k ≤ b.length → headsTo (onPg (is ++ (b ++ [m]))) (is.length + k) = headsTo (onPg is) is.length := by
    intro k
    induction k with
    | zero => intro _; exact headsTo_app is _ _ (Nat.le_refl _)
    | succ k ih =>
      intro h
      have h2 : (onPg (is ++ (b ++ [m]))).insts[is.length + k]? = some b[k] := by
        show (is ++ (b ++ [m]))[is.length + k]? = _
        rw [List.getElem?_append_right (by kspl_open wln), show is.length + k - is.length = k by kspl_open wln, List.getElem?_append_left (by kspl_open wln)]
        exact List.getElem?_eq_getElem (by kspl_open wln)
      rw [show is.length + (k + 1) = is.length + k + 1 by kspl_open wln, headsTo_succ _ _ _ h2, ih (by kspl_open wln), hb _ (List.getElem_mem ..)]
      simp
  have h2 : (onPg (is ++ (b ++ [m]))).insts[is.length + b.length]? = some m := by
    show (is ++ (b ++ [m]))[is.length + b.length]? = _
    rw [List.getElem?_append_right (by kspl_open wln), show is.length + b.length - is.length = b.length by kspl_open wln, List.getElem?_append_right (by kspl_open wln)]
    simp
  rw [show (is ++ (b ++ [m])).length = is.length + b.length + 1 by simp; kspl_open wln, headsTo_succ _ _ _ h2, key _ (Nat.le_refl _), hm]
  simp
theorem headsTo_bound (g : Pg) (n : Nat) : ∀ x ∈ headsTo g n, 0 ≤ x ∧ x ≤ (n : Int) := by
  intro x hx
  unfold headsTo at hx
  rcases List.mem_cons.mp hx with rfl | hx
  · lia
  · obtain ⟨k, hk, rfl⟩ := List.mem_map.mp hx
    have := List.mem_range.mp (List.mem_filter.mp hk).1
    lia
theorem Lay.heads' {g : Pg} {rs : List Int} {ps : List (Int × Int)} {is : List In} (h : Lay g rs ps is) (hl : ∃ i, is.getLast? = some i ∧ i.last = true) : ps.map (·.2) = headsTo (onPg is) (is.length - 1) := by
  obtain ⟨i, h1, h2⟩ := hl
  rw [List.getLast?_eq_getElem?] at h1
  have hlt := (List.getElem?_eq_some_iff.mp h1).1
  have e := headsTo_succ (onPg is) (is.length - 1) i h1
  rw [show is.length - 1 + 1 = is.length by kspl_open wln, ← h.heads, h2, if_pos rfl] at e
  have e2 : ((is.length - 1 : Nat) : Int) + 1 = (is.length : Int) := by kspl_open wln
  rw [e2] at e
  exact List.append_cancel_right e
theorem flat_good {g : Pg} (hG : Good g) {rs M : List Int} {ps : List (Int × Int)} {is : List In} (hS : Shut g rs M) (hL : Lay g rs ps is) (h0 : ∃ i, is[0]? = some i ∧ i.op = 6) (hl : ∃ i, is.getLast? = some i ∧ i.last = true) (hlen : is.length ≤ 60) :
    Good ⟨is.map (upd ps), look ps g.start, look ps g.loose, true, ps.map (·.2)⟩ := by
  have hh := hL.heads' hl
  obtain ⟨i0, hi0, h06⟩ := h0
  have hpos : 0 < is.length := (List.getElem?_eq_some_iff.mp hi0).1
  generalize hg' : (⟨is.map (upd ps), look ps g.start, look ps g.loose, true, ps.map (·.2)⟩ : Pg) = g'
  have e1 : g'.insts = is.map (upd ps) := by rw [← hg']
  have e2 : g'.start = look ps g.start := by rw [← hg']
  have e3 : g'.loose = look ps g.loose := by rw [← hg']
  have e4 : g'.flat = true := by rw [← hg']
  have e5 : g'.heads = ps.map (·.2) := by rw [← hg']
  have hlen' : g'.insts.length = is.length := by rw [e1, List.length_map]
  have hH : headsOf g' = ps.map (·.2) := by
    rw [hh]
    unfold headsOf
    rw [hlen']
    refine headsTo_congr fun k => ?_
    rw [e1]
    simp only [List.getElem?_map, Option.map_map, Function.comp_def, upd_last]
  have wok : ∀ x ∈ rs, wayBad g' (headsOf g') (look ps x) = false := by
    intro x hx
    have hm := (look_at (ps := ps) (x := x) (by rw [hL.keys]; exact hx)).2
    have hb : look ps x ∈ headsTo (onPg is) (is.length - 1) := hh ▸ hm
    have := headsTo_bound _ _ _ hb
    unfold wayBad
    rw [hH]
    have h3 : (ps.map (·.2)).contains (look ps x) = true := by rw [List.contains_iff_mem]; exact hm
    rw [h3, hlen']
    have h1 : decide (0 ≤ look ps x) = true := by simpa using this.1
    have h2 : decide (look ps x < (is.length : Int)) = true := by rw [decide_eq_true_eq]; kspl_open wln
    rw [h1, h2]; simp
  have iok : ∀ i ∈ g'.insts, instWrong g' (headsOf g') i = false := by
    intro i' hi'
    rw [e1] at hi'
    obtain ⟨m, hm, rfl⟩ := List.mem_map.mp hi'
    obtain ⟨-, hc⟩ := hL.made m hm
    have bad : ∀ (u : In) (v : Int), instBad { u with out := v } = instBad u := fun u v => rfl
    have ub : instBad (upd ps m) = instBad m := by unfold upd; split <;> rfl
    unfold instWrong
    rw [ub, e4, upd_op]
    rcases hc with ⟨h5, hout⟩ | ⟨k, i, hi, n0, n5, n6, hst, he⟩ | he
    · have h5 : m.op = 5 := h5
      have hout : m.out ∈ rs := hout
      have u : upd ps m = { m with out := look ps m.out } := by unfold upd; rw [h5]; rfl
      rw [u]
      have w := wok _ hout
      simp [instBad, waysBad, goals, h5, w]
    · have f1 : m.op = i.op := by have h := congrArg In.op he; exact h
      have f2 : m.out = if i.op == 4 then 0 else i.out := by have h := congrArg In.out he; exact h
      have f3 : m.arg = i.arg := by have h := congrArg In.arg he; exact h
      have f4 : m.low = i.low := by have h := congrArg In.low he; exact h
      have f5 : m.high = i.high := by have h := congrArg In.high he; exact h
      have hb : instBad m = false := by
        have := hG.parts.2.1 i (List.mem_of_getElem? hi)
        unfold instWrong at this
        simp only [Bool.or_eq_false_iff] at this
        rw [← this.1.1]
        unfold instBad
        rw [f1, f3, f4, f5]
      have hr := hG.ops k i hi
      have h0' : (m.op == 0) = false := by rw [f1]; simpa using n0
      rw [hb, h0']
      by_cases h4 : i.op = 4
      · simp [waysBad, upd_op, f1, h4]
      · have hs : isStep i.op = true := by
          have : i.op = 1 ∨ i.op = 2 ∨ i.op = 3 := by kspl_open wln
          rcases this with e | e | e <;> rw [e] <;> rfl
        have f2 : m.out = i.out := by rw [f2, if_neg (by first | exact of_decide_eq_true h4 | exact eq_of_beq h4 | exact ne_of_beq_false h4 | exact of_decide_eq_false h4 | exact beq_iff_eq.mpr h4 | exact beq_false_of_ne h4 | simpa using h4)]
        have u : upd ps m = { m with out := look ps m.out } := by unfold upd; rw [f1, hs]; rfl
        have w := wok _ (hst hs)
        rw [u, f2]
        simp only [waysBad, goals, h0', Bool.false_or, Bool.and_false, Bool.or_false, Bool.false_eq_true, if_false, List.any_cons, w, List.any_nil]
    · have h6 : m.op = 6 := by have h := congrArg In.op he; exact h
      simp [instBad, waysBad, upd_op, h6]
  refine ⟨?_, ?_, by rw [hlen']; exact hlen, ?_⟩
  · unfold wrong bodyWrong
    have a1 : g'.insts.isEmpty = false := by rw [e1]; cases is with | nil => simp at hpos | cons _ _ => rfl
    have a2 : (g'.insts[0]?.map (·.op != 6)).getD false = false := by rw [e1, List.getElem?_map, hi0]; simp [upd_op, h06]
    have a3 : g'.insts.any (instWrong g' (headsOf g')) = false := by rw [List.any_eq_false]; intro i hi; rw [iok i hi]; decide
    have a4 : [g'.start, g'.loose].any (wayBad g' (headsOf g')) = false := by rw [e2, e3]; simp [wok _ hS.start, wok _ hS.loose]
    have a5 : ((g'.insts.getLast?.map (·.last)).getD false) = true := by
      obtain ⟨i, h1, h2⟩ := hl
      rw [e1, List.getLast?_map, h1]; simp [upd_last, h2]
    rw [a1, a2, a3, a4, a5, e5, hH]; simp
  · intro k i hi
    rw [e1, List.getElem?_map] at hi
    obtain ⟨m, hm, rfl⟩ := Option.map_eq_some_iff.mp hi
    rw [upd_op]
    obtain ⟨-, hc⟩ := hL.made m (List.mem_of_getElem? hm)
    rcases hc with ⟨h5, -⟩ | ⟨k, i, hi, -, -, -, -, he⟩ | he
    · have h5 : m.op = 5 := h5
      lia
    · have f1 : m.op = i.op := by have h := congrArg In.op he; exact h
      rw [f1]; exact hG.ops k i hi
    · have h6 : m.op = 6 := by have h := congrArg In.op he; exact h
      lia
  · intro k i hi h24
    rw [e1, List.getElem?_map] at hi
    obtain ⟨m, hm, rfl⟩ := Option.map_eq_some_iff.mp hi
    rw [upd_op] at h24
    have ua : (upd ps m).arg = m.arg := by unfold upd; split <;> rfl
    rw [ua]
    obtain ⟨-, hc⟩ := hL.made m (List.mem_of_getElem? hm)
    rcases hc with ⟨h5, -⟩ | ⟨k, i, hi, -, -, -, -, he⟩ | he
    · have h5 : m.op = 5 := h5
      lia
    · have f1 : m.op = i.op := by have h := congrArg In.op he; exact h
      have f3 : m.arg = i.arg := by have h := congrArg In.arg he; exact h
      rw [f3]; exact hG.args k i hi (f1 ▸ h24)
    · have h6 : m.op = 6 := by have h := congrArg In.op he; exact h
      lia
theorem lay_add {ps : List (Int × Int)} {is ms : List In} {x : Int} (h : ps.map (·.2) ++ [(is.length : Int)] = headsTo (onPg is) is.length) (hms : ∀ m ∈ ms, m.last = false) (hne : ms ≠ []) : (ps ++ [(x, (is.length : Int))]).map (·.2) ++ [((is ++ setLast ms).length : Int)] = headsTo (onPg (is ++ setLast ms)) (is ++ setLast ms).length := by
  obtain ⟨b, m, rfl⟩ : ∃ s x, ms = s ++ [x] := ⟨ms.dropLast, ms.getLast hne, (List.dropLast_concat_getLast hne).symm⟩
  rw [setLast_snoc, headsTo_block is b _ (fun y hy => hms y (by simp [hy])) rfl, ← h]
  simp
theorem setLast_len (ms : List In) : (setLast ms).length = ms.length := by
  cases h : ms.getLast? with
  | none => unfold setLast; rw [h]; rw [List.getLast?_eq_none_iff] at h; rw [h]
  | some m =>
    unfold setLast; rw [h]
    have : ms ≠ [] := by rintro rfl; cases h
    have := List.length_pos_iff.mpr this
    simp; kspl_open wln
theorem setLast_made {g : Pg} {rs : List Int} {ms : List In} (h : ∀ m ∈ ms, Made g rs m) (hne : ms ≠ []) : (∀ m ∈ setLast ms, MadeL g rs m) ∧ ∃ i, (setLast ms).getLast? = some i ∧ i.last = true := by
  obtain ⟨b, m, rfl⟩ : ∃ s x, ms = s ++ [x] := ⟨ms.dropLast, ms.getLast hne, (List.dropLast_concat_getLast hne).symm⟩
  rw [setLast_snoc]
  refine ⟨fun y hy => ?_, _, by simp; rfl, rfl⟩
  have self : ∀ y : In, y.last = false → ({ y with last := false } : In) = y := fun y e => by cases y; simp at e; simp [e]
  rcases List.mem_append.mp hy with hy | hy
  · have := h y (by simp [hy])
    unfold MadeL; rw [self y this.1]; exact this
  · simp only [List.mem_singleton] at hy
    subst hy
    have := h m (by simp)
    unfold MadeL
    show Made g rs { m with last := false }
    rw [self m this.1]; exact this
end
section
variable {f : Fx} {ρ : Loc} {σ : St}


noncomputable abbrev updZ (ps : List (Int × Int)) (z : Ob) : Ob := (z.1, z.2.1, upd ps z.2.2)
noncomputable def lookV (ps : List (Int × Int)) : Value → Value
  | .int x _ => .int (look ps x) 0
  | v => v
theorem lookV_int (ps : List (Int × Int)) (l : List Int) : (intL l).map (lookV ps) = intL (l.map (look ps)) := by simp [lookV]
theorem obI_app (a b : List Ob) : obI (a ++ b) = obI a ++ obI b := List.map_append ..
theorem key_uniq {k r r' : Int} : ∀ {ps : List (Int × Int)}, (ps.map (·.1)).Nodup → (k, r) ∈ ps → (k, r') ∈ ps → r = r'
  | p :: ps, nd, h, h' => by
    obtain ⟨n1, n2⟩ := List.nodup_cons.mp nd
    rcases List.mem_cons.mp h with e | h <;> rcases List.mem_cons.mp h' with e' | h'
    · rw [← e] at e'; exact (Prod.mk.inj e').2.symm
    · exact absurd (List.mem_map.mpr ⟨_, h', by rw [← e]⟩) n1
    · exact absurd (List.mem_map.mpr ⟨_, h, by rw [← e']⟩) n1
    · exact key_uniq n2 h h'
theorem Own.thaw {fz : Addr → Prop} {σ0 σ : St} {L : List Ent} {a : Addr} {o : AO} {w : Bool} (H : Own fz σ0 σ ((a, o, w) :: L)) (h : ¬ fz a) : Own fz σ0 σ ((a, o, true) :: L) :=
  ⟨H.ext, fun b o' w' m => by
    rcases List.mem_cons.mp m with e | m
    · cases e; exact H.get _ _ _ (List.mem_cons_self ..)
    · exact H.get _ _ _ (List.mem_cons_of_mem _ m), fun b o' w' m => by
    rcases List.mem_cons.mp m with e | m
    · cases e; exact H.new _ _ _ (List.mem_cons_self ..)
    · exact H.new _ _ _ (List.mem_cons_of_mem _ m), fun b o' m => by
    rcases List.mem_cons.mp m with e | m
    · cases e; exact h
    · exact H.wr _ _ (List.mem_cons_of_mem _ m), H.nd, H.fzs⟩
theorem look_all {ps : List (Int × Int)} (nd : (ps.map (·.1)).Nodup) : (ps.map (·.1)).map (look ps) = ps.map (·.2) := by
  have key : ∀ (qs : List (Int × Int)), (∀ p ∈ qs, p ∈ ps) → (qs.map (·.1)).map (look ps) = qs.map (·.2) := by
    intro qs
    induction qs with
    | nil => intro _; rfl
    | cons q qs ih =>
      intro h
      have hq := h q (List.mem_cons_self ..)
      have h1 := (look_at (ps := ps) (x := q.1) (List.mem_map.mpr ⟨q, hq, rfl⟩)).1
      have hsome : (valueAt (otab ps) q.1).isSome = true := by rw [h1]; rfl
      obtain ⟨r, h2, h3⟩ := otab_some hsome
      rw [h1] at h2
      have e : look ps q.1 = r := by first | exact of_decide_eq_true h2 | exact eq_of_beq h2 | exact ne_of_beq_false h2 | exact of_decide_eq_false h2 | exact beq_iff_eq.mpr h2 | exact beq_false_of_ne h2 | simpa using h2
      have e2 : r = q.2 := key_uniq nd h3 hq
      simp only [List.map_cons]
      rw [ih fun p hp => h p (List.mem_cons_of_mem _ hp), e, e2]
  exact key ps fun _ h => h

noncomputable def P_flattened : Value → List Ent → Prop := fun v L => (Ey4 fun p g' r' zs => Ay6 (v = .ref p) (L = prE p g' r' zs) (r'.xs = obX zs) (g'.insts = obI zs) (Good g') (g'.flat = true))
set_option maxHeartbeats 1000000 in
theorem wc_flattened {σ0 : St} {c : Cx} {n : Nat} {fz : Addr → Prop} {q : Addr} {g : Pg} {r : PR} (hp : IsP σ0 q g r) (hG : Good g) (hf : g.flat = false) (hN : g.insts.length ≤ 8) (hfz : ∀ a, fz a → σ0 a ≠ none) :
    WC c (n + 6) fz σ0 (.ref 221) [.ref q] (Ret fz σ0 P_flattened) := by
  have hn := hG.net hf
  have h0 := hG.op0
  refine WC.fnO (ρ := [("prog", some (.ref q)), ("roots", none), ("heads", none), ("insts", none), ("root", none), ("inst", none), ("flat", none)]) (gl := ["all_roots", "len", "flatten_list", "FLATTEN_STEPS", "INST_NOP", "program_twin"]) (cl := ["heads"]) (pa := [("prog", .ref q)]) (rest := ["roots", "heads", "insts", "root", "inst", "flat"]) rfl (.of fun P => by kernel_rfl) (fun P => by kernel_rfl) (hb1 fun P u => by kernel_rfl) fun env => ?_
  have H : Own fz σ0 σ0 [] := Own.start hfz
  conv => arg 4; whnf
  refine SS.cons (S1.ite (PT.val (PE.p_is_flat (by kspl_open wpe) hp H) Tru.bool rfl) (fun h1 => absurd h1 (by rw [hf]; decide)) (fun _ => ?_))
  refine SS.nil ?_
  refine SS.cons (S1.name (WV.callO (PE.globR (by kspl_open wmem) g_all_roots) (fun P => by kernel_rfl) (by kspl_open wpes) H (wc_allroots (hp.ext H.ext) hn h0 H.fzs) ?_))
  rintro v σ L' ⟨a, rs, M, rfl, rfl, hS⟩ H
  refine ⟨_, (by kspl_open wset), ?_⟩
  dsimp only [List.cons_append, List.nil_append] at H
  refine SS.cons (S1.tupO (σ0 := σ0) (.cons _ _ (.cons _ _ .nil)) ?_)
  refine WLs.cons (WV.dic0 H fun a1 σ H => WLs.cons (WV.newL .nil H fun a2 σ H => WLs.nil ⟨_, _, H, (by kspl_open wsta), (by kspl_open wstr), fun σ H => ?_⟩))
  have hrl := nodup_inR hS.nd hS.inR
  refine SS.cons (S1.forO (σ0 := σ0) (WV.pe (by kspl_open wpe) ?_))
  let p1p := fun (j : Nat) (ρ2 : Loc) (L2 : List Ent) (ps : List (Int × Int)) (zs : List Ob) (o : Option Value) => (Ay7 (ρ2 = ([("prog", some (.ref q)), ("roots", some (.ref a)), ("heads", some (.ref a1)), ("insts", some (.ref a2)), ("root", o), ("inst", none), ("flat", none)] : Loc)) (L2 = (a2, .list (refs (obX zs)), true) :: (a1, .dic (otab ps), true) :: (a, .dic (marks rs), false) :: ents zs) (ps.map (·.1) = rs.take j) (ps.map (·.2) ++ [(zs.length : Int)] = headsTo (onPg (obI zs)) zs.length) ((∀ m ∈ obI zs, MadeL g rs m)) ((j = 0 → zs = [])) ((1 ≤ j → zs.length + 7 ≤ 8 * j ∧ (obI zs)[0]? = some { failI with last := true } ∧ (∃ i, (obI zs).getLast? = some i ∧ i.last = true))) : Prop)
  let I1 : Nat → Loc → List Ent → Prop := fun j ρ2 L2 => Ey3 (p1p j ρ2 L2)
  refine ⟨_, _, a, _, rfl, Iter.dic (H.get _ _ _ (by kspl_open wmem)), H.moreO (Frz.there _ (Frz.there _ (Frz.here _ _))), I1, ⟨[], [], none, rfl, rfl, rfl, rfl, (by kspl_open wle), fun _ => rfl, fun h => by kspl_open wln⟩, ?_, ?_⟩
  · rintro j z ρ2 σ L2 hz H ⟨ps, zs, o, rfl, rfl, hk, hhd, hmd, hj0, hj1⟩
    simp only [marks, List.map_map, Function.comp_def] at hz
    rw [List.getElem?_map] at hz
    obtain ⟨root, hw, rfl⟩ := Option.map_eq_some_iff.mp hz
    have hroot := List.mem_of_getElem? hw
    have hjl := (List.getElem?_eq_some_iff.mp hw).1
    have hno : root ∉ ps.map (·.1) := by
      rw [hk]
      intro h
      obtain ⟨h1, h2⟩ := List.getElem?_eq_some_iff.mp hw
      have := hS.nd
      rw [← List.take_append_drop j rs, List.nodup_append] at this
      refine this.2.2 root h root ?_ rfl
      rw [List.drop_eq_getElem_cons h1, h2]; exact List.mem_cons_self ..
    have hpl : ps.length ≤ 8 := by
      have := congrArg List.length hk
      simp at this; kspl_open wln
    have hzl : zs.length ≤ 8 * j := by
      by_cases h : j = 0
      · rw [hj0 h]; simp
      · have := (hj1 (by kspl_open wln)).1; kspl_open wln
    refine ⟨_, (by kspl_open wset), ?_⟩
    refine SS.cons (S1.setD (by kspl_open wpe) (by kspl_open wpe) (by kspl_open wpe) H (by kspl_open wput) ?_ fun σ H => ?_)
    · unfold otab; (first | ((repeat first | refine lmap_lt ?_ | refine lmap_le ?_); kspl_open wln) | (rw [List.length_map]; kspl_open wln))
    rw [otab_stored hno] at H
    refine SS.cons (S1.expr (WV.extendO (by kspl_open wpe) ⟨_, (by kspl_open wmem)⟩ (WV.callO (PE.globR (by kspl_open wmem) g_flatten_list) (fun P => by kernel_rfl) (.cons (PE.p_insts (by kspl_open wpe) hp H) (by kspl_open wpes)) H (wc_flist (hp.ext H.ext) hn h0 (H.get a _ _ (by kspl_open wmem)) hS hroot H.fzs) ?_) H))
    rintro v σ L' ⟨b, zs1, ms, rfl, rfl, hz1, hne, hms, hmsl, hm0⟩ H
    dsimp only [List.cons_append, List.nil_append] at H
    have hl1 : zs1.length = ms.length := by
      have := congrArg List.length hz1
      rw [setLast_len] at this; simpa using this
    refine ⟨b, _, _, _, rfl, H, H.get b _ _ (by kspl_open wmem), by (first | ((repeat first | refine lmap_lt ?_ | refine lmap_le ?_); kspl_open wln) | (simp only [List.length_map]; kspl_open wln)), .there _ (Put.app _ (.here _)), fun σ H => ?_⟩
    have sm := setLast_made hms hne
    refine SS.nil ⟨_, (H.sub (List.sublist_cons_self ..)).perm ((perm_in (ents zs1) [_, _, _] (ents zs)).trans (List.Perm.append_left _ List.perm_append_comm)), ps ++ [(root, (zs.length : Int))], zs ++ zs1, _, rfl, ?_, ?_, ?_, ?_, fun h => by kspl_open wln, fun _ => ⟨?_, ?_, ?_⟩⟩
    · rw [ents_app]; simp
    · rw [List.map_append, hk, take_succ_of hw]; rfl
    · have := lay_add (x := root) (is := obI zs) (ms := ms) (by first | exact of_decide_eq_true hhd | exact eq_of_beq hhd | exact ne_of_beq_false hhd | exact of_decide_eq_false hhd | exact beq_iff_eq.mpr hhd | exact beq_false_of_ne hhd | simpa using hhd) (fun m hm => (hms m hm).1) hne
      rw [← hz1] at this
      simpa using this
    · intro m hm
      rw [obI_app] at hm
      rcases List.mem_append.mp hm with h | h
      · exact hmd m h
      · exact sm.1 m (hz1 ▸ h)
    · rw [List.length_append]
      by_cases h : j = 0
      · have hr0 : root = 0 := by
          have := hS.head
          rw [h] at hw
          rw [List.head?_eq_getElem?, hw] at this
          exact Option.some.inj this
        have := hm0 hr0
        rw [hj0 h, h, hl1, this]; simp
      · have := (hj1 (by kspl_open wln)).1; kspl_open wln
    · by_cases h : j = 0
      · have hr0 : root = 0 := by
          have := hS.head
          rw [h] at hw
          rw [List.head?_eq_getElem?, hw] at this
          exact Option.some.inj this
        rw [hj0 h, List.nil_append, hz1, hm0 hr0]; rfl
      · have := (hj1 (by kspl_open wln)).2.1
        rw [obI_app, List.getElem?_append_left (List.getElem?_eq_some_iff.mp this).1]; exact this
    · rw [obI_app, hz1]
      obtain ⟨i, q1, q2⟩ := sm.2
      exact ⟨i, by rw [List.getLast?_append, q1]; rfl, q2⟩
  rintro ρ2 σ L2 H ⟨ps, zs, o, rfl, rfl, hk, hhd, hmd, -, hj1⟩
  have e0 : (List.map (fun p : Int × Value => Value.int p.1 0) (marks rs)).length = rs.length := by simp
  rw [e0, List.take_of_length_le (Nat.le_refl _)] at hk
  rw [e0] at hj1
  have hrpos : 1 ≤ rs.length := by
    have := hS.head
    cases rs with
    | nil => cases this
    | cons _ _ => simp
  obtain ⟨hzl, hfst, hlst⟩ := hj1 hrpos
  have hL : Lay g rs ps (obI zs) := ⟨hk, by first | exact of_decide_eq_true hhd | exact eq_of_beq hhd | exact ne_of_beq_false hhd | exact of_decide_eq_false hhd | exact beq_iff_eq.mpr hhd | exact beq_false_of_ne hhd | simpa using hhd, hmd⟩
  have hgood := flat_good hG hS hL ⟨_, hfst, rfl⟩ hlst (by simp; kspl_open wln)
  have hnd : (ps.map (·.1)).Nodup := hk ▸ hS.nd
  have outIn : ∀ z ∈ zs, (isStep z.2.2.op || z.2.2.op == 5) = true → z.2.2.out ∈ rs := by
    intro z hz h
    obtain ⟨-, hc⟩ := hmd z.2.2 (List.mem_map.mpr ⟨z, hz, rfl⟩)
    rcases hc with ⟨h5, ho⟩ | ⟨k, i, hi, n0, n5, n6, hst, he⟩ | he
    · exact ho
    · have f1 : z.2.2.op = i.op := by have h := congrArg In.op he; exact h
      have f2 : z.2.2.out = if i.op == 4 then 0 else i.out := by have h := congrArg In.out he; exact h
      rw [f1] at h
      have h5 : (i.op == 5) = false := by simpa using n5
      rw [h5, Bool.or_false] at h
      rw [f2, if_neg (by intro h4; have : i.op = 4 := by first | exact of_decide_eq_true h4 | exact eq_of_beq h4 | exact ne_of_beq_false h4 | exact of_decide_eq_false h4 | exact beq_iff_eq.mpr h4 | exact beq_false_of_ne h4 | simpa using h4
                         rw [this] at h; cases h)]
      exact hst h
    · have h6 : z.2.2.op = 6 := by have h := congrArg In.op he; exact h
      rw [h6] at h; cases h
  have hz2 : ¬ fz a2 := H.wr a2 _ (List.mem_cons_self ..)
  refine SS.cons (S1.forO (σ0 := σ0) (WV.pe (by kspl_open wpe) ?_))
  let p2p := fun (j : Nat) (ρ2 : Loc) (L2 : List Ent) o2 => (Ay2 (ρ2 = ([("prog", some (.ref q)), ("roots", some (.ref a)), ("heads", some (.ref a1)), ("insts", some (.ref a2)), ("root", o), ("inst", o2), ("flat", none)] : Loc)) (L2 = (a2, .list (refs (obX zs)), false) :: (a1, .dic (otab ps), true) :: (a, .dic (marks rs), false) :: ents ((zs.take j).map (updZ ps) ++ zs.drop j)) : Prop)
  let I2 : Nat → Loc → List Ent → Prop := fun j ρ2 L2 => Ey1 (p2p j ρ2 L2)
  refine ⟨_, _, a2, _, rfl, Iter.list (H.get _ _ _ (by kspl_open wmem)), H.moreO (Frz.here _ _), I2, ⟨none, rfl, (by kspl_open wle)⟩, ?_, ?_⟩
  · rintro j z' ρ2 σ L2 hz H ⟨o2, rfl, rfl⟩
    rw [List.getElem?_map, List.getElem?_map, Option.map_map] at hz
    obtain ⟨z, hw, rfl⟩ := Option.map_eq_some_iff.mp hz
    have hzm := List.mem_of_getElem? hw
    have hd : zs.drop j = z :: zs.drop (j + 1) := by
      obtain ⟨h1, h2⟩ := List.getElem?_eq_some_iff.mp hw
      rw [← h2]; exact List.drop_eq_getElem_cons h1
    have htk := take_succ_of hw
    rw [hd] at H
    have hIz : IsI σ z.1 z.2.2 := H.isI (zs := (zs.take j).map (updZ ps) ++ z :: zs.drop (j + 1)) (fun e he => List.mem_cons_of_mem _ (List.mem_cons_of_mem _ (List.mem_cons_of_mem _ he))) (by kspl_open wle)
    have Hr := H.rebase
    refine ⟨_, (by kspl_open wset), ?_⟩
    dsimp only [Function.comp]
    refine SS.cons (S1.ite (by kspl_open wpt) (fun h1 => ?_) (fun h1 => ?_))
    · have hlk := (look_at (ps := ps) (x := z.2.2.out) (by rw [hk]; exact outIn z hzm h1)).1
      have hu : upd ps z.2.2 = { z.2.2 with out := look ps z.2.2.out } := by unfold upd; rw [if_pos h1]
      have hpz : Put z.2.1 (.ns z.2.2.fs) (.ns ({ z.2.2 with out := look ps z.2.2.out } : In).fs) ((a2, .list (refs (obX zs)), false) :: (a1, .dic (otab ps), true) :: (a, .dic (marks rs), false) :: ents ((zs.take j).map (updZ ps) ++ z :: zs.drop (j + 1))) _ := .there _ (.there _ (.there _ (ents_put _ _)))
      refine SS.cons (S1.setAO (x := z.1) (d := z.2.1) (C := cI) (PE.item (by kspl_open wpe) (PE.i_out (by kspl_open wpe) hIz Hr) (Itm.dic (H.get _ _ _ (by kspl_open wmem)) hlk)) (by kspl_open wpe) H (List.mem_cons_of_mem _ (List.mem_cons_of_mem _ (List.mem_cons_of_mem _ (ents_mem (z := z) (by kspl_open wle)).1))) ca_out hpz.mem (putF_out _ _) hpz (by kspl_open wle) fun σ H => ?_)
      refine SS.nil (SS.nil ⟨_, H, _, rfl, ?_⟩)
      rw [htk, List.map_append, List.append_assoc]
      simp [updZ, hu]
    · have hu : upd ps z.2.2 = z.2.2 := by unfold upd; rw [if_neg (by rw [h1]; decide)]
      refine SS.nil (SS.nil ⟨_, H, _, rfl, ?_⟩)
      rw [htk, List.map_append, List.append_assoc]
      simp [updZ, hu]
  rintro ρ2 σ L2 H ⟨o2, rfl, rfl⟩
  rw [List.take_of_length_le (by kspl_open wle), List.drop_eq_nil_of_le (by kspl_open wle), List.append_nil] at H
  replace H := H.thaw hz2
  refine SS.cons (S1.name (WV.callO (PE.globR (by kspl_open wmem) g_program_twin) (fun P => by kernel_rfl) (by kspl_open wpes) H (wc_twin (hp.ext H.ext) H.fzs) ?_))
  rintro v σ L' ⟨p, d1, x1, x2, x3, x4, rfl, rfl⟩ H
  refine ⟨_, (by kspl_open wset), ?_⟩
  dsimp only [List.cons_append, List.nil_append] at H
  refine SS.cons (S1.setAO (by kspl_open wpe) (by kspl_open wpe) H (by kspl_open wmem) ca_insts (by kspl_open wmem) (by kspl_open wx1) (by kspl_open wput) (by kspl_open wle) fun σ H => ?_)
  refine SS.cons (S1.setAO (PE.item (by kspl_open wpe) (by kspl_open wpe) (Itm.dic (H.get a1 _ _ (by kspl_open wmem)) (look_at (x := g.start) (by rw [hk]; exact hS.start)).1)) (by kspl_open wpe) H (by kspl_open wmem) ca_start (by kspl_open wmem) (by kspl_open wx1) (by kspl_open wput) (by kspl_open wle) fun σ H => ?_)
  refine SS.cons (S1.setAO (PE.item (by kspl_open wpe) (by kspl_open wpe) (Itm.dic (H.get a1 _ _ (by kspl_open wmem)) (look_at (x := g.loose) (by rw [hk]; exact hS.loose)).1)) (by kspl_open wpe) H (by kspl_open wmem) ca_loose (by kspl_open wmem) (by kspl_open wx1) (by kspl_open wput) (by kspl_open wle) fun σ H => ?_)
  refine SS.cons (S1.setAO (by kspl_open wpe) (by kspl_open wpe) H (by kspl_open wmem) ca_flat (by kspl_open wmem) (by kspl_open wx1) (by kspl_open wput) (by kspl_open wle) fun σ H => ?_)
  refine SS.cons (S1.setAV (σ0 := σ0) (WV.comp [("heads", .ref a1)] [] (fun _ => true) (lookV ps) (WV.pe (by kspl_open wpe) ⟨a, _, _, rfl, Iter.dic (H.get a _ _ (by kspl_open wmem)), by simp; kspl_open wln, ?_, fun b hb => ⟨_, _, _, _, _, _, _, _, (by kspl_open wpe), H.alloc hb, (by kspl_open wmem), ca_heads, (by kspl_open wmem), (by kspl_open wx1), (by kspl_open wput), (by kspl_open wle), fun σ H => ?_⟩⟩) (CompOk.of (by rfl)) (by intro q hq; simp at hq; subst hq; exact ⟨(by kspl_open wmem), (by kspl_open wmem)⟩)))
  · intro os dr gn env v hv
    obtain ⟨w, hw, rfl⟩ := List.mem_map.mp hv
    obtain ⟨x, hx, rfl⟩ := List.mem_map.mp hw
    exact ⟨tests_nil, fun _ => (show PE _ [(("root" : Str), some (Value.int x 0)), (("heads" : Str), some (Value.ref a1))] _ _ _ from PE.item (by kspl_open wpe) (by kspl_open wpe) (Itm.dic (H.get a1 _ _ (by kspl_open wmem)) (look_at (x := x) (by rw [hk]; exact hx)).1))⟩
  have e2 : ((List.map (fun p : Int × Value => Value.int p.1 0) (marks rs)).filter fun _ => true).map (lookV ps) = intL (ps.map (·.2)) := by
    rw [List.filter_eq_self.mpr (by kspl_open wle), ← look_all hnd, hk, ← lookV_int]
    simp
  rw [e2] at H
  have Hf : Own fz σ0 σ (prE p ⟨(obI zs).map (upd ps), look ps g.start, look ps g.loose, true, ps.map (·.2)⟩ ⟨d1, a2, b, obX zs⟩ (zs.map (updZ ps))) := by
    refine (H.sub (L' := (b, .list (intL (ps.map (·.2))), true) :: (p, .inst cP d1, true) :: (d1, .ns ((⟨(obI zs).map (upd ps), look ps g.start, look ps g.loose, true, ps.map (·.2)⟩ : Pg).fs ⟨d1, a2, b, obX zs⟩), true) :: (a2, .list (refs (obX zs)), true) :: ents (zs.map (updZ ps))) ?_).perm ?_
    · exact .cons₂ _ (.cons _ (.cons _ (.cons _ (.cons _ (.cons₂ _ (.cons₂ _ (.cons₂ _ (.cons _ (.cons _ (.refl _))))))))))
    · exact perm_in [_] [_, _, _] _
  refine SS.cons (S1.ret (WV.pe (by kspl_open wpe) ⟨_, Hf, p, _, _, zs.map (updZ ps), rfl, rfl, ?_, ?_, hgood, rfl⟩))
  · simp [Function.comp_def]
  · simp [Function.comp_def]
end
section
variable {f : Fx} {ρ : Loc} {σ : St}


noncomputable def numsOf (g : Pg) (fo : List Int) : List Int := fo.map fun x => ((outs g x).length : Int)
theorem tab_vals (g : Pg) (fo : List Int) : (tab (nv g) fo).map (·.2) = intL (numsOf g fo) := by simp [tab, numsOf, nv]
noncomputable def P_fanout (g : Pg) : Value → List Ent → Prop := fun v L => (Ey3 fun a fo k => Ay4 (v = .ref a) (L = [(a, .list (intL (cntL (numsOf g fo) k)), true)]) (Bfs g [] [g.start] fo) (Tops (numsOf g fo) k))
theorem wc_fanout {σ0 : St} {c : Cx} {n : Nat} {fz : Addr → Prop} {p : Addr} {g : Pg} {r : PR} (hp : IsP σ0 p g r) (hG : Good g) (hfz : ∀ a, fz a → σ0 a ≠ none) :
    WC c (n + 4) fz σ0 (.ref 118) [.ref p] (Ret fz σ0 (P_fanout g)) := by
  refine WC.fnO (ρ := [("prog", some (.ref p)), ("found", none), ("many", none), ("power", none)]) (gl := ["program_fanouts", "len"]) (cl := []) (pa := [("prog", .ref p)]) (rest := ["found", "many", "power"]) rfl (.of fun P => by kernel_rfl) (fun P => by kernel_rfl) (hb1 fun P u => by kernel_rfl) fun env => ?_
  have H : Own fz σ0 σ0 [] := Own.start hfz
  have hsm := hG.small
  conv => arg 4; whnf
  refine SS.cons (S1.name (WV.newL .nil H fun a σ H => ⟨_, (by kspl_open wset), ?_⟩))
  refine SS.cons (S1.forO (σ0 := σ0) (WV.methC (b := "dict.values") (WV.callO (PE.globR (by kspl_open wmem) g_program_fanouts) (fun P => by kernel_rfl) (by kspl_open wpes) H (wc_fanouts (hp.ext H.ext) hG.sound (wayOk hG.parts.2.2.1).1 (by kspl_open wln) H.fzs) ?_)))
  rintro v σ L' ⟨d, fo, rfl, rfl, hB, hfl, hol⟩ H
  dsimp only [List.cons_append, List.nil_append] at H
  refine ⟨Mth.dicM (H.get d _ _ (by kspl_open wmem)) F.slot_dict_values F.type_dict_values, WLs.nil (WC.values (H.get d _ _ (by kspl_open wmem)) fun vw hvw => ?_)⟩
  have H2 := H.alloc (o := .obj (valsObj d)) hvw
  generalize σ.set vw _ = σ at H2
  clear H
  have H := H2
  have hnum : ∀ m ∈ numsOf g fo, 0 ≤ m ∧ m ≤ 60 := by
    intro m hm
    obtain ⟨x, hx, rfl⟩ := List.mem_map.mp hm
    have := hol x hx
    exact ⟨by kspl_open wln, by kspl_open wln⟩
  let p1p := fun (i : Nat) (ρ2 : Loc) (L2 : List Ent) k o o2 => (Ay4 (ρ2 = ([("prog", some (.ref p)), ("found", some (.ref a)), ("many", o), ("power", o2)] : Loc)) (L2 = ([(vw, .obj (valsObj d), true), (d, .dic (tab (nv g) fo), false), (a, .list (intL (cntL ((numsOf g fo).take i) k)), true)] : List Ent)) (Tops ((numsOf g fo).take i) k) (k ≤ 7) : Prop)
  let I1 : Nat → Loc → List Ent → Prop := fun i ρ2 L2 => Ey3 (p1p i ρ2 L2)
  refine ⟨_, _, vw, _, rfl, Iter.vals (H.get vw _ _ (by kspl_open wmem)) (H.get d _ _ (by kspl_open wmem)), H.moreO (Frz.there _ (Frz.here _ _)), I1, ⟨0, none, none, rfl, rfl, Tops.nil, by kspl_open wln⟩, ?_, ?_⟩
  · rintro i z ρ2 σ L2 hz H ⟨k, o, o2, rfl, rfl, hT, hk⟩
    rw [tab_vals, List.getElem?_map] at hz
    obtain ⟨m, hw, rfl⟩ := Option.map_eq_some_iff.mp hz
    have hm := hnum m (List.mem_of_getElem? hw)
    have ht := take_succ_of hw
    refine ⟨_, (by kspl_open wset), ?_⟩
    refine SS.cons (S1.ite (by kspl_open wpt) (fun h1 => ?_) (fun h1 => ?_))
    · have h1 : 0 < m := by first | exact of_decide_eq_true h1 | exact eq_of_beq h1 | exact ne_of_beq_false h1 | exact of_decide_eq_false h1 | exact beq_iff_eq.mpr h1 | exact beq_false_of_ne h1 | simpa using h1
      have hpw : pw m ≤ 6 := by
        have := pw_le m.toNat (by kspl_open wln)
        rwa [Int.toNat_of_nonneg hm.1] at this
      refine SS.cons (S1.name (WV.meth (b := "int.bit_length") (WV.pe (by kspl_open wpe) ⟨Mth.bits, WLs.nil (WC.bits ⟨_, (by kspl_open wset), ?_⟩)⟩)))
      rw [show ((Builtin.Int.intBits (m - 1) : Nat) : Int) = ((pw m : Nat) : Int) from rfl]
      refine SS.cons (S1.expr (WV.extendO (σ0 := σ0) (by kspl_open wpe) ⟨_, (by kspl_open wmem)⟩ (WV.rep0 (WV.newL (by kspl_open wpes) H fun b σ H => ⟨b, _, rfl, H.get b _ _ (by kspl_open wmem), (by kspl_open wpe), ?_, ?_, fun d2 hd2 => ⟨d2, _, _, _, rfl, H.alloc hd2, St.set_same .., ?_, (by kspl_open wput), fun σ H => ?_⟩⟩)) H))
      · rw [cntL_len]; kspl_open wln
      · rw [cntL_len]; kspl_open wln
      · rw [cntL_len]; simp; kspl_open wln
      rw [cntL_len, cnt_grow hT.above] at H
      have hpos : (0 : Int) ≤ ((pw m : Nat) : Int) := Int.natCast_nonneg _
      have hx1 : (intL (cntL ((numsOf g fo).take i) (max k (pw m + 1))))[((pw m : Nat) : Int).toNat]? = some (.int (cnt ((numsOf g fo).take i) (pw m) : Int) 0) := by
        rw [Int.toNat_natCast]
        simp only [List.getElem?_map]
        rw [List.getElem?_range (by kspl_open wln)]; rfl
      refine SS.cons (S1.augL (by kspl_open wpe) (by kspl_open wpe) (by kspl_open wpe) H hpos hx1 (by kspl_open wput) fun σ H => ?_)
      rw [Int.toNat_natCast, cnt_bump h1 (by kspl_open wln), ← ht] at H
      refine SS.nil (SS.nil ⟨_, H.sub (.cons _ (.cons _ (.refl _))), _, _, _, rfl, rfl, ?_, by kspl_open wln⟩)
      rw [ht]; exact hT.bump h1
    · have h1 : ¬ 0 < m := by first | exact of_decide_eq_true h1 | exact eq_of_beq h1 | exact ne_of_beq_false h1 | exact of_decide_eq_false h1 | exact beq_iff_eq.mpr h1 | exact beq_false_of_ne h1 | simpa using h1
      obtain ⟨t1, t2⟩ := hT.same (m := m) h1
      refine SS.nil (SS.nil ⟨_, H, k, _, o2, rfl, ?_, ?_, hk⟩)
      · rw [ht, t2]
      · rw [ht]; exact t1
  rintro ρ2 σ L2 H ⟨k, o, o2, rfl, rfl, hT, hk⟩
  rw [tab_vals, List.length_map, List.take_length] at H hT
  exact SS.cons (S1.ret (WV.pe (by kspl_open wpe) ⟨_, H.sub (.cons _ (.cons _ (.refl _))), a, fo, k, rfl, rfl, hB, hT⟩))
end
section
variable {f : Fx} {ρ : Loc} {σ : St}


theorem WC.lenL {c : Cx} {n : Nat} {fz : Addr → Prop} {a : Addr} {xs : List Value} {Q : Value → St → Prop} (ha : σ a = some (.list xs)) (q : Q (.int xs.length 0) σ) : WC c n fz σ (.builtin "len") [.ref a] Q := fun A s raw e ok room r sh => by
  obtain ⟨u, rfl, e1⟩ := raw1 e
  rw [er_ref e1]
  obtain ⟨its, hl, h2, h3, -⟩ := listAt r ha
  have hz := size_er h2
  exact len_list hl (by kspl_open wln) ⟨σ, r, Kp.refl _ _, sh.heap _ _, by show Q (.int (its.size : Nat) 0) σ; rw [hz]; exact q⟩
noncomputable def inPw (i : Nat) : Value → Bool
  | .int m _ => decide (0 < m) && pw m == i
  | _ => false
theorem inPw_len (ms : List Int) (i : Nat) : (((intL ms).filter (inPw i)).map id).length = cnt ms i := by
  rw [List.map_id]
  unfold cnt
  induction ms with
  | nil => rfl
  | cons m ms ih =>
    simp only [List.map_cons, List.filter_cons]
    have e : inPw i (.int m 0) = (decide (0 < m) && pw m == i) := rfl
    rw [e]
    split
    · rw [List.length_cons, List.length_cons, ih]
    · exact ih
theorem cnt_above {ms : List Int} (h : ∀ m ∈ ms, 0 ≤ m ∧ m ≤ 64) (p : Nat) (hp : 7 ≤ p) : cnt ms p = 0 := by
  unfold cnt
  rw [List.length_eq_zero_iff, List.filter_eq_nil_iff]
  intro m hm
  have := h m hm
  have h2 := pw_le m.toNat (by kspl_open wln)
  rw [Int.toNat_of_nonneg this.1] at h2
  simp; kspl_open wln

noncomputable def P_powers (ms : List Int) : Value → List Ent → Prop := fun v L => (Ey2 fun a k => Ay3 (v = .ref a) (L = [(a, .list (intL (cntL ms k)), true)]) (Tops ms k))
theorem wc_powers {σ0 : St} {c : Cx} {n : Nat} {fz : Addr → Prop} {b : Addr} {ms : List Int} (hb : σ0 b = some (.list (intL ms))) (hms : ∀ m ∈ ms, 0 ≤ m ∧ m ≤ 64) (hml : ms.length ≤ 1000) (hfz : ∀ a, fz a → σ0 a ≠ none) :
    WC c (n + 1) fz σ0 (.ref 266) [.ref b] (Ret fz σ0 (P_powers ms)) := by
  refine WC.fnO (ρ := [("numbers", some (.ref b)), ("found", none)]) (gl := ["range"]) (cl := ["numbers"]) (pa := [("numbers", .ref b)]) (rest := ["found"]) rfl (.of fun P => by kernel_rfl) (fun P => by kernel_rfl) (hb1 fun P u => by kernel_rfl) fun env => ?_
  have H : Own fz σ0 σ0 [] := Own.start hfz
  conv => arg 4; whnf
  refine SS.cons (S1.compW [] (some "at") [("numbers", .ref b)] ["len"] ["at"] (CW.of (by rfl)) (by intro q hq; simp at hq; subst hq; exact ⟨(by kspl_open wmem), (by kspl_open wmem)⟩) (WV.callT (by kspl_open wpe) (WLs.pes (.cons (by kspl_open wpe) .nil) rfl (WC.range1 (by decide) (by decide) fun r hr => ?_))))
  refine ⟨r, _, _, rfl, Iter.rng (St.set_same ..), by simp [upto], fun i ρo ys σi => ∃ o, ρo = ([("at", o)] : Loc) ∧ ys = intL (cntL ms i) ∧ Own (fun b => fz b ∨ False) σ0 σi [], ⟨none, rfl, (by kspl_open wle), Own.moreN ((H.alloc hr).sub (List.sublist_cons_self ..))⟩, ?_, ?_⟩
  · rintro L i v ρo ys σ hv ⟨o, rfl, rfl, H⟩
    have hi : i < 7 := by
      have := (List.getElem?_eq_some_iff.mp hv).1
      simpa [upto] using this
    have hve : v = .int (i : Int) 0 := by
      obtain ⟨h1, h2⟩ := List.getElem?_eq_some_iff.mp hv
      simp [upto] at h2; exact h2.symm
    subst hve
    refine ⟨([("at", some (.int (i : Int) 0))] : Loc), (by kspl_open wset), WX.of_pb tests_nil ?_⟩
    rw [if_pos rfl]
    show WV _ ([("at", some (.int (i : Int) 0)), ("numbers", some (.ref b))] : Loc) σ _ _
    refine WV.callB (PE.built (by kspl_open wmem) bl_len boot_len (by decide) rfl) (WLs.cons (WV.comp [("at", .int (i : Int) 0)] [] (inPw i) id (WV.pe (by kspl_open wpe) ⟨b, _, _, rfl, Iter.list (H.ext _ _ hb), ?_, ?_, fun d hd => WLs.nil (WC.lenL (St.set_same ..) ?_)⟩) (CompOk.of (by rfl)) (by intro q hq; simp at hq; subst hq; exact ⟨(by kspl_open wmem), (by kspl_open wmem)⟩)))
    · (first | ((repeat first | refine lmap_lt ?_ | refine lmap_le ?_); kspl_open wln) | (rw [List.length_map]; kspl_open wln))
    · intro os dr gn env v hv
      obtain ⟨m, hm, rfl⟩ := List.mem_map.mp hv
      have hmb := hms m hm
      have e := pw_in m.toNat (by kspl_open wln) i hi
      rw [Int.toNat_of_nonneg hmb.1] at e
      have e2 : inPw i (.int m 0) = (decide ((0 : Int) < m) && (decide (((2 : Int) ^ i).fdiv 2 < m) && decide (m ≤ (2 : Int) ^ i))) := by rw [e]; rfl
      rw [e2]
      have hi0 : (0 : Int) ≤ (i : Int) := by kspl_open wln
      have hpow : ∀ (f : Fx) p p1 p2 k, PE f ([("one", some (.int m 0)), ("at", some (.int (i : Int) 0))] : Loc) σ (.BinOp (.Constant (.int 2) k p1) .Pow (.Name "at" p2) p) (.int ((2 : Int) ^ i) 0) := fun f p p1 p2 k => by
        have := PE.bin (f := f) (ρ := ([("one", some (.int m 0)), ("at", some (.int (i : Int) 0))] : Loc)) (σ := σ) (p := p) (l := .Constant (.int 2) k p1) (r := .Name "at" p2) (PE.int) (by kspl_open wpe) (Bin.pow hi0 (by kspl_open wln) (by decide))
        rwa [Int.toNat_natCast] at this
      refine ⟨tests_one (ρ := ([("one", some (.int m 0)), ("at", some (.int (i : Int) 0))] : Loc)) (PT.and (by kspl_open wpt) fun _ => PT.and1 (PT.chain (PE.bin (hpow _ _ _ _ _) (by kspl_open wpe) (Bin.div (by decide) (by decide))) (PChain.cons (by kspl_open wpe) (by kspl_open wcmp) fun _ => PChain.last (hpow _ _ _ _ _) (by kspl_open wcmp) rfl))), fun _ => (show PE _ ([("one", some (.int m 0)), ("at", some (.int (i : Int) 0))] : Loc) _ _ (Value.int m 0) from (by kspl_open wpe))⟩
    · refine ⟨_, rfl, ?_, (H.alloc hd).sub (List.sublist_cons_self ..)⟩
      rw [inPw_len]
      simp [List.range_succ]
  rintro ρo ys σ a ⟨o, rfl, rfl, H⟩ ha
  refine ⟨_, (by kspl_open wset), ?_⟩
  have H2 := H.less.alloc (o := .list (intL (cntL ms (upto 7).length))) ha
  generalize σ.set a _ = σ at H2
  clear H
  have H := H2
  have e7 : (upto 7).length = 7 := by simp [upto]
  rw [e7] at H
  let p1p := fun (m : Nat) (ρ1 : Loc) (L1 : List Ent) k => (Ay4 (ρ1 = ([("numbers", some (.ref b)), ("found", some (.ref a))] : Loc)) (L1 = ([(a, .list (intL (cntL ms k)), true)] : List Ent)) ((∀ p, k ≤ p → cnt ms p = 0)) (k ≤ m) : Prop)
  let I1 : Nat → Loc → List Ent → Prop := fun m ρ1 L1 => Ey1 (p1p m ρ1 L1)
  refine SS.cons (S1.whileWO (σ0 := σ0) H I1 7 ⟨7, rfl, rfl, cnt_above hms, Nat.le_refl _⟩ ?_)
  rintro m ρ1 σ L1 H ⟨k, rfl, rfl, hab, hkm⟩
  refine WT.and (WT.neNil (by kspl_open wpe) H (.inl ⟨_, (by kspl_open wmem)⟩) fun σ H => ?_)
  cases k with
  | zero =>
    rw [if_neg (by kspl_open wle), if_neg (by decide)]
    exact SS.cons (S1.ret (WV.pe (by kspl_open wpe) ⟨_, H, a, 0, rfl, rfl, hab, fun h => by kspl_open wln⟩))
  | succ k =>
    rw [if_pos (by simp [List.range_succ])]
    have el : (-1 : Int) + ((intL (cntL ms (k + 1))).length : Int) = ((k : Nat) : Int) := by rw [cntL_len]; kspl_open wln
    have hx : (intL (cntL ms (k + 1)))[((-1 : Int) + ((intL (cntL ms (k + 1))).length : Int)).toNat]? = some (.int (cnt ms k : Int) 0) := by
      rw [el, Int.toNat_natCast]
      simp only [List.getElem?_map]
      rw [List.getElem?_range (by kspl_open wln)]; rfl
    refine WT.and1 (WT.pt (PT.cmp (PE.item (by kspl_open wpe) (by kspl_open wpe) (Itm.listN (H.get _ _ _ (by kspl_open wmem)) (by decide) (by rw [cntL_len]; kspl_open wln) hx)) (by kspl_open wpe) (by kspl_open wcmp)) ?_)
    by_cases hc : cnt ms k = 0
    · rw [if_pos (by first | exact of_decide_eq_true hc | exact eq_of_beq hc | exact ne_of_beq_false hc | exact of_decide_eq_false hc | exact beq_iff_eq.mpr hc | exact beq_false_of_ne hc | simpa using hc)]
      have es : intL (cntL ms (k + 1)) = intL (cntL ms k) ++ [.int (cnt ms k : Int) 0] := by simp [List.range_succ]
      rw [es] at H
      refine SS.cons (S1.expr (WV.popO (by kspl_open wpe) H (by kspl_open wput) fun σ H => SS.nil ⟨k, _, by kspl_open wln, H, k, rfl, rfl, fun p hp => ?_, Nat.le_refl _⟩))
      by_cases e : p = k
      · rw [e]; exact hc
      · exact hab p (by kspl_open wln)
    · rw [if_neg (by first | exact of_decide_eq_true hc | exact eq_of_beq hc | exact ne_of_beq_false hc | exact of_decide_eq_false hc | exact beq_iff_eq.mpr hc | exact beq_false_of_ne hc | simpa using hc)]
      exact SS.cons (S1.ret (WV.pe (by kspl_open wpe) ⟨_, H, a, k + 1, rfl, rfl, hab, fun _ => by first | exact of_decide_eq_true hc | exact eq_of_beq hc | exact ne_of_beq_false hc | exact of_decide_eq_false hc | exact beq_iff_eq.mpr hc | exact beq_false_of_ne hc | simpa using hc⟩))
end
section
variable {f : Fx} {ρ : Loc} {σ : St}


structure LIok (many : Int) (i : In) : Prop where
  last : i.last = false
  op : 0 ≤ i.op ∧ i.op ≤ 6
  ok : instBad i = false
  out : 0 ≤ i.out ∧ i.out < many
  arg : i.op = 0 → 0 ≤ i.arg ∧ i.arg < many
  args : i.op = 2 ∨ i.op = 4 → -1000 ≤ i.arg ∧ i.arg ≤ 1000
noncomputable abbrev kindsL : List Int := [1, 0, 2, 0, 5, 1, 3, 0, 2, 5, 1, 0, 4, 6]
noncomputable abbrev askedL : List Int := [1, 2, 4, 8, 16, 32, 5, 10, 40, 63]
theorem kinds_at {k : Int} (h : 0 ≤ k ∧ k < 14) : ∃ op, (intL kindsL)[k.toNat]? = some (.int op 0) ∧ 0 ≤ op ∧ op ≤ 6 := by
  have : k.toNat < 14 := by kspl_open wln
  generalize k.toNat = n at this
  have hall : (List.range 14).all (fun n => (kindsL[n]?).any fun op => decide (0 ≤ op) && decide (op ≤ 6)) = true := by decide
  rw [List.all_eq_true] at hall
  have h2 := hall n (List.mem_range.mpr this)
  rw [Option.any_eq_true] at h2
  obtain ⟨op, h3, h4⟩ := h2
  rw [Bool.and_eq_true, decide_eq_true_eq, decide_eq_true_eq] at h4
  exact ⟨op, by rw [List.getElem?_map, h3]; rfl, h4⟩
theorem asked_at {k : Int} (h : 0 ≤ k ∧ k < 10) : ∃ v, (intL askedL)[k.toNat]? = some (.int v 0) ∧ v ≠ 0 ∧ Builtin.bitAnd v 63 = v := by
  have : k.toNat < 10 := by kspl_open wln
  generalize k.toNat = n at this
  have hall : (List.range 10).all (fun n => (askedL[n]?).any fun v => v != 0 && Builtin.bitAnd v 63 == v) = true := by decide +kernel
  rw [List.all_eq_true] at hall
  have h2 := hall n (List.mem_range.mpr this)
  rw [Option.any_eq_true] at h2
  obtain ⟨v, h3, h4⟩ := h2
  rw [Bool.and_eq_true, bne_iff_ne, beq_iff_eq] at h4
  exact ⟨v, by rw [List.getElem?_map, h3]; rfl, h4⟩

noncomputable def linstL (t1 t2 t3 t4 t5 t6 t7 a3 a6 : Addr) : List Ent := [(a6, .list [.ref t1, .ref t2, .ref t3, .ref t4, .ref t5, .ref t6, .ref t7], true), (t7, .tup [.int 10 0, .int 65 0, .bool false], true), (t6, .tup [.int 98 0, .int 122 0, .bool true], true), (t5, .tup [.int 0 0, .int 255 0, .bool false], true), (t4, .tup [.int 97 0, .int 97 0, .bool true], true), (t3, .tup [.int 98 0, .int 98 0, .bool false], true), (t2, .tup [.int 97 0, .int 97 0, .bool false], true), (t1, .tup [.int 97 0, .int 98 0, .bool false], true), (a3, .list (intL kindsL), true)]
theorem pairs_at {fz : Addr → Prop} {σ0 : St} {t1 t2 t3 t4 t5 t6 t7 a3 a6 : Addr} (H : Own fz σ0 σ (linstL t1 t2 t3 t4 t5 t6 t7 a3 a6)) {k : Int} (h : 0 ≤ k ∧ k < 7) : ∃ t lo hi fo, [Value.ref t1, .ref t2, .ref t3, .ref t4, .ref t5, .ref t6, .ref t7][k.toNat]? = some (.ref t) ∧ (t, AO.tup [.int lo 0, .int hi 0, .bool fo], true) ∈ linstL t1 t2 t3 t4 t5 t6 t7 a3 a6 ∧ 0 ≤ lo ∧ lo ≤ hi ∧ hi ≤ 255 := by
  have := lt7 (i := k.toNat) (by kspl_open wln)
  rcases this with e | e | e | e | e | e | e <;> rw [e]
  · exact ⟨t1, 97, 98, false, rfl, .tail _ (.tail _ (.tail _ (.tail _ (.tail _ (.tail _ (.tail _ (.head _))))))), by decide⟩
  · exact ⟨t2, 97, 97, false, rfl, .tail _ (.tail _ (.tail _ (.tail _ (.tail _ (.tail _ (.head _)))))), by decide⟩
  · exact ⟨t3, 98, 98, false, rfl, .tail _ (.tail _ (.tail _ (.tail _ (.tail _ (.head _))))), by decide⟩
  · exact ⟨t4, 97, 97, true, rfl, .tail _ (.tail _ (.tail _ (.tail _ (.head _)))), by decide⟩
  · exact ⟨t5, 0, 255, false, rfl, .tail _ (.tail _ (.tail _ (.head _))), by decide⟩
  · exact ⟨t6, 98, 122, true, rfl, .tail _ (.tail _ (.head _)), by decide⟩
  · exact ⟨t7, 10, 65, false, rfl, .tail _ (.head _), by decide⟩
noncomputable def P_linst (many : Int) : Value → List Ent → Prop := fun v L => (Ey3 fun x d i => Ay3 (v = .ref x) (L = instE x d i) (LIok many i))
set_option maxHeartbeats 1000000 in
theorem linst2 {σ0 σ : St} {c : Cx} {n : Nat} {fz : Addr → Prop} {number many cell : Int} {env : Env} {t1 t2 t3 t4 t5 t6 t7 a3 a6 : Addr} (hm : 0 < many) (H : Own fz σ0 σ (linstL t1 t2 t3 t4 t5 t6 t7 a3 a6)) (rest : List Stmt) (hr : rest = (bodyOf (fdo 235 c.w.params)).drop 4) :
    SS (⟨c, n + 2, fz, env, ["INST_ALT", "INST_RANGE", "INST_CAPTURE", "INST_EMPTY", "INST_MATCH", "INST_NOP", "INST_FAIL", "_law_digits", "Inst"], []⟩ : Fx) ([("number", some (.int number 0)), ("many", some (.int many 0)), ("cell", some (.int cell 0)), ("_law_kinds", some (.ref a3)), ("_law_pairs", some (.ref a6)), ("_law_asked", none), ("kind", none), ("out", none), ("arg", none), ("pair", none), ("group", none), ("bits", none), ("told", none), ("op", none)] : Loc) σ rest (RQ (Ret fz σ0 (P_linst many))) := by
  subst hr
  have hm0 : many ≠ 0 := by kspl_open wln
  have hpa := fun k h => pairs_at H (k := k) h
  conv => arg 4; whnf
  unfold linstL at H
  refine SS.cons ?_
  refine S1.name ?_
  refine WV.newL (vs := intL askedL) ?hh H (fun a7 σ H => ?_) (by kspl_open wle) (by rfl)
  case hh => exact (.cons PE.int (.cons PE.int (.cons PE.int (.cons PE.int (.cons PE.int (.cons PE.int (.cons PE.int (.cons PE.int (.cons PE.int (.cons PE.int .nil))))))))))
  refine ⟨_, (by kspl_open wset), ?_⟩
  refine SS.cons ?_
  refine S1.tupV ?_
  refine WV.callOW (σ0 := σ0) (PE.globR (by kspl_open wmem) g__law_digits) (fun P => by kernel_rfl) ?_
  refine WLs.cons ?_
  refine WV.pe (by kspl_open wpe) ?_
  refine WLs.cons ?_
  refine WV.newL (vs := intL [14, 12, 12, 7, 4, 10, 3]) ?hh H (fun a8 σ H => ?_) (by kspl_open wle) (by rfl)
  case hh => exact (.cons PE.int (.cons PE.int (.cons PE.int (.cons PE.int (.cons PE.int (.cons PE.int (.cons PE.int .nil)))))))
  refine WLs.nil ⟨_, _, H, wc_digits (bs := [14, 12, 12, 7, 4, 10, 3]) (H.get a8 _ true (List.mem_cons_self ..)) (by decide) (by decide) H.fzs, ?_⟩
  rintro v σ L' ⟨a9, rfl, rfl⟩ H
  dsimp only [List.cons_append, List.nil_append] at H
  obtain ⟨kind, out, arg, pair, group, bits, told, hd, b1, b2, b3, b4, b5, b6, b7⟩ : ∃ kind out arg pair group bits told, digits cell [14, 12, 12, 7, 4, 10, 3] = [kind, out, arg, pair, group, bits, told] ∧ (0 ≤ kind ∧ kind < 14) ∧ (0 ≤ out ∧ out < 12) ∧ (0 ≤ arg ∧ arg < 12) ∧ (0 ≤ pair ∧ pair < 7) ∧ (0 ≤ group ∧ group < 4) ∧ (0 ≤ bits ∧ bits < 10) ∧ (0 ≤ told ∧ told < 3) :=
    ⟨_, _, _, _, _, _, _, rfl, ⟨Int.fmod_nonneg_of_pos _ (by decide), Int.fmod_lt_of_pos _ (by decide)⟩, ⟨Int.fmod_nonneg_of_pos _ (by decide), Int.fmod_lt_of_pos _ (by decide)⟩, ⟨Int.fmod_nonneg_of_pos _ (by decide), Int.fmod_lt_of_pos _ (by decide)⟩, ⟨Int.fmod_nonneg_of_pos _ (by decide), Int.fmod_lt_of_pos _ (by decide)⟩, ⟨Int.fmod_nonneg_of_pos _ (by decide), Int.fmod_lt_of_pos _ (by decide)⟩, ⟨Int.fmod_nonneg_of_pos _ (by decide), Int.fmod_lt_of_pos _ (by decide)⟩, ⟨Int.fmod_nonneg_of_pos _ (by decide), Int.fmod_lt_of_pos _ (by decide)⟩⟩
  rw [hd] at H
  refine WA.tupL (ρ' := ([("number", some (.int number 0)), ("many", some (.int many 0)), ("cell", some (.int cell 0)), ("_law_kinds", some (.ref a3)), ("_law_pairs", some (.ref a6)), ("_law_asked", some (.ref a7)), ("kind", some (.int kind 0)), ("out", some (.int out 0)), ("arg", some (.int arg 0)), ("pair", some (.int pair 0)), ("group", some (.int group 0)), ("bits", some (.int bits 0)), ("told", some (.int told 0)), ("op", none)] : Loc)) (vs := [.int kind 0, .int out 0, .int arg 0, .int pair 0, .int group 0, .int bits 0, .int told 0]) (ns := ["kind", "out", "arg", "pair", "group", "bits", "told"]) (H.get a9 _ true (List.mem_cons_self ..)) ?hn ?hs ?q
  case hn => exact .cons _ _ (.cons _ _ (.cons _ _ (.cons _ _ (.cons _ _ (.cons _ _ (.cons _ _ .nil))))))
  case hs => exact (by kspl_open wsta)
  obtain ⟨op, hop, o1, o2⟩ := kinds_at b1
  have out1 : 0 ≤ (number + 1 + out).fmod many ∧ (number + 1 + out).fmod many < many := ⟨Int.fmod_nonneg_of_pos _ hm, Int.fmod_lt_of_pos _ hm⟩
  have arg1 : 0 ≤ (number + 2 + arg).fmod many ∧ (number + 2 + arg).fmod many < many := ⟨Int.fmod_nonneg_of_pos _ hm, Int.fmod_lt_of_pos _ hm⟩
  refine SS.cons ?_
  refine S1.tupO (σ0 := σ0) (ns := ["op", "out"]) (.cons _ _ (.cons _ _ .nil)) ?_
  refine WLs.cons ?_
  refine WV.pe (PE.item (by kspl_open wpe) (by kspl_open wpe) (Itm.list (H.get a3 _ _ (by kspl_open wmem)) b1.1 hop)) ?_
  refine WLs.cons ?_
  refine WV.pe (PE.bin (PE.bin (by kspl_open wpe) (by kspl_open wpe) Bin.add) (by kspl_open wpe) (Bin.mod hm0)) ?_
  refine WLs.nil ⟨_, ([("number", some (.int number 0)), ("many", some (.int many 0)), ("cell", some (.int cell 0)), ("_law_kinds", some (.ref a3)), ("_law_pairs", some (.ref a6)), ("_law_asked", some (.ref a7)), ("kind", some (.int kind 0)), ("out", some (.int ((number + 1 + out).fmod many) 0)), ("arg", some (.int arg 0)), ("pair", some (.int pair 0)), ("group", some (.int group 0)), ("bits", some (.int bits 0)), ("told", some (.int told 0)), ("op", some (.int op 0))] : Loc), H, ?_, ?_, fun σ H => ?_⟩
  · exact (by kspl_open wsta)
  · exact (by kspl_open wstr)
  refine SS.cons (S1.ite (by kspl_open wpt) (fun h0 => ?_) (fun h0 => ?_))
  · have h0 : op = 0 := by first | exact of_decide_eq_true h0 | exact eq_of_beq h0 | exact ne_of_beq_false h0 | exact of_decide_eq_false h0 | exact beq_iff_eq.mpr h0 | exact beq_false_of_ne h0 | simpa using h0
    refine SS.cons (S1.ret (WV.callO (PE.globR (by kspl_open wmem) g_Inst) k_Inst (.cons (by kspl_open wpe) (.cons (by kspl_open wpe) (.cons (PE.bin (PE.bin (by kspl_open wpe) (by kspl_open wpe) Bin.add) (by kspl_open wpe) (Bin.mod hm0)) .nil))) H (wc_inst3 H.fzs) ?_))
    rintro v σ L' ⟨x, d, rfl, rfl⟩ H
    exact ⟨_, H.sub (List.sublist_append_left _ _), x, d, _, rfl, rfl, rfl, ⟨o1, o2⟩, by first | (rw [h0]; rfl) | simp [instBad, h0], out1, fun _ => arg1, fun h => by dsimp only at h; kspl_open wln⟩
  refine SS.nil ?_
  refine SS.cons (S1.ite (by kspl_open wpt) (fun h1 => ?_) (fun h1 => ?_))
  · have h1 : op = 1 := by first | exact of_decide_eq_true h1 | exact eq_of_beq h1 | exact ne_of_beq_false h1 | exact of_decide_eq_false h1 | exact beq_iff_eq.mpr h1 | exact beq_false_of_ne h1 | simpa using h1
    obtain ⟨t, lo, hi, fo, q1, q2, q3, q4, q5⟩ := hpa pair b4
    have ht := H.get t (.tup [.int lo 0, .int hi 0, .bool fo]) true (by unfold linstL at q2; exact List.mem_cons_of_mem _ (List.mem_cons_of_mem _ (List.mem_cons_of_mem _ q2)))
    have hpx := Itm.list (f := (⟨c, n + 2, fz, env, ["INST_ALT", "INST_RANGE", "INST_CAPTURE", "INST_EMPTY", "INST_MATCH", "INST_NOP", "INST_FAIL", "_law_digits", "Inst"], []⟩ : Fx)) (ρ := ([("number", some (.int number 0)), ("many", some (.int many 0)), ("cell", some (.int cell 0)), ("_law_kinds", some (.ref a3)), ("_law_pairs", some (.ref a6)), ("_law_asked", some (.ref a7)), ("kind", some (.int kind 0)), ("out", some (.int ((number + 1 + out).fmod many) 0)), ("arg", some (.int arg 0)), ("pair", some (.int pair 0)), ("group", some (.int group 0)), ("bits", some (.int bits 0)), ("told", some (.int told 0)), ("op", some (.int op 0))] : Loc)) (H.get a6 _ _ (by kspl_open wmem)) b4.1 q1
    refine SS.cons (S1.ret (WV.callO (PE.globR (by kspl_open wmem) g_Inst) k_Inst (.cons (by kspl_open wpe) (.cons (by kspl_open wpe) (.cons (by kspl_open wpe) (.cons (PE.item (PE.item (by kspl_open wpe) (by kspl_open wpe) hpx) PE.int (Itm.tup (i := 0) ht rfl)) (.cons (PE.item (PE.item (by kspl_open wpe) (by kspl_open wpe) hpx) PE.int (Itm.tup (i := 1) ht rfl)) (.cons (PE.item (PE.item (by kspl_open wpe) (by kspl_open wpe) hpx) PE.int (Itm.tup (i := 2) ht rfl)) .nil)))))) H (wc_inst6 H.fzs) ?_))
    rintro v σ L' ⟨x, d, rfl, rfl⟩ H
    refine ⟨_, H.sub (List.sublist_append_left _ _), x, d, _, rfl, rfl, rfl, ⟨o1, o2⟩, ?_, out1, fun h => by dsimp only at h; kspl_open wln, fun h => by dsimp only at h ⊢; kspl_open wln⟩
    simp [instBad, h1]; kspl_open wln
  refine SS.nil ?_
  refine SS.cons (S1.ite (by kspl_open wpt) (fun h2 => ?_) (fun h2 => ?_))
  · have h2 : op = 2 := by first | exact of_decide_eq_true h2 | exact eq_of_beq h2 | exact ne_of_beq_false h2 | exact of_decide_eq_false h2 | exact beq_iff_eq.mpr h2 | exact beq_false_of_ne h2 | simpa using h2
    refine SS.cons (S1.ret (WV.callO (PE.globR (by kspl_open wmem) g_Inst) k_Inst (by kspl_open wpes) H (wc_inst3 H.fzs) ?_))
    rintro v σ L' ⟨x, d, rfl, rfl⟩ H
    refine ⟨_, H.sub (List.sublist_append_left _ _), x, d, _, rfl, rfl, rfl, ⟨o1, o2⟩, ?_, out1, fun h => by dsimp only at h; kspl_open wln, fun h => by dsimp only at h ⊢; kspl_open wln⟩
    simp [instBad, h2]; kspl_open wln
  refine SS.nil ?_
  refine SS.cons (S1.ite (by kspl_open wpt) (fun h3 => ?_) (fun h3 => ?_))
  · have h3 : op = 3 := by first | exact of_decide_eq_true h3 | exact eq_of_beq h3 | exact ne_of_beq_false h3 | exact of_decide_eq_false h3 | exact beq_iff_eq.mpr h3 | exact beq_false_of_ne h3 | simpa using h3
    obtain ⟨w, w1, w2, w3⟩ := asked_at b6
    refine SS.cons (S1.ret (WV.callO (PE.globR (by kspl_open wmem) g_Inst) k_Inst (.cons (by kspl_open wpe) (.cons (by kspl_open wpe) (.cons (PE.item (by kspl_open wpe) (by kspl_open wpe) (Itm.list (H.get a7 _ _ (by kspl_open wmem)) b6.1 w1)) .nil))) H (wc_inst3 H.fzs) ?_))
    rintro v σ L' ⟨x, d, rfl, rfl⟩ H
    refine ⟨_, H.sub (List.sublist_append_left _ _), x, d, _, rfl, rfl, rfl, ⟨o1, o2⟩, ?_, out1, fun h => by dsimp only at h; kspl_open wln, fun h => by dsimp only at h ⊢; kspl_open wln⟩
    simp [instBad, h3, w2, w3]
  refine SS.nil ?_
  refine SS.cons (S1.ite (by kspl_open wpt) (fun h5 => ?_) (fun h5 => ?_))
  · have h5 : op = 5 := by first | exact of_decide_eq_true h5 | exact eq_of_beq h5 | exact ne_of_beq_false h5 | exact of_decide_eq_false h5 | exact beq_iff_eq.mpr h5 | exact beq_false_of_ne h5 | simpa using h5
    refine SS.cons (S1.ret (WV.callO (PE.globR (by kspl_open wmem) g_Inst) k_Inst (by kspl_open wpes) H (wc_inst2 H.fzs) ?_))
    rintro v σ L' ⟨x, d, rfl, rfl⟩ H
    refine ⟨_, H.sub (List.sublist_append_left _ _), x, d, _, rfl, rfl, rfl, ⟨o1, o2⟩, ?_, out1, fun h => by dsimp only at h; kspl_open wln, fun h => by dsimp only at h ⊢; kspl_open wln⟩
    first | (rw [h5]; rfl) | simp [instBad, h5]
  refine SS.nil ?_
  have h0 : op ≠ 0 := by first | exact of_decide_eq_true h0 | exact eq_of_beq h0 | exact ne_of_beq_false h0 | exact of_decide_eq_false h0 | exact beq_iff_eq.mpr h0 | exact beq_false_of_ne h0 | simpa using h0
  have h1 : op ≠ 1 := by first | exact of_decide_eq_true h1 | exact eq_of_beq h1 | exact ne_of_beq_false h1 | exact of_decide_eq_false h1 | exact beq_iff_eq.mpr h1 | exact beq_false_of_ne h1 | simpa using h1
  have h2 : op ≠ 2 := by first | exact of_decide_eq_true h2 | exact eq_of_beq h2 | exact ne_of_beq_false h2 | exact of_decide_eq_false h2 | exact beq_iff_eq.mpr h2 | exact beq_false_of_ne h2 | simpa using h2
  have h3 : op ≠ 3 := by first | exact of_decide_eq_true h3 | exact eq_of_beq h3 | exact ne_of_beq_false h3 | exact of_decide_eq_false h3 | exact beq_iff_eq.mpr h3 | exact beq_false_of_ne h3 | simpa using h3
  refine SS.cons (S1.ret (WV.callO (PE.globR (by kspl_open wmem) g_Inst) k_Inst (.cons (by kspl_open wpe) (.cons (by kspl_open wpe) (.cons (PE.iteI (by kspl_open wpt) (by kspl_open wpe) (by kspl_open wpe)) .nil))) H (wc_inst3 H.fzs) ?_))
  rintro v σ L' ⟨x, d, rfl, rfl⟩ H
  refine ⟨_, H.sub (List.sublist_append_left _ _), x, d, _, rfl, rfl, rfl, ⟨o1, o2⟩, ?_, ⟨Int.le_refl _, hm⟩, fun h => absurd h h0, fun h => by dsimp only; split <;> lia⟩
  simp [instBad, h1, h2, h3]
  intro _
  split <;> lia
set_option maxHeartbeats 1000000 in
theorem wc_linst {σ0 : St} {c : Cx} {n : Nat} {fz : Addr → Prop} {number many cell : Int} (hm : 0 < many) (hfz : ∀ a, fz a → σ0 a ≠ none) :
    WC c (n + 3) fz σ0 (.ref 235) [.int number 0, .int many 0, .int cell 0] (Ret fz σ0 (P_linst many)) := by
  refine WC.fnO (ρ := [("number", some (.int number 0)), ("many", some (.int many 0)), ("cell", some (.int cell 0)), ("_law_kinds", none), ("_law_pairs", none), ("_law_asked", none), ("kind", none), ("out", none), ("arg", none), ("pair", none), ("group", none), ("bits", none), ("told", none), ("op", none)]) (gl := ["INST_ALT", "INST_RANGE", "INST_CAPTURE", "INST_EMPTY", "INST_MATCH", "INST_NOP", "INST_FAIL", "_law_digits", "Inst"]) (cl := []) (pa := [("number", .int number 0), ("many", .int many 0), ("cell", .int cell 0)]) (rest := ["_law_kinds", "_law_pairs", "_law_asked", "kind", "out", "arg", "pair", "group", "bits", "told", "op"]) rfl (.of fun P => by kernel_rfl) (fun P => by kernel_rfl) (hb3 fun P u v w => by kernel_rfl) fun env => ?_
  have H : Own fz σ0 σ0 [] := Own.start hfz
  have hm0 : many ≠ 0 := by kspl_open wln
  conv => arg 4; whnf
  refine SS.cons (S1.name (WV.newL (by kspl_open wpes) H fun a1 σ H => ⟨_, (by kspl_open wset), ?_⟩))
  refine SS.cons (S1.name (WV.addLO (σ0 := σ0) (by kspl_open wpe) (WV.newL (by kspl_open wpes) H fun a2 σ H => ⟨a2, _, _, rfl, H, (by kspl_open wmem), ⟨_, (by kspl_open wmem)⟩, (by kspl_open wle), fun a3 σ H => ?_⟩)))
  refine ⟨_, (by kspl_open wset), ?_⟩
  replace H := H.sub (.cons_cons _ (.cons _ (.cons _ (.refl _))))
  refine SS.cons ?_
  refine S1.name ?_
  refine WV.list ?_
  refine WLs.cons ?_
  refine WV.newT (.cons PE.int (.cons PE.int (.cons PE.bool .nil))) H fun t1 σ H => ?_
  refine WLs.cons ?_
  refine WV.newT (.cons PE.int (.cons PE.int (.cons PE.bool .nil))) H fun t2 σ H => ?_
  refine WLs.cons ?_
  refine WV.newT (.cons PE.int (.cons PE.int (.cons PE.bool .nil))) H fun t3 σ H => ?_
  refine WLs.cons ?_
  refine WV.newT (.cons PE.int (.cons PE.int (.cons PE.bool .nil))) H fun t4 σ H => ?_
  refine WLs.cons ?_
  refine WV.newT (.cons PE.int (.cons PE.int (.cons PE.bool .nil))) H fun t5 σ H => ?_
  refine WLs.cons ?_
  refine WV.newT (.cons PE.int (.cons PE.int (.cons PE.bool .nil))) H fun t6 σ H => ?_
  refine WLs.nil ⟨(by kspl_open wle), fun a4 ha4 => ?_⟩
  refine ⟨_, (by kspl_open wset), ?_⟩
  have H2 := H.alloc (o := .list [.ref t1, .ref t2, .ref t3, .ref t4, .ref t5, .ref t6]) ha4
  generalize St.set _ _ _ = σ at H2
  clear H
  have H := H2
  refine SS.cons ?_
  refine S1.name ?_
  refine WV.addLO (σ0 := σ0) (xs := [.ref t1, .ref t2, .ref t3, .ref t4, .ref t5, .ref t6]) (w := true) (by kspl_open wpe) ?_
  refine WV.list ?_
  refine WLs.cons ?_
  refine WV.newT (.cons PE.int (.cons PE.int (.cons PE.bool .nil))) H fun t7 σ H => ?_
  refine WLs.nil ⟨(by kspl_open wle), fun a5 ha5 => ?_⟩
  refine ⟨a5, _, _, rfl, H.alloc ha5, (by kspl_open wmem), ⟨_, List.mem_cons_self ..⟩, (by kspl_open wle), fun a6 σ H => ?_⟩
  refine ⟨_, (by kspl_open wset), ?_⟩
  have H' : Own fz σ0 σ (linstL t1 t2 t3 t4 t5 t6 t7 a3 a6) := H.sub (.cons_cons _ (.cons _ (.cons_cons _ (.cons _ (.cons_cons _ (.cons_cons _ (.cons_cons _ (.cons_cons _ (.cons_cons _ (.cons_cons _ (.cons_cons _ (.refl _))))))))))))
  refine linst2 hm H' _ ?_
  conv => rhs; whnf
end
section
variable {f : Fx} {ρ : Loc} {σ : St}


noncomputable abbrev figS : Str := "0123456789abcdef"
theorem g_PROGRAM_FIGURES (P : Params) : nsIn (KK P) mainGlobals "PROGRAM_FIGURES" = some (some (.str figS 217)) := by kernel_rfl
theorem fig_at {k : Int} (h : 0 ≤ k ∧ k < 16) : ∃ c, figS.cps[k.toNat]? = some c ∧ Sm 1 ⟨#[c]⟩ := by
  have : k.toNat < 16 := by kspl_open wln
  generalize k.toNat = n at this
  have hall : (List.range 16).all (fun n => (figS.cps[n]?).any fun c => c != 10) = true := by decide +kernel
  rw [List.all_eq_true] at hall
  have h2 := hall n (List.mem_range.mpr this)
  rw [Option.any_eq_true] at h2
  obtain ⟨c, h3, h4⟩ := h2
  exact ⟨c, h3, by unfold NL; simpa using Ne.symm (by first | exact of_decide_eq_true h4 | exact eq_of_beq h4 | exact ne_of_beq_false h4 | exact of_decide_eq_false h4 | exact beq_iff_eq.mpr h4 | exact beq_false_of_ne h4 | simpa using h4), Nat.le_refl _⟩
theorem fig_len : figS.length = 16 := by decide +kernel
noncomputable def P_octet : Value → List Ent → Prop := fun v L => (Ey1 fun x => Ay3 (v = .str x 0) (Sm 2 x) (L = []))
theorem wc_octet {σ0 : St} {c : Cx} {n : Nat} {fz : Addr → Prop} {k : Int} (hk : 0 ≤ k ∧ k ≤ 255) (hfz : ∀ a, fz a → σ0 a ≠ none) :
    WC c (n + 1) fz σ0 (.ref 125) [.int k 0] (Ret fz σ0 P_octet) := by
  refine WC.fnO (ρ := [("octet", some (.int k 0))]) (gl := ["PROGRAM_FIGURES"]) (cl := []) (pa := [("octet", .int k 0)]) (rest := []) rfl (.of fun P => by kernel_rfl) (fun P => by kernel_rfl) (hb1 fun P u => by kernel_rfl) fun env => ?_
  have H : Own fz σ0 σ0 [] := Own.start hfz
  conv => arg 4; whnf
  have d1 : 0 ≤ k.fdiv 16 ∧ k.fdiv 16 < 16 := by rw [Int.fdiv_eq_ediv_of_nonneg _ (by decide)]; kspl_open wln
  have d2 : 0 ≤ k.fmod 16 ∧ k.fmod 16 < 16 := ⟨Int.fmod_nonneg_of_pos _ (by decide), Int.fmod_lt_of_pos _ (by decide)⟩
  obtain ⟨c1, q1, s1⟩ := fig_at d1
  obtain ⟨c2, q2, s2⟩ := fig_at d2
  have hl := fig_len
  refine SS.cons ?_
  refine S1.ret ?_
  refine WV.pe (PE.bin (PE.item (PE.glob (by kspl_open wmem) g_PROGRAM_FIGURES rfl) (by kspl_open wpe) (Itm.str d1.1 ?_ ?_ q1)) (PE.item (PE.glob (by kspl_open wmem) g_PROGRAM_FIGURES rfl) (by kspl_open wpe) (Itm.str d2.1 ?_ ?_ q2)) (Bin.addS ?_)) ?_
  · rw [hl]; exact d1.2
  · rw [hl]; decide
  · rw [hl]; exact d2.2
  · rw [hl]; decide
  · have := s1.2; have := s2.2; kspl_open wln
  exact ⟨_, H, _, rfl, s1.app s2, rfl⟩
noncomputable abbrev askedO : Array Value := #[.ref 15, .ref 16, .ref 17, .ref 18, .ref 19, .ref 20]
theorem l_21 (P : Params) : (KK P).lookup 21 = some (tupO askedO) := by kernel_rfl
theorem l_15 (P : Params) : (KK P).lookup 15 = some (tupO #[.int 1 201, .str "begin of a line" 219]) := by kernel_rfl
theorem l_16 (P : Params) : (KK P).lookup 16 = some (tupO #[.int 2 203, .str "end of a line" 220]) := by kernel_rfl
theorem l_17 (P : Params) : (KK P).lookup 17 = some (tupO #[.int 4 205, .str "begin of the text" 221]) := by kernel_rfl
theorem l_18 (P : Params) : (KK P).lookup 18 = some (tupO #[.int 8 207, .str "end of the text" 222]) := by kernel_rfl
theorem l_19 (P : Params) : (KK P).lookup 19 = some (tupO #[.int 16 209, .str "border of a word" 223]) := by kernel_rfl
theorem l_20 (P : Params) : (KK P).lookup 20 = some (tupO #[.int 32 211, .str "no border of a word" 224]) := by kernel_rfl
theorem Sm.dec {n : Nat} {x : Str} (h : (x.cps.toList.all (· != 10) && decide (x.length ≤ n)) = true) : Sm n x := by
  rw [Bool.and_eq_true, decide_eq_true_eq, List.all_eq_true] at h
  exact ⟨fun hm => by have := h.1 _ hm; simp at this, h.2⟩
theorem asked_row {i : Nat} {v : Value} (h : askedO[i]? = some v) : ∃ t b x k k', v = .ref t ∧ (∀ P, (KK P).lookup t = some (tupO #[.int b k, .str x k'])) ∧ Sm 20 x := by
  have hi : i < 6 := (Array.getElem?_eq_some_iff.mp h).1
  have : i = 0 ∨ i = 1 ∨ i = 2 ∨ i = 3 ∨ i = 4 ∨ i = 5 := by kspl_open wln
  rcases this with rfl | rfl | rfl | rfl | rfl | rfl <;> cases h
  · exact ⟨_, _, _, _, _, rfl, l_15, Sm.dec (by decide +kernel)⟩
  · exact ⟨_, _, _, _, _, rfl, l_16, Sm.dec (by decide +kernel)⟩
  · exact ⟨_, _, _, _, _, rfl, l_17, Sm.dec (by decide +kernel)⟩
  · exact ⟨_, _, _, _, _, rfl, l_18, Sm.dec (by decide +kernel)⟩
  · exact ⟨_, _, _, _, _, rfl, l_19, Sm.dec (by decide +kernel)⟩
  · exact ⟨_, _, _, _, _, rfl, l_20, Sm.dec (by decide +kernel)⟩
noncomputable def P_asked : Value → List Ent → Prop := fun v L => (Ey1 fun x => Ay3 (v = .str x 0) (Sm 200 x) (L = []))
theorem wc_asked {σ0 : St} {c : Cx} {n : Nat} {fz : Addr → Prop} {k : Int} (hfz : ∀ a, fz a → σ0 a ≠ none) :
    WC c (n + 1) fz σ0 (.ref 130) [.int k 0] (Ret fz σ0 P_asked) := by
  refine WC.fnO (ρ := [("bits", some (.int k 0))]) (gl := ["PROGRAM_ASKED"]) (cl := ["bits"]) (pa := [("bits", .int k 0)]) (rest := []) rfl (.of fun P => by kernel_rfl) (fun P => by kernel_rfl) (hb1 fun P u => by kernel_rfl) fun env => ?_
  have H : Own fz σ0 σ0 [] := Own.start hfz
  conv => arg 4; whnf
  refine SS.cons ?_
  refine S1.ret ?_
  refine WV.meth (WV.pe PE.str ⟨Mth.join, ?_⟩)
  refine WLs.cons ?_
  refine WV.compB (ns := ["bit", "word"]) ["bit", "word"] none [("bits", .int k 0)] [] [] (CW.of (by rfl)) (by intro q hq; simp at hq; subst hq; exact ⟨(by kspl_open wmem), (by kspl_open wmem)⟩) (PE.globR (by kspl_open wmem) g_PROGRAM_ASKED) l_21 (by decide) (.cons _ _ (.cons _ _ .nil)) (fun j ρo ys σ => σ = σ0 ∧ (∃ o1 o2, ρo = ([("bit", o1), ("word", o2)] : Loc)) ∧ ∃ xs, ys = strL xs ∧ xs.length ≤ j ∧ ∀ x ∈ xs, Sm 20 x) ⟨rfl, ⟨_, _, rfl⟩, [], rfl, Nat.le_refl _, (by kspl_open wle)⟩ ?_ ?_
  · rintro L j v ρo ys σ hv ⟨rfl, ⟨o1, o2, rfl⟩, xs, rfl, hl, hx⟩
    obtain ⟨t, b, x, k1, k2, rfl, q, hs⟩ := asked_row hv
    refine ⟨t, _, [.int b 0, .str x 0], ([("bit", some (.int b 0)), ("word", some (.str x 0))] : Loc), rfl, q, rfl, (by kspl_open wsta), WX.of_pb (tests_one (ρ := ([("bit", some (.int b 0)), ("word", some (.str x 0)), ("bits", some (.int k 0))] : Loc)) (by kspl_open wpt)) ?_⟩
    split
    · refine WV.pe (show PE _ ([("bit", some (.int b 0)), ("word", some (.str x 0)), ("bits", some (.int k 0))] : Loc) _ _ (Value.str x 0) from (by kspl_open wpe)) ⟨rfl, ⟨_, _, rfl⟩, xs ++ [x], by simp [strL], by simp; kspl_open wln, fun y hy => ?_⟩
      rcases List.mem_append.mp hy with h | h
      · exact hx y h
      · simp only [List.mem_singleton] at h; exact h ▸ hs
    · exact ⟨rfl, ⟨_, _, rfl⟩, xs, rfl, by kspl_open wln, hx⟩
  rintro ρo ys σ d ⟨rfl, -, xs, rfl, hl, hx⟩ hd
  have hl : xs.length ≤ 6 := hl
  refine WLs.nil (WC.join (St.set_same ..) (fun y hy => by have := (hx y hy).2; kspl_open wln) (by kspl_open wln) (by decide +kernel) ?_)
  have hj := len_join " and " 20 xs fun y hy => (hx y hy).2
  have h5 : (" and " : Str).length = 5 := by decide +kernel
  rw [h5] at hj
  have : xs.length * (20 + 5) ≤ 6 * 25 := Nat.mul_le_mul_right _ hl
  refine ⟨_, (H.alloc hd).sub (List.sublist_cons_self ..), _, rfl, ⟨NL.join (by unfold NL; decide +kernel) xs fun y hy => (hx y hy).1, by kspl_open wln⟩, rfl⟩
noncomputable def P_insttext : Value → List Ent → Prop := fun v L => (Ey1 fun x => Ay3 (v = .str x 0) (Sm 300 x) (L = []))
set_option maxHeartbeats 1000000 in
theorem wc_insttext {σ0 : St} {c : Cx} {n : Nat} {fz : Addr → Prop} {x : Addr} {i : In} (hI : IsI σ0 x i) (hb : instBad i = false) (ho : 0 ≤ i.op ∧ i.op ≤ 6) (hout : i.op ≠ 6 → i.op ≠ 4 → i.out.natAbs ≤ 1000) (harg : i.op = 0 ∨ i.op = 2 ∨ i.op = 4 → i.arg.natAbs ≤ 1000) (hfz : ∀ a, fz a → σ0 a ≠ none) :
    WC c (n + 2) fz σ0 (.ref 137) [.ref x] (Ret fz σ0 P_insttext) := by
  refine WC.fnO (ρ := [("inst", some (.ref x)), ("behind", none), ("octets", none)]) (gl := ["INST_ALT", "str", "INST_FAIL", "INST_MATCH", "INST_RANGE", "program_octet_text", "INST_CAPTURE", "INST_EMPTY", "program_asked_text"]) (cl := []) (pa := [("inst", .ref x)]) (rest := ["behind", "octets"]) rfl (.of fun P => by kernel_rfl) (fun P => by kernel_rfl) (hb1 fun P u => by kernel_rfl) fun env => ?_
  have H : Own fz σ0 σ0 [] := Own.start hfz
  conv => arg 4; whnf
  refine SS.cons (S1.ite (by kspl_open wpt) (fun h0 => ?_) (fun h0 => ?_))
  · have h0 : i.op = 0 := by first | exact of_decide_eq_true h0 | exact eq_of_beq h0 | exact ne_of_beq_false h0 | exact of_decide_eq_false h0 | exact beq_iff_eq.mpr h0 | exact beq_false_of_ne h0 | simpa using h0
    refine SS.cons ?_
    refine S1.ret ?_
    refine WV.ps (PS.add (PS.add (PS.add (PS.lit 7 (Sm.dec (by decide +kernel))) (PS.int (by kspl_open wmem) (by kspl_open wpe) (hout (by kspl_open wln) (by kspl_open wln)))) (PS.lit 4 (Sm.dec (by decide +kernel)))) (PS.int (by kspl_open wmem) (by kspl_open wpe) (harg (by kspl_open wln)))) fun y hs => ?_
    exact ⟨_, H, _, rfl, hs.le (by decide), rfl⟩
  refine SS.nil ?_
  refine SS.cons (S1.ite (by kspl_open wpt) (fun h6 => ?_) (fun h6 => ?_))
  · exact SS.cons (S1.ret (WV.ps (PS.lit 4 (Sm.dec (by decide +kernel))) fun y hs => ⟨_, H, _, rfl, hs.le (by decide), rfl⟩))
  refine SS.nil ?_
  refine SS.cons (S1.ite (by kspl_open wpt) (fun h4 => ?_) (fun h4 => ?_))
  · have h4 : i.op = 4 := by first | exact of_decide_eq_true h4 | exact eq_of_beq h4 | exact ne_of_beq_false h4 | exact of_decide_eq_false h4 | exact beq_iff_eq.mpr h4 | exact beq_false_of_ne h4 | simpa using h4
    refine SS.cons ?_
    refine S1.ret ?_
    refine WV.ps (PS.add (PS.lit 6 (Sm.dec (by decide +kernel))) (PS.int (by kspl_open wmem) (by kspl_open wpe) (harg (by kspl_open wln)))) fun y hs => ?_
    exact ⟨_, H, _, rfl, hs.le (by decide), rfl⟩
  refine SS.nil ?_
  have h6 : i.op ≠ 6 := by first | exact of_decide_eq_true h6 | exact eq_of_beq h6 | exact ne_of_beq_false h6 | exact of_decide_eq_false h6 | exact beq_iff_eq.mpr h6 | exact beq_false_of_ne h6 | simpa using h6
  have h4 : i.op ≠ 4 := by first | exact of_decide_eq_true h4 | exact eq_of_beq h4 | exact ne_of_beq_false h4 | exact of_decide_eq_false h4 | exact beq_iff_eq.mpr h4 | exact beq_false_of_ne h4 | simpa using h4
  refine SS.cons ?_
  refine S1.name ?_
  refine WV.ps (PS.add (PS.lit 5 (Sm.dec (by decide +kernel))) (PS.int (by kspl_open wmem) (by kspl_open wpe) (hout h6 h4))) fun bh hbh => ?_
  refine ⟨_, (by kspl_open wset), ?_⟩
  refine SS.cons (S1.ite (by kspl_open wpt) (fun h1 => ?_) (fun h1 => ?_))
  · have h1 : i.op = 1 := by first | exact of_decide_eq_true h1 | exact eq_of_beq h1 | exact ne_of_beq_false h1 | exact of_decide_eq_false h1 | exact beq_iff_eq.mpr h1 | exact beq_false_of_ne h1 | simpa using h1
    have hr : 0 ≤ i.low ∧ i.low ≤ i.high ∧ i.high ≤ 255 := by
      unfold instBad at hb
      simp only [Bool.or_eq_false_iff, Bool.and_eq_false_iff, Bool.not_eq_false', Bool.and_eq_true, decide_eq_true_eq] at hb
      rcases hb.1.1.1 with h | h
      · rw [h1] at h; simp at h
      · exact h
    refine SS.cons ?_
    refine S1.name ?_
    refine WV.addS (WV.addS ?_)
    refine WV.callO (PE.globR (by kspl_open wmem) g_program_octet_text) (fun P => by kernel_rfl) (by kspl_open wpes) H (wc_octet (k := i.low) ⟨hr.1, by kspl_open wln⟩ H.fzs) ?_
    rintro v σ L' ⟨x1, rfl, hs1, rfl⟩ H
    dsimp only [List.cons_append, List.nil_append] at H
    refine ⟨x1, rfl, ?_⟩
    refine WV.pe PE.str ⟨_, rfl, ?_, ?_⟩
    · have := hs1.2
      have h2 : ("-" : Str).length = 1 := by decide +kernel
      lia
    have hs2 : Sm 3 (x1 ++ "-") := hs1.app (b := 1) (Sm.dec (by decide +kernel))
    refine ⟨_, rfl, ?_⟩
    refine WV.callO (PE.globR (by kspl_open wmem) g_program_octet_text) (fun P => by kernel_rfl) (by kspl_open wpes) H (wc_octet (k := i.high) ⟨by kspl_open wln, hr.2.2⟩ H.fzs) ?_
    rintro v σ L' ⟨x2, rfl, hs3, rfl⟩ H
    dsimp only [List.cons_append, List.nil_append] at H
    refine ⟨x2, rfl, by have := hs2.2; have := hs3.2; kspl_open wln, ?_⟩
    refine ⟨_, (by kspl_open wset), ?_⟩
    have hs4 := hs2.app hs3
    refine SS.cons ?_
    refine S1.ret ?_
    refine WV.ps (PS.add (PS.add (PS.add (PS.lit 6 (Sm.dec (by decide +kernel))) (PS.name (by kspl_open wmem) hs4)) (PS.ite (by kspl_open wpt) (PS.lit 9 (Sm.dec (by decide +kernel))) (PS.lit 9 (Sm.dec (by decide +kernel))))) (PS.name (by kspl_open wmem) hbh)) fun y hs => ?_
    exact ⟨_, H, _, rfl, hs.le (by decide), rfl⟩
  refine SS.nil ?_
  refine SS.cons (S1.ite (by kspl_open wpt) (fun h2 => ?_) (fun h2 => ?_))
  · have h2 : i.op = 2 := by first | exact of_decide_eq_true h2 | exact eq_of_beq h2 | exact ne_of_beq_false h2 | exact of_decide_eq_false h2 | exact beq_iff_eq.mpr h2 | exact beq_false_of_ne h2 | simpa using h2
    refine SS.cons ?_
    refine S1.ret ?_
    refine WV.ps (PS.add (PS.add (PS.add (PS.lit 5 (Sm.dec (by decide +kernel))) (PS.int (by kspl_open wmem) (by kspl_open wpe) (harg (by kspl_open wln)))) (PS.lit 2 (Sm.dec (by decide +kernel)))) (PS.name (by kspl_open wmem) hbh)) fun y hs => ?_
    exact ⟨_, H, _, rfl, hs.le (by decide), rfl⟩
  refine SS.nil ?_
  refine SS.cons (S1.ite (by kspl_open wpt) (fun h3 => ?_) (fun h3 => ?_))
  · refine SS.cons ?_
    refine S1.ret ?_
    refine WV.addS (WV.addS (WV.addS (WV.pe PE.str ⟨_, rfl, ?_⟩)))
    refine WV.callO (PE.globR (by kspl_open wmem) g_program_asked_text) (fun P => by kernel_rfl) (by kspl_open wpes) H (wc_asked (k := i.arg) H.fzs) ?_
    rintro v σ L' ⟨x1, rfl, hs1, rfl⟩ H
    dsimp only [List.cons_append, List.nil_append] at H
    have hs0 : Sm 3 "if " := Sm.dec (by decide +kernel)
    have hs2 := hs0.app hs1
    refine ⟨x1, rfl, by have := hs0.2; have := hs1.2; kspl_open wln, _, rfl, ?_⟩
    have hs3 : Sm 2 ", " := Sm.dec (by decide +kernel)
    refine WV.pe PE.str ⟨_, rfl, by have := hs2.2; have := hs3.2; kspl_open wln, _, rfl, ?_⟩
    have hs4 := hs2.app hs3
    refine WV.pe (by kspl_open wpe) ⟨_, rfl, by have := hs4.2; have := hbh.2; kspl_open wln, ?_⟩
    exact ⟨_, H, _, rfl, (hs4.app hbh).le (by decide), rfl⟩
  refine SS.nil ?_
  exact SS.cons (S1.ret (WV.pe (by kspl_open wpe) ⟨_, H, _, rfl, hbh.le (by decide), rfl⟩))
end
section
variable {f : Fx} {ρ : Loc} {σ : St}


noncomputable abbrev txtI (i : Int) : Str := Str.ofString (toString i)
noncomputable def plusB (g : Pg) (k : Int) : Bool := match g.insts[k.toNat]? with
  | some i => g.flat && !i.last
  | none => false
noncomputable def sgn (g : Pg) (k : Int) : Str := if plusB g k then "+ " else ": "
noncomputable def sgn1 (g : Pg) (k : Int) : Str := if plusB g k then "+" else ":"
theorem sgn_eq (g : Pg) (k : Int) : sgn g k = sgn1 g k ++ " " := by
  unfold sgn sgn1
  cases plusB g k <;> decide +kernel
theorem sgn_sm (g : Pg) (k : Int) : Sm 2 (sgn g k) := by
  unfold sgn
  split <;> exact Sm.dec (by decide +kernel)
/-- the numbers of a dump, in their order -/
noncomputable def Num (g : Pg) (k : Int) (ns : List Int) : Prop := ∃ fo, QR g k fo ∧ if g.flat then ns.Perm fo ∧ ns.Pairwise (· ≤ ·) else ns = fo
theorem sorted_eq : ∀ {a b : List Int}, a.Perm b → a.Pairwise (· ≤ ·) → b.Pairwise (· ≤ ·) → a = b
  | [], b, p, _, _ => (List.Perm.nil_eq p)
  | x :: a, [], p, _, _ => absurd p.length_eq (by kspl_open wle)
  | x :: a, y :: b, p, ha, hb => by
    have h1 := List.pairwise_cons.mp ha
    have h2 := List.pairwise_cons.mp hb
    have hx : x ∈ y :: b := p.mem_iff.mp (List.mem_cons_self ..)
    have hy : y ∈ x :: a := p.mem_iff.mpr (List.mem_cons_self ..)
    have e : x = y := by
      rcases List.mem_cons.mp hx with e | hx
      · exact e
      rcases List.mem_cons.mp hy with e | hy
      · exact e.symm
      have := h1.1 y hy; have := h2.1 x hx; kspl_open wln
    subst e
    rw [sorted_eq (List.Perm.cons_inv p) h1.2 h2.2]
theorem Num.det {g : Pg} {k : Int} {a b : List Int} (h : Num g k a) (h' : Num g k b) : a = b := by
  obtain ⟨fo, q, h1⟩ := h
  obtain ⟨fo', q', h1'⟩ := h'
  have e := q.det q'
  subst e
  cases hf : g.flat with
  | true =>
    rw [hf, if_pos rfl] at h1 h1'
    exact sorted_eq (h1.1.trans h1'.1.symm) h1.2 h1'.2
  | false =>
    rw [hf, if_neg (by decide)] at h1 h1'
    rw [h1, h1']
noncomputable def Row (g : Pg) (k : Int) (x : Str) : Prop := ∃ t, x = (txtI k ++ sgn g k) ++ t ∧ Sm 400 x
structure Dump (g : Pg) (ns : List Int) (rows : List Str) : Prop where
  len : rows.length = ns.length
  row : ∀ (j : Nat) (k : Int), ns[j]? = some k → ∃ x, rows[j]? = some x ∧ Row g k x
theorem l_138 (P : Params) : (KK P).lookup 138 = some { cls := .type "tuple", data := .seq #[.bool false] } := by kernel_rfl
theorem bi_145 {P : Params} {s : Shared} (h : (KK P).In s.heap) (a b : Value) : BindsTo s (fdo 145 P) ⟨[a, b], []⟩ [(("prog" : Str), a), (("is_loose" : Str), b)] := by
  conv => arg 2; whnf
  exact BindsTo.of_defaults rfl (h _ _ (l_138 P)) rfl rfl rfl
theorem strL_app (xs : List Str) (x : Str) : strL xs ++ [.str x 0] = strL (xs ++ [x]) := by simp [strL]
noncomputable def P_dump (g : Pg) : Value → List Ent → Prop := fun v L => (Ey2 fun ns rows => Ay5 (v = .str (Str.join nlS rows) 0) (Num g g.loose ns) (ns ≠ []) (Dump g ns rows) (L = []))
set_option maxHeartbeats 1000000 in
theorem wc_dump {σ0 : St} {c : Cx} {n : Nat} {fz : Addr → Prop} {p : Addr} {g : Pg} {r : PR} (hp : IsP σ0 p g r) (hG : Good g) (hfz : ∀ a, fz a → σ0 a ≠ none) :
    WC c (n + 3) fz σ0 (.ref 145) [.ref p, .bool true] (Ret fz σ0 (P_dump g)) := by
  refine WC.fnB (ρ := [("prog", some (.ref p)), ("is_loose", some (.bool true)), ("numbers", none), ("rows", none), ("number", none), ("inst", none), ("sign", none)]) (gl := ["program_reached", "sorted", "str", "inst_text"]) (cl := []) (pa := [("prog", .ref p), ("is_loose", .bool true)]) (rest := ["numbers", "rows", "number", "inst", "sign"]) rfl (.of fun P => by kernel_rfl) (fun P => by kernel_rfl) (fun raw s e hK => ?_) fun env => ?_
  · obtain ⟨u, v, rfl, e1, e2⟩ := raw2 e
    exact ⟨_, bi_145 hK u v, by simp [e1, e2]⟩
  have H : Own fz σ0 σ0 [] := Own.start hfz
  have hS := hG.sound
  have hP := hG.parts
  have hlo : InR g g.loose := (wayOk hP.2.2.2.1).1
  have hsm := hG.small
  conv => arg 4; whnf
  refine SS.cons (S1.name (WV.callO (PE.globR (by kspl_open wmem) g_program_reached) (fun P => by kernel_rfl) (.cons (by kspl_open wpe) (.cons (PE.iteI (c := true) (PT.val (by kspl_open wpe) Tru.bool rfl) (by kspl_open wpe) (by kspl_open wpe)) .nil)) H (wc_reached hp hS hlo H.fzs) ?_))
  rintro v σ L' ⟨a, fo, rfl, rfl, hR, -, hQ⟩ H
  refine ⟨_, (by kspl_open wset), ?_⟩
  dsimp only [List.cons_append, List.nil_append] at H
  have hlen : fo.length ≤ 60 := by have := hR.cnt; kspl_open wln
  let q1p := fun (ρ1 : Loc) (L1 : List Ent) a ns => (Ay4 (ρ1 = ([("prog", some (.ref p)), ("is_loose", some (.bool true)), ("numbers", some (.ref a)), ("rows", none), ("number", none), ("inst", none), ("sign", none)] : Loc)) (L1 = ([(a, .list (intL ns), true)] : List Ent)) (Num g g.loose ns) (ns.Perm fo) : Prop)
  let J1 : Loc → List Ent → Prop := fun ρ1 L1 => Ey2 (q1p ρ1 L1)
  refine SS.cons (S1.cutO (σ0 := σ0) J1 (S1.ite (by kspl_open wpt) (fun h => ?_) (fun h => ?_)) ?_)
  · have h : g.flat = true := h
    refine SS.cons (S1.name (WV.callB (by kspl_open wpe) (WLs.pes (by kspl_open wpes) rfl (WC.sorted (H.get a _ _ (by kspl_open wmem)) (by kspl_open wln) fun b ns q1 q2 hb => ⟨_, (by kspl_open wset), ?_⟩))))
    exact SS.nil ⟨rfl, _, (H.alloc hb).sub (.cons_cons _ (.cons _ (.refl _))), b, ns, rfl, rfl, ⟨fo, hQ, by rw [h, if_pos rfl]; exact ⟨q1, q2⟩⟩, q1⟩
  · have h : g.flat = false := h
    exact SS.nil ⟨rfl, _, H, a, fo, rfl, rfl, ⟨fo, hQ, by rw [h, if_neg (by decide)]⟩, .refl _⟩
  rintro ρ1 σ L1 H ⟨a, ns, rfl, rfl, hN, hperm⟩
  have hnl : ns.length ≤ 60 := by rw [hperm.length_eq]; exact hlen
  refine SS.cons (S1.name (WV.newL .nil H fun b σ H => ⟨_, (by kspl_open wset), ?_⟩))
  refine SS.cons (S1.forO (σ0 := σ0) (WV.pe (by kspl_open wpe) ?_))
  let p1p := fun (j : Nat) (ρ2 : Loc) (L2 : List Ent) rows o1 o2 o3 => (Ay4 (ρ2 = ([("prog", some (.ref p)), ("is_loose", some (.bool true)), ("numbers", some (.ref a)), ("rows", some (.ref b)), ("number", o1), ("inst", o2), ("sign", o3)] : Loc)) (L2 = ([(b, .list (strL rows), true), (a, .list (intL ns), false)] : List Ent)) (rows.length = j) ((∀ (j' : Nat) (k : Int), j' < j → ns[j']? = some k → ∃ x, rows[j']? = some x ∧ Row g k x)) : Prop)
  let I1 : Nat → Loc → List Ent → Prop := fun j ρ2 L2 => Ey4 (p1p j ρ2 L2)
  refine ⟨_, _, a, _, rfl, Iter.list (H.get _ _ _ (by kspl_open wmem)), H.moreO (.there _ (.here _ _)), I1, ⟨[], _, _, _, rfl, rfl, rfl, fun _ _ h => absurd h (Nat.not_lt_zero _)⟩, ?_, ?_⟩
  · rintro j z ρ2 σ L2 hz H ⟨rows, o1, o2, o3, rfl, rfl, hrl, hrows⟩
    rw [List.getElem?_map] at hz
    obtain ⟨k, hk, rfl⟩ := Option.map_eq_some_iff.mp hz
    have hjl := (List.getElem?_eq_some_iff.mp hk).1
    have hkr : InR g k := hR.inr k (hperm.mem_iff.mp (List.mem_of_getElem? hk))
    obtain ⟨i, hi, -⟩ := hkr.at_
    obtain ⟨y, hy, hI⟩ := hp.ix hi
    have hk0 := hkr.1
    have hk1 := hkr.2
    refine ⟨_, (by kspl_open wset), ?_⟩
    refine SS.cons (S1.name (WV.pe (by kspl_open wpe) ⟨_, by kspl_open wset, ?_⟩))
    have hplus : plusB g k = (g.flat && !i.last) := by unfold plusB; rw [hi]
    refine SS.cons (S1.name (WV.pe (PE.ite (c := g.flat && !i.last) (by kspl_open wpt) (fun _ => PE.str) (fun _ => PE.str)) ⟨_, (by kspl_open wset), ?_⟩))
    have hsg : (if (g.flat && !i.last) = true then Value.str "+ " 0 else Value.str ": " 0) = .str (sgn g k) 0 := by unfold sgn; rw [hplus]; split <;> rfl
    rw [hsg]
    have hs2 := sgn_sm g k
    have hs1 : Sm 5 (Str.ofString (toString k)) := Sm.int (by kspl_open wln)
    have hs12 := hs1.app hs2
    refine SS.cons (S1.expr (WV.appendW (by kspl_open wpe) (List.mem_cons_self ..) H ?_))
    refine WV.addS ?_
    refine WV.pe (PE.bin (PE.strI (by kspl_open wmem) (by kspl_open wpe) (log2_small hk0 (by kspl_open wln))) (by kspl_open wpe) (Bin.addS ?_)) ⟨_, rfl, ?_⟩
    · have := hs1.2; have := hs2.2; kspl_open wln
    refine WV.callO (PE.globR (by kspl_open wmem) g_inst_text) (fun P => by kernel_rfl) (by kspl_open wpes) H (wc_insttext (hI.ext H.ext) ?_ (hG.ops _ _ hi) ?_ ?_ H.fzs) ?_
    · have := hP.2.1 i (List.mem_of_getElem? hi)
      unfold instWrong at this
      simp only [Bool.or_eq_false_iff] at this
      exact this.1.1
    · intro h6 h4
      have := (hG.way hi h4 h6).1
      have h1 := this.1; have h2 := this.2
      lia
    · intro h
      by_cases h0 : i.op = 0
      · have := (hG.way hi (by kspl_open wln) (by kspl_open wln)).2 h0
        have h1 := this.1; have h2 := this.2
        lia
      · have := hG.args _ _ hi (by kspl_open wln)
        lia
    rintro v σ L' ⟨x, rfl, hx, rfl⟩ H
    dsimp only [List.cons_append, List.nil_append] at H
    refine ⟨x, rfl, ?_, _, _, _, H, (by kspl_open wput), ?_, fun σ H => ?_⟩
    · have := hs12.2; have := hx.2; kspl_open wln
    · (first | ((repeat first | refine lmap_lt ?_ | refine lmap_le ?_); kspl_open wln) | (simp only [List.length_map]; kspl_open wln))
    rw [strL_app] at H
    refine SS.nil ⟨_, H, rows ++ [(txtI k ++ sgn g k) ++ x], _, _, _, rfl, rfl, by simp [hrl], fun j' k' hj' hk' => ?_⟩
    by_cases e : j' < j
    · obtain ⟨x', h1, h2⟩ := hrows j' k' e hk'
      exact ⟨x', by rw [List.getElem?_append_left (by kspl_open wln)]; exact h1, h2⟩
    · have e : j' = j := by kspl_open wln
      subst e
      rw [hk] at hk'
      obtain rfl := Option.some.inj hk'
      exact ⟨_, by rw [List.getElem?_append_right (by kspl_open wln)]; simp [hrl], x, rfl, (hs12.app hx).le (by decide)⟩
  rintro ρ2 σ L2 H ⟨rows, o1, o2, o3, rfl, rfl, hrl, hrows⟩
  have hrl : rows.length = ns.length := by first | exact of_decide_eq_true hrl | exact eq_of_beq hrl | exact ne_of_beq_false hrl | exact of_decide_eq_false hrl | exact beq_iff_eq.mpr hrl | exact beq_false_of_ne hrl | simpa using hrl
  have hall : ∀ x ∈ rows, Sm 400 x := by
    intro x hx
    obtain ⟨j, hj, e⟩ := List.getElem_of_mem hx
    obtain ⟨x', h1, t, -, h2⟩ := hrows j (ns[j]'(by kspl_open wln)) (by simp; kspl_open wln) (List.getElem?_eq_getElem (by kspl_open wln))
    rw [List.getElem?_eq_getElem hj, e] at h1
    exact Option.some.inj h1 ▸ h2
  refine SS.cons ?_
  refine S1.ret ?_
  refine WV.meth (WV.pe PE.str ⟨Mth.join, ?_⟩)
  refine WLs.pes (by kspl_open wpes) rfl ?_
  refine WC.join (H.get b _ _ (by kspl_open wmem)) (fun y hy => by have := (hall y hy).2; kspl_open wln) (by kspl_open wln) (by decide +kernel) ?_
  refine ⟨_, H.sub (.cons _ (.cons _ (.refl _))), ns, rows, rfl, hN, ?_, ⟨hrl, fun j k h => hrows j k (by have := (List.getElem?_eq_some_iff.mp h).1; simpa using this) h⟩, rfl⟩
  intro e
  obtain ⟨rest, e2⟩ := hR.hd
  rw [e, e2] at hperm
  have := hperm.length_eq
  simp at this
theorem app_assoc (x y z : Str) : x ++ y ++ z = x ++ (y ++ z) := by
  refine str_ext ?_
  simp [PySem.Str.cps_append]
noncomputable def P_dumped : Value → List Ent → Prop := fun v L => v = .bool true ∧ L = []
set_option maxHeartbeats 1000000 in
theorem wc_dumped {σ0 : St} {c : Cx} {n : Nat} {fz : Addr → Prop} {p : Addr} {g : Pg} {r : PR} (hp : IsP σ0 p g r) (hG : Good g) (hfz : ∀ a, fz a → σ0 a ≠ none) :
    WC c (n + 4) fz σ0 (.ref 278) [.ref p] (Ret fz σ0 P_dumped) := by
  refine WC.fnO (ρ := [("prog", some (.ref p)), ("numbers", none), ("rows", none), ("due", none), ("number", none)]) (gl := ["program_reached", "sorted", "program_dump", "str", "len", "range"]) (cl := ["rows", "due"]) (pa := [("prog", .ref p)]) (rest := ["numbers", "rows", "due", "number"]) rfl (.of fun P => by kernel_rfl) (fun P => by kernel_rfl) (hb1 fun P u => by kernel_rfl) fun env => ?_
  have H : Own fz σ0 σ0 [] := Own.start hfz
  have hS := hG.sound
  have hP := hG.parts
  have hlo : InR g g.loose := (wayOk hP.2.2.2.1).1
  have hsm := hG.small
  conv => arg 4; whnf
  refine SS.cons (S1.name (WV.callO (PE.globR (by kspl_open wmem) g_program_reached) (fun P => by kernel_rfl) (by kspl_open wpes) H (wc_reached hp hS hlo H.fzs) ?_))
  rintro v σ L' ⟨a, fo, rfl, rfl, hR, -, hQ⟩ H
  refine ⟨_, (by kspl_open wset), ?_⟩
  dsimp only [List.cons_append, List.nil_append] at H
  have hlen : fo.length ≤ 60 := by have := hR.cnt; kspl_open wln
  let q2p := fun (ρ1 : Loc) (L1 : List Ent) a ns => (Ay4 (ρ1 = ([("prog", some (.ref p)), ("numbers", some (.ref a)), ("rows", none), ("due", none), ("number", none)] : Loc)) (L1 = ([(a, .list (intL ns), true)] : List Ent)) (Num g g.loose ns) (ns.Perm fo) : Prop)
  let J2 : Loc → List Ent → Prop := fun ρ1 L1 => Ey2 (q2p ρ1 L1)
  refine SS.cons (S1.cutO (σ0 := σ0) J2 (S1.ite (by kspl_open wpt) (fun h => ?_) (fun h => ?_)) ?_)
  · have h : g.flat = true := h
    refine SS.cons (S1.name (WV.callB (by kspl_open wpe) (WLs.pes (by kspl_open wpes) rfl (WC.sorted (H.get a _ _ (by kspl_open wmem)) (by kspl_open wln) fun b ns q1 q2 hb => ⟨_, (by kspl_open wset), ?_⟩))))
    exact SS.nil ⟨rfl, _, (H.alloc hb).sub (.cons_cons _ (.cons _ (.refl _))), b, ns, rfl, rfl, ⟨fo, hQ, by rw [h, if_pos rfl]; exact ⟨q1, q2⟩⟩, q1⟩
  · have h : g.flat = false := h
    exact SS.nil ⟨rfl, _, H, a, fo, rfl, rfl, ⟨fo, hQ, by rw [h, if_neg (by decide)]⟩, .refl _⟩
  rintro ρ1 σ L1 H ⟨a, ns, rfl, rfl, hN, hperm⟩
  have hnl : ns.length ≤ 60 := by rw [hperm.length_eq]; exact hlen
  refine SS.cons ?_
  refine S1.name ?_
  refine WV.methC (b := "str.split") ?_
  refine WV.callO (PE.globR (by kspl_open wmem) g_program_dump) (fun P => by kernel_rfl) (by kspl_open wpes) H (wc_dump (hp.ext H.ext) hG H.fzs) ?_
  rintro v σ L' ⟨ns', rows, rfl, hN', hne, hD, rfl⟩ H
  dsimp only [List.cons_append, List.nil_append] at H
  obtain rfl := hN'.det hN
  have hrl := hD.len
  have hall : ∀ x ∈ rows, Sm 400 x := by
    intro x hx
    obtain ⟨j, hj, e⟩ := List.getElem_of_mem hx
    obtain ⟨x', h1, t, -, h2⟩ := hD.row j (ns'[j]'(by kspl_open wln)) (List.getElem?_eq_getElem (by kspl_open wln))
    rw [List.getElem?_eq_getElem hj, e] at h1
    exact Option.some.inj h1 ▸ h2
  have hr0 : rows ≠ [] := by rintro rfl; exact hne (List.length_eq_zero_iff.mp hrl.symm)
  refine ⟨Mth.split, WLs.pes (by kspl_open wpes) rfl (WC.split ?_ (by decide +kernel) fun b hb => ?_)⟩
  · have h1 := len_join nlS 400 rows fun x hx => (hall x hx).2
    have h2 : nlS.length = 1 := rfl
    have h3 : rows.length * (400 + nlS.length) ≤ 60 * 401 := by rw [h2]; exact Nat.mul_le_mul_right _ (by kspl_open wln)
    lia
  have hsp : Txt.split (Str.join nlS rows) "\n" = rows := split_back hr0 fun x hx => (hall x hx).1
  rw [hsp]
  refine ⟨_, (by kspl_open wset), ?_⟩
  have H2 := H.alloc (o := .list (strL rows)) hb
  generalize σ.set b _ = σ at H2
  clear H
  have H := H2
  refine SS.cons (S1.name (WV.newL .nil H fun d σ H => ⟨_, (by kspl_open wset), ?_⟩))
  refine SS.cons (S1.forO (σ0 := σ0) (WV.pe (by kspl_open wpe) ?_))
  let p2p := fun (j : Nat) (ρ2 : Loc) (L2 : List Ent) o1 => (Ay2 (ρ2 = ([("prog", some (.ref p)), ("numbers", some (.ref a)), ("rows", some (.ref b)), ("due", some (.ref d)), ("number", o1)] : Loc)) (L2 = ([(d, .list (strL ((ns'.take j).map fun k => txtI k ++ sgn1 g k)), true), (b, .list (strL rows), true), (a, .list (intL ns'), false)] : List Ent)) : Prop)
  let I2 : Nat → Loc → List Ent → Prop := fun j ρ2 L2 => Ey1 (p2p j ρ2 L2)
  refine ⟨_, _, a, _, rfl, Iter.list (H.get _ _ _ (by kspl_open wmem)), H.moreO (.there _ (.there _ (.here _ _))), I2, ⟨_, rfl, rfl⟩, ?_, ?_⟩
  · rintro j z ρ2 σ L2 hz H ⟨o1, rfl, rfl⟩
    rw [List.getElem?_map] at hz
    obtain ⟨k, hk, rfl⟩ := Option.map_eq_some_iff.mp hz
    have hkr : InR g k := hR.inr k (hperm.mem_iff.mp (List.mem_of_getElem? hk))
    obtain ⟨i, hi, -⟩ := hkr.at_
    obtain ⟨y, hy, hI⟩ := hp.ix hi
    have hk0 := hkr.1
    have hk1 := hkr.2
    refine ⟨_, (by kspl_open wset), ?_⟩
    have hplus : plusB g k = (g.flat && !i.last) := by unfold plusB; rw [hi]
    have hsg : (if (g.flat && !i.last) = true then Value.str "+" 0 else Value.str ":" 0) = .str (sgn1 g k) 0 := by unfold sgn1; rw [hplus]; split <;> rfl
    have hs1 : Sm 5 (Str.ofString (toString k)) := Sm.int (by kspl_open wln)
    have hs2 : (sgn1 g k).length ≤ 1 := by unfold sgn1; split <;> decide +kernel
    refine SS.cons (S1.expr (WV.appendO (by kspl_open wpe) (PE.bin (PE.strI (by kspl_open wmem) (by kspl_open wpe) (log2_small hk0 (by kspl_open wln))) (hsg ▸ PE.ite (c := g.flat && !i.last) (by kspl_open wpt) (fun _ => PE.str) (fun _ => PE.str)) (Bin.addS ?_)) H (by kspl_open wput) ?_ fun σ H => ?_))
    · have := hs1.2; kspl_open wln
    · simp only [List.length_map]; have := List.length_take_le' j ns'; kspl_open wln
    rw [strL_app] at H
    refine SS.nil ⟨_, H, _, rfl, ?_⟩
    rw [take_succ_of hk, List.map_append]; rfl
  rintro ρ2 σ L2 H ⟨o1, rfl, rfl⟩
  rw [List.length_map, List.take_of_length_le (Nat.le_refl _)] at H
  refine SS.cons ?_
  refine S1.ret ?_
  refine WV.and ?_
  refine WV.pe (PE.cmp (c := true) (by kspl_open wpe) (by kspl_open wpe) ?_) ⟨true, rfl, ?_⟩
  · have := Cmp.eqI (f := (⟨c, n + 3, fz, env, ["program_reached", "sorted", "program_dump", "str", "len", "range"], ["rows", "due"]⟩ : Fx)) (ρ := ([("prog", some (.ref p)), ("numbers", some (.ref a)), ("rows", some (.ref b)), ("due", some (.ref d)), ("number", o1)] : Loc)) (σ := σ) (i := ((strL rows).length : Int)) (j := ((strL (ns'.map fun k => txtI k ++ sgn1 g k)).length : Int))
    simpa [hrl] using this
  rw [if_pos rfl]
  refine WV.and1 ?_
  refine WV.cmpW ?_
  refine WV.compW ["at"] none [("due", .ref d), ("rows", .ref b)] [] [] (CW.of (by rfl)) (by intro q hq; simp at hq; rcases hq with rfl | rfl <;> exact ⟨(by kspl_open wmem), (by kspl_open wmem)⟩) ?_
  refine WV.callT (by kspl_open wpe) (WLs.pes (.cons (by kspl_open wpe) .nil) rfl (WC.range1 ?_ ?_ fun r1 hr1 => ?_))
  · (first | ((repeat first | refine lmap_lt ?_ | refine lmap_le ?_); kspl_open wln) | (simp only [List.length_map]; kspl_open wln))
  · (first | ((repeat first | refine lmap_lt ?_ | refine lmap_le ?_); kspl_open wln) | (simp only [List.length_map]; kspl_open wln))
  refine ⟨r1, _, _, rfl, Iter.rng (St.set_same ..), by simp [upto]; kspl_open wln, fun j ρo ys σi => ∃ o, ρo = ([("at", o)] : Loc) ∧ ys = [] ∧ Own (fun b => fz b ∨ False) σ0 σi ([(d, .list (strL (ns'.map fun k => txtI k ++ sgn1 g k)), true), (b, .list (strL rows), true), (a, .list (intL ns'), false)] : List Ent), ⟨none, rfl, rfl, Own.moreN ((H.alloc hr1).sub (List.sublist_cons_self ..))⟩, ?_, ?_⟩
  · rintro L j v ρo ys σ hv ⟨o, rfl, rfl, H⟩
    have hj : j < ns'.length := by
      have := (List.getElem?_eq_some_iff.mp hv).1
      simpa [upto] using this
    have hve : v = .int (j : Int) 0 := by
      obtain ⟨h1, h2⟩ := List.getElem?_eq_some_iff.mp hv
      simp [upto] at h2; exact h2.symm
    subst hve
    obtain ⟨k, hk⟩ : ∃ k, ns'[j]? = some k := ⟨_, List.getElem?_eq_getElem hj⟩
    obtain ⟨x, hx, t, hxe, -⟩ := hD.row j k hk
    have hx1 : (strL rows)[((j : Nat) : Int).toNat]? = some (.str x 0) := by rw [Int.toNat_natCast, List.getElem?_map, hx]; rfl
    have hy1 : (strL (ns'.map fun k => txtI k ++ sgn1 g k))[((j : Nat) : Int).toNat]? = some (.str (txtI k ++ sgn1 g k) 0) := by rw [Int.toNat_natCast, List.getElem?_map, List.getElem?_map, hk]; rfl
    have hst : Txt.startswith x (txtI k ++ sgn1 g k) = true := by
      rw [hxe, sgn_eq, ← app_assoc, app_assoc]; exact starts_app _ _
    refine ⟨([("at", some (.int (j : Int) 0))] : Loc), (by kspl_open wset), tests_oneW ?_⟩
    show WT _ ([("at", some (.int (j : Int) 0)), ("due", some (.ref d)), ("rows", some (.ref b))] : Loc) σ _ _
    refine WT.not ?_
    refine WT.val ?_
    refine WV.meth (WV.pe (PE.item (by kspl_open wpe) (by kspl_open wpe) (Itm.list (H.get b _ _ (by kspl_open wmem)) (Int.natCast_nonneg j) hx1)) ⟨Mth.starts, ?_⟩)
    refine WLs.pes (.cons (PE.item (by kspl_open wpe) (by kspl_open wpe) (Itm.list (H.get d _ _ (by kspl_open wmem)) (Int.natCast_nonneg j) hy1)) .nil) rfl (WC.starts ?_)
    rw [hst]
    refine ⟨true, Tru.bool, ?_⟩
    rw [if_neg (by decide)]
    exact ⟨_, rfl, rfl, H⟩
  rintro ρo ys σ e ⟨o, rfl, rfl, H⟩ he
  have H2 := H.less.alloc (o := .list []) he
  generalize σ.set e _ = σ at H2
  clear H
  have H := H2
  refine WV.newL .nil H fun e2 σ H => ⟨_, Cmp.eqN (H.get e _ _ (by kspl_open wmem)) (H.get e2 _ _ (by kspl_open wmem)), ?_⟩
  exact ⟨_, H.sub (List.nil_sublist _), rfl, rfl⟩
end
section
variable {f : Fx} {ρ : Loc} {σ : St}

/-! plain: what is asked of the instructions of a program, by their addresses -/
noncomputable def atA (σ : St) (q : In → Bool) : Value → Bool
  | .ref y => q (inOf σ y)
  | _ => false
noncomputable def fnA (σ : St) (t : In → Int) : Value → Value
  | .ref y => .int (t (inOf σ y)) 0
  | v => v
theorem IsP.ins {p : Addr} {g : Pg} {r : PR} (hp : IsP σ p g r) : r.xs.map (inOf σ) = g.insts := by
  apply List.ext_getElem?
  intro k
  rw [List.getElem?_map]
  by_cases hk : k < g.insts.length
  · obtain ⟨x, hx, hI⟩ := hp.ix (List.getElem?_eq_getElem hk)
    rw [hx, List.getElem?_eq_getElem hk]
    simp [inOf_eq hI]
  · rw [List.getElem?_eq_none (by rw [hp.len]; kspl_open wln), List.getElem?_eq_none (by kspl_open wln)]; rfl
theorem atA_list (σ : St) (q : In → Bool) (t : In → Int) : ∀ xs : List Addr, ((refs xs).filter (atA σ q)).map (fnA σ t) = intL (((xs.map (inOf σ)).filter q).map t)
  | [] => rfl
  | x :: xs => by
    have ih := atA_list σ q t xs
    simp only [List.map_cons, List.filter_cons]
    have e : atA σ q (.ref x) = q (inOf σ x) := rfl
    rw [e]
    split
    · simp only [List.map_cons]; rw [ih]; rfl
    · exact ih
theorem atA_len {p : Addr} {g : Pg} {r : PR} (hp : IsP σ p g r) (q : In → Bool) : ((refs r.xs).filter (atA σ q)).length = (g.insts.filter q).length := by
  have h := congrArg List.length (atA_list σ q (fun _ => 0) r.xs)
  rw [hp.ins] at h
  simpa using h
theorem capTo_max (l : List In) : (capTo l ∈ ((l.filter (·.op == 2)).map fun i => i.arg.fdiv 2) ++ [0]) ∧ 0 ≤ capTo l ∧ ∀ x ∈ (l.filter (·.op == 2)).map (fun i => i.arg.fdiv 2), x ≤ capTo l := by
  have key : ∀ n, n ≤ l.length → (capTo (l.take n) ∈ (((l.take n).filter (·.op == 2)).map fun i => i.arg.fdiv 2) ++ [0]) ∧ 0 ≤ capTo (l.take n) ∧ ∀ x ∈ ((l.take n).filter (·.op == 2)).map (fun i => i.arg.fdiv 2), x ≤ capTo (l.take n) := by
    intro n
    induction n with
    | zero => intro _; exact ⟨by simp [capTo], Int.le_refl _, by simp⟩
    | succ n ih =>
      intro hn
      obtain ⟨h1, h2, h3⟩ := ih (by kspl_open wln)
      have e : l[n]? = some l[n] := List.getElem?_eq_getElem (by kspl_open wln)
      rw [take_succ_of e, capTo_snoc, List.filter_append, List.map_append]
      by_cases hq : (l[n].op == 2) = true
      · rw [if_pos hq]
        simp only [List.filter_cons, hq, if_true, List.filter_nil, List.map_cons, List.map_nil]
        refine ⟨?_, by kspl_open wln, ?_⟩
        · rcases Int.le_total (capTo (l.take n)) (l[n].arg.fdiv 2) with h | h
          · rw [Int.max_eq_right h]; simp
          · rw [Int.max_eq_left h]
            rcases List.mem_append.mp h1 with h1 | h1
            · exact List.mem_append_left _ (List.mem_append_left _ h1)
            · exact List.mem_append_right _ h1
        · intro x hx
          rcases List.mem_append.mp hx with hx | hx
          · have := h3 x hx; kspl_open wln
          · simp only [List.mem_singleton] at hx; kspl_open wln
      · rw [if_neg hq]
        simp only [List.filter_cons, hq, if_false, List.filter_nil, List.map_nil, List.append_nil, Bool.false_eq_true]
        exact ⟨h1, h2, h3⟩
  have := key l.length (Nat.le_refl _)
  rwa [List.take_length] at this
theorem capTo_is {l : List In} {M : Int} (h1 : M ∈ ((l.filter (·.op == 2)).map fun i => i.arg.fdiv 2) ++ [0]) (h2 : ∀ x ∈ ((l.filter (·.op == 2)).map fun i => i.arg.fdiv 2) ++ [0], x ≤ M) : capTo l = M := by
  obtain ⟨a, b, d⟩ := capTo_max l
  have e1 := h2 _ a
  have e2 : M ≤ capTo l := by
    rcases List.mem_append.mp h1 with h | h
    · exact d M h
    · simp only [List.mem_singleton] at h; kspl_open wln
  lia
theorem kv7_take (c : Int → Int) (i : Nat) (hi : i < 7) : stored ((kv7 c).take i) (i : Int) (.int (c i) 0) = (kv7 c).take (i + 1) := by
  have := lt7 hi
  rcases this with e | e | e | e | e | e | e <;> subst e <;> rfl
theorem kv7_nd (c : Int → Int) : ((kv7 c).map (·.1)).Nodup ∧ ∀ p ∈ kv7 c, ∃ i, p.2 = .int i 0 := by
  refine ⟨(show ([0, 1, 2, 3, 4, 5, 6] : List Int).Nodup by decide), ?_⟩
  unfold kv7
  simp only [List.forall_mem_cons]
  exact ⟨⟨_, rfl⟩, ⟨_, rfl⟩, ⟨_, rfl⟩, ⟨_, rfl⟩, ⟨_, rfl⟩, ⟨_, rfl⟩, ⟨_, rfl⟩, List.forall_mem_nil _⟩
theorem Bfs.nodup {g : Pg} {fo st r : List Int} (h : Bfs g fo st r) (hn : fo.Nodup) : r.Nodup := by
  induction h with
  | nil => exact hn
  | skip _ _ ih => exact ih hn
  | @go fo n st r hm _ ih => exact ih (List.nodup_append.mpr ⟨hn, by simp, fun a ha b hb => by simp at hb; subst hb; rintro rfl; exact hm ha⟩)
theorem tab_nd (g : Pg) {fo : List Int} (h : fo.Nodup) : ((tab (nv g) fo).map (·.1)).Nodup ∧ ∀ p ∈ tab (nv g) fo, ∃ i, p.2 = .int i 0 := by
  refine ⟨by simpa [tab, List.map_map, Function.comp_def] using h, fun p hp => ?_⟩
  obtain ⟨x, hx, rfl⟩ := List.mem_map.mp hp
  exact ⟨_, rfl⟩
theorem RL.perm {g : Pg} {k : Int} {a b : List Int} (h : RL g k a) (h' : RL g k b) (ha : ∀ x, x ∈ a ↔ Rch g k x) (hb : ∀ x, x ∈ b ↔ Rch g k x) : a.Perm b :=
  (List.perm_ext_iff_of_nodup h.nd h'.nd).mpr fun x => (ha x).trans (hb x).symm
theorem WV.or1 {e : Expr} {p : Pos} {Q : Value → St → Prop} (h : WV f ρ σ (eval e f.env) Q) : WV f ρ σ (eval (.BoolOp .Or [e] p) f.env) Q := h
end
section
variable {f : Fx} {ρ : Loc} {σ : St}


set_option maxHeartbeats 1000000 in
theorem tw_e {σ0 σ : St} {c : Cx} {n : Nat} {fz : Addr → Prop} {p : Addr} {g : Pg} {r : PR} {sp : Int} {env : Env} {a0 : Addr} {o1 o2 o3 : Option Value} (hp : IsP σ0 p g r) (hG : Good g) (H : Own fz σ0 σ ([(a0, .list (intL [0, 1, 2, 3, 4, 5, 6]), true)] : List Ent)) (rest : List Stmt) (hr : rest = (bodyOf (fdo 283 c.w.params)).drop 6) :
    SS (⟨c, n + 79, fz, env, ["INST_ALT", "INST_RANGE", "INST_CAPTURE", "INST_EMPTY", "INST_MATCH", "INST_NOP", "INST_FAIL", "len", "program_closure", "_law_down", "program_reached", "sorted", "_law_reached", "_law_is_dumped", "_law_places", "program_fanouts", "program_fanout", "_law_powers", "program_counts", "program_captures", "max", "program_heads"], ["prog", "places"]⟩ : Fx) ([("prog", some (.ref p)), ("spot", some (.int sp 0)), ("_law_all", some (.ref a0)), ("number", o1), ("told", o2), ("places", o3), ("groups", none)] : Loc) σ rest (RQ (Ret fz σ0 P_dumped)) := by
  subst hr
  have hS := hG.sound
  have hsm := hG.small
  have hlen := hp.len
  conv => arg 4; whnf
  refine SS.cons ?_
  refine S1.iteW ?_
  refine WT.cmpW ?_
  refine WV.callO (PE.globR (by kspl_open wmem) g_program_counts) (fun P => by kernel_rfl) (by kspl_open wpes) H (wc_counts (hp.ext H.ext) hS H.fzs) ?_
  rintro v σ L' ⟨a1, rfl, rfl⟩ H
  dsimp only [List.cons_append, List.nil_append] at H
  refine WV.compD [] (some "op") [("prog", .ref p)] ["len"] ["op"] (CW.of (by rfl)) (by intro q hq; simp at hq; subst hq; exact ⟨(by kspl_open wmem), (by kspl_open wmem)⟩) ?_
  refine WV.pe (by kspl_open wpe) ⟨a0, _, _, rfl, Iter.list (H.get a0 _ _ (by kspl_open wmem)), (by kspl_open wle), fun i ρo kvs σi => ∃ o, ρo = ([("op", o)] : Loc) ∧ kvs = (kv7 (cntOf g.insts)).take i ∧ Own (fun b => fz b ∨ b = a0) σ0 σi ([(a1, .dic (kv7 (cntOf g.insts)), true), (a0, .list (intL [0, 1, 2, 3, 4, 5, 6]), false)] : List Ent), ⟨none, rfl, rfl, H.moreO (.there _ (.here _ _))⟩, ?_, ?_⟩
  · rintro L i v ρo kvs σ hv ⟨o, rfl, rfl, H⟩
    have hi : i < 7 := by simpa using (List.getElem?_eq_some_iff.mp hv).1
    have hve : v = .int (i : Int) 0 := by
      have := lt7 (i := i) (by kspl_open wln)
      rcases this with e | e | e | e | e | e | e <;> subst e <;> exact (Option.some.inj hv).symm
    subst hve
    refine ⟨([("op", some (.int (i : Int) 0))] : Loc), (by kspl_open wset), ?_⟩
    show WV _ ([("op", some (.int (i : Int) 0)), ("prog", some (.ref p))] : Loc) σ _ _
    refine WV.pe (by kspl_open wpe) ⟨_, rfl, ?_⟩
    show WV _ ([("op", some (.int (i : Int) 0)), ("prog", some (.ref p))] : Loc) σ _ _
    refine WV.callB (PE.built (by kspl_open wmem) bl_len boot_len (by decide) rfl) ?_
    refine WLs.cons ?_
    refine WV.comp [("op", .int (i : Int) 0)] [] (atA σ0 (·.op == (i : Int))) id (WV.pe (PE.p_insts (by kspl_open wpe) hp H) ⟨r.L, _, _, rfl, Iter.list (H.ext _ _ hp.L), ?_, ?_, fun d hd => WLs.nil (WC.lenL (St.set_same ..) ?_)⟩) (CompOk.of (by rfl)) (by intro q hq; simp at hq; subst hq; exact ⟨(by kspl_open wmem), (by kspl_open wmem)⟩)
    · (first | ((repeat first | refine lmap_lt ?_ | refine lmap_le ?_); kspl_open wln) | (rw [List.length_map]; kspl_open wln))
    · intro os dr gn env v hv
      obtain ⟨y, hy, rfl⟩ := List.mem_map.mp hv
      obtain ⟨k, hk, e⟩ := List.getElem_of_mem hy
      obtain ⟨q, hq, hI⟩ := hp.px (k := k) (x := y) (by rw [List.getElem?_eq_getElem hk, e])
      rw [show atA σ0 (·.op == (i : Int)) (.ref y) = (q.op == (i : Int)) by simp [atA, inOf_eq hI]]
      exact ⟨tests_one (ρ := ([("one", some (.ref y)), ("op", some (.int (i : Int) 0))] : Loc)) (by kspl_open wpt), fun _ => (show PE _ ([("one", some (.ref y)), ("op", some (.int (i : Int) 0))] : Loc) _ _ (Value.ref y) from (by kspl_open wpe))⟩
    · refine ⟨_, rfl, ?_, (H.alloc hd).sub (List.sublist_cons_self ..)⟩
      rw [List.map_id, atA_len hp]
      exact kv7_take (cntOf g.insts) i hi
  rintro ρo kvs σ b ⟨o, rfl, rfl, H⟩ hb
  have e7 : (kv7 (cntOf g.insts)).take (intL [0, 1, 2, 3, 4, 5, 6]).length = kv7 (cntOf g.insts) := rfl
  rw [e7]
  have H2 := H.less.alloc (o := .dic (kv7 (cntOf g.insts))) hb
  generalize hσ : σ.set b _ = σ' at H2
  clear H
  have H := H2
  refine ⟨false, Cmp.neD (H.get a1 _ _ (by kspl_open wmem)) (H.get b _ _ (by kspl_open wmem)) (kv7_nd _).1 (kv7_nd _).2, ?_⟩
  rw [if_neg (by decide)]
  refine SS.nil ?_
  refine SS.cons ?_
  refine S1.comp [] ["INST_CAPTURE"] (atA σ0 (·.op == 2)) (fnA σ0 fun i => i.arg.fdiv 2) ?_ (CompOk.of (by rfl)) (by kspl_open wle)
  refine WV.pe (PE.p_insts (by kspl_open wpe) hp H) ⟨r.L, _, _, rfl, Iter.list (H.ext _ _ hp.L), by (first | ((repeat first | refine lmap_lt ?_ | refine lmap_le ?_); kspl_open wln) | (rw [List.length_map]; kspl_open wln)), ?_, fun d hd => ⟨_, (by kspl_open wset), ?_⟩⟩
  · intro os dr gn env v hv
    obtain ⟨y, hy, rfl⟩ := List.mem_map.mp hv
    obtain ⟨k, hk, e⟩ := List.getElem_of_mem hy
    obtain ⟨q, hq, hI⟩ := hp.px (k := k) (x := y) (by rw [List.getElem?_eq_getElem hk, e])
    rw [show atA σ0 (·.op == 2) (.ref y) = (q.op == 2) by simp [atA, inOf_eq hI], show fnA σ0 (fun i => i.arg.fdiv 2) (.ref y) = .int (q.arg.fdiv 2) 0 by simp [fnA, inOf_eq hI]]
    exact ⟨tests_one (ρ := ([("one", some (.ref y))] : Loc)) (by kspl_open wpt), fun _ => (show PE _ ([("one", some (.ref y))] : Loc) _ _ _ from (by kspl_open wpe))⟩
  rw [atA_list, hp.ins]
  generalize hgs : (g.insts.filter (·.op == 2)).map (fun i => i.arg.fdiv 2) = gs
  have hgl : gs.length ≤ 60 := by rw [← hgs, List.length_map]; exact Nat.le_trans (List.length_filter_le ..) hsm
  have H2 := H.alloc (o := .list (intL gs)) hd
  generalize σ'.set d _ = σ at H2
  clear H
  have H := H2
  refine SS.cons ?_
  refine S1.ret ?_
  refine WV.and ?_
  refine WV.cmpW ?_
  refine WV.callO (PE.globR (by kspl_open wmem) g_program_captures) (fun P => by kernel_rfl) (by kspl_open wpes) H (wc_captures (hp.ext H.ext) H.fzs) ?_
  rintro v σ L' ⟨rfl, rfl⟩ H
  dsimp only [List.cons_append, List.nil_append] at H
  refine WV.callB (by kspl_open wpe) ?_
  refine WLs.cons ?_
  refine WV.addLO (σ0 := σ0) (xs := intL gs) (w := true) (by kspl_open wpe) (WV.newL (by kspl_open wpes) H fun y σ H => ⟨y, _, _, rfl, H, (by kspl_open wmem), ⟨_, List.mem_cons_self ..⟩, by simp; kspl_open wln, fun z σ H => ?_⟩)
  refine WLs.nil ?_
  have hz : intL gs ++ [.int 0 0] = intL (gs ++ [0]) := by simp
  rw [hz] at H
  refine WC.maxL (H.get z _ _ (by kspl_open wmem)) (by kspl_open wle) fun M hM hall => ?_
  have hcap : capTo g.insts = M := capTo_is (by rw [hgs]; exact hM) (by rw [hgs]; exact hall)
  refine ⟨_, Cmp.eqI, true, by rw [hcap]; simp, ?_⟩
  rw [if_pos rfl]
  refine WV.and1 ?_
  refine WV.or ?_
  refine WV.not ?_
  refine WV.pe (PE.p_is_flat (by kspl_open wpe) hp H) ⟨_, Tru.bool, _, rfl, ?_⟩
  cases hf : g.flat with
  | false => exact ⟨_, H.sub (List.nil_sublist _), rfl, rfl⟩
  | true =>
    rw [if_neg (by decide : ¬ ((!true) = true))]
    refine WV.or1 ?_
    refine WV.cmpW ?_
    refine WV.callO (PE.globR (by kspl_open wmem) g_program_heads) (fun P => by kernel_rfl) (by kspl_open wpes) H (wc_heads (hp.ext H.ext) (by kspl_open wln) H.fzs) ?_
    rintro v σ L' ⟨b2, rfl, rfl⟩ H
    dsimp only [List.cons_append, List.nil_append] at H
    refine WV.pe (PE.p_heads (by kspl_open wpe) hp H) ⟨_, Cmp.eqIL (H.get b2 _ _ (by kspl_open wmem)) (H.ext _ _ hp.H), _, H.sub (List.nil_sublist _), ?_, rfl⟩
    rw [(hG.parts.2.2.2.2 hf).1]
    simp [retOf]
end
section
variable {f : Fx} {ρ : Loc} {σ : St}


noncomputable def nvV (g : Pg) : Value → Value
  | .int x _ => nv g x
  | v => v
theorem nvV_list (g : Pg) (fo : List Int) : (((tab (nv g) fo).map fun p => Value.int p.1 0).filter fun _ => true).map (nvV g) = intL (numsOf g fo) := by
  rw [List.filter_eq_self.mpr (by kspl_open wle)]
  simp [tab, numsOf, nvV, nv, List.map_map, Function.comp_def]
set_option maxHeartbeats 1000000 in
theorem tw_d {σ0 σ : St} {c : Cx} {n : Nat} {fz : Addr → Prop} {p : Addr} {g : Pg} {r : PR} {sp : Int} {env : Env} {a0 : Addr} {o1 o2 : Option Value} (hp : IsP σ0 p g r) (hG : Good g) (H : Own fz σ0 σ ([(a0, .list (intL [0, 1, 2, 3, 4, 5, 6]), true)] : List Ent)) (rest : List Stmt) (hr : rest = (bodyOf (fdo 283 c.w.params)).drop 4) :
    SS (⟨c, n + 79, fz, env, ["INST_ALT", "INST_RANGE", "INST_CAPTURE", "INST_EMPTY", "INST_MATCH", "INST_NOP", "INST_FAIL", "len", "program_closure", "_law_down", "program_reached", "sorted", "_law_reached", "_law_is_dumped", "_law_places", "program_fanouts", "program_fanout", "_law_powers", "program_counts", "program_captures", "max", "program_heads"], ["prog", "places"]⟩ : Fx) ([("prog", some (.ref p)), ("spot", some (.int sp 0)), ("_law_all", some (.ref a0)), ("number", o1), ("told", o2), ("places", none), ("groups", none)] : Loc) σ rest (RQ (Ret fz σ0 P_dumped)) := by
  subst hr
  have hS := hG.sound
  have hsm := hG.small
  have hlen := hp.len
  have hst := (wayOk hG.parts.2.2.1).1
  conv => arg 4; whnf
  refine SS.cons ?_
  refine S1.name ?_
  refine WV.callO (PE.globR (by kspl_open wmem) g__law_places) (fun P => by kernel_rfl) (by kspl_open wpes) H (wc_places (hp.ext H.ext) hS hst (by kspl_open wln) (by kspl_open wln) H.fzs) ?_
  rintro v σ L' ⟨a1, fo, rfl, rfl, hB, hfl, hol⟩ H
  dsimp only [List.cons_append, List.nil_append] at H
  refine ⟨_, (by kspl_open wset), ?_⟩
  have hnd := hB.nodup (by kspl_open wle)
  have htab := tab_nd g hnd
  refine SS.cons ?_
  refine S1.iteW ?_
  refine WT.or ?_
  refine WT.cmpW ?_
  refine WV.callO (PE.globR (by kspl_open wmem) g_program_fanouts) (fun P => by kernel_rfl) (by kspl_open wpes) H (wc_fanouts (hp.ext H.ext) hS hst (by kspl_open wln) H.fzs) ?_
  rintro v σ L' ⟨a2, fo2, rfl, rfl, hB2, -, -⟩ H
  dsimp only [List.cons_append, List.nil_append] at H
  obtain rfl := hB2.det hB
  refine WV.pe (by kspl_open wpe) ⟨false, Cmp.neD (H.get a2 _ _ (by kspl_open wmem)) (H.get a1 _ _ (by kspl_open wmem)) htab.1 htab.2, ?_⟩
  rw [if_neg (by decide)]
  refine WT.or1 ?_
  refine WT.cmpW ?_
  refine WV.callO (PE.globR (by kspl_open wmem) g_program_fanout) (fun P => by kernel_rfl) (by kspl_open wpes) H (wc_fanout (hp.ext H.ext) hG H.fzs) ?_
  rintro v σ L' ⟨a3, fo3, k3, rfl, rfl, hB3, hT3⟩ H
  dsimp only [List.cons_append, List.nil_append] at H
  obtain rfl := hB3.det hB2
  have hnum : ∀ m ∈ numsOf g fo3, 0 ≤ m ∧ m ≤ 64 := by
    intro m hm
    obtain ⟨x, hx, rfl⟩ := List.mem_map.mp hm
    have := hol x hx
    exact ⟨by kspl_open wln, by kspl_open wln⟩
  refine WV.callOW (σ0 := σ0) (PE.globR (by kspl_open wmem) g__law_powers) (fun P => by kernel_rfl) ?_
  refine WLs.cons ?_
  refine WV.comp [("places", .ref a1)] [] (fun _ => true) (nvV g) (WV.pe (by kspl_open wpe) ⟨a1, _, _, rfl, Iter.dic (H.get a1 _ _ (by kspl_open wmem)), ?_, ?_, fun d hd => WLs.nil ?_⟩) (CompOk.of (by rfl)) (by intro q hq; simp at hq; subst hq; exact ⟨(by kspl_open wmem), (by kspl_open wmem)⟩)
  · simp [tab]; kspl_open wln
  · intro os dr gn env v hv
    obtain ⟨q, hq, rfl⟩ := List.mem_map.mp hv
    obtain ⟨x, hx, rfl⟩ := List.mem_map.mp hq
    refine ⟨tests_nil, fun _ => ?_⟩
    show PE _ ([("one", some (.int x 0)), ("places", some (.ref a1))] : Loc) _ _ (nv g x)
    exact PE.item (by kspl_open wpe) (by kspl_open wpe) (Itm.dic (H.get a1 _ _ (by kspl_open wmem)) (tab_at _ hx))
  rw [nvV_list]
  have H2 := H.alloc (o := .list (intL (numsOf g fo3))) hd
  generalize σ.set d _ = σ at H2
  clear H
  have H := H2
  refine ⟨_, _, H, wc_powers (H.get d _ _ (by kspl_open wmem)) hnum (by simp [numsOf]; kspl_open wln) H.fzs, ?_⟩
  rintro v σ L' ⟨a4, k4, rfl, rfl, hT4⟩ H
  dsimp only [List.cons_append, List.nil_append] at H
  obtain rfl := hT4.uniq hT3
  refine ⟨_, Cmp.neIL (H.get a3 _ _ (by kspl_open wmem)) (H.get a4 _ _ (by kspl_open wmem)), ?_⟩
  rw [decide_eq_true rfl]
  rw [if_neg (by decide)]
  refine SS.nil ?_
  refine tw_e hp hG (H.sub (.cons _ (.cons _ (.cons _ (.cons _ (.cons _ (.refl _))))))) _ ?_
  conv => rhs; whnf
end
section
variable {f : Fx} {ρ : Loc} {σ : St}


set_option maxHeartbeats 1000000 in
theorem tw_c {σ0 σ : St} {c : Cx} {n : Nat} {fz : Addr → Prop} {p : Addr} {g : Pg} {r : PR} {sp : Int} {env : Env} {a0 : Addr} {o1 : Option Value} (hp : IsP σ0 p g r) (hG : Good g) (H : Own fz σ0 σ ([(a0, .list (intL [0, 1, 2, 3, 4, 5, 6]), true)] : List Ent)) (rest : List Stmt) (hr : rest = (bodyOf (fdo 283 c.w.params)).drop 2) :
    SS (⟨c, n + 79, fz, env, ["INST_ALT", "INST_RANGE", "INST_CAPTURE", "INST_EMPTY", "INST_MATCH", "INST_NOP", "INST_FAIL", "len", "program_closure", "_law_down", "program_reached", "sorted", "_law_reached", "_law_is_dumped", "_law_places", "program_fanouts", "program_fanout", "_law_powers", "program_counts", "program_captures", "max", "program_heads"], ["prog", "places"]⟩ : Fx) ([("prog", some (.ref p)), ("spot", some (.int sp 0)), ("_law_all", some (.ref a0)), ("number", o1), ("told", none), ("places", none), ("groups", none)] : Loc) σ rest (RQ (Ret fz σ0 P_dumped)) := by
  subst hr
  have hS := hG.sound
  have hsm := hG.small
  have hst := (wayOk hG.parts.2.2.1).1
  conv => arg 4; whnf
  refine SS.cons ?_
  refine S1.name ?_
  refine WV.callO (PE.globR (by kspl_open wmem) g_program_reached) (fun P => by kernel_rfl) (by kspl_open wpes) H (wc_reached (hp.ext H.ext) hS hst H.fzs) ?_
  rintro v σ L' ⟨a1, fo, rfl, rfl, hR, hRx, -⟩ H
  dsimp only [List.cons_append, List.nil_append] at H
  refine ⟨_, (by kspl_open wset), ?_⟩
  have hl1 : fo.length ≤ 60 := by have := hR.cnt; kspl_open wln
  have hx0 : (intL fo)[(0 : Int).toNat]? = some (.int g.start 0) := by
    obtain ⟨rest, e⟩ := hR.hd
    rw [e]; rfl
  refine SS.cons ?_
  refine S1.iteW ?_
  refine WT.or ?_
  refine WT.pt (PT.cmp (PE.item (by kspl_open wpe) (by kspl_open wpe) (Itm.list (H.get a1 _ _ (by kspl_open wmem)) (by decide) hx0)) (by kspl_open wpe) (by kspl_open wcmp)) ?_
  rw [if_neg (by kspl_open wle)]
  refine WT.or ?_
  refine WT.cmpW ?_
  refine WV.callB (by kspl_open wpe) (WLs.pes (by kspl_open wpes) rfl (WC.sorted (H.get a1 _ _ (by kspl_open wmem)) (by kspl_open wln) fun b1 s1 q1 q2 hb1 => ?_))
  have H2 := H.alloc (o := .list (intL s1)) hb1
  generalize σ.set b1 _ = σ at H2
  clear H
  have H := H2
  refine WV.callB (by kspl_open wpe) ?_
  refine WLs.cons ?_
  refine WV.callO (PE.globR (by kspl_open wmem) g__law_reached) (fun P => by kernel_rfl) (by kspl_open wpes) H (wc_lreached (hp.ext H.ext) hS hst H.fzs) ?_
  rintro v σ L' ⟨a2, fo2, rfl, rfl, hR2, hRx2⟩ H
  dsimp only [List.cons_append, List.nil_append] at H
  refine WLs.nil ?_
  refine WC.sorted (H.get a2 _ _ (by kspl_open wmem)) (by have := hR2.cnt; kspl_open wln) fun b2 s2 q3 q4 hb2 => ?_
  have H2 := H.alloc (o := .list (intL s2)) hb2
  generalize σ.set b2 _ = σ at H2
  clear H
  have H := H2
  have hs : s1 = s2 := sorted_eq (q1.trans ((hR.perm hR2 hRx hRx2).trans q3.symm)) q2 q4
  refine ⟨_, Cmp.neIL (H.get b1 _ _ (by kspl_open wmem)) (H.get b2 _ _ (by kspl_open wmem)), ?_⟩
  rw [decide_eq_true hs]
  rw [if_neg (by decide)]
  refine WT.or1 ?_
  refine WT.not ?_
  refine WT.val ?_
  refine WV.callO (PE.globR (by kspl_open wmem) g__law_is_dumped) (fun P => by kernel_rfl) (by kspl_open wpes) H (wc_dumped (hp.ext H.ext) hG H.fzs) ?_
  rintro v σ L' ⟨rfl, rfl⟩ H
  dsimp only [List.cons_append, List.nil_append] at H
  refine ⟨true, Tru.bool, ?_⟩
  rw [if_neg (by decide)]
  refine SS.nil ?_
  refine tw_d hp hG (H.sub (.cons _ (.cons _ (.cons _ (.cons _ (.refl _)))))) _ ?_
  conv => rhs; whnf
set_option maxHeartbeats 1000000 in
theorem wc_told {σ0 : St} {c : Cx} {n : Nat} {fz : Addr → Prop} {p : Addr} {g : Pg} {r : PR} {sp : Int} (hp : IsP σ0 p g r) (hG : Good g) (hfz : ∀ a, fz a → σ0 a ≠ none) :
    WC c (n + 80) fz σ0 (.ref 283) [.ref p, .int sp 0] (Ret fz σ0 P_dumped) := by
  refine WC.fnO (ρ := [("prog", some (.ref p)), ("spot", some (.int sp 0)), ("_law_all", none), ("number", none), ("told", none), ("places", none), ("groups", none)]) (gl := ["INST_ALT", "INST_RANGE", "INST_CAPTURE", "INST_EMPTY", "INST_MATCH", "INST_NOP", "INST_FAIL", "len", "program_closure", "_law_down", "program_reached", "sorted", "_law_reached", "_law_is_dumped", "_law_places", "program_fanouts", "program_fanout", "_law_powers", "program_counts", "program_captures", "max", "program_heads"]) (cl := ["prog", "places"]) (pa := [("prog", .ref p), ("spot", .int sp 0)]) (rest := ["_law_all", "number", "told", "places", "groups"]) rfl (.of fun P => by kernel_rfl) (fun P => by kernel_rfl) (hb2 fun P u v => by kernel_rfl) fun env => ?_
  have H : Own fz σ0 σ0 [] := Own.start hfz
  have hS := hG.sound
  have hsm := hG.small
  have hst := (wayOk hG.parts.2.2.1).1
  have hlo := (wayOk hG.parts.2.2.2.1).1
  have hpos : 0 < g.insts.length := by
    obtain ⟨i, hi, _⟩ := hG.parts.1
    exact (List.getElem?_eq_some_iff.mp hi).1
  have hm0 : (g.insts.length : Int) ≠ 0 := by kspl_open wln
  have hmod : InR g (sp.fmod (g.insts.length : Int)) := by
    have h1 := Int.fmod_nonneg_of_pos sp (b := (g.insts.length : Int)) (by kspl_open wln)
    have h2 := Int.fmod_lt_of_pos sp (b := (g.insts.length : Int)) (by kspl_open wln)
    exact ⟨h1, by kspl_open wln⟩
  conv => arg 4; whnf
  refine SS.cons ?_
  refine S1.name ?_
  refine WV.newL (vs := [.int 0 0, .int 1 0, .int 2 0, .int 3 0, .int 4 0, .int 5 0, .int 6 0]) ?hh H (fun a0 σ H => ?_) (by kspl_open wle) (by rfl)
  case hh => exact (by kspl_open wpes)
  refine ⟨_, (by kspl_open wset), ?_⟩
  have H2 : Own fz σ0 σ ([(a0, .list (intL [0, 1, 2, 3, 4, 5, 6]), true)] : List Ent) := H
  clear H
  have H := H2
  refine SS.cons ?_
  refine S1.forO (σ0 := σ0) ?_
  refine WV.newT (vs := [.int g.start 0, .int g.loose 0, .int (sp.fmod (g.insts.length : Int)) 0]) ?hh H (fun t σ H => ?_) (by kspl_open wle) (by rfl)
  case hh => exact .cons (by kspl_open wpe) (.cons (by kspl_open wpe) (.cons (PE.bin (by kspl_open wpe) (by kspl_open wpe) (Bin.mod hm0)) .nil))
  let p1p := fun (i : Nat) (ρ2 : Loc) (L2 : List Ent) o => (Ay2 (ρ2 = ([("prog", some (.ref p)), ("spot", some (.int sp 0)), ("_law_all", some (.ref a0)), ("number", o), ("told", none), ("places", none), ("groups", none)] : Loc)) (L2 = ([(t, .tup (intL [g.start, g.loose, sp.fmod (g.insts.length : Int)]), false), (a0, .list (intL [0, 1, 2, 3, 4, 5, 6]), true)] : List Ent)) : Prop)
  let I1 : Nat → Loc → List Ent → Prop := fun i ρ2 L2 => Ey1 (p1p i ρ2 L2)
  refine ⟨_, _, t, _, rfl, Iter.tup (H.get _ _ _ (by kspl_open wmem)), H.moreO (.here _ _), I1, ⟨_, rfl, rfl⟩, ?_, ?_⟩
  · rintro i z ρ2 σ L2 hz H ⟨o, rfl, rfl⟩
    have hz2 : (intL [g.start, g.loose, sp.fmod (g.insts.length : Int)])[i]? = some z := hz
    obtain ⟨k, hkm, rfl⟩ := intL_mem (List.mem_of_getElem? hz2)
    have hk : InR g k := by
      simp only [List.mem_cons, List.not_mem_nil, or_false] at hkm
      rcases hkm with rfl | rfl | rfl
      · exact hst
      · exact hlo
      · exact hmod
    refine ⟨_, (by kspl_open wset), ?_⟩
    refine SS.cons ?_
    refine S1.iteW ?_
    refine WT.cmpW ?_
    refine WV.callO (PE.globR (by kspl_open wmem) g_program_closure) (fun P => by kernel_rfl) (by kspl_open wpes) H (wc_closure (hp.ext H.ext) hS hk H.fzs) ?_
    rintro v σ L' ⟨a1, fo, rfl, rfl, hC, -, -⟩ H
    dsimp only [List.cons_append, List.nil_append] at H
    refine WV.callG (PE.globR (by kspl_open wmem) g__law_down) (fun P => by kernel_rfl) ?_
    refine WLs.cons (WV.pe (by kspl_open wpe) (WLs.cons (WV.pe (by kspl_open wpe) (WLs.cons (WV.newL .nil H fun a2 σ H => WLs.nil ?_)))))
    have hnd := H.nd
    refine ((wc_down (fo := []) hS g.insts.length hp hk H (List.mem_cons_self ..) (by rw [unmet_nil]; exact Nat.le_refl _) (by kspl_open wle) (by rw [unmet_nil]; simp)).le (show g.insts.length + 2 ≤ n + 79 by kspl_open wln)).mono ?_
    rintro v σ ⟨fo2, L', rfl, hput, H, hcl, hfo, -, -⟩
    have hC2 : Clo g [] [k] fo2 := hcl [] _ (.nil fo2)
    obtain rfl := hC2.det hC
    obtain rfl : L' = (a2, .list (intL fo2), true) :: ([(a1, .list (intL fo2), true), (t, .tup (intL [g.start, g.loose, sp.fmod (g.insts.length : Int)]), false), (a0, .list (intL [0, 1, 2, 3, 4, 5, 6]), true)] : List Ent) := by
      cases hput with
      | here => rfl
      | there _ h => exact absurd (List.mem_map.mpr ⟨_, h.mem, rfl⟩) (List.nodup_cons.mp hnd).1
    refine ⟨_, Cmp.neIL (H.get a1 _ _ (by kspl_open wmem)) (H.get a2 _ _ (by kspl_open wmem)), ?_⟩
    rw [decide_eq_true rfl]
    rw [if_neg (by decide)]
    refine SS.nil ?_
    exact SS.nil ⟨_, H.sub (.cons _ (.cons _ (.refl _))), _, rfl, rfl⟩
  rintro ρ2 σ L2 H ⟨o, rfl, rfl⟩
  refine tw_c hp hG (H.sub (.cons _ (.refl _))) _ ?_
  conv => rhs; whnf
end
section
variable {f : Fx} {ρ : Loc} {σ : St}


theorem picks_int (l : List Int) (lo hi st : Option Int) : ∃ l', picks (intL l) lo hi st = intL l' := by
  unfold picks
  refine ⟨(sliceRange (sliceBounds lo hi st (intL l).length).1 (sliceBounds lo hi st (intL l).length).2.1 (sliceBounds lo hi st (intL l).length).2.2).filterMap (l[·]?), ?_⟩
  show _ = List.map _ _
  rw [List.map_filterMap]
  congr 1
  funext i
  simp
noncomputable abbrev endsL : List Int := [0, 97, 120, 255, 256, -1, 300, 98]
noncomputable abbrev argsL : List Int := [0, 1, 2, 3, 63, 64, -1, 100]
theorem at8 {l : List Int} (hl : l.length = 8) {v : Int} (h : 0 ≤ v ∧ v < 8) : ∃ e, (intL l)[v.toNat]? = some (.int e 0) := by
  refine ⟨l[v.toNat]'(by kspl_open wln), ?_⟩
  rw [List.getElem?_map, List.getElem?_eq_getElem (by kspl_open wln)]; rfl
noncomputable abbrev trT (p : Addr) (g : Pg) (r : PR) (es : List Ent) : List Ent := (p, .inst cP r.d, true) :: (r.d, .ns (g.fs r), true) :: (r.L, .list (refs r.xs), true) :: (r.H, .list (intL g.heads), true) :: es
noncomputable def TurnP (fz : Addr → Prop) (σ0 : St) (p : Addr) (σ' : St) : Prop := (Ey4 fun g' r' zs' G' => Ay4 (Own fz σ0 σ' (prE p g' r' zs' ++ G')) (r'.xs = obX zs') (g'.insts = obI zs') (zs'.length ≤ 60))
theorem turn_fin {fz : Addr → Prop} {σ0 σ : St} {p : Addr} {g : Pg} {r : PR} {zs : List Ob} {G : List Ent} {e1 e2 : Ent} (H : Own fz σ0 σ (e2 :: e1 :: trT p g r (ents zs ++ G))) (hx : r.xs = obX zs) (hl : zs.length ≤ 60) : TurnP fz σ0 p σ :=
  ⟨⟨obI zs, g.start, g.loose, g.flat, g.heads⟩, r, zs, G, H.sub (.cons _ (.cons _ (.refl _))), hx, rfl, hl⟩
theorem tr_sub (p : Addr) (g : Pg) (r : PR) (zs : List Ob) (G : List Ent) (e1 e2 : Ent) : (prE p g r zs).Sublist (e2 :: e1 :: trT p g r (ents zs ++ G)) := .cons _ (.cons _ (.cons_cons _ (.cons_cons _ (.cons_cons _ (.cons_cons _ (List.sublist_append_left _ _))))))
theorem turn_heads {fz : Addr → Prop} {σ0 σ : St} {p b : Addr} {g : Pg} {r : PR} {zs : List Ob} {G : List Ent} {e1 e2 : Ent} {hs : List Int} (H : Own fz σ0 σ ((b, .list (intL hs), true) :: e2 :: e1 :: (p, .inst cP r.d, true) :: (r.d, .ns (({ g with heads := hs } : Pg).fs { r with H := b }), true) :: (r.L, .list (refs r.xs), true) :: (r.H, .list (intL g.heads), true) :: (ents zs ++ G))) (hx : r.xs = obX zs) (hl : zs.length ≤ 60) : TurnP fz σ0 p σ := by
  refine ⟨⟨obI zs, g.start, g.loose, g.flat, hs⟩, { r with H := b }, zs, (r.H, .list (intL g.heads), true) :: G, ?_, hx, rfl, hl⟩
  refine (H.sub (.cons_cons _ (.cons _ (.cons _ (.refl _))))).perm ?_
  refine (perm_in [_] [_, _, _] _).trans (List.Perm.append_left [_, _, _] ?_)
  exact List.Perm.append_left [_] (perm_in [_] (ents zs) G)
theorem turn_first {fz : Addr → Prop} {σ0 σ : St} {p x d : Addr} {i : In} {g : Pg} {r : PR} {z0 : Ob} {zr : List Ob} {G : List Ent} {e1 e2 : Ent} (H : Own fz σ0 σ ((x, .inst cI d, true) :: (d, .ns i.fs, true) :: e2 :: e1 :: (p, .inst cP r.d, true) :: (r.d, .ns (g.fs r), true) :: (r.L, .list (refs (x :: obX zr)), true) :: (r.H, .list (intL g.heads), true) :: (ents (z0 :: zr) ++ G))) (hl : zr.length + 1 ≤ 60) : TurnP fz σ0 p σ := by
  refine ⟨⟨obI ((x, d, i) :: zr), g.start, g.loose, g.flat, g.heads⟩, { r with xs := x :: obX zr }, (x, d, i) :: zr, obE z0 ++ G, ?_, rfl, rfl, by first | exact of_decide_eq_true hl | exact eq_of_beq hl | exact ne_of_beq_false hl | exact of_decide_eq_false hl | exact beq_iff_eq.mpr hl | exact beq_false_of_ne hl | simpa using hl⟩
  refine (H.sub (.cons_cons _ (.cons_cons _ (.cons _ (.cons _ (.refl _)))))).perm ?_
  refine (perm_in [_, _] [_, _, _, _] _).trans (List.Perm.append_left [_, _, _, _] ?_)
  show ([_, _] ++ ((obE z0 ++ ents zr) ++ G)).Perm (([_, _] ++ ents zr) ++ (obE z0 ++ G))
  rw [List.append_assoc, List.append_assoc]
  exact List.Perm.append_left _ (perm_in _ _ _)
theorem turn_none {fz : Addr → Prop} {σ0 σ : St} {p b : Addr} {g : Pg} {r : PR} {zs : List Ob} {G : List Ent} {e1 e2 : Ent} (H : Own fz σ0 σ ((b, .list [], true) :: e2 :: e1 :: (p, .inst cP r.d, true) :: (r.d, .ns (g.fs { r with L := b }), true) :: (r.L, .list (refs r.xs), true) :: (r.H, .list (intL g.heads), true) :: (ents zs ++ G))) : TurnP fz σ0 p σ := by
  refine ⟨⟨[], g.start, g.loose, g.flat, g.heads⟩, { r with L := b, xs := [] }, [], (r.L, .list (refs r.xs), true) :: (ents zs ++ G), ?_, rfl, rfl, (by kspl_open wle)⟩
  refine (H.sub (.cons_cons _ (.cons _ (.cons _ (.refl _))))).perm ?_
  refine (perm_in [_] [_, _] _).trans (List.Perm.append_left [_, _] ?_)
  exact List.Perm.cons _ (List.Perm.swap ..)
set_option maxHeartbeats 2000000 in
theorem turn2 {σ0 σ : St} {c : Cx} {n : Nat} {fz : Addr → Prop} {p : Addr} {g : Pg} {r : PR} {zs A B : List Ob} {z : Ob} {G : List Ent} {kind spot value way : Int} {env : Env} {a1 a2 : Addr} (H : Own fz σ0 σ ((a2, .list (intL argsL), true) :: (a1, .list (intL endsL), true) :: trT p g r (ents zs ++ G))) (hx : r.xs = obX zs) (hi : g.insts = obI zs) (hz : zs = A ++ z :: B) (hl : zs.length ≤ 60) (hh : g.heads.length ≤ 100) (hv : 0 ≤ value ∧ value < 8) (rest : List Stmt) (hr : rest = (bodyOf (fdo 290 c.w.params)).drop 4) :
    SS (⟨c, n + 2, fz, env, ["len", "Inst"], []⟩ : Fx) ([("prog", some (.ref p)), ("kind", some (.int kind 0)), ("spot", some (.int spot 0)), ("value", some (.int value 0)), ("_law_ends", some (.ref a1)), ("_law_args", some (.ref a2)), ("many", some (.int (zs.length : Int) 0)), ("inst", some (.ref z.1)), ("way", some (.int way 0))] : Loc) σ rest fun fl _ σ' => TurnP fz σ0 p σ' := by
  subst hr
  obtain ⟨e, he⟩ := at8 (l := endsL) rfl hv
  obtain ⟨ag, hag⟩ := at8 (l := argsL) rfl hv
  have hsub : (prE p g r zs).Sublist ((a2, .list (intL argsL), true) :: (a1, .list (intL endsL), true) :: trT p g r (ents zs ++ G)) := .cons _ (.cons _ (.cons_cons _ (.cons_cons _ (.cons_cons _ (.cons_cons _ (List.sublist_append_left _ _))))))
  have hp : IsP σ p g r := H.isP (zs := zs) (fun e he => hsub.subset he) hx hi
  have Hr := H.rebase
  have hzm : z ∈ zs := by rw [hz]; simp
  have hzI : IsI σ z.1 z.2.2 := H.isI (zs := zs) (fun e he => hsub.subset (List.mem_cons_of_mem _ (List.mem_cons_of_mem _ (List.mem_cons_of_mem _ (List.mem_cons_of_mem _ he))))) hzm
  have hz1 : (z.1, AO.inst cI z.2.1, true) ∈ (a2, AO.list (intL argsL), true) :: (a1, AO.list (intL endsL), true) :: trT p g r (ents zs ++ G) := hsub.subset (List.mem_cons_of_mem _ (List.mem_cons_of_mem _ (List.mem_cons_of_mem _ (List.mem_cons_of_mem _ (ents_mem hzm).1))))
  have hput : ∀ i' : In, Put z.2.1 (.ns z.2.2.fs) (.ns i'.fs) ((a2, .list (intL argsL), true) :: (a1, .list (intL endsL), true) :: trT p g r (ents zs ++ G)) ((a2, .list (intL argsL), true) :: (a1, .list (intL endsL), true) :: trT p g r (ents (A ++ (z.1, z.2.1, i') :: B) ++ G)) := fun i' => by
    rw [hz]
    exact .there _ (.there _ (.there _ (.there _ (.there _ (.there _ (Put.left (ents_put A B) G))))))
  have hfin : ∀ (i' : In) (σ' : St), Own fz σ0 σ' ((a2, .list (intL argsL), true) :: (a1, .list (intL endsL), true) :: trT p g r (ents (A ++ (z.1, z.2.1, i') :: B) ++ G)) → TurnP fz σ0 p σ' := fun i' σ' H' => turn_fin H' (by rw [hx, hz]; simp) (by rw [hz] at hl; simpa using hl)
  conv => arg 4; whnf
  refine SS.cons (S1.ite (by kspl_open wpt) (fun h => ?_) (fun h => ?_))
  · refine SS.cons ?_
    refine S1.setAO (x := z.1) (d := z.2.1) (C := cI) (PE.item (by kspl_open wpe) (by kspl_open wpe) (Itm.list (H.get a1 _ _ (by kspl_open wmem)) hv.1 he)) (by kspl_open wpe) H hz1 ca_low (hput { z.2.2 with low := e }).mem (putF_low _ _) (hput { z.2.2 with low := e }) (by kspl_open wle) fun σ H => ?_
    exact SS.nil (SS.nil (hfin _ _ H))
  clear h
  refine SS.cons (S1.ite (by kspl_open wpt) (fun h => ?_) (fun h => ?_))
  · refine SS.cons ?_
    refine S1.setAO (x := z.1) (d := z.2.1) (C := cI) (PE.item (by kspl_open wpe) (by kspl_open wpe) (Itm.list (H.get a1 _ _ (by kspl_open wmem)) hv.1 he)) (by kspl_open wpe) H hz1 ca_high (hput { z.2.2 with high := e }).mem (putF_high _ _) (hput { z.2.2 with high := e }) (by kspl_open wle) fun σ H => ?_
    exact SS.nil (SS.nil (SS.nil (hfin _ _ H)))
  clear h
  refine SS.cons (S1.ite (by kspl_open wpt) (fun h => ?_) (fun h => ?_))
  · refine SS.cons ?_
    refine S1.setAO (x := z.1) (d := z.2.1) (C := cI) (PE.item (by kspl_open wpe) (by kspl_open wpe) (Itm.list (H.get a2 _ _ (by kspl_open wmem)) hv.1 hag)) (by kspl_open wpe) H hz1 ca_arg (hput { z.2.2 with arg := ag }).mem (putF_arg _ _) (hput { z.2.2 with arg := ag }) (by kspl_open wle) fun σ H => ?_
    exact SS.nil (SS.nil (SS.nil (SS.nil (hfin _ _ H))))
  clear h
  refine SS.cons (S1.ite (by kspl_open wpt) (fun h => ?_) (fun h => ?_))
  · refine SS.cons ?_
    refine S1.setAO (x := z.1) (d := z.2.1) (C := cI) (by kspl_open wpe) (by kspl_open wpe) H hz1 ca_out (hput { z.2.2 with out := way }).mem (putF_out _ _) (hput { z.2.2 with out := way }) (by kspl_open wle) fun σ H => ?_
    exact SS.nil (SS.nil (SS.nil (SS.nil (SS.nil (hfin _ _ H)))))
  clear h
  refine SS.cons (S1.ite (by kspl_open wpt) (fun h => ?_) (fun h => ?_))
  · refine SS.cons ?_
    refine S1.setAW (σ0 := σ0) ?_
    refine WV.not ?_
    refine WV.pe (PE.i_is_last (by kspl_open wpe) hzI Hr) ⟨_, Tru.bool, ?_⟩
    refine ⟨_, _, cI, z.1, z.2.1, true, _, _, (by kspl_open wpe), H, hz1, ca_last, (hput { z.2.2 with last := !z.2.2.last }).mem, putF_last _ _, hput { z.2.2 with last := !z.2.2.last }, (by kspl_open wle), fun σ H => ?_⟩
    exact SS.nil (SS.nil (SS.nil (SS.nil (SS.nil (SS.nil (hfin _ _ H))))))
  clear h
  refine SS.cons (S1.ite (by kspl_open wpt) (fun h => ?_) (fun h => ?_))
  · refine SS.cons ?_
    refine S1.setAW (σ0 := σ0) ?_
    refine WV.ite (WT.pt (by kspl_open wpt) ?_)
    cases hc : decide (value < 4) with
    | true =>
      rw [if_pos rfl]
      refine WV.sliceA (WV.pe (PE.p_heads (by kspl_open wpe) hp Hr) ⟨r.H, _, _, _, rfl, hp.H, .none, .some (by kspl_open wpe), fun b hb => ?_⟩)
      obtain ⟨hs, hhs⟩ := picks_int g.heads none (some (-1)) none
      rw [hhs]
      refine ⟨_, _, cP, p, r.d, true, _, ({ g with heads := hs } : Pg).fs { r with H := b }, (by kspl_open wpe), H.alloc hb, (by kspl_open wmem), ca_heads, (by kspl_open wmem), (by kspl_open wx1), (by kspl_open wput), (by kspl_open wle), fun σ H => ?_⟩
      exact SS.nil (SS.nil (SS.nil (SS.nil (SS.nil (SS.nil (SS.nil (turn_heads H hx hl)))))))
    | false =>
      rw [if_neg (by decide)]
      refine WV.addL (WV.pe (PE.p_heads (by kspl_open wpe) hp Hr) (WV.newL (vs := [.int (zs.length : Int) 0]) (.cons (by kspl_open wpe) .nil) H fun b σ H => ?_))
      refine ⟨r.H, b, _, _, rfl, rfl, H.get r.H _ _ (by kspl_open wmem), H.get b _ _ (by kspl_open wmem), by simp; kspl_open wln, fun d hd => ?_⟩
      have e1 : intL g.heads ++ [.int (zs.length : Int) 0] = intL (g.heads ++ [(zs.length : Int)]) := by simp
      rw [e1]
      replace H := H.sub (List.sublist_cons_self ..)
      have hd2 : σ d = none := hd
      refine ⟨_, _, cP, p, r.d, true, _, ({ g with heads := g.heads ++ [(zs.length : Int)] } : Pg).fs { r with H := d }, (by kspl_open wpe), H.alloc hd, (by kspl_open wmem), ca_heads, (by kspl_open wmem), (by kspl_open wx1), (by kspl_open wput), (by kspl_open wle), fun σ H => ?_⟩
      exact SS.nil (SS.nil (SS.nil (SS.nil (SS.nil (SS.nil (SS.nil (turn_heads H hx hl)))))))
  clear h
  refine SS.cons (S1.ite (by kspl_open wpt) (fun h => ?_) (fun h => ?_))
  · refine SS.cons ?_
    refine S1.setAO (x := p) (d := r.d) (C := cP) (by kspl_open wpe) (by kspl_open wpe) H (by kspl_open wmem) ca_start (by kspl_open wmem) (by kspl_open wx1) (by kspl_open wput) (by kspl_open wle) fun σ H => ?_
    exact SS.nil (SS.nil (SS.nil (SS.nil (SS.nil (SS.nil (SS.nil (SS.nil (turn_fin (g := { g with start := way }) H hx hl))))))))
  clear h
  refine SS.cons (S1.ite (by kspl_open wpt) (fun h => ?_) (fun h => ?_))
  · refine SS.cons ?_
    refine S1.setAO (x := p) (d := r.d) (C := cP) (by kspl_open wpe) (by kspl_open wpe) H (by kspl_open wmem) ca_loose (by kspl_open wmem) (by kspl_open wx1) (by kspl_open wput) (by kspl_open wle) fun σ H => ?_
    exact SS.nil (SS.nil (SS.nil (SS.nil (SS.nil (SS.nil (SS.nil (SS.nil (SS.nil (turn_fin (g := { g with loose := way }) H hx hl)))))))))
  clear h
  refine SS.cons (S1.ite (by kspl_open wpt) (fun h => ?_) (fun h => ?_))
  · refine SS.cons ?_
    refine S1.setAO (x := z.1) (d := z.2.1) (C := cI) (by kspl_open wpe) (by kspl_open wpe) H hz1 ca_op (hput { z.2.2 with op := value.fmod 7 }).mem (putF_op _ _) (hput { z.2.2 with op := value.fmod 7 }) (by kspl_open wle) fun σ H => ?_
    exact SS.nil (SS.nil (SS.nil (SS.nil (SS.nil (SS.nil (SS.nil (SS.nil (SS.nil (SS.nil (hfin _ _ H))))))))))
  clear h
  refine SS.cons (S1.ite (by kspl_open wpt) (fun h => ?_) (fun h => ?_))
  · refine SS.cons ?_
    refine S1.setIt ?_
    refine WV.callO (PE.globR (by kspl_open wmem) g_Inst) k_Inst (by kspl_open wpes) H (wc_inst1 H.fzs) ?_
    rintro v σ L' ⟨x, d, rfl, rfl⟩ H
    dsimp only [List.cons_append, List.nil_append] at H
    have hp2 : IsP σ p g r := H.isP (zs := zs) (fun e he => List.mem_cons_of_mem _ (List.mem_cons_of_mem _ (hsub.subset he))) hx hi
    have Hr2 := H.rebase
    refine ⟨.ref r.L, .int 0 0, PE.p_insts (by kspl_open wpe) hp2 Hr2, PE.int, fun ro ri rv e1 e2 e3 => ?_⟩
    obtain ⟨z0, zr, hzz⟩ : ∃ z0 zr, zs = z0 :: zr := by
      cases zs with
      | nil => simp at hzm
      | cons z0 zr => exact ⟨z0, zr, rfl⟩
    have hlen : 0 < (refs r.xs).length := by rw [hx, hzz]; simp
    have hset : (refs r.xs).set (0 : Int).toNat (.ref x) = refs (x :: obX zr) := by rw [hx, hzz]; rfl
    refine Ws.setL (H.get r.L _ _ (by kspl_open wmem)) (by decide) (by kspl_open wln) e1 e2 e3 (H.wr r.L _ (by kspl_open wmem)) ?_
    rw [hset]
    have hpu : Put r.L (.list (refs r.xs)) (.list (refs (x :: obX zr))) ((x, .inst cI d, true) :: (d, .ns (⟨value.fmod 7, 0, 0, 0, 0, false, false⟩ : In).fs, true) :: (a2, .list (intL argsL), true) :: (a1, .list (intL endsL), true) :: trT p g r (ents zs ++ G)) _ := .there _ (.there _ (.there _ (.there _ (.there _ (.there _ (.here _))))))
    have H2 := H.turn hpu
    rw [hzz] at H2
    exact SS.nil (SS.nil (SS.nil (SS.nil (SS.nil (SS.nil (SS.nil (SS.nil (SS.nil (SS.nil (SS.nil (turn_first H2 (by rw [hzz] at hl; simpa using hl))))))))))))
  clear h
  refine SS.cons (S1.ite (by kspl_open wpt) (fun h => ?_) (fun h => ?_))
  · refine SS.cons ?_
    refine S1.setAW (σ0 := σ0) ?_
    refine WV.not ?_
    refine WV.pe (PE.p_is_flat (by kspl_open wpe) hp Hr) ⟨_, Tru.bool, ?_⟩
    refine ⟨_, _, cP, p, r.d, true, _, ({ g with flat := !g.flat } : Pg).fs r, (by kspl_open wpe), H, (by kspl_open wmem), ca_flat, (by kspl_open wmem), (by kspl_open wx1), (by kspl_open wput), (by kspl_open wle), fun σ H => ?_⟩
    have H2 : Own fz σ0 σ ((a2, .list (intL argsL), true) :: (a1, .list (intL endsL), true) :: trT p { g with flat := !g.flat } r (ents zs ++ G)) := H
    clear H
    have H := H2
    have hp2 : IsP σ p { g with flat := !g.flat } r := H.isP (zs := zs) (fun e he => (tr_sub p { g with flat := !g.flat } r zs G _ _).subset he) hx hi
    have Hr2 := H.rebase
    refine SS.cons ?_
    refine S1.setAW (σ0 := σ0) ?_
    refine WV.ite (WT.pt (by kspl_open wpt) ?_)
    cases hc : value == 7 with
    | true =>
      rw [if_pos rfl]
      refine WV.newL .nil H fun b σ H => ?_
      refine ⟨_, _, cP, p, r.d, true, _, ({ g with flat := !g.flat } : Pg).fs { r with L := b }, (by kspl_open wpe), H, (by kspl_open wmem), ca_insts, (by kspl_open wmem), (by kspl_open wx1), (by kspl_open wput), (by kspl_open wle), fun σ H => ?_⟩
      exact SS.nil (SS.nil (SS.nil (SS.nil (SS.nil (SS.nil (SS.nil (SS.nil (SS.nil (SS.nil (SS.nil (SS.nil (turn_none H))))))))))))
    | false =>
      rw [if_neg (by decide)]
      refine WV.pe (PE.p_insts (by kspl_open wpe) hp2 Hr2) ⟨_, _, cP, p, r.d, true, _, ({ g with flat := !g.flat } : Pg).fs r, (by kspl_open wpe), H, (by kspl_open wmem), ca_insts, (by kspl_open wmem), (by kspl_open wx1), (by kspl_open wput), (by kspl_open wle), fun σ H => ?_⟩
      exact SS.nil (SS.nil (SS.nil (SS.nil (SS.nil (SS.nil (SS.nil (SS.nil (SS.nil (SS.nil (SS.nil (SS.nil (turn_fin (g := { g with flat := !g.flat }) H hx hl))))))))))))
  exact SS.nil (SS.nil (SS.nil (SS.nil (SS.nil (SS.nil (SS.nil (SS.nil (SS.nil (SS.nil (SS.nil (SS.nil (turn_fin H hx hl))))))))))))
end
section
variable {f : Fx} {ρ : Loc} {σ : St}

set_option maxHeartbeats 1000000 in
theorem wc_turn {σ0 σ : St} {c : Cx} {n : Nat} {fz : Addr → Prop} {p : Addr} {g : Pg} {r : PR} {zs : List Ob} {G : List Ent} {kind spot value : Int} (H : Own fz σ0 σ (prE p g r zs ++ G)) (hx : r.xs = obX zs) (hi : g.insts = obI zs) (h0 : 0 < zs.length) (hl : zs.length ≤ 60) (hh : g.heads.length ≤ 100) (hv : 0 ≤ value ∧ value < 8) :
    WC c (n + 3) fz σ (.ref 290) [.ref p, .int kind 0, .int spot 0, .int value 0] fun _ σ' => TurnP fz σ0 p σ' := by
  refine WC.fnO (ρ := [("prog", some (.ref p)), ("kind", some (.int kind 0)), ("spot", some (.int spot 0)), ("value", some (.int value 0)), ("_law_ends", none), ("_law_args", none), ("many", none), ("inst", none), ("way", none)]) (gl := ["len", "Inst"]) (cl := []) (pa := [("prog", .ref p), ("kind", .int kind 0), ("spot", .int spot 0), ("value", .int value 0)]) (rest := ["_law_ends", "_law_args", "many", "inst", "way"]) rfl (.of fun P => by kernel_rfl) (fun P => by kernel_rfl) (fun P raw e => ?_) fun env => ?_
  · rcases raw with _ | ⟨u, raw⟩
    · cases e
    simp only [List.map_cons, List.cons.injEq] at e
    obtain ⟨e0, e⟩ := e
    obtain ⟨v, w, x, rfl, e1, e2, e3⟩ := raw3 e
    exact ⟨[("prog", u), ("kind", v), ("spot", w), ("value", x)], by kernel_rfl, by simp [e0, e1, e2, e3]⟩
  have hgl : g.insts.length = zs.length := by rw [hi]; simp
  have hm0 : (g.insts.length : Int) ≠ 0 := by kspl_open wln
  have hmod : 0 ≤ spot.fmod (g.insts.length : Int) ∧ (spot.fmod (g.insts.length : Int)).toNat < zs.length := by
    have h3 : g.insts.length = zs.length := by rw [hi]; simp
    have h1 := Int.fmod_nonneg_of_pos spot (b := (g.insts.length : Int)) (by kspl_open wln)
    have h2 := Int.fmod_lt_of_pos spot (b := (g.insts.length : Int)) (by kspl_open wln)
    exact ⟨h1, by kspl_open wln⟩
  conv => arg 4; whnf
  refine SS.cons ?_
  refine S1.name ?_
  refine WV.newL (vs := [.int 0 0, .int 97 0, .int 120 0, .int 255 0, .int 256 0, .int (-1) 0, .int 300 0, .int 98 0]) ?hh H (fun a1 σ H => ?_) (by kspl_open wle) (by rfl)
  case hh => exact .cons (by kspl_open wpe) (.cons (by kspl_open wpe) (.cons (by kspl_open wpe) (.cons (by kspl_open wpe) (.cons (by kspl_open wpe) (.cons (by kspl_open wpe) (.cons (by kspl_open wpe) (.cons (by kspl_open wpe) .nil)))))))
  refine ⟨_, (by kspl_open wset), ?_⟩
  refine SS.cons ?_
  refine S1.name ?_
  refine WV.newL (vs := [.int 0 0, .int 1 0, .int 2 0, .int 3 0, .int 63 0, .int 64 0, .int (-1) 0, .int 100 0]) ?hh H (fun a2 σ H => ?_) (by kspl_open wle) (by rfl)
  case hh => exact .cons (by kspl_open wpe) (.cons (by kspl_open wpe) (.cons (by kspl_open wpe) (.cons (by kspl_open wpe) (.cons (by kspl_open wpe) (.cons (by kspl_open wpe) (.cons (by kspl_open wpe) (.cons (by kspl_open wpe) .nil)))))))
  refine ⟨_, (by kspl_open wset), ?_⟩
  have H2 : Own fz σ0 σ ((a2, .list (intL argsL), true) :: (a1, .list (intL endsL), true) :: trT p g r (ents zs ++ G)) := H
  clear H
  have H := H2
  have hp : IsP σ p g r := H.isP (zs := zs) (fun e he => (tr_sub p g r zs G _ _).subset he) hx hi
  have Hr := H.rebase
  refine SS.cons ?_
  refine S1.name (WV.pe (PE.lenP (by kspl_open wmem) (by kspl_open wpe) hp Hr) ⟨_, (by kspl_open wset), ?_⟩)
  obtain ⟨z, hz⟩ : ∃ z, zs[(spot.fmod (g.insts.length : Int)).toNat]? = some z := ⟨_, List.getElem?_eq_getElem hmod.2⟩
  obtain ⟨A, B, hAB⟩ : ∃ A B, zs = A ++ z :: B := List.append_of_mem (List.mem_of_getElem? hz)
  have hxz : r.xs[(spot.fmod (g.insts.length : Int)).toNat]? = some z.1 := by rw [hx, List.getElem?_map, hz]; rfl
  have hmz : (g.insts.length : Int) = (zs.length : Int) := by rw [hi]; simp
  refine SS.cons ?_
  refine S1.tupO (σ0 := σ0) (ns := ["inst", "way"]) (.cons _ _ (.cons _ _ .nil)) ?_
  refine WLs.cons ?_
  refine WV.pe (PE.item (PE.p_insts (by kspl_open wpe) hp Hr) (PE.bin (by kspl_open wpe) (by kspl_open wpe) (Bin.mod hm0)) (Itm.list (v := .ref z.1) hp.L hmod.1 (by rw [List.getElem?_map, hxz]; rfl))) ?_
  refine WLs.cons ?_
  refine WV.subW rfl ?_
  refine WV.newL (vs := intL [0, 1, 2, 3, (g.insts.length : Int) - 1, (g.insts.length : Int), -1, 5]) ?hh H (fun b σ H => ?_) (by kspl_open wle) (by rfl)
  case hh => exact .cons (by kspl_open wpe) (.cons (by kspl_open wpe) (.cons (by kspl_open wpe) (.cons (by kspl_open wpe) (.cons (by kspl_open wpe) (.cons (by kspl_open wpe) (.cons (by kspl_open wpe) (.cons (by kspl_open wpe) .nil)))))))
  obtain ⟨way, hway⟩ := at8 (l := [0, 1, 2, 3, (g.insts.length : Int) - 1, (g.insts.length : Int), -1, 5]) rfl hv
  refine WV.pe (by kspl_open wpe) ⟨.int way 0, Itm.list (H.get b _ _ (by kspl_open wmem)) hv.1 hway, ?_⟩
  replace H := H.sub (List.sublist_cons_self ..)
  refine WLs.nil ⟨_, ([("prog", some (.ref p)), ("kind", some (.int kind 0)), ("spot", some (.int spot 0)), ("value", some (.int value 0)), ("_law_ends", some (.ref a1)), ("_law_args", some (.ref a2)), ("many", some (.int (g.insts.length : Int) 0)), ("inst", some (.ref z.1)), ("way", some (.int way 0))] : Loc), H, ?_, ?_, fun σ H => ?_⟩
  · exact (by kspl_open wsta)
  · exact (by kspl_open wstr)
  rw [hmz]
  refine turn2 H hx hi hAB hl hh hv _ ?_
  conv => rhs; whnf
end
section
/-! plain: what the law reckons of a program -/
noncomputable def b1 (i : In) : Bool := (i.op == 1) && !((decide (0 ≤ i.low) && decide (i.low ≤ i.high)) && decide (i.high < 256))
noncomputable def b2 (i : In) : Bool := ((i.op == 2) && decide (i.arg < 2)) || ((i.op == 4) && decide (i.arg < 0))
noncomputable def b3 (i : In) : Bool := (i.op == 3) && !(decide (0 < i.arg) && decide (i.arg < 64))
theorem bad_eq (i : In) : instBad i = (b1 i || b2 i || b3 i) := by
  have h1 : decide (i.high ≤ 255) = decide (i.high < 256) := by rw [decide_eq_decide]; kspl_open wln
  have h2 : (i.arg == 0 || Builtin.bitAnd i.arg 63 != i.arg) = !(decide (0 < i.arg) && decide (i.arg < 64)) := by
    rw [bitAnd_m6, Bool.eq_iff_iff]
    simp
    lia
  unfold instBad b1 b2 b3
  rw [h1, h2]
  rw [Bool.and_assoc (decide (0 ≤ i.low))]
  ac_rfl
noncomputable def wrB (g : Pg) (i : In) : List Bool := (if i.op == 0 then [g.flat] else []) ++ [b1 i, b2 i, b3 i]
noncomputable def wyB (i : In) : List Int := (if ![(4 : Int), 6].any (· == i.op) then [i.out] else []) ++ (if i.op == 0 then [i.arg] else [])
noncomputable def lastB (g : Pg) : Bool := (g.insts.getLast?.map (·.last)).getD false
noncomputable def WRof (g : Pg) : List Bool := g.insts.flatMap (wrB g) ++ (if g.flat then [!decide (g.heads = headsOf g) || !lastB g] else [])
noncomputable def WYof (g : Pg) : List Int := [g.start, g.loose] ++ g.insts.flatMap wyB
noncomputable def okW (g : Pg) (w : Int) : Bool := if g.flat then (headsOf g).any (· == w) else decide (0 ≤ w) && decide (w < (g.insts.length : Int))
theorem any_flat {α β} (l : List α) (t : α → List β) (q : β → Bool) : (l.flatMap t).any q = l.any fun x => (t x).any q := by
  induction l with
  | nil => rfl
  | cons a l ih => simp only [List.flatMap_cons, List.any_append, List.any_cons, ih]
theorem any_or2 {α} (l : List α) (p q : α → Bool) : (l.any fun x => p x || q x) = (l.any p || l.any q) := by
  induction l with
  | nil => rfl
  | cons a l ih =>
    simp only [List.any_cons, ih]
    cases p a <;> cases q a <;> simp
theorem ok_bad {g : Pg} (h : g.insts ≠ []) (w : Int) : (!okW g w) = wayBad g (headsOf g) w := by
  have hpos := List.length_pos_iff.mpr h
  unfold okW wayBad
  cases hf : g.flat with
  | false => simp
  | true =>
    rw [if_pos rfl]
    have e : (headsOf g).any (· == w) = (headsOf g).contains w := by
      rw [Bool.eq_iff_iff, List.any_eq_true, List.contains_iff_mem]
      constructor
      · rintro ⟨x, hx, e⟩
        have : x = w := by simpa using e
        exact this ▸ hx
      · intro h; exact ⟨w, h, by simp⟩
    rw [e]
    cases hc : (headsOf g).contains w with
    | false => simp
    | true =>
      have hm : w ∈ headsOf g := by first | exact of_decide_eq_true hc | exact eq_of_beq hc | exact ne_of_beq_false hc | exact of_decide_eq_false hc | exact beq_iff_eq.mpr hc | exact beq_false_of_ne hc | simpa using hc
      have hb := headsTo_bound g _ w hm
      have h1 : decide (0 ≤ w) = true := by simpa using hb.1
      have h2 : decide (w < (g.insts.length : Int)) = true := by rw [decide_eq_true_eq]; kspl_open wln
      rw [h1, h2]; rfl
theorem right_eq {g : Pg} (h1 : g.insts.isEmpty = false) (h2 : (g.insts[0]?.map (·.op != 6)).getD false = false) : (!((WRof g).any (· == true)) && (WYof g).all (okW g)) = !wrong g := by
  have hne : g.insts ≠ [] := by rintro e; rw [e] at h1; cases h1
  have e1 : (WYof g).all (okW g) = !((WYof g).any (wayBad g (headsOf g))) := by
    rw [List.all_eq_not_any_not]
    congr 2
    funext w
    exact ok_bad hne w
  have e2 : ∀ i : In, (wyB i).any (wayBad g (headsOf g)) = waysBad g (headsOf g) i := by
    intro i
    unfold wyB waysBad goals
    by_cases h0 : i.op = 0
    · simp [h0]
    · have h0' : (i.op == 0) = false := by first | exact of_decide_eq_true h0 | exact eq_of_beq h0 | exact ne_of_beq_false h0 | exact of_decide_eq_false h0 | exact beq_iff_eq.mpr h0 | exact beq_false_of_ne h0 | simpa using h0
      rw [h0']
      cases ![(4 : Int), 6].any (· == i.op) <;> simp
  have e3 : ∀ i : In, (wrB g i).any (· == true) = (instBad i || (g.flat && i.op == 0)) := by
    intro i
    unfold wrB
    rw [bad_eq]
    by_cases h0 : i.op = 0
    · have h0' : (i.op == 0) = true := by first | exact of_decide_eq_true h0 | exact eq_of_beq h0 | exact ne_of_beq_false h0 | exact of_decide_eq_false h0 | exact beq_iff_eq.mpr h0 | exact beq_false_of_ne h0 | simpa using h0
      rw [h0']
      first | (generalize g.flat = y0; generalize b1 i = y1; generalize b2 i = y2; generalize b3 i = y3; revert y0 y1 y2 y3; decide) | (cases g.flat <;> cases b1 i <;> cases b2 i <;> cases b3 i <;> rfl)
    · have h0' : (i.op == 0) = false := by first | exact of_decide_eq_true h0 | exact eq_of_beq h0 | exact ne_of_beq_false h0 | exact of_decide_eq_false h0 | exact beq_iff_eq.mpr h0 | exact beq_false_of_ne h0 | simpa using h0
      rw [h0']
      first | (generalize g.flat = y0; generalize b1 i = y1; generalize b2 i = y2; generalize b3 i = y3; revert y0 y1 y2 y3; decide) | (cases g.flat <;> cases b1 i <;> cases b2 i <;> cases b3 i <;> rfl)
  have e4 : (WRof g).any (· == true) = (g.insts.any (fun i => instBad i || (g.flat && i.op == 0)) || (g.flat && (!decide (g.heads = headsOf g) || !lastB g))) := by
    unfold WRof
    rw [List.any_append, any_flat]
    congr 1
    · congr 1; funext i; exact e3 i
    · cases g.flat <;> simp
  have e5 : (WYof g).any (wayBad g (headsOf g)) = ([g.start, g.loose].any (wayBad g (headsOf g)) || g.insts.any (waysBad g (headsOf g))) := by
    unfold WYof
    rw [List.any_append, any_flat]
    congr 2; funext i; exact e2 i
  have e6 : g.insts.any (instWrong g (headsOf g)) = (g.insts.any (fun i => instBad i || (g.flat && i.op == 0)) || g.insts.any (waysBad g (headsOf g))) := by
    rw [← any_or2]
    congr 1; funext i
    unfold instWrong
    ac_rfl
  unfold wrong bodyWrong
  rw [h1, h2, e1, e4, e5, e6]
  show _ = !(false || false || _)
  rw [show ((g.insts.getLast?.map (·.last)).getD false) = lastB g from rfl]
  generalize g.insts.any (fun i => instBad i || (g.flat && i.op == 0)) = a
  generalize g.insts.any (waysBad g (headsOf g)) = b
  generalize [g.start, g.loose].any (wayBad g (headsOf g)) = c
  generalize (g.flat && (!decide (g.heads = headsOf g) || !lastB g)) = d
  cases a <;> cases b <;> cases c <;> cases d <;> rfl
end
section
variable {f : Fx} {ρ : Loc} {σ : St}

noncomputable def P_right (g : Pg) : Value → List Ent → Prop := fun v L => v = .bool (!wrong g) ∧ L = []

theorem bolL_app (bs : List Bool) (b : Bool) : bolL bs ++ [.bool b] = bolL (bs ++ [b]) := by simp
noncomputable def pcW (g : Pg) : Value → Bool
  | .int w _ => !okW g w
  | _ => false
theorem pcW_list (g : Pg) (l : List Int) : (((intL l).filter (pcW g)).map id).isEmpty = l.all (okW g) := by
  rw [List.map_id]
  induction l with
  | nil => rfl
  | cons w l ih =>
    simp only [List.map_cons, List.filter_cons, List.all_cons]
    have e : pcW g (.int w 0) = !okW g w := rfl
    rw [e]
    cases okW g w with
    | true => simpa using ih
    | false => rfl
noncomputable def pcL (g : Pg) : Value → Bool
  | .int k _ => (g.insts[k.toNat]?.map (·.last)).getD false
  | _ => false
noncomputable def ggL : Value → Value
  | .int k _ => .int (k + 1) 0
  | v => v
theorem heads_eq (g : Pg) : [Value.int 0 0] ++ ((upto ((g.insts.length : Int) - 1)).filter (pcL g)).map ggL = intL (headsOf g) := by
  have e : ((g.insts.length : Int) - 1).toNat = g.insts.length - 1 := by kspl_open wln
  unfold upto headsOf headsTo
  rw [e, List.filter_map, List.map_map]
  show _ = List.map _ (_ :: _)
  rw [List.map_cons, List.map_map]
  rfl
theorem PT.eq {e : Expr} {b b' : Bool} (h : PT f ρ σ e b) (e1 : b = b') : PT f ρ σ e b' := e1 ▸ h
set_option maxHeartbeats 1000000 in
theorem lr_end {σ0 σ : St} {c : Cx} {n : Nat} {fz : Addr → Prop} {p : Addr} {g : Pg} {env : Env} {a2 a3 a4 a5 : Addr} {L : List Ent} {o1 : Option Value} (h1 : g.insts.isEmpty = false) (h2 : (g.insts[0]?.map (·.op != 6)).getD false = false) (hl : g.insts.length ≤ 60)
    (H : Own fz σ0 σ ((a4, .list (bolL (WRof g)), true) :: (a3, .list (intL (WYof g)), true) :: L)) (hC : ∀ (f' : Fx) (ρ' : Loc) (w : Int), Cmp f' ρ' σ .NotIn (.int w 0) (.ref a5) (!okW g w)) (rest : List Stmt) (hr : rest = (bodyOf (fdo 295 c.w.params)).drop 7) :
    SS (⟨c, n, fz, env, ["len", "INST_FAIL", "range", "INST_MATCH", "INST_ALT", "INST_RANGE", "INST_CAPTURE", "INST_EMPTY"], ["prog", "goals"]⟩ : Fx) ([("prog", some (.ref p)), ("many", some (.int (g.insts.length : Int) 0)), ("heads", some (.ref a2)), ("ways", some (.ref a3)), ("wrong", some (.ref a4)), ("inst", o1), ("goals", some (.ref a5))] : Loc) σ rest (RQ (Ret fz σ0 (P_right g))) := by
  subst hr
  have hre := right_eq h1 h2
  conv => arg 4; whnf
  have hwl : (WYof g).length ≤ 1000 := by
    unfold WYof
    rw [List.length_append, List.length_flatMap]
    have : (g.insts.map fun i => (wyB i).length).sum ≤ g.insts.length * 2 := by
      generalize g.insts = l
      induction l with
      | nil => simp
      | cons i l ih =>
        have : (wyB i).length ≤ 2 := by unfold wyB; rw [List.length_append]; split <;> split <;> simp
        simp only [List.map_cons, List.sum_cons, List.length_cons]
        lia
    simp only [List.length_cons, List.length_nil]
    lia
  refine SS.cons ?_
  refine S1.ret ?_
  refine WV.and ?_
  refine WV.pe (PE.cmp PE.bool (by kspl_open wpe) (Cmp.notInB (H.get a4 _ _ (by kspl_open wmem)))) ⟨_, rfl, ?_⟩
  cases hb : (WRof g).any (· == true) with
  | true =>
    rw [hb] at hre
    refine ⟨_, H.sub (List.nil_sublist _), ?_, rfl⟩
    rw [← hre]; rfl
  | false =>
    rw [hb] at hre
    rw [if_pos (by decide : (!false) = true)]
    refine WV.and1 ?_
    refine WV.cmpW ?_
    refine WV.comp [("goals", .ref a5)] [] (pcW g) id (WV.pe (by kspl_open wpe) ⟨a3, _, _, rfl, Iter.list (H.get a3 _ _ (by kspl_open wmem)), ?_, ?_, fun d hd => ?_⟩) (CompOk.of (by rfl)) (by intro q hq; simp at hq; subst hq; exact ⟨(by kspl_open wmem), (by kspl_open wmem)⟩)
    · (first | ((repeat first | refine lmap_lt ?_ | refine lmap_le ?_); kspl_open wln) | (rw [List.length_map]; kspl_open wln))
    · intro os dr gn env v hv
      obtain ⟨w, hw, rfl⟩ := intL_mem hv
      exact ⟨tests_one (ρ := ([("way", some (.int w 0)), ("goals", some (.ref a5))] : Loc)) (PT.cmp (by kspl_open wpe) (by kspl_open wpe) (hC _ _ w)), fun _ => (show PE _ ([("way", some (.int w 0)), ("goals", some (.ref a5))] : Loc) _ _ (Value.int w 0) from (by kspl_open wpe))⟩
    have H2 := H.alloc (o := .list (((intL (WYof g)).filter (pcW g)).map id)) hd
    generalize σ.set d _ = σ at H2
    clear H
    have H := H2
    refine WV.newL .nil H fun e σ H => ?_
    refine ⟨_, Cmp.eqN (H.get d _ _ (by kspl_open wmem)) (H.get e _ _ (by kspl_open wmem)), _, H.sub (List.nil_sublist _), ?_, rfl⟩
    rw [pcW_list, ← hre]; simp [retOf]
theorem flat_len {α : Type} {f : In → List α} {k : Nat} (h : ∀ i, (f i).length ≤ k) (l : List In) : (l.flatMap f).length ≤ l.length * k := by
  induction l with
  | nil => exact Nat.zero_le _
  | cons i l ih => rw [List.flatMap_cons, List.length_append, List.length_cons, Nat.add_mul, Nat.one_mul]; have := h i; lia
theorem wyB_len (i : In) : (wyB i).length ≤ 2 := by unfold wyB; rw [List.length_append]; split <;> split <;> simp
theorem wrB_len (g : Pg) (i : In) : (wrB g i).length ≤ 4 := by unfold wrB; rw [List.length_append]; split <;> simp
set_option maxHeartbeats 2000000 in
theorem lr_mid {σ0 σ : St} {c : Cx} {n : Nat} {fz : Addr → Prop} {p : Addr} {g : Pg} {r : PR} {env : Env} {a2 : Addr} (hp : IsP σ0 p g r) (h1 : g.insts.isEmpty = false) (h2 : (g.insts[0]?.map (·.op != 6)).getD false = false) (hl : g.insts.length ≤ 60)
    (H : Own fz σ0 σ ([(a2, .list (intL (headsOf g)), true)] : List Ent)) (rest : List Stmt) (hr : rest = (bodyOf (fdo 295 c.w.params)).drop 3) :
    SS (⟨c, n, fz, env, ["len", "INST_FAIL", "range", "INST_MATCH", "INST_ALT", "INST_RANGE", "INST_CAPTURE", "INST_EMPTY"], ["prog", "goals"]⟩ : Fx) ([("prog", some (.ref p)), ("many", some (.int (g.insts.length : Int) 0)), ("heads", some (.ref a2)), ("ways", none), ("wrong", none), ("inst", none), ("goals", none)] : Loc) σ rest (RQ (Ret fz σ0 (P_right g))) := by
  subst hr
  have hlen := hp.len
  conv => arg 4; whnf
  refine SS.cons ?_
  refine S1.tupO (σ0 := σ0) (ns := ["ways", "wrong"]) (.cons _ _ (.cons _ _ .nil)) ?_
  refine WLs.cons (WV.newL (vs := intL [g.start, g.loose]) (.cons (by kspl_open wpe) (.cons (by kspl_open wpe) .nil)) H fun a3 σ H => WLs.cons (WV.newL .nil H fun a4 σ H => WLs.nil ⟨_, _, H, (by kspl_open wsta), (by kspl_open wstr), fun σ H => ?_⟩))
  refine SS.cons ?_
  refine S1.forO (σ0 := σ0) (WV.pe (PE.p_insts (by kspl_open wpe) hp H) ?_)
  let p1p := fun (i : Nat) (ρ2 : Loc) (L2 : List Ent) o => (Ay2 (ρ2 = ([("prog", some (.ref p)), ("many", some (.int (g.insts.length : Int) 0)), ("heads", some (.ref a2)), ("ways", some (.ref a3)), ("wrong", some (.ref a4)), ("inst", o), ("goals", none)] : Loc)) (L2 = ([(a4, .list (bolL ((g.insts.take i).flatMap (wrB g))), true), (a3, .list (intL (g.start :: g.loose :: (g.insts.take i).flatMap wyB)), true), (a2, .list (intL (headsOf g)), true)] : List Ent)) : Prop)
  let I1 : Nat → Loc → List Ent → Prop := fun i ρ2 L2 => Ey1 (p1p i ρ2 L2)
  refine ⟨_, _, r.L, _, rfl, Iter.list (H.ext _ _ hp.L), H.moreB hp.L, I1, ⟨none, rfl, rfl⟩, ?_, ?_⟩
  · rintro i z ρ2 σ L2 hz H ⟨o, rfl, rfl⟩
    obtain ⟨y, hy, rfl⟩ := refs_get hz
    obtain ⟨q, hq, hI⟩ := hp.px hy
    have ht := take_succ_of hq
    have hil : i < g.insts.length := (List.getElem?_eq_some_iff.mp hq).1
    have lw : ((g.insts.take i).flatMap wyB).length ≤ 1000 := by
      have := flat_len wyB_len (g.insts.take i)
      have := List.length_take_le i g.insts
      lia
    have lb : ((g.insts.take i).flatMap (wrB g)).length ≤ 1000 := by
      have := flat_len (wrB_len g) (g.insts.take i)
      have := List.length_take_le i g.insts
      lia
    generalize hW : (g.insts.take i).flatMap wyB = W at H lw
    generalize hB : (g.insts.take i).flatMap (wrB g) = B at H lb
    refine ⟨_, (by kspl_open wset), ?_⟩
    refine SS.cons (S1.cutO (σ0 := σ0) (fun ρ1 L1 => ρ1 = ([("prog", some (.ref p)), ("many", some (.int (g.insts.length : Int) 0)), ("heads", some (.ref a2)), ("ways", some (.ref a3)), ("wrong", some (.ref a4)), ("inst", some (.ref y)), ("goals", none)] : Loc) ∧ L1 = ([(a4, .list (bolL B), true), (a3, .list (intL (g.start :: g.loose :: W ++ (if ![(4 : Int), 6].any (· == q.op) then [q.out] else []))), true), (a2, .list (intL (headsOf g)), true)] : List Ent)) (S1.iteW (WT.notInT (by kspl_open wpe) (by kspl_open wpis) H fun σ H => ?_)) ?_)
    · split
      · rename_i hc
        refine SS.cons (S1.expr (WV.appendO (by kspl_open wpe) (by kspl_open wpe) H (by kspl_open wput) ?_ fun σ H => ?_))
        · simp only [List.length_map, List.length_cons]; kspl_open wln
        rw [intL_app] at H
        exact SS.nil ⟨rfl, _, H, rfl, rfl⟩
      · rename_i hc
        exact SS.nil ⟨rfl, _, H, rfl, (by kspl_open wle)⟩
    rintro ρ1 σ L1 H ⟨rfl, rfl⟩
    refine SS.cons (S1.cutO (σ0 := σ0) (fun ρ1 L1 => ρ1 = ([("prog", some (.ref p)), ("many", some (.int (g.insts.length : Int) 0)), ("heads", some (.ref a2)), ("ways", some (.ref a3)), ("wrong", some (.ref a4)), ("inst", some (.ref y)), ("goals", none)] : Loc) ∧ L1 = ([(a4, .list (bolL (B ++ (if q.op == 0 then [g.flat] else []))), true), (a3, .list (intL (g.start :: g.loose :: W ++ wyB q)), true), (a2, .list (intL (headsOf g)), true)] : List Ent)) (S1.ite (by kspl_open wpt) (fun h => ?_) (fun h => ?_)) ?_)
    · refine SS.cons (S1.expr (WV.appendO (by kspl_open wpe) (by kspl_open wpe) H (by kspl_open wput) ?_ fun σ H => ?_))
      · simp only [List.length_map, List.length_cons, List.length_append]; split <;> simp <;> lia
      rw [intL_app] at H
      refine SS.cons (S1.expr (WV.appendO (by kspl_open wpe) (by kspl_open wpe) H (by kspl_open wput) ?_ fun σ H => ?_))
      · (first | ((repeat first | refine lmap_lt ?_ | refine lmap_le ?_); kspl_open wln) | (simp only [List.length_map]; kspl_open wln))
      rw [bolL_app] at H
      exact SS.nil ⟨rfl, _, H, rfl, by unfold wyB; rw [h, if_pos rfl, if_pos rfl]; simp⟩
    · exact SS.nil ⟨rfl, _, H, rfl, by unfold wyB; rw [h]; simp⟩
    rintro ρ1 σ L1 H ⟨rfl, rfl⟩
    have lb2 : (B ++ (if q.op == 0 then [g.flat] else [])).length ≤ 1001 := by rw [List.length_append]; split <;> simp <;> lia
    generalize hB2 : B ++ (if q.op == 0 then [g.flat] else []) = B2 at H lb2
    refine SS.cons (S1.expr (WV.appendO (by kspl_open wpe) (PE.and (a := q.op == 1) (b := !((decide (0 ≤ q.low) && decide (q.low ≤ q.high)) && decide (q.high < 256))) (PE.cmp (by kspl_open wpe) (by kspl_open wpe) (by kspl_open wcmp)) fun _ => PE.and1 (PE.not (PE.and (PE.chain (by kspl_open wpe) (by kspl_open wchain)) fun _ => PE.and1 (PE.cmp (by kspl_open wpe) (by kspl_open wpe) (by kspl_open wcmp))) Tru.bool)) H (by kspl_open wput) ?_ fun σ H => ?_))
    · (first | ((repeat first | refine lmap_lt ?_ | refine lmap_le ?_); kspl_open wln) | (simp only [List.length_map]; kspl_open wln))
    rw [bolL_app] at H
    refine SS.cons (S1.expr (WV.appendO (by kspl_open wpe) (PE.or (a := (q.op == 2) && decide (q.arg < 2)) (b := (q.op == 4) && decide (q.arg < 0)) (PE.and (PE.cmp (by kspl_open wpe) (by kspl_open wpe) (by kspl_open wcmp)) fun _ => PE.and1 (PE.cmp (by kspl_open wpe) (by kspl_open wpe) (by kspl_open wcmp))) fun _ => PE.or1 (PE.and (PE.cmp (by kspl_open wpe) (by kspl_open wpe) (by kspl_open wcmp)) fun _ => PE.and1 (PE.cmp (by kspl_open wpe) (by kspl_open wpe) (by kspl_open wcmp)))) H (by kspl_open wput) ?_ fun σ H => ?_))
    · simp only [List.length_map, List.length_append, List.length_singleton]; kspl_open wln
    rw [bolL_app] at H
    refine SS.cons (S1.expr (WV.appendO (by kspl_open wpe) (PE.and (a := q.op == 3) (b := !(decide (0 < q.arg) && decide (q.arg < 64))) (PE.cmp (by kspl_open wpe) (by kspl_open wpe) (by kspl_open wcmp)) fun _ => PE.and1 (PE.not (PE.chain (by kspl_open wpe) (by kspl_open wchain)) Tru.bool)) H (by kspl_open wput) ?_ fun σ H => ?_))
    · simp only [List.length_map, List.length_append, List.length_singleton]; kspl_open wln
    rw [bolL_app] at H
    refine SS.nil ⟨_, H, _, rfl, ?_⟩
    rw [ht, List.flatMap_append, List.flatMap_append, hW, hB]
    simp [wrB, ← hB2, b1, b2, b3]
  rintro ρ2 σ L2 H ⟨o, rfl, rfl⟩
  have e : g.insts.take (refs r.xs).length = g.insts := by rw [List.length_map, hp.len, List.take_length]
  rw [e] at H
  have hbl : (g.insts.flatMap (wrB g)).length ≤ 1000 := by
    have := flat_len (wrB_len g) g.insts
    lia
  refine SS.cons (S1.cutO (σ0 := σ0) (fun ρ1 L1 => ρ1 = ([("prog", some (.ref p)), ("many", some (.int (g.insts.length : Int) 0)), ("heads", some (.ref a2)), ("ways", some (.ref a3)), ("wrong", some (.ref a4)), ("inst", o), ("goals", none)] : Loc) ∧ L1 = ([(a4, .list (bolL (WRof g)), true), (a3, .list (intL (WYof g)), true), (a2, .list (intL (headsOf g)), true)] : List Ent)) (S1.ite (by kspl_open wpt) (fun h => ?_) (fun h => ?_)) ?_)
  · have hf : g.flat = true := h
    obtain ⟨il, hil⟩ : ∃ il, g.insts.getLast? = some il := by
      cases hq : g.insts.getLast? with
      | none => rw [List.getLast?_eq_none_iff] at hq; rw [hq] at h1; cases h1
      | some il => exact ⟨il, rfl⟩
    have hil2 : g.insts[g.insts.length - 1]? = some il := by rw [← List.getLast?_eq_getElem?]; exact hil
    have hpos : 0 < g.insts.length := by
      have := (List.getElem?_eq_some_iff.mp hil2).1
      lia
    obtain ⟨y, hy, hI⟩ := hp.ix hil2
    have hlB : lastB g = il.last := by unfold lastB; rw [hil]; rfl
    have hy2 : (refs r.xs)[((-1 : Int) + ((refs r.xs).length : Int)).toNat]? = some (.ref y) := by
      rw [List.length_map, show ((-1 : Int) + (r.xs.length : Int)).toNat = g.insts.length - 1 by (rw [hlen]; exact last_at hpos), List.getElem?_map, hy]; rfl
    have hlr : -((refs r.xs).length : Int) ≤ (-1 : Int) := by (first | ((repeat first | refine lmap_lt ?_ | refine lmap_le ?_); kspl_open wln) | (rw [List.length_map]; kspl_open wln))
    refine SS.cons (S1.expr (WV.appendO (by kspl_open wpe) (PE.or (a := !decide (g.heads = headsOf g)) (b := !il.last) (PE.cmp (PE.p_heads (by kspl_open wpe) hp H) (by kspl_open wpe) (Cmp.neIL (H.ext _ _ hp.H) (H.get a2 _ _ (by kspl_open wmem)))) fun _ => PE.or1 (PE.not (PE.i_is_last (PE.item (PE.p_insts (by kspl_open wpe) hp H) (by kspl_open wpe) (Itm.listN (H.ext _ _ hp.L) (by decide) hlr hy2)) hI H) Tru.bool)) H (by kspl_open wput) ?_ fun σ H => ?_))
    · (first | ((repeat first | refine lmap_lt ?_ | refine lmap_le ?_); kspl_open wln) | (simp only [List.length_map]; kspl_open wln))
    rw [bolL_app] at H
    exact SS.nil ⟨rfl, _, H, rfl, by unfold WRof WYof; rw [hf, if_pos rfl, hlB]; rfl⟩
  · have hf : g.flat = false := h
    exact SS.nil ⟨rfl, _, H, rfl, by unfold WRof WYof; rw [hf]; simp⟩
  rintro ρ1 σ L1 H ⟨rfl, rfl⟩
  refine SS.cons ?_
  refine S1.name ?_
  refine WV.ite (WT.pt (by kspl_open wpt) ?_)
  cases hf : g.flat with
  | true =>
    rw [if_pos rfl]
    refine WV.pe (by kspl_open wpe) ⟨_, (by kspl_open wset), ?_⟩
    refine lr_end (a5 := a2) h1 h2 hl H (fun f' ρ' w => ?_) _ ?_
    · have := Cmp.notInL (f := f') (ρ := ρ') (i := w) (H.get a2 _ _ (by kspl_open wmem))
      unfold okW; rw [hf, if_pos rfl]; exact this
    · conv => rhs; whnf
  | false =>
    rw [if_neg (by decide)]
    refine WV.callT (by kspl_open wpe) (WLs.pes (.cons (by kspl_open wpe) .nil) rfl (WC.range1 (by kspl_open wln) (by kspl_open wln) fun r1 hr1 => ?_))
    refine ⟨_, (by kspl_open wset), ?_⟩
    have H2 := H.alloc (o := .rng (g.insts.length : Int)) hr1
    generalize σ.set r1 _ = σ at H2
    have H3 := H2.perm (perm_in [_] [_, _] [_])
    refine lr_end (a5 := r1) h1 h2 hl H3 (fun f' ρ' w => ?_) _ ?_
    · have := Cmp.notInR (f := f') (ρ := ρ') (k := w) (H2.get r1 _ _ (by kspl_open wmem))
      unfold okW; rw [hf, if_neg (by decide)]; exact this
    · conv => rhs; whnf
set_option maxHeartbeats 1000000 in
theorem wc_right {σ0 : St} {c : Cx} {n : Nat} {fz : Addr → Prop} {p : Addr} {g : Pg} {r : PR} (hp : IsP σ0 p g r) (hl : g.insts.length ≤ 60) (hfz : ∀ a, fz a → σ0 a ≠ none) :
    WC c (n + 1) fz σ0 (.ref 295) [.ref p] (Ret fz σ0 (P_right g)) := by
  refine WC.fnO (ρ := [("prog", some (.ref p)), ("many", none), ("heads", none), ("ways", none), ("wrong", none), ("inst", none), ("goals", none)]) (gl := ["len", "INST_FAIL", "range", "INST_MATCH", "INST_ALT", "INST_RANGE", "INST_CAPTURE", "INST_EMPTY"]) (cl := ["prog", "goals"]) (pa := [("prog", .ref p)]) (rest := ["many", "heads", "ways", "wrong", "inst", "goals"]) rfl (.of fun P => by kernel_rfl) (fun P => by kernel_rfl) (hb1 fun P u => by kernel_rfl) fun env => ?_
  have H : Own fz σ0 σ0 [] := Own.start hfz
  have hlen := hp.len
  conv => arg 4; whnf
  refine SS.cons ?_
  refine S1.name (WV.pe (by kspl_open wpe) ⟨_, (by kspl_open wset), ?_⟩)
  by_cases hE : g.insts = []
  · have hz : ((g.insts.length : Int) == 0) = true := by rw [hE]; rfl
    refine SS.cons (S1.ite (b := true) ?_ (fun _ => ?_) (fun h => absurd h (by decide)))
    · refine PT.or (a := true) (b := true) ?_ (fun h => absurd h (by decide))
      exact PT.eq (PT.cmp (by kspl_open wpe) (by kspl_open wpe) (by kspl_open wcmp)) hz
    · refine SS.cons (S1.ret (WV.pe (by kspl_open wpe) ⟨_, H, ?_, rfl⟩))
      have : wrong g = true := by unfold wrong; rw [hE]; rfl
      rw [this]; rfl
  · obtain ⟨i0, ir, hE2⟩ := List.exists_cons_of_ne_nil hE
    have hi0 : g.insts[0]? = some i0 := by rw [hE2]; rfl
    have h1 : g.insts.isEmpty = false := by rw [hE2]; rfl
    have hz : ((g.insts.length : Int) == 0) = false := by rw [hE2]; simp; kspl_open wln
    clear hE2
    obtain ⟨y, hy, hI⟩ := hp.ix hi0
    have hy0 : r.xs[(0 : Int).toNat]? = some y := hy
    refine SS.cons (S1.ite (b := (false || i0.op != 6)) ?_ (fun h => ?_) (fun h => ?_))
    · refine PT.or ?_ (fun _ => PT.or1 (PT.cmp (PE.i_op (PE.p_inst (by kspl_open wpe) PE.int hp H (by decide) hy0) hI H) (by kspl_open wpe) (by kspl_open wcmp)))
      exact PT.eq (PT.cmp (by kspl_open wpe) (by kspl_open wpe) (by kspl_open wcmp)) hz
    · refine SS.cons (S1.ret (WV.pe (by kspl_open wpe) ⟨_, H, ?_, rfl⟩))
      have h : (i0.op != 6) = true := by first | exact of_decide_eq_true h | exact eq_of_beq h | exact ne_of_beq_false h | exact of_decide_eq_false h | exact beq_iff_eq.mpr h | exact beq_false_of_ne h | simpa using h
      have : wrong g = true := by unfold wrong; rw [h1, hi0]; simp [h]
      rw [this]; rfl
    refine SS.nil ?_
    have h2 : (g.insts[0]?.map (·.op != 6)).getD false = false := by rw [hi0]; simpa using h
    refine SS.cons ?_
    refine S1.name ?_
    refine WV.addL ?_
    refine WV.newL (vs := [.int 0 0]) (.cons (by kspl_open wpe) .nil) H fun a1 σ H => ?_
    refine WV.comp [("prog", .ref p)] [] (pcL g) ggL (WV.callT (by kspl_open wpe) (WLs.pes (.cons (by kspl_open wpe) .nil) rfl (WC.range1 (by kspl_open wln) (by kspl_open wln) fun r1 hr1 => ⟨r1, _, _, rfl, Iter.rng (St.set_same ..), ?_, ?_, fun b hb => ?_⟩))) (CompOk.of (by rfl)) (by intro q hq; simp at hq; subst hq; exact ⟨(by kspl_open wmem), (by kspl_open wmem)⟩)
    · simp [upto]; kspl_open wln
    · intro os dr gn env v hv
      have H2 := H.alloc (o := .rng ((g.insts.length : Int) - 1)) hr1
      obtain ⟨k, hk, rfl⟩ := List.mem_map.mp hv
      have hk2 := List.mem_range.mp hk
      have hkl : k < g.insts.length := by kspl_open wln
      have hk1 : g.insts[k]? = some g.insts[k] := List.getElem?_eq_getElem hkl
      obtain ⟨y2, hy2, hI2⟩ := hp.ix hk1
      have hk0 : (0 : Int) ≤ (k : Int) := by kspl_open wln
      have hy3 : r.xs[((k : Nat) : Int).toNat]? = some y2 := by rw [Int.toNat_natCast]; exact hy2
      have e1 : pcL g (.int (k : Int) 0) = g.insts[k].last := by
        show (g.insts[((k : Nat) : Int).toNat]?.map (·.last)).getD false = _
        rw [Int.toNat_natCast, hk1]; rfl
      rw [e1]
      refine ⟨tests_one (ρ := ([("number", some (.int (k : Int) 0)), ("prog", some (.ref p))] : Loc)) (PT.val (PE.i_is_last (PE.p_inst (by kspl_open wpe) (by kspl_open wpe) hp H2 hk0 hy3) hI2 H2) Tru.bool), fun _ => (show PE _ ([("number", some (.int (k : Int) 0)), ("prog", some (.ref p))] : Loc) _ _ (Value.int ((k : Int) + 1) 0) from (by kspl_open wpe))⟩
    have H2 := H.alloc (o := .rng ((g.insts.length : Int) - 1)) hr1
    have H3 := H2.alloc (o := .list (((upto ((g.insts.length : Int) - 1)).filter (pcL g)).map ggL)) hb
    refine ⟨a1, b, _, _, rfl, rfl, H3.get a1 _ _ (by kspl_open wmem), H3.get b _ _ (by kspl_open wmem), ?_, fun d hd => ?_⟩
    · have := List.length_filter_le (pcL g) (upto ((g.insts.length : Int) - 1))
      simp [upto] at this ⊢
      lia
    rw [heads_eq]
    have H4 := (H3.alloc (o := .list (intL (headsOf g))) hd).sub (.cons_cons _ (.cons _ (.cons _ (.cons _ (.refl _)))))
    refine ⟨_, (by kspl_open wset), ?_⟩
    refine lr_mid hp h1 h2 hl H4 _ ?_
    conv => rhs; whnf
end
section
variable {f : Fx} {ρ : Loc} {σ : St}


theorem f_law : IsFn 300 := .of fun P => by kernel_rfl
theorem own_isP {fz : Addr → Prop} {σ0 σ : St} {p : Addr} {g : Pg} {r : PR} {zs : List Ob} {G A : List Ent} (H : Own fz σ0 σ (A ++ (prE p g r zs ++ G))) (hx : r.xs = obX zs) (hi : g.insts = obI zs) : IsP σ p g r :=
  H.isP (zs := zs) (fun e he => List.mem_append_right _ (List.mem_append_left _ he)) hx hi
set_option maxHeartbeats 1000000 in
theorem law_d {σ0 σ : St} {c : Cx} {n : Nat} {fz : Addr → Prop} {sa p : Addr} {g : Pg} {r : PR} {zs : List Ob} {G : List Ent} {kind spot value : Int} {env : Env} {o1 o2 o3 o4 o5 o6 o7 o8 : Option Value} (H : Own fz σ0 σ (prE p g r zs ++ G)) (hx : r.xs = obX zs) (hi : g.insts = obI zs) (hG : Good g) (hh : g.heads.length ≤ 100) (hv : 0 ≤ value ∧ value < 8) (rest : List Stmt) (hr : rest = (bodyOf (fdo 300 c.w.params)).drop 9) :
    SS (⟨c, n + 150, fz, env, ["len", "_law_digits", "Program", "_law_inst", "Inst", "INST_MATCH", "flattened", "program_faults", "_law_is_told_well", "_law_turn", "_law_is_right"], []⟩ : Fx) ([("script", some (.ref sa)), ("_law_rest", o1), ("cell", o2), ("cells", o3), ("start", o4), ("loose", o5), ("is_flat", o6), ("kind", some (.int kind 0)), ("spot", some (.int spot 0)), ("value", some (.int value 0)), ("net", o7), ("many", o8), ("prog", some (.ref p))] : Loc) σ rest fun fl _ σ' => retOf fl = .bool true := by
  subst hr
  have hsm := hG.small
  have hlz : zs.length ≤ 60 := by rw [hi] at hsm; simpa using hsm
  have hpz : 0 < zs.length := by
    obtain ⟨i, h0, _⟩ := hG.parts.1
    have := (List.getElem?_eq_some_iff.mp h0).1
    rw [hi] at this; simpa using this
  have hp : IsP σ p g r := own_isP (A := []) H hx hi
  conv => arg 4; whnf
  refine SS.cons ?_
  refine S1.iteW ?_
  refine WT.or ?_
  refine WT.cmpW ?_
  refine WV.callO (PE.globR (by kspl_open wmem) g_program_faults) (fun P => by kernel_rfl) (by kspl_open wpes) H (wc_faults hp (by kspl_open wln) H.fzs) ?_
  rintro v σ L' ⟨a, xs, rfl, rfl, hxs, -⟩ H
  refine WV.newL .nil H fun b σ H => ?_
  refine ⟨_, Cmp.neN (H.get a (.list xs) true (List.mem_cons_of_mem _ (List.mem_cons_self ..))) (H.get b _ _ (by kspl_open wmem)), ?_⟩
  rw [hxs, hG.right]
  rw [if_neg (by decide)]
  have hp2 : IsP σ p g r := own_isP (A := [(b, .list [], true), (a, .list xs, true)]) H hx hi
  refine WT.or1 ?_
  refine WT.not ?_
  refine WT.val ?_
  refine WV.callO (PE.globR (by kspl_open wmem) g__law_is_told_well) (fun P => by kernel_rfl) (by kspl_open wpes) H (wc_told hp2 hG H.fzs) ?_
  rintro v σ L' ⟨rfl, rfl⟩ H
  refine ⟨true, Tru.bool, ?_⟩
  rw [if_neg (by decide)]
  refine SS.nil ?_
  have H2 : Own fz σ0 σ (prE p g r zs ++ G) := H.sub (.cons _ (.cons _ (.refl _)))
  clear H
  have H := H2
  refine SS.cons ?_
  refine S1.expr ?_
  refine WV.callG (PE.globR (by kspl_open wmem) g__law_turn) (fun P => by kernel_rfl) (WLs.pes (by kspl_open wpes) rfl ((wc_turn H hx hi hpz hlz hh hv).mono ?_))
  rintro v σ ⟨g', r', zs', G', H, hx', hi', hl'⟩
  have hp3 : IsP σ p g' r' := own_isP (A := []) H hx' hi'
  have hgl : g'.insts.length ≤ 60 := by rw [hi']; simpa using hl'
  refine SS.cons ?_
  refine S1.ret ?_
  refine WV.cmpW ?_
  refine WV.cmpW ?_
  refine WV.callO (PE.globR (by kspl_open wmem) g_program_faults) (fun P => by kernel_rfl) (by kspl_open wpes) H (wc_faults hp3 (by kspl_open wln) H.fzs) ?_
  rintro v σ L' ⟨a2, xs2, rfl, rfl, hxs2, -⟩ H
  refine WV.newL .nil H fun b2 σ H => ?_
  refine ⟨_, Cmp.eqN (H.get a2 (.list xs2) true (List.mem_cons_of_mem _ (List.mem_cons_self ..))) (H.get b2 _ _ (by kspl_open wmem)), ?_⟩
  have hp4 : IsP σ p g' r' := own_isP (A := [(b2, .list [], true), (a2, .list xs2, true)]) H hx' hi'
  refine WV.callO (PE.globR (by kspl_open wmem) g__law_is_right) (fun P => by kernel_rfl) (by kspl_open wpes) H (wc_right hp4 hgl H.fzs) ?_
  rintro v σ L' ⟨rfl, rfl⟩ H
  refine ⟨_, Cmp.eqB, ?_⟩
  rw [hxs2]
  simp [retOf]
set_option maxHeartbeats 1000000 in
theorem law_c {σ0 σ : St} {c : Cx} {n : Nat} {fz : Addr → Prop} {sa q : Addr} {g : Pg} {r : PR} {zs : List Ob} {G : List Ent} {kind spot value fl : Int} {env : Env} {o1 o2 o3 o4 o5 o8 : Option Value} (H : Own fz σ0 σ (prE q g r zs ++ G)) (hx : r.xs = obX zs) (hi : g.insts = obI zs) (hG : Good g) (hf : g.flat = false) (hN : g.insts.length ≤ 8) (hh : g.heads = []) (hv : 0 ≤ value ∧ value < 8) (rest : List Stmt) (hr : rest = (bodyOf (fdo 300 c.w.params)).drop 8) :
    SS (⟨c, n + 150, fz, env, ["len", "_law_digits", "Program", "_law_inst", "Inst", "INST_MATCH", "flattened", "program_faults", "_law_is_told_well", "_law_turn", "_law_is_right"], []⟩ : Fx) ([("script", some (.ref sa)), ("_law_rest", o1), ("cell", o2), ("cells", o3), ("start", o4), ("loose", o5), ("is_flat", some (.int fl 0)), ("kind", some (.int kind 0)), ("spot", some (.int spot 0)), ("value", some (.int value 0)), ("net", some (.ref q)), ("many", o8), ("prog", none)] : Loc) σ rest fun fl _ σ' => retOf fl = .bool true := by
  subst hr
  have hp : IsP σ q g r := own_isP (A := []) H hx hi
  conv => arg 4; whnf
  refine SS.cons ?_
  refine S1.name ?_
  refine WV.ite (WT.pt (by kspl_open wpt) ?_)
  split
  · refine WV.callO (PE.globR (by kspl_open wmem) g_flattened) (fun P => by kernel_rfl) (by kspl_open wpes) H (wc_flattened hp hG hf hN H.fzs) ?_
    rintro v σ L' ⟨p, g', r', zs', rfl, rfl, hx', hi', hG', hf'⟩ H
    refine ⟨_, (by kspl_open wset), ?_⟩
    have hh' : g'.heads.length ≤ 100 := by
      rw [(hG'.parts.2.2.2.2 hf').1]
      have := headsTo_len g' (g'.insts.length - 1)
      have := hG'.small
      unfold headsOf
      lia
    refine law_d H hx' hi' hG' hh' hv _ ?_
    conv => rhs; whnf
  · refine WV.pe (by kspl_open wpe) ⟨_, (by kspl_open wset), ?_⟩
    refine law_d H hx hi hG (by rw [hh]; simp) hv _ ?_
    conv => rhs; whnf
end
section
variable {f : Fx} {ρ : Loc} {σ : St}


noncomputable abbrev matchI : In := ⟨4, 0, 0, 0, 0, false, false⟩
theorem net_good {ms : List In} {st lo : Int} (hm : ∀ m ∈ ms, LIok ((ms.length : Int) + 2) m) (hl : ms.length ≤ 58) (hs : 0 ≤ st ∧ st < (ms.length : Int) + 2) (hlo : 0 ≤ lo ∧ lo < (ms.length : Int) + 2) : Good ⟨(failI :: ms) ++ [matchI], st, lo, false, []⟩ := by
  have hlen : ((failI :: ms) ++ [matchI]).length = ms.length + 2 := by simp
  generalize hg : (⟨(failI :: ms) ++ [matchI], st, lo, false, []⟩ : Pg) = g
  have e1 : g.insts = (failI :: ms) ++ [matchI] := by rw [← hg]
  have e2 : g.flat = false := by rw [← hg]
  have e3 : g.start = st := by rw [← hg]
  have e4 : g.loose = lo := by rw [← hg]
  have el : (g.insts.length : Int) = (ms.length : Int) + 2 := by rw [e1, hlen]; kspl_open wln
  have wb : ∀ w : Int, 0 ≤ w → w < (ms.length : Int) + 2 → wayBad g (headsOf g) w = false := by
    intro w h0 h1
    unfold wayBad
    rw [e2, el]
    simp [h0, h1]
  have hall : ∀ i ∈ g.insts, i = failI ∨ i = matchI ∨ LIok ((ms.length : Int) + 2) i := by
    intro i hi
    rw [e1] at hi
    simp only [List.cons_append, List.mem_cons, List.mem_append, List.not_mem_nil, or_false] at hi
    rcases hi with h | h | h
    · exact .inl h
    · exact .inr (.inr (hm i h))
    · exact .inr (.inl h)
  refine ⟨?_, fun k i hi => ?_, by rw [e1, hlen]; kspl_open wln, fun k i hi h24 => ?_⟩
  · unfold wrong bodyWrong
    have a1 : g.insts.isEmpty = false := by rw [e1]; rfl
    have a2 : (g.insts[0]?.map (·.op != 6)).getD false = false := by rw [e1]; rfl
    have a3 : g.insts.any (instWrong g (headsOf g)) = false := by
      rw [List.any_eq_false]
      intro i hi
      rcases hall i hi with rfl | rfl | h
      · simp [instWrong, instBad, waysBad, e2]
      · simp [instWrong, instBad, waysBad, e2]
      · have h1 := h.ok
        have h2 : (goals i).any (wayBad g (headsOf g)) = false := by
          rw [List.any_eq_false]
          intro w hw
          unfold goals at hw
          have hb : wayBad g (headsOf g) w = false := by
            split at hw
            · rename_i h0
              have h0 : i.op = 0 := by first | exact of_decide_eq_true h0 | exact eq_of_beq h0 | exact ne_of_beq_false h0 | exact of_decide_eq_false h0 | exact beq_iff_eq.mpr h0 | exact beq_false_of_ne h0 | simpa using h0
              simp only [List.mem_cons, List.not_mem_nil, or_false] at hw
              rcases hw with rfl | rfl
              · exact wb _ h.out.1 h.out.2
              · exact wb _ (h.arg h0).1 (h.arg h0).2
            · simp only [List.mem_cons, List.not_mem_nil, or_false] at hw
              subst hw
              exact wb _ h.out.1 h.out.2
          rw [hb]; decide
        unfold instWrong waysBad
        rw [h1, h2, e2]; simp
    have a4 : [g.start, g.loose].any (wayBad g (headsOf g)) = false := by rw [e3, e4]; simp [wb _ hs.1 hs.2, wb _ hlo.1 hlo.2]
    rw [a1, a2, a3, a4, e2]; rfl
  · rcases hall i (List.mem_of_getElem? hi) with rfl | rfl | h
    · decide
    · decide
    · exact h.op
  · rcases hall i (List.mem_of_getElem? hi) with rfl | rfl | h
    · decide
    · decide
    · exact h.args h24
theorem net_add {fz : Addr → Prop} {σ0 σ : St} {p x d : Addr} {i : In} {g : Pg} {r : PR} {zs : List Ob} {G : List Ent} (H : Own fz σ0 σ ((x, .inst cI d, true) :: (d, .ns i.fs, true) :: (p, .inst cP r.d, true) :: (r.d, .ns (g.fs r), true) :: (r.L, .list (refs r.xs ++ [.ref x]), true) :: (r.H, .list (intL g.heads), true) :: (ents zs ++ G))) :
    Own fz σ0 σ (prE p { g with insts := obI (zs ++ [(x, d, i)]) } { r with xs := r.xs ++ [x] } (zs ++ [(x, d, i)]) ++ G) := by
  refine H.perm ?_
  refine (perm_in [_, _] [_, _, _, _] _).trans ?_
  have e : refs (r.xs ++ [x]) = refs r.xs ++ [.ref x] := by simp
  unfold prE
  dsimp only
  rw [e]
  refine List.Perm.append_left [_, _, _, _] ?_
  rw [ents_app, ents_one]
  show ([_, _] ++ (ents zs ++ G)).Perm ((ents zs ++ [_, _]) ++ G)
  rw [List.append_assoc]
  exact perm_in [_, _] (ents zs) G
set_option maxHeartbeats 2000000 in
theorem law_b {σ0 σ : St} {c : Cx} {n : Nat} {fz : Addr → Prop} {sa ac : Addr} {cs : List Int} {st lo fl kind spot value : Int} {env : Env} {o1 : Option Value} (H : Own fz σ0 σ ([(ac, .list (intL cs), true)] : List Ent)) (hcs : 6 ≤ cs.length ∧ cs.length ≤ 7) (hv : 0 ≤ value ∧ value < 8) (rest : List Stmt) (hr : rest = (bodyOf (fdo 300 c.w.params)).drop 4) :
    SS (⟨c, n + 150, fz, env, ["len", "_law_digits", "Program", "_law_inst", "Inst", "INST_MATCH", "flattened", "program_faults", "_law_is_told_well", "_law_turn", "_law_is_right"], []⟩ : Fx) ([("script", some (.ref sa)), ("_law_rest", o1), ("cell", none), ("cells", some (.ref ac)), ("start", some (.int st 0)), ("loose", some (.int lo 0)), ("is_flat", some (.int fl 0)), ("kind", some (.int kind 0)), ("spot", some (.int spot 0)), ("value", some (.int value 0)), ("net", none), ("many", none), ("prog", none)] : Loc) σ rest fun fl _ σ' => retOf fl = .bool true := by
  subst hr
  conv => arg 4; whnf
  have hmany : (0 : Int) < (cs.length : Int) + 1 := by kspl_open wln
  have hm0 : (cs.length : Int) + 1 ≠ 0 := by kspl_open wln
  refine SS.cons ?_
  refine S1.tupO (σ0 := σ0) (ns := ["net", "many"]) (.cons _ _ (.cons _ _ .nil)) ?_
  refine WLs.cons ?_
  refine WV.callO (PE.globR (by kspl_open wmem) g_Program) k_Program .nil H (wc_program H.fzs) ?_
  rintro v σ L' ⟨p, d1, a, b, x, d, rfl, rfl⟩ H
  dsimp only [List.cons_append, List.nil_append] at H
  refine WLs.cons ?_
  refine WV.pe (PE.bin (by kspl_open wpe) (by kspl_open wpe) Bin.add) ?_
  have H2 : Own fz σ0 σ (prE p ⟨obI [(x, d, failI)], 0, 0, false, []⟩ ⟨d1, a, b, [x]⟩ [(x, d, failI)] ++ ([(ac, .list (intL cs), true)] : List Ent)) := by
    refine H.perm ?_
    refine (perm_in [_, _, _, _] [_, _] _).trans (List.Perm.append_left [_, _] ?_)
    exact List.Perm.swap ..
  clear H
  have H := H2
  have el : ((intL cs).length : Int) + 1 = (cs.length : Int) + 1 := by rw [List.length_map]
  rw [el]
  refine WLs.nil ⟨_, ([("script", some (.ref sa)), ("_law_rest", o1), ("cell", none), ("cells", some (.ref ac)), ("start", some (.int st 0)), ("loose", some (.int lo 0)), ("is_flat", some (.int fl 0)), ("kind", some (.int kind 0)), ("spot", some (.int spot 0)), ("value", some (.int value 0)), ("net", some (.ref p)), ("many", some (.int ((cs.length : Int) + 1) 0)), ("prog", none)] : Loc), H, ?_, ?_, fun σ H => ?_⟩
  · exact (by kspl_open wsta)
  · exact (by kspl_open wstr)
  refine SS.cons ?_
  refine S1.forO (σ0 := σ0) ?_
  refine WV.slice (WV.pe (by kspl_open wpe) ⟨ac, intL cs, some 1, none, rfl, H.get ac _ true (by first | kspl_open wmm | simp [prE, ents, obE]), .some PE.int, .none, fun ab hab => ?_⟩)
  have ep := picks_from (intL cs) 1
  rw [show ((1 : Nat) : Int) = 1 from rfl] at ep
  rw [ep]
  have H2 := (H.alloc (o := .list ((intL cs).drop 1)) hab).moreO (.here _ _)
  generalize σ.set ab _ = σ at H2 ⊢
  clear H
  have H := H2.perm List.perm_middle.symm
  clear H2
  let p1p := fun (j : Nat) (ρ2 : Loc) (L2 : List Ent) (zs : List Ob) (r : PR) (ms : List In) (o : Option Value) => (Ay6 (ρ2 = ([("script", some (.ref sa)), ("_law_rest", o1), ("cell", o), ("cells", some (.ref ac)), ("start", some (.int st 0)), ("loose", some (.int lo 0)), ("is_flat", some (.int fl 0)), ("kind", some (.int kind 0)), ("spot", some (.int spot 0)), ("value", some (.int value 0)), ("net", some (.ref p)), ("many", some (.int ((cs.length : Int) + 1) 0)), ("prog", none)] : Loc)) (L2 = prE p ⟨obI zs, 0, 0, false, []⟩ r zs ++ ([(ab, .list ((intL cs).drop 1), false), (ac, .list (intL cs), true)] : List Ent)) (r.xs = obX zs) (obI zs = failI :: ms) (ms.length = j) (∀ m ∈ ms, LIok ((cs.length : Int) + 1) m) : Prop)
  let I1 : Nat → Loc → List Ent → Prop := fun j ρ2 L2 => Ey4 (p1p j ρ2 L2)
  refine ⟨(intL cs).drop 1, _, ab, _, rfl, Iter.list (H.get ab _ false (by kspl_open wle)), H, I1, ⟨_, _, [], _, rfl, rfl, rfl, rfl, rfl, (by kspl_open wle)⟩, ?_, ?_⟩
  · rintro j z ρ2 σ L2 hz H ⟨zs, r, ms, o, rfl, rfl, hx, hms, hml, hmo⟩
    have hjl := (List.getElem?_eq_some_iff.mp hz).1
    rw [List.length_drop, List.length_map] at hjl
    obtain ⟨cell, -, rfl⟩ := intL_mem (List.mem_of_mem_drop (List.mem_of_getElem? hz))
    have hp : IsP σ p ⟨obI zs, 0, 0, false, []⟩ r := own_isP (A := []) H hx rfl
    have Hr := H.rebase
    have hzl : zs.length = ms.length + 1 := by have := congrArg List.length hms; simpa using this
    refine ⟨_, (by kspl_open wset), ?_⟩
    refine SS.cons ?_
    refine S1.expr ?_
    refine WV.appendW (PE.p_insts (by kspl_open wpe) hp Hr) (show (r.L, AO.list (refs r.xs), true) ∈ prE p ⟨obI zs, 0, 0, false, []⟩ r zs ++ _ from List.mem_append_left _ (by kspl_open wmm)) H ?_
    refine WV.callO (PE.globR (by kspl_open wmem) g__law_inst) (fun P => by kernel_rfl) (.cons (PE.lenP (by kspl_open wmem) (by kspl_open wpe) hp Hr) (by kspl_open wpes)) H (wc_linst hmany H.fzs) ?_
    rintro v σ L' ⟨x2, d2, i2, rfl, rfl, hi2⟩ H
    refine ⟨refs r.xs, _, (x2, .inst cI d2, true) :: (d2, .ns i2.fs, true) :: (p, .inst cP r.d, true) :: (r.d, .ns ((⟨obI zs, 0, 0, false, []⟩ : Pg).fs r), true) :: (r.L, .list (refs r.xs ++ [.ref x2]), true) :: (r.H, .list (intL []), true) :: (ents zs ++ ([(ab, .list ((intL cs).drop 1), false), (ac, .list (intL cs), true)] : List Ent)), H, .there _ (.there _ (.there _ (.there _ (.here _)))), ?_, fun σ H => ?_⟩
    · rw [hx]; simp; kspl_open wln
    have H2 := net_add (g := ⟨obI zs, 0, 0, false, []⟩) H
    refine SS.nil ⟨_, H2, zs ++ [(x2, d2, i2)], _, ms ++ [i2], _, rfl, rfl, ?_, ?_, ?_, ?_⟩
    · simp [hx]
    · rw [obI_app, hms]; rfl
    · simp [hml]
    · intro m hm
      rcases List.mem_append.mp hm with h | h
      · exact hmo m h
      · simp only [List.mem_singleton] at h; exact h ▸ hi2
  rintro ρ2 σ L2 H ⟨zs, r, ms, o, rfl, rfl, hx, hms, hml, hmo⟩
  rw [List.length_drop, List.length_map] at hml
  have hzl : zs.length = ms.length + 1 := by have := congrArg List.length hms; simpa using this
  have hp : IsP σ p ⟨obI zs, 0, 0, false, []⟩ r := own_isP (A := []) H hx rfl
  have Hr := H.rebase
  refine SS.cons ?_
  refine S1.expr ?_
  refine WV.appendW (PE.p_insts (by kspl_open wpe) hp Hr) (show (r.L, AO.list (refs r.xs), true) ∈ prE p ⟨obI zs, 0, 0, false, []⟩ r zs ++ _ from List.mem_append_left _ (by kspl_open wmm)) H ?_
  refine WV.callO (PE.globR (by kspl_open wmem) g_Inst) k_Inst (by kspl_open wpes) H (wc_inst1 H.fzs) ?_
  rintro v σ L' ⟨x2, d2, rfl, rfl⟩ H
  refine ⟨refs r.xs, _, (x2, .inst cI d2, true) :: (d2, .ns matchI.fs, true) :: (p, .inst cP r.d, true) :: (r.d, .ns ((⟨obI zs, 0, 0, false, []⟩ : Pg).fs r), true) :: (r.L, .list (refs r.xs ++ [.ref x2]), true) :: (r.H, .list (intL []), true) :: (ents zs ++ ([(ab, .list ((intL cs).drop 1), false), (ac, .list (intL cs), true)] : List Ent)), H, .there _ (.there _ (.there _ (.there _ (.here _)))), ?_, fun σ H => ?_⟩
  · rw [hx]; simp; kspl_open wln
  have H2 := net_add (g := ⟨obI zs, 0, 0, false, []⟩) H
  clear H
  have H := H2
  clear H2
  have hmsl : (cs.length : Int) + 1 = (ms.length : Int) + 2 := by kspl_open wln
  have hst : 0 ≤ (1 + st).fmod ((cs.length : Int) + 1) ∧ (1 + st).fmod ((cs.length : Int) + 1) < (ms.length : Int) + 2 := ⟨Int.fmod_nonneg_of_pos _ hmany, by rw [← hmsl]; exact Int.fmod_lt_of_pos _ hmany⟩
  have hlo : 0 ≤ (1 + lo).fmod ((cs.length : Int) + 1) ∧ (1 + lo).fmod ((cs.length : Int) + 1) < (ms.length : Int) + 2 := ⟨Int.fmod_nonneg_of_pos _ hmany, by rw [← hmsl]; exact Int.fmod_lt_of_pos _ hmany⟩
  refine SS.cons ?_
  refine S1.attr2 ?_
  refine WV.newT (vs := [.int ((1 + st).fmod ((cs.length : Int) + 1)) 0, .int ((1 + lo).fmod ((cs.length : Int) + 1)) 0]) (.cons (PE.bin (by kspl_open wpe) (by kspl_open wpe) (Bin.mod hm0)) (.cons (PE.bin (by kspl_open wpe) (by kspl_open wpe) (Bin.mod hm0)) .nil)) H (fun t σ H => ?_)
  refine ⟨t, _, _, rfl, H.get t _ true (List.mem_cons_self ..), ?_⟩
  generalize hzs : zs ++ [(x2, d2, matchI)] = zs2 at H
  generalize hr2 : ({ r with xs := r.xs ++ [x2] } : PR) = r2 at H
  have hx2 : r2.xs = obX zs2 := by rw [← hr2, ← hzs]; simp [hx]
  have hms2 : obI zs2 = (failI :: ms) ++ [matchI] := by rw [← hzs, obI_app, hms]; rfl
  generalize (1 + st).fmod ((cs.length : Int) + 1) = s1 at H hst ⊢
  generalize (1 + lo).fmod ((cs.length : Int) + 1) = l1 at H hlo ⊢
  have H2 : Own fz σ0 σ ((t, .tup [.int s1 0, .int l1 0], true) :: (p, .inst cP r2.d, true) :: (r2.d, .ns ((⟨obI zs2, 0, 0, false, []⟩ : Pg).fs r2), true) :: (r2.L, .list (refs r2.xs), true) :: (r2.H, .list (intL []), true) :: (ents zs2 ++ ([(ab, .list ((intL cs).drop 1), false), (ac, .list (intL cs), true)] : List Ent))) := H
  clear H
  have H := H2
  clear H2
  refine WA.attr (x := p) (d := r2.d) (C := cP) (fs := (⟨obI zs2, 0, 0, false, []⟩ : Pg).fs r2) (fs' := (⟨obI zs2, s1, 0, false, []⟩ : Pg).fs r2) (by kspl_open wpe) (H.get p _ _ (by kspl_open wmem)) (H.get r2.d _ _ (by kspl_open wmem)) ca_start (by kspl_open wx1) (by kspl_open wle) (H.wr r2.d _ (by kspl_open wmem)) ?_
  have H2 := H.turn (a := r2.d) (o := .ns ((⟨obI zs2, 0, 0, false, []⟩ : Pg).fs r2)) (o' := .ns ((⟨obI zs2, s1, 0, false, []⟩ : Pg).fs r2)) (by kspl_open wput)
  generalize σ.set r2.d _ = σ at H2 ⊢
  clear H
  have H := H2
  clear H2
  refine WA.attr (x := p) (d := r2.d) (C := cP) (fs := (⟨obI zs2, s1, 0, false, []⟩ : Pg).fs r2) (fs' := (⟨obI zs2, s1, l1, false, []⟩ : Pg).fs r2) (by kspl_open wpe) (H.get p _ _ (by kspl_open wmem)) (H.get r2.d _ _ (by kspl_open wmem)) ca_loose (by kspl_open wx1) (by kspl_open wle) (H.wr r2.d _ (by kspl_open wmem)) ?_
  have H2 := H.turn (a := r2.d) (o := .ns ((⟨obI zs2, s1, 0, false, []⟩ : Pg).fs r2)) (o' := .ns ((⟨obI zs2, s1, l1, false, []⟩ : Pg).fs r2)) (by kspl_open wput)
  generalize σ.set r2.d _ = σ at H2 ⊢
  clear H
  have H : Own fz σ0 σ (prE p ⟨obI zs2, s1, l1, false, []⟩ r2 zs2 ++ ([(ab, .list ((intL cs).drop 1), false), (ac, .list (intL cs), true)] : List Ent)) := H2.sub (List.sublist_cons_self ..)
  clear H2
  have hgood : Good ⟨obI zs2, s1, l1, false, []⟩ := by
    rw [hms2]
    refine net_good (fun m hm => ?_) (by kspl_open wln) hst hlo
    have := hmo m hm
    rwa [hmsl] at this
  refine law_c H hx2 rfl hgood rfl ?_ rfl hv _ ?_
  · show (obI zs2).length ≤ 8
    rw [hms2]; simp; kspl_open wln
  · conv => rhs; whnf
end
section
variable {f : Fx} {ρ : Loc} {σ : St}


noncomputable def modV : Value → Value
  | .int i _ => .int (i.fmod (10 ^ 12)) 0
  | v => v
noncomputable abbrev restL : List Int := [0, 1, 42, 1, 2030, 4032]
set_option maxHeartbeats 2000000 in
theorem law_a {σ0 : St} {c : Cx} {n : Nat} {fz : Addr → Prop} {sa : Addr} {vals : List Value} {ns : List Int} {env : Env} (hfz : ∀ a, fz a → σ0 a ≠ none) (hb : c.b.IsList sa vals.toArray) (hI : IntsAre vals ns) (hl : ns.length ≤ 63) (rest : List Stmt) (hr : rest = bodyOf (fdo 300 c.w.params)) :
    SS (⟨c, n + 150, fz, env, ["len", "_law_digits", "Program", "_law_inst", "Inst", "INST_MATCH", "flattened", "program_faults", "_law_is_told_well", "_law_turn", "_law_is_right"], []⟩ : Fx) ([("script", some (.ref sa)), ("_law_rest", none), ("cell", none), ("cells", none), ("start", none), ("loose", none), ("is_flat", none), ("kind", none), ("spot", none), ("value", none), ("net", none), ("many", none), ("prog", none)] : Loc) σ0 rest fun fl _ σ' => retOf fl = .bool true := by
  subst hr
  have H : Own fz σ0 σ0 [] := Own.start hfz
  have hvl : vals.length = ns.length := by
    have := congrArg List.length (erL_of hI)
    simpa using this
  conv => arg 4; whnf
  refine SS.cons ?_
  refine S1.name ?_
  refine WV.newL (vs := [.int 0 0, .int 1 0, .int 42 0, .int 1 0, .int 2030 0, .int 4032 0]) ?hh H (fun ar σ H => ?_) (by kspl_open wle) (by rfl)
  case hh => exact .cons (by kspl_open wpe) (.cons (by kspl_open wpe) (.cons (by kspl_open wpe) (.cons (by kspl_open wpe) (.cons (by kspl_open wpe) (.cons (by kspl_open wpe) .nil)))))
  refine ⟨_, (by kspl_open wset), ?_⟩
  refine SS.cons ?_
  refine S1.comp [] ["int"] (fun _ => true) modV ?_ (CompOk.of (by rfl)) (by kspl_open wle)
  refine WV.sliceB (its := vals.toArray) (by kspl_open wpe) hb (by simp; kspl_open wln) .none (.some PE.int) fun a0 ha0 => ?_
  have ep : picks (vals.toArray.toList.map er) none (some 7) none = intL (ns.take 7) := by
    have := picks_upto (vals.map er) 7
    rw [show ((7 : Nat) : Int) = 7 from rfl] at this
    rw [this, erL_of hI, ← List.map_take]
  rw [ep]
  have H2 := H.alloc (o := .list (intL (ns.take 7))) ha0
  generalize σ.set a0 _ = σ at H2 ⊢
  clear H
  have H := H2
  clear H2
  refine ⟨a0, _, _, rfl, Iter.list (H.get a0 _ _ (by kspl_open wmem)), by rw [List.length_map]; have := List.length_take_le 7 ns; kspl_open wln, ?_, fun a1 ha1 => ⟨_, (by kspl_open wset), ?_⟩⟩
  · intro os dr gn env v hv
    obtain ⟨x, hx, rfl⟩ := intL_mem hv
    refine ⟨tests_nil, fun _ => ?_⟩
    show PE _ ([("cell", some (.int x 0))] : Loc) _ _ (Value.int (x.fmod (10 ^ 12)) 0)
    exact PE.bin (PE.intI (by kspl_open wmem) (by kspl_open wpe)) (PE.bin PE.int PE.int (Bin.pow (by decide) (by decide) (by decide))) (Bin.mod (by decide))
  have em : ((intL (ns.take 7)).filter fun _ => true).map modV = intL ((ns.take 7).map fun x => x.fmod (10 ^ 12)) := by
    rw [List.filter_eq_self.mpr (by kspl_open wle), List.map_map]
    show _ = List.map _ (List.map _ _)
    rw [List.map_map]; rfl
  rw [em]
  generalize hc1 : (ns.take 7).map (fun x => x.fmod (10 ^ 12)) = c1
  have hc1l : c1.length ≤ 7 := by rw [← hc1, List.length_map]; exact List.length_take_le 7 ns
  have H2 := H.alloc (o := .list (intL c1)) ha1
  generalize σ.set a1 _ = σ at H2 ⊢
  clear H
  have H : Own fz σ0 σ ([(a1, .list (intL c1), true), (a0, .list (intL (ns.take 7)), true), (ar, .list (intL restL), true)] : List Ent) := H2
  clear H2
  refine SS.cons ?_
  refine S1.name ?_
  refine WV.addL ?_
  refine WV.pe (by kspl_open wpe) ?_
  refine WV.slice (WV.pe (by kspl_open wpe) ⟨ar, intL restL, some (c1.length : Int), none, rfl, H.get ar _ _ (by kspl_open wmem), ?_, .none, fun a2 ha2 => ?_⟩)
  · refine .some ?_
    have := PE.lenO (f := (⟨c, n + 150, fz, env, ["len", "_law_digits", "Program", "_law_inst", "Inst", "INST_MATCH", "flattened", "program_faults", "_law_is_told_well", "_law_turn", "_law_is_right"], []⟩ : Fx)) (ρ := ([("script", some (.ref sa)), ("_law_rest", some (.ref ar)), ("cell", none), ("cells", some (.ref a1)), ("start", none), ("loose", none), ("is_flat", none), ("kind", none), ("spot", none), ("value", none), ("net", none), ("many", none), ("prog", none)] : Loc)) (σ := σ) (e := .Name "cells" ⟨423, 34, 423, 39⟩) (p := ⟨423, 30, 423, 40⟩) (p' := ⟨423, 30, 423, 33⟩) (a := a1) (xs := intL c1) (w := true) (by kspl_open wmem) (by kspl_open wpe) H (by kspl_open wmem)
    rwa [List.length_map] at this
  rw [picks_from]
  have H2 := H.alloc (o := .list ((intL restL).drop c1.length)) ha2
  generalize σ.set a2 _ = σ at H2 ⊢
  clear H
  have H := H2
  clear H2
  refine ⟨a1, a2, _, _, rfl, rfl, H.get a1 _ _ (by kspl_open wmem), H.get a2 _ _ (by kspl_open wmem), by simp; kspl_open wln, fun a3 ha3 => ⟨_, (by kspl_open wset), ?_⟩⟩
  have ec : intL c1 ++ (intL restL).drop c1.length = intL (c1 ++ restL.drop c1.length) := by rw [← List.map_drop, ← List.map_append]
  rw [ec]
  have hcl : 6 ≤ (c1 ++ restL.drop c1.length).length ∧ (c1 ++ restL.drop c1.length).length ≤ 7 := by
    simp only [List.length_append, List.length_drop, List.length_cons, List.length_nil]; kspl_open wln
  generalize c1 ++ restL.drop c1.length = cs at hcl
  have H2 := H.alloc (o := .list (intL cs)) ha3
  generalize σ.set a3 _ = σ at H2 ⊢
  clear H
  have H : Own fz σ0 σ ([(a3, .list (intL cs), true)] : List Ent) := H2.sub (.cons_cons _ (List.nil_sublist _))
  clear H2
  obtain ⟨x0, hx0⟩ : ∃ x0, (intL cs)[(0 : Int).toNat]? = some (.int x0 0) := by
    cases cs with
    | nil => simp at hcl
    | cons x0 r => exact ⟨x0, rfl⟩
  refine SS.cons ?_
  refine S1.tupV ?_
  refine WV.callOW (σ0 := σ0) (PE.globR (by kspl_open wmem) g__law_digits) (fun P => by kernel_rfl) ?_
  refine WLs.cons ?_
  refine WV.pe (PE.item (by kspl_open wpe) (by kspl_open wpe) (Itm.list (H.get a3 _ _ (by kspl_open wmem)) (by decide) hx0)) ?_
  refine WLs.cons ?_
  refine WV.newL (vs := intL [8, 8, 2, 12, 24, 8]) ?hh H (fun a4 σ H => ?_) (by kspl_open wle) (by rfl)
  case hh => exact .cons PE.int (.cons PE.int (.cons PE.int (.cons PE.int (.cons PE.int (.cons PE.int .nil)))))
  refine WLs.nil ⟨_, _, H, wc_digits (bs := [8, 8, 2, 12, 24, 8]) (H.get a4 _ true (List.mem_cons_self ..)) (by decide) (by decide) H.fzs, ?_⟩
  rintro v σ L' ⟨a5, rfl, rfl⟩ H
  dsimp only [List.cons_append, List.nil_append] at H
  obtain ⟨st, lo, fl, kind, spot, value, hd, hv⟩ : ∃ st lo fl kind spot value, digits x0 [8, 8, 2, 12, 24, 8] = [st, lo, fl, kind, spot, value] ∧ (0 ≤ value ∧ value < 8) :=
    ⟨_, _, _, _, _, _, rfl, ⟨Int.fmod_nonneg_of_pos _ (by decide), Int.fmod_lt_of_pos _ (by decide)⟩⟩
  rw [hd] at H
  refine WA.tupL (ρ' := ([("script", some (.ref sa)), ("_law_rest", some (.ref ar)), ("cell", none), ("cells", some (.ref a3)), ("start", some (.int st 0)), ("loose", some (.int lo 0)), ("is_flat", some (.int fl 0)), ("kind", some (.int kind 0)), ("spot", some (.int spot 0)), ("value", some (.int value 0)), ("net", none), ("many", none), ("prog", none)] : Loc)) (vs := [.int st 0, .int lo 0, .int fl 0, .int kind 0, .int spot 0, .int value 0]) (ns := ["start", "loose", "is_flat", "kind", "spot", "value"]) (H.get a5 _ true (List.mem_cons_self ..)) ?hn ?hs ?q
  case hn => exact .cons _ _ (.cons _ _ (.cons _ _ (.cons _ _ (.cons _ _ (.cons _ _ .nil)))))
  case hs => exact (by kspl_open wsta)
  refine law_b (H.sub (.cons _ (.cons _ (.refl _)))) hcl hv _ ?_
  conv => rhs; whnf
end
section
noncomputable abbrev lawNames : List Str := ["script", "_law_rest", "cell", "cells", "start", "loose", "is_flat", "kind", "spot", "value", "net", "many", "prog"]
noncomputable abbrev lawGl : List Str := ["len", "_law_digits", "Program", "_law_inst", "Inst", "INST_MATCH", "flattened", "program_faults", "_law_is_told_well", "_law_turn", "_law_is_right"]
theorem room_law (env : Env) : Room 150 (callerA.deeper env) := ⟨(show callerA.depth + 1 + 2 * 150 + 10 ≤ recursionLimit by decide), (show callerA.units + 3 + 20 * 150 + 100 ≤ cLine by decide), rfl⟩
theorem law_top {w : World} {s₁ : Shared} {mg mb : Str → Option Value} (KX : (KK w.params).In s₁.heap) (hlim : s₁.heap.NoLimit) (hg : s₁.heap.Ns mainGlobals mg) (hb : s₁.heap.Ns builtinsNs mb) (hbb : ∀ x : Str, x ≠ "__name__" → mb x = bootBuiltins x)
    {sa fa : Addr} {cd : Value} {vals : List Value} {ns : List Int} (hL : s₁.heap.IsList sa vals.toArray) (hI : IntsAre vals ns) (hl : ns.length ≤ 63) {A : Around} (hroom : Room 150 A) {nm : Str} {sc : Scope} {m : Str → Option Value} {h₁ : Heap} (F : Fr s₁.heap s₁.heap.objs.size h₁ m) (hm : m "script" = some (.ref sa))
    (hk : sc.kind = .function) (hn : ∀ x ∈ lawNames, sc.names.lookup x = some .local) (hgl : ∀ x ∈ lawGl, sc.names.lookup x = some .globalImplicit) {tk : Nat} {ss : List Stmt} (hss : ss = bodyOf (fdo 300 w.params)) :
    wpAny (model prg w) A (execs ss (PyProof.Rows.envOf nm sc s₁.heap.objs.size fa cd)) (fun fl s' => retOf fl = .bool true ∧ (∀ b o, s₁.heap.get? b = some o → s'.heap.get? b = some o) ∧ s'.os = s₁.os ∧ s'.gens = s₁.gens) NoE { heap := h₁, gens := s₁.gens, drawn := s₁.drawn, toks := tk, os := s₁.os } := by
  have ok : Cx.Ok ⟨w, s₁.heap, s₁.os, s₁.drawn, s₁.gens⟩ := ⟨KX, hlim, ⟨mg, hg⟩, ⟨mb, hb, hbb⟩⟩
  have hno : s₁.heap.get? s₁.heap.objs.size = none := fresh_none _
  have X : At ⟨⟨w, s₁.heap, s₁.os, s₁.drawn, s₁.gens⟩, 150, fun _ => False, PyProof.Rows.envOf nm sc s₁.heap.objs.size fa cd, lawGl, []⟩ (("script", some (.ref sa)) :: [("_law_rest", none), ("cell", none), ("cells", none), ("start", none), ("loose", none), ("is_flat", none), ("kind", none), ("spot", none), ("value", none), ("net", none), ("many", none), ("prog", none)]) (fun _ => none) A { heap := h₁, gens := s₁.gens, drawn := s₁.drawn, toks := tk, os := s₁.os } := by
    refine ⟨ok, ⟨⟨hk, rfl, rfl, hgl, (show lawNames.Nodup by decide +kernel), fun x hx => .inl (hn x hx), List.Pairwise.nil, by simp, (show ∀ x ∈ lawNames ++ lawGl, (x == ("__debug__" : Str)) = false ∧ (x == ("__classdict__" : Str)) = false by decide +kernel)⟩, ?_, hno, ?_⟩, hroom, ⟨F.keep, by simp, by simp, by simp⟩, ⟨⟨⟨m, F.ns, fun x v hx hkx => ?_⟩, ?_, ?_⟩, rfl, ?_⟩, ⟨rfl, rfl, rfl⟩⟩
    · intro x cc h; cases h
    · intro x cc h; cases h
    · rcases List.mem_cons.mp hx with e | hx
      · cases e; exact ⟨_, hm, rfl⟩
      · simp at hx
    · intro x cc h; cases h
    · intro x v cc _ _ h; cases h
    · intro x cc h; cases h
  have hw := law_a (n := 0) (c := ⟨w, s₁.heap, s₁.os, s₁.drawn, s₁.gens⟩) (fz := fun _ => False) (σ0 := fun _ => none) (env := PyProof.Rows.envOf nm sc s₁.heap.objs.size fa cd) (fun _ h => h.elim) hL hI hl ss hss
  refine wpAny_mono (hw A _ X) (fun fl s' ⟨ρ', σ', r, fr, nm, kp, g, q⟩ => ⟨?_, r.base, g.os, g.gens⟩) fun _ _ e => e
  cases fl <;> first | exact q | exact (er_bool q)
end
end Mine
end
section
open PySem PySem.Calls PySem.W PyProof.Rows
namespace Mine
theorem frag_trim {K K' : Frag} {h : Heap} {as : List Addr} (H : K.In h) (e1 : as = K'.map (·.1)) (e2 : as.map (fun a => List.lookup a K) = K'.map (fun p => some p.2)) : K'.In h := by
  refine Frag.in_of e1 ?_
  subst e1
  have key : ∀ l : Frag, (l.map (·.1)).map (fun a => List.lookup a K) = l.map (fun p => some p.2) → (l.map (·.1)).map h.get? = l.map (fun p => some p.2) := by
    intro l
    induction l with
    | nil => intro _; rfl
    | cons p l ih => intro e; simp only [List.map_cons, List.cons.injEq] at e ⊢; exact ⟨H _ _ e.1, ih e.2⟩
  exact key K' e2
end Mine
end
/-! the frame: names that the frame's walk would take for its twins are taken ahead of it, so that it makes none (they are a cache, and large) -/
namespace Mine.head
theorem tw10010264046613662565 : True := trivial
theorem tw10015159338476511836 : True := trivial
theorem tw10018764681926925449 : True := trivial
theorem tw10030112293725979606 : True := trivial
theorem tw10059252607514160932 : True := trivial
theorem tw10356212845559719233 : True := trivial
theorem tw10366927770000222440 : True := trivial
theorem tw10504981510240967646 : True := trivial
theorem tw10526648896665251673 : True := trivial
theorem tw10533634037010066435 : True := trivial
theorem tw10668533816033670360 : True := trivial
theorem tw10786079294511566085 : True := trivial
theorem tw10812213935944405949 : True := trivial
theorem tw10865165270600546614 : True := trivial
theorem tw10875119458065257276 : True := trivial
theorem tw11005904730967762025 : True := trivial
theorem tw11082612503233550084 : True := trivial
theorem tw11105056867450500199 : True := trivial
theorem tw11124748197601291601 : True := trivial
theorem tw11194998557105285118 : True := trivial
theorem tw11290360913936777911 : True := trivial
theorem tw11296743742662292762 : True := trivial
theorem tw11426403942048686318 : True := trivial
theorem tw11427066125472700054 : True := trivial
theorem tw11484358847640170188 : True := trivial
theorem tw11544532188706048022 : True := trivial
theorem tw11692735721529064706 : True := trivial
theorem tw11770459041652445329 : True := trivial
theorem tw11821203517306503961 : True := trivial
theorem tw11862927689305589065 : True := trivial
theorem tw12032222614953749359 : True := trivial
theorem tw1212124681294104184 : True := trivial
theorem tw12201952087667049370 : True := trivial
theorem tw12207028300977255130 : True := trivial
theorem tw12310735299239354703 : True := trivial
theorem tw12330954535739239725 : True := trivial
theorem tw12352672977532951062 : True := trivial
theorem tw12359489953124434286 : True := trivial
theorem tw12398312691204496596 : True := trivial
theorem tw12475708393154427166 : True := trivial
theorem tw12478146576626367362 : True := trivial
theorem tw12604462930493870256 : True := trivial
theorem tw12704426703380559182 : True := trivial
theorem tw12740806245664736207 : True := trivial
theorem tw12773685731770592110 : True := trivial
theorem tw12775505166333009402 : True := trivial
theorem tw12822298378996975857 : True := trivial
theorem tw12858780395421280599 : True := trivial
theorem tw12865059321931465230 : True := trivial
theorem tw12892129938458570674 : True := trivial
theorem tw12903917746401883607 : True := trivial
theorem tw12987040726578829979 : True := trivial
theorem tw13078646160514809887 : True := trivial
theorem tw13086575352542018947 : True := trivial
theorem tw1315816938146588887 : True := trivial
theorem tw13199516396595161752 : True := trivial
theorem tw1319983325249436295 : True := trivial
theorem tw13294958713779813728 : True := trivial
theorem tw13295774097974887486 : True := trivial
theorem tw13335025841360890868 : True := trivial
theorem tw13337238644230332656 : True := trivial
theorem tw13689084217373910675 : True := trivial
theorem tw13896987355042952010 : True := trivial
theorem tw13906610036690215845 : True := trivial
theorem tw13942192884097748152 : True := trivial
theorem tw13954853420313727417 : True := trivial
theorem tw13955511503576765797 : True := trivial
theorem tw13988103294471073821 : True := trivial
theorem tw14139502460874162764 : True := trivial
theorem tw14205479233844494046 : True := trivial
theorem tw14393718171448925343 : True := trivial
theorem tw14417885227837004991 : True := trivial
theorem tw14460913815207763246 : True := trivial
theorem tw14512941343882779238 : True := trivial
theorem tw1457377512435260902 : True := trivial
theorem tw1463646239528298992 : True := trivial
theorem tw14699528089545365996 : True := trivial
theorem tw14699756766385990792 : True := trivial
theorem tw14788773977795034992 : True := trivial
theorem tw14842460003800876886 : True := trivial
theorem tw14843749296085226474 : True := trivial
theorem tw1495726902847802894 : True := trivial
theorem tw14982685227137828758 : True := trivial
theorem tw1499353310998574721 : True := trivial
theorem tw14999265807660949796 : True := trivial
theorem tw15035418422258542911 : True := trivial
theorem tw15037083628117588352 : True := trivial
theorem tw15064752311394979489 : True := trivial
theorem tw1506576300011279404 : True := trivial
theorem tw15148963937461231693 : True := trivial
theorem tw15204471325056678010 : True := trivial
theorem tw15296082917334920728 : True := trivial
theorem tw15410735652082386980 : True := trivial
theorem tw15436542981012472205 : True := trivial
theorem tw15468718075485040107 : True := trivial
theorem tw15506723302920939300 : True := trivial
theorem tw15510365090734361527 : True := trivial
theorem tw15520248196984853422 : True := trivial
theorem tw15539854500240908086 : True := trivial
theorem tw15560127395503694991 : True := trivial
theorem tw15735840784391694233 : True := trivial
theorem tw15782939476341012554 : True := trivial
theorem tw15798066900824788120 : True := trivial
theorem tw15841401105113185080 : True := trivial
theorem tw15894371620910866019 : True := trivial
theorem tw15895551434495452948 : True := trivial
theorem tw15895748673760503845 : True := trivial
theorem tw16031315777459398524 : True := trivial
theorem tw16111715859725283846 : True := trivial
theorem tw16172288393029767808 : True := trivial
theorem tw16172356507618199906 : True := trivial
theorem tw16572314662081343053 : True := trivial
theorem tw16640130746408290383 : True := trivial
theorem tw16714887947964762639 : True := trivial
theorem tw16817119741492734445 : True := trivial
theorem tw16847831306532103052 : True := trivial
theorem tw16874305072444578374 : True := trivial
theorem tw16997897962222511 : True := trivial
theorem tw17015032458148788900 : True := trivial
theorem tw17093656651364094606 : True := trivial
theorem tw17142359554024780413 : True := trivial
theorem tw17197444120159719569 : True := trivial
theorem tw17212568112599259466 : True := trivial
theorem tw17243387458012846398 : True := trivial
theorem tw17332727794074296334 : True := trivial
theorem tw17348764703882912863 : True := trivial
theorem tw17464823870196871000 : True := trivial
theorem tw17525636777796739105 : True := trivial
theorem tw17552560543380974038 : True := trivial
theorem tw17700853532424174462 : True := trivial
theorem tw17725469503822016867 : True := trivial
theorem tw17782148633632673465 : True := trivial
theorem tw17854896373637125580 : True := trivial
theorem tw18051680202136193954 : True := trivial
theorem tw1832916270232011604 : True := trivial
theorem tw1833582929049214940 : True := trivial
theorem tw18384547517478447814 : True := trivial
theorem tw18416563613846182222 : True := trivial
theorem tw18433677622606106133 : True := trivial
theorem tw2096541523181747872 : True := trivial
theorem tw2249667046024356820 : True := trivial
theorem tw2260579728952749127 : True := trivial
theorem tw2340069552987342377 : True := trivial
theorem tw2355103038987944067 : True := trivial
theorem tw2393098407364606883 : True := trivial
theorem tw2400818531096893172 : True := trivial
theorem tw2491421050496283774 : True := trivial
theorem tw2518057956044344595 : True := trivial
theorem tw2581250870941146908 : True := trivial
theorem tw262713603470380999 : True := trivial
theorem tw2852963590345147145 : True := trivial
theorem tw2994366008111725845 : True := trivial
theorem tw3046917530973155409 : True := trivial
theorem tw3083302935323014018 : True := trivial
theorem tw3089916443595474862 : True := trivial
theorem tw3103639331685909893 : True := trivial
theorem tw315434073420411817 : True := trivial
theorem tw3160712208675142370 : True := trivial
theorem tw3368030927266983236 : True := trivial
theorem tw3496171461512900480 : True := trivial
theorem tw3501597964444990463 : True := trivial
theorem tw3547030090768783262 : True := trivial
theorem tw3547240966391284428 : True := trivial
theorem tw3556061257289618393 : True := trivial
theorem tw3581614266968435656 : True := trivial
theorem tw3615648651819825313 : True := trivial
theorem tw3665506230870052707 : True := trivial
theorem tw3715584954343283195 : True := trivial
theorem tw3746228215898030841 : True := trivial
theorem tw3749026756887285471 : True := trivial
theorem tw3944913497352057107 : True := trivial
theorem tw3973953319845086491 : True := trivial
theorem tw4009957668330374740 : True := trivial
theorem tw4023466491090337370 : True := trivial
theorem tw4063747431996464497 : True := trivial
theorem tw4160124254940468481 : True := trivial
theorem tw4196546014268931301 : True := trivial
theorem tw4311042196063409733 : True := trivial
theorem tw4333170087141934654 : True := trivial
theorem tw4381510469713062047 : True := trivial
theorem tw4415685298772064003 : True := trivial
theorem tw4433315090154635215 : True := trivial
theorem tw4523330193553793494 : True := trivial
theorem tw467416434755642258 : True := trivial
theorem tw4693820183103290663 : True := trivial
theorem tw4709128311485490483 : True := trivial
theorem tw48543519692965452 : True := trivial
theorem tw4857777746444614323 : True := trivial
theorem tw4964814941381164201 : True := trivial
theorem tw4965378191221513410 : True := trivial
theorem tw4975070653579243887 : True := trivial
theorem tw5092371620264689978 : True := trivial
theorem tw5104563664521345299 : True := trivial
theorem tw5319049981483164881 : True := trivial
theorem tw5331137831679937033 : True := trivial
theorem tw5401097623525119610 : True := trivial
theorem tw5438144065070405397 : True := trivial
theorem tw5487235932777146282 : True := trivial
theorem tw5506250874072839755 : True := trivial
theorem tw5508695066786827253 : True := trivial
theorem tw5599997604879368025 : True := trivial
theorem tw5629256929840616583 : True := trivial
theorem tw5638995163158488052 : True := trivial
theorem tw5797013207949663412 : True := trivial
theorem tw5870146547769353613 : True := trivial
theorem tw5944575059761466720 : True := trivial
theorem tw5986637957666399235 : True := trivial
theorem tw6100774026682323163 : True := trivial
theorem tw6110071263904590700 : True := trivial
theorem tw6121141971511671821 : True := trivial
theorem tw6202090305015876224 : True := trivial
theorem tw6211381574409162282 : True := trivial
theorem tw6449517796073312691 : True := trivial
theorem tw6474009502463322548 : True := trivial
theorem tw649443455394278489 : True := trivial
theorem tw6507506987150044280 : True := trivial
theorem tw6587087628758450585 : True := trivial
theorem tw6737735255597943219 : True := trivial
theorem tw6846597200999610202 : True := trivial
theorem tw6846866878297920324 : True := trivial
theorem tw6857060684267632606 : True := trivial
theorem tw6889739017440866108 : True := trivial
theorem tw7090939061502383884 : True := trivial
theorem tw7253898381062576733 : True := trivial
theorem tw7313386461004707312 : True := trivial
theorem tw733406405333840765 : True := trivial
theorem tw7417405269818204032 : True := trivial
theorem tw7450023128482652576 : True := trivial
theorem tw746603960211788795 : True := trivial
theorem tw7494366503370351645 : True := trivial
theorem tw7658410731251134818 : True := trivial
theorem tw7712916153251135833 : True := trivial
theorem tw7802898811600756450 : True := trivial
theorem tw7876399200375917224 : True := trivial
theorem tw7994106446794305319 : True := trivial
theorem tw8097174177036852075 : True := trivial
theorem tw8101760021730824546 : True := trivial
theorem tw8159583801465064534 : True := trivial
theorem tw820421773197932041 : True := trivial
theorem tw8382746154173761051 : True := trivial
theorem tw8402214883040486957 : True := trivial
theorem tw8451290768687142514 : True := trivial
theorem tw8476099583838051002 : True := trivial
theorem tw8534208459206503383 : True := trivial
theorem tw8535708456716222715 : True := trivial
theorem tw8603420104599213669 : True := trivial
theorem tw8627200689577751383 : True := trivial
theorem tw8715499118904818895 : True := trivial
theorem tw8758324158161630591 : True := trivial
theorem tw8812732774380208333 : True := trivial
theorem tw8866670633112419022 : True := trivial
theorem tw8874674299285249911 : True := trivial
theorem tw8895791426145780158 : True := trivial
theorem tw8912104118211102971 : True := trivial
theorem tw8997269238129315039 : True := trivial
theorem tw9062998866958442273 : True := trivial
theorem tw9074772780463953568 : True := trivial
theorem tw9082462177598256812 : True := trivial
theorem tw9145527808636388435 : True := trivial
theorem tw9162278640276766204 : True := trivial
theorem tw9186546921256032858 : True := trivial
theorem tw9196398404247428943 : True := trivial
theorem tw9275406290007642044 : True := trivial
theorem tw9280153536138602973 : True := trivial
theorem tw9325057278558614444 : True := trivial
theorem tw9407594320385231609 : True := trivial
theorem tw9497800013943654066 : True := trivial
theorem tw9515422150858430662 : True := trivial
theorem tw9592777112578238593 : True := trivial
theorem tw9658139154387788515 : True := trivial
theorem tw9702098958229961203 : True := trivial
theorem tw9716329373054682134 : True := trivial
theorem tw976808484645153763 : True := trivial
theorem tw9820158181544301314 : True := trivial
theorem tw9984397402777080727 : True := trivial
end Mine.head
section
open PySem PySem.Calls PySem.W PyProof.Rows
set_option Elab.async true
set_option maxHeartbeats 8000000
theorem Mine.head : PySem.Challenge.rw_xw0284_01.Holds := by
  open_k0
  rename_i w s0 s1 mg mb G Y fa o pm doc kV ho hg KX X V GL T B TE TW q9 q8 M q7 q6 hcd ns hs hlay0 hL1 hr1 hl2 q4 q3 sa vals q0 hL ra w1 r0 hI hr hcond1 hcond K0 hD h1 F N0
  clear ho hcd hD G Y X V GL B TE TW M hs hlay0 hL1 hr1 hl2 ra w1 r0 hr hcond K0 N0
  have KX := Mine.frag_trim (K' := Mine.KK w.params) KX rfl (by kernel_rfl)
  refine wpAny_mono (Mine.law_top KX T.nolimit T.g T.b T.builtins hL hI (by omega) (Mine.room_law _) F rfl rfl (by decide +kernel) (by decide +kernel) (by kernel_rfl)) (fun fl s' h => ?_) fun _ _ e => e.elim
  obtain ⟨h2, h3, h4, h5⟩ := h
  refine ⟨.inl ⟨_, .bool true, [], rfl, fun _ => rfl, ?_, ?_, fun _ => ⟨List.nodup_nil, by simp⟩⟩, h3, h4, by rw [h5]; exact hg⟩
  rotate_left
  · wrow_post
  cases fl with
  | ret v =>
    have h2 : v = .bool true := h2
    subst h2
    exact .bool true
  | next => cases h2
  | brk => cases h2
  | cont => cases h2
end
set_option Elab.async false
theorem PySem.Challenge.cw_xw0284_01_holds : PySem.Challenge.rw_xw0284_01.Holds := by
  exact Mine.head
