import PyProof.Rows.All
import Wide.All
import OpenK.AllK
import Wide.FinOn
import Open.Tops
import Lean
import PySem.Challenge.RW_nm0007_01
set_option Elab.async false
set_option maxRecDepth 100000
set_option compiler.extract_closed false
section
open PySem PySem.W PyProof.Rows
set_option maxHeartbeats 0
namespace Mine
noncomputable section
noncomputable def stm (i : Nat) : Stmt := (PySem.Challenge.pw_nm0007_01.main.body[i]?).getD default
noncomputable def fdA : Stmt → Arguments
  | .FunctionDef _ a _ _ _ _ _ _ _ _ => a
  | _ => default
noncomputable def fdB : Stmt → List Stmt
  | .FunctionDef _ _ b _ _ _ _ _ _ _ => b
  | .ClassDef _ _ _ b _ _ _ _ _ _ _ => b
  | _ => default
noncomputable def fdS : Stmt → Scope
  | .FunctionDef _ _ _ _ _ _ s _ _ _ => s
  | _ => default
noncomputable def stmIn (i j : Nat) : Stmt := match stm i with
  | .ClassDef _ _ _ b _ _ _ _ _ _ _ => (b[j]?).getD default
  | _ => default
noncomputable abbrev o0 (P : Params) : Obj := boot_o_0 P
noncomputable abbrev o1 (P : Params) : Obj := boot_o_1 P
noncomputable def o2 (P : Params) : Obj := { cls := Value.none, data := Data.dict #[{ hash := PyData.keyHash P (Str.ofString "type.__subclasses__.Exception.0"), key := Value.str (Str.ofString "type.__subclasses__.Exception.0") 216, val := Value.int 31 0 }, { hash := PyData.keyHash P (Str.ofString "type.__subclasses__.Exception.n"), key := Value.str (Str.ofString "type.__subclasses__.Exception.n") 217, val := Value.int 1 0 }] 2 }
noncomputable def o3 (P : Params) : Obj := { cls := Value.type "dict", data := Data.dict #[{ hash := PyData.keyHash P (Str.ofString "__name__"), key := Value.str (Str.ofString "__name__") 165, val := Value.str (Str.ofString "law_nm0007_01") 784 }, { hash := PyData.keyHash P (Str.ofString "__doc__"), key := Value.str (Str.ofString "__doc__") 166, val := Value.none }, { hash := PyData.keyHash P (Str.ofString "__package__"), key := Value.str (Str.ofString "__package__") 167, val := Value.none }, { hash := PyData.keyHash P (Str.ofString "__loader__"), key := Value.str (Str.ofString "__loader__") 168, val := Value.builtin "__main__.__loader__#opaque" }, { hash := PyData.keyHash P (Str.ofString "__spec__"), key := Value.str (Str.ofString "__spec__") 169, val := Value.none }, { hash := PyData.keyHash P (Str.ofString "__annotations__"), key := Value.str (Str.ofString "__annotations__") 170, val := Value.ref 6 }, { hash := PyData.keyHash P (Str.ofString "__builtins__"), key := Value.str (Str.ofString "__builtins__") 171, val := Value.ref 4 }, { hash := PyData.keyHash P (Str.ofString "__file__"), key := Value.str (Str.ofString "__file__") 173, val := Value.str (Str.ofString "/claim/cut.py") 172 }, { hash := PyData.keyHash P (Str.ofString "__cached__"), key := Value.str (Str.ofString "__cached__") 174, val := Value.none }, { hash := PyData.keyHash P (Str.ofString "AssemblyFault"), key := Value.str (Str.ofString "AssemblyFault") 219, val := Value.ref 31 }, { hash := PyData.keyHash P (Str.ofString "LUI"), key := Value.str (Str.ofString "LUI") 223, val := Value.int 55 222 }, { hash := PyData.keyHash P (Str.ofString "AUIPC"), key := Value.str (Str.ofString "AUIPC") 225, val := Value.int 23 224 }, { hash := PyData.keyHash P (Str.ofString "JAL"), key := Value.str (Str.ofString "JAL") 227, val := Value.int 111 226 }, { hash := PyData.keyHash P (Str.ofString "WITH_IMM"), key := Value.str (Str.ofString "WITH_IMM") 229, val := Value.int 19 228 }, { hash := PyData.keyHash P (Str.ofString "WITH_REG"), key := Value.str (Str.ofString "WITH_REG") 231, val := Value.int 51 230 }, { hash := PyData.keyHash P (Str.ofString "FENCE"), key := Value.str (Str.ofString "FENCE") 233, val := Value.int 15 232 }, { hash := PyData.keyHash P (Str.ofString "SYSTEM"), key := Value.str (Str.ofString "SYSTEM") 235, val := Value.int 115 234 }, { hash := PyData.keyHash P (Str.ofString "INSTRUCTIONS"), key := Value.str (Str.ofString "INSTRUCTIONS") 428, val := Value.ref 35 }, { hash := PyData.keyHash P (Str.ofString "PLACES"), key := Value.str (Str.ofString "PLACES") 473, val := Value.ref 86 }, { hash := PyData.keyHash P (Str.ofString "BOUNDS"), key := Value.str (Str.ofString "BOUNDS") 513, val := Value.ref 109 }, { hash := PyData.keyHash P (Str.ofString "signed"), key := Value.str (Str.ofString "signed") 522, val := Value.ref 123 }, { hash := PyData.keyHash P (Str.ofString "fits"), key := Value.str (Str.ofString "fits") 533, val := Value.ref 130 }, { hash := PyData.keyHash P (Str.ofString "imm_bits"), key := Value.str (Str.ofString "imm_bits") 541, val := Value.ref 137 }, { hash := PyData.keyHash P (Str.ofString "imm_of"), key := Value.str (Str.ofString "imm_of") 550, val := Value.ref 144 }, { hash := PyData.keyHash P (Str.ofString "encode"), key := Value.str (Str.ofString "encode") 563, val := Value.ref 151 }, { hash := PyData.keyHash P (Str.ofString "names_by_base"), key := Value.str (Str.ofString "names_by_base") 569, val := Value.ref 156 }, { hash := PyData.keyHash P (Str.ofString "NAMES_BY_BASE"), key := Value.str (Str.ofString "NAMES_BY_BASE") 762, val := Value.ref 160 }, { hash := PyData.keyHash P (Str.ofString "name_of"), key := Value.str (Str.ofString "name_of") 771, val := Value.ref 362 }, { hash := PyData.keyHash P (Str.ofString "decode"), key := Value.str (Str.ofString "decode") 783, val := Value.ref 369 }, { hash := PyData.keyHash P (Str.ofString "_law_well"), key := Value.str (Str.ofString "_law_well") 791, val := Value.ref 374 }, { hash := PyData.keyHash P (Str.ofString "_law_draw"), key := Value.str (Str.ofString "_law_draw") 801, val := Value.ref 381 }, { hash := PyData.keyHash P (Str.ofString "_law_table"), key := Value.str (Str.ofString "_law_table") 817, val := Value.ref 388 }, { hash := PyData.keyHash P (Str.ofString "_law_places"), key := Value.str (Str.ofString "_law_places") 823, val := Value.ref 393 }, { hash := PyData.keyHash P (Str.ofString "_law_registers"), key := Value.str (Str.ofString "_law_registers") 830, val := Value.ref 400 }, { hash := PyData.keyHash P (Str.ofString "_law_ends"), key := Value.str (Str.ofString "_law_ends") 838, val := Value.ref 407 }, { hash := PyData.keyHash P (Str.ofString "_law_fields"), key := Value.str (Str.ofString "_law_fields") 853, val := Value.ref 414 }, { hash := PyData.keyHash P (Str.ofString "_law_laid"), key := Value.str (Str.ofString "_law_laid") 870, val := Value.ref 421 }, { hash := PyData.keyHash P (Str.ofString "_law_is_one"), key := Value.str (Str.ofString "_law_is_one") 883, val := Value.ref 428 }, { hash := PyData.keyHash P (Str.ofString "_law_read"), key := Value.str (Str.ofString "_law_read") 898, val := Value.ref 435 }, { hash := PyData.keyHash P (Str.ofString "_law_refused"), key := Value.str (Str.ofString "_law_refused") 906, val := Value.ref 442 }, { hash := PyData.keyHash P (Str.ofString "_law_ill_right"), key := Value.str (Str.ofString "_law_ill_right") 912, val := Value.ref 447 }, { hash := PyData.keyHash P (Str.ofString "_law_turned_right"), key := Value.str (Str.ofString "_law_turned_right") 918, val := Value.ref 452 }, { hash := PyData.keyHash P (Str.ofString "law"), key := Value.str (Str.ofString "law") 924, val := Value.ref 457 }] 43 }
noncomputable abbrev o4 (P : Params) : Obj := boot_o_4 P
noncomputable abbrev o5 (P : Params) : Obj := boot_o_5 P
noncomputable abbrev o6 (P : Params) : Obj := boot_o_6 P
noncomputable abbrev o7 (P : Params) : Obj := boot_o_7 P
noncomputable abbrev o8 (P : Params) : Obj := boot_o_8 P
noncomputable abbrev o9 (P : Params) : Obj := boot_o_9 P
noncomputable abbrev o10 (P : Params) : Obj := boot_o_10 P
noncomputable def o11 (_ : Params) : Obj := { cls := Value.type "tuple", data := Data.seq #[] }
noncomputable def o12 (_ : Params) : Obj := { cls := Value.none, data := Data.fields #[Value.int 2 0, Value.int 0 0, Value.ref 20, Value.int 19 0, Value.int 0 0, Value.ref 122, Value.int 22 0, Value.int 0 0, Value.ref 129, Value.int 25 0, Value.int 0 0, Value.ref 136, Value.int 39 0, Value.int 0 0, Value.ref 143, Value.int 55 0, Value.int 0 0, Value.ref 150, Value.int 69 0, Value.int 0 0, Value.ref 155, Value.int 72 0, Value.int 0 0, Value.ref 361, Value.int 83 0, Value.int 0 0, Value.ref 368, Value.int 95 0, Value.int 0 0, Value.ref 373, Value.int 97 0, Value.int 0 0, Value.ref 380, Value.int 103 0, Value.int 0 0, Value.ref 387, Value.int 117 0, Value.int 0 0, Value.ref 392, Value.int 131 0, Value.int 0 0, Value.ref 399, Value.int 139 0, Value.int 0 0, Value.ref 406, Value.int 142 0, Value.int 0 0, Value.ref 413, Value.int 151 0, Value.int 0 0, Value.ref 420, Value.int 159 0, Value.int 0 0, Value.ref 427, Value.int 170 0, Value.int 0 0, Value.ref 434, Value.int 182 0, Value.int 0 0, Value.ref 441, Value.int 188 0, Value.int 0 0, Value.ref 446, Value.int 195 0, Value.int 0 0, Value.ref 451, Value.int 204 0, Value.int 0 0, Value.ref 456] }
noncomputable def o13 (_ : Params) : Obj := { cls := Value.type "code", data := Data.fields #[Value.str (Str.ofString "<module>") 182, Value.str (Str.ofString "<module>") 183, Value.str (Str.ofString "/claim/cut.py") 184, Value.int 1 0, Value.int 0 0, Value.int 0 0, Value.int 0 0, Value.int 0 0, Value.ref 11, Value.bool false, Value.int 181 0, Value.ref 12, Value.none, Value.none, Value.none, Value.none, Value.int 185 0, Value.int 1 0, Value.str (Str.ofString "/claim/cut.py") 186] }
noncomputable def o14 (_ : Params) : Obj := { cls := Value.type "frame", slots := #[some (Value.ref 13), some (Value.ref 3), some (Value.ref 3), none, some (Value.str (Str.ofString "__main__") 164), none, some (Value.ref 0)] }
noncomputable def o15 (_ : Params) : Obj := { cls := Value.type "tuple", data := Data.seq #[Value.type "Exception"] }
noncomputable def o16 (_ : Params) : Obj := { cls := Value.type "builtin_function_or_method", data := Data.fields #[Value.builtin "type.__prepare__", Value.type "type"] }
noncomputable def o17 (P : Params) : Obj := { cls := Value.type "dict", data := Data.dict #[{ hash := PyData.keyHash P (Str.ofString "__module__"), key := Value.str (Str.ofString "__module__") 196, val := Value.str (Str.ofString "corecc.errors") 187 }, { hash := PyData.keyHash P (Str.ofString "__qualname__"), key := Value.str (Str.ofString "__qualname__") 198, val := Value.str (Str.ofString "AssemblyFault") 197 }, { hash := PyData.keyHash P (Str.ofString "__firstlineno__"), key := Value.str (Str.ofString "__firstlineno__") 200, val := Value.int 2 199 }, { hash := PyData.keyHash P (Str.ofString "__init__"), key := Value.str (Str.ofString "__init__") 209, val := Value.ref 28 }, { hash := PyData.keyHash P (Str.ofString "__static_attributes__"), key := Value.str (Str.ofString "__static_attributes__") 212, val := Value.ref 29 }] 5 }
noncomputable def o18 (_ : Params) : Obj := { cls := Value.type "tuple", data := Data.seq #[] }
noncomputable def o19 (_ : Params) : Obj := { cls := Value.none, data := Data.fields #[Value.int 4 0, Value.int 4 0, Value.ref 27] }
noncomputable def o20 (_ : Params) : Obj := { cls := Value.type "code", data := Data.fields #[Value.str (Str.ofString "AssemblyFault") 191, Value.str (Str.ofString "AssemblyFault") 192, Value.str (Str.ofString "/claim/cut.py") 193, Value.int 2 0, Value.int 0 0, Value.int 0 0, Value.int 0 0, Value.int 0 0, Value.ref 18, Value.bool false, Value.int 181 0, Value.ref 19, Value.none, Value.none, Value.none, Value.none, Value.int 194 0, Value.int 2 0, Value.str (Str.ofString "/claim/cut.py") 195] }
noncomputable def o21 (_ : Params) : Obj := { cls := Value.type "frame", slots := #[some (Value.ref 20), some (Value.ref 3), some (Value.ref 17), none, some (Value.str (Str.ofString "corecc.errors") 187), none, some (Value.ref 0)] }
noncomputable def o22 (_ : Params) : Obj := { cls := Value.type "tuple", data := Data.seq #[] }
noncomputable def o23 (_ : Params) : Obj := { cls := Value.none, data := Data.fields #[] }
noncomputable def o24 (_ : Params) : Obj := { cls := Value.type "tuple", data := Data.seq #[Value.str (Str.ofString "self") 204, Value.str (Str.ofString "word") 205, Value.str (Str.ofString "line") 206] }
noncomputable def o25 (_ : Params) : Obj := { cls := Value.type "tuple", data := Data.seq #[] }
noncomputable def o26 (_ : Params) : Obj := { cls := Value.none, data := Data.func { name := Str.ofString "__init__", qualname := Str.ofString "AssemblyFault.__init__", params := fdA (stmIn 1 0), body := FuncBody.stmts (fdB (stmIn 1 0)), scope := fdS (stmIn 1 0), globals := 0, closure := [], defaults := Value.none, kwdefaults := Value.none } }
noncomputable def o27 (_ : Params) : Obj := { cls := Value.type "code", data := Data.fields #[Value.str (Str.ofString "__init__") 201, Value.str (Str.ofString "AssemblyFault.__init__") 202, Value.str (Str.ofString "/claim/cut.py") 203, Value.int 4 0, Value.int 3 0, Value.int 0 0, Value.int 0 0, Value.int 3 0, Value.ref 22, Value.bool true, Value.int 181 0, Value.ref 23, Value.none, Value.ref 24, Value.ref 25, Value.ref 26, Value.int 207 0, Value.int 4 0, Value.str (Str.ofString "/claim/cut.py") 208] }
noncomputable def o28 (_ : Params) : Obj := { cls := Value.type "function", data := Data.func { name := Str.ofString "__init__", qualname := Str.ofString "AssemblyFault.__init__", params := fdA (stmIn 1 0), body := FuncBody.stmts (fdB (stmIn 1 0)), scope := fdS (stmIn 1 0), globals := 3, closure := [], defaults := Value.none, kwdefaults := Value.none, pyModule := Value.str (Str.ofString "corecc.errors") 187, code := Value.ref 27 } }
noncomputable def o29 (_ : Params) : Obj := { cls := Value.type "tuple", data := Data.seq #[Value.str (Str.ofString "line") 210, Value.str (Str.ofString "word") 211] }
noncomputable def o30 (P : Params) : Obj := { cls := Value.type "dict", data := Data.dict #[{ hash := PyData.keyHash P (Str.ofString "__module__"), key := Value.str (Str.ofString "__module__") 196, val := Value.str (Str.ofString "corecc.errors") 187 }, { hash := PyData.keyHash P (Str.ofString "__firstlineno__"), key := Value.str (Str.ofString "__firstlineno__") 200, val := Value.int 2 199 }, { hash := PyData.keyHash P (Str.ofString "__init__"), key := Value.str (Str.ofString "__init__") 209, val := Value.ref 28 }, { hash := PyData.keyHash P (Str.ofString "__static_attributes__"), key := Value.str (Str.ofString "__static_attributes__") 212, val := Value.ref 29 }, { hash := PyData.keyHash P (Str.ofString "__weakref__"), key := Value.str (Str.ofString "__weakref__") 214, val := Value.ref 32 }, { hash := PyData.keyHash P (Str.ofString "__doc__"), key := Value.str (Str.ofString "__doc__") 215, val := Value.none }] 3 }
noncomputable def o31 (_ : Params) : Obj := { cls := Value.type "type", data := Data.cls { name := Str.ofString "AssemblyFault", bases := [Value.type "Exception"], mro := [Value.ref 31, Value.type "Exception", Value.type "BaseException", Value.type "object"], ns := 30, qualname := Str.ofString "AssemblyFault" }, slots := #[some (Value.ref 15), none, some (Value.str (Str.ofString "AssemblyFault") 189), some (Value.str (Str.ofString "AssemblyFault") 197), some (Value.builtin "Exception.__new__"), some (Value.bool true)] }
noncomputable def o32 (_ : Params) : Obj := { cls := Value.type "getset_descriptor", data := Data.fields #[Value.str (Str.ofString "__weakref__") 213, Value.ref 31, Value.builtin "ExceptionGroup.__weakref__", Value.none] }
noncomputable def o33 (_ : Params) : Obj := { cls := Value.type "super", data := Data.fields #[Value.ref 31, Value.ref 31, Value.ref 31] }
noncomputable def o34 (_ : Params) : Obj := { cls := Value.type "builtin_function_or_method", data := Data.fields #[Value.builtin "object.__init_subclass__", Value.ref 31] }
noncomputable def o35 (P : Params) : Obj := { cls := Value.type "dict", data := Data.dict #[{ hash := PyData.keyHash P (Str.ofString "lui"), key := Value.str (Str.ofString "lui") 236, val := Value.ref 36 }, { hash := PyData.keyHash P (Str.ofString "auipc"), key := Value.str (Str.ofString "auipc") 240, val := Value.ref 37 }, { hash := PyData.keyHash P (Str.ofString "jal"), key := Value.str (Str.ofString "jal") 244, val := Value.ref 38 }, { hash := PyData.keyHash P (Str.ofString "jalr"), key := Value.str (Str.ofString "jalr") 248, val := Value.ref 39 }, { hash := PyData.keyHash P (Str.ofString "beq"), key := Value.str (Str.ofString "beq") 252, val := Value.ref 40 }, { hash := PyData.keyHash P (Str.ofString "bne"), key := Value.str (Str.ofString "bne") 256, val := Value.ref 41 }, { hash := PyData.keyHash P (Str.ofString "blt"), key := Value.str (Str.ofString "blt") 260, val := Value.ref 42 }, { hash := PyData.keyHash P (Str.ofString "bge"), key := Value.str (Str.ofString "bge") 264, val := Value.ref 43 }, { hash := PyData.keyHash P (Str.ofString "bltu"), key := Value.str (Str.ofString "bltu") 268, val := Value.ref 44 }, { hash := PyData.keyHash P (Str.ofString "bgeu"), key := Value.str (Str.ofString "bgeu") 272, val := Value.ref 45 }, { hash := PyData.keyHash P (Str.ofString "lb"), key := Value.str (Str.ofString "lb") 276, val := Value.ref 46 }, { hash := PyData.keyHash P (Str.ofString "lh"), key := Value.str (Str.ofString "lh") 280, val := Value.ref 47 }, { hash := PyData.keyHash P (Str.ofString "lw"), key := Value.str (Str.ofString "lw") 284, val := Value.ref 48 }, { hash := PyData.keyHash P (Str.ofString "lbu"), key := Value.str (Str.ofString "lbu") 288, val := Value.ref 49 }, { hash := PyData.keyHash P (Str.ofString "lhu"), key := Value.str (Str.ofString "lhu") 292, val := Value.ref 50 }, { hash := PyData.keyHash P (Str.ofString "sb"), key := Value.str (Str.ofString "sb") 296, val := Value.ref 51 }, { hash := PyData.keyHash P (Str.ofString "sh"), key := Value.str (Str.ofString "sh") 300, val := Value.ref 52 }, { hash := PyData.keyHash P (Str.ofString "sw"), key := Value.str (Str.ofString "sw") 304, val := Value.ref 54 }, { hash := PyData.keyHash P (Str.ofString "addi"), key := Value.str (Str.ofString "addi") 308, val := Value.ref 55 }, { hash := PyData.keyHash P (Str.ofString "slti"), key := Value.str (Str.ofString "slti") 312, val := Value.ref 56 }, { hash := PyData.keyHash P (Str.ofString "sltiu"), key := Value.str (Str.ofString "sltiu") 316, val := Value.ref 57 }, { hash := PyData.keyHash P (Str.ofString "xori"), key := Value.str (Str.ofString "xori") 320, val := Value.ref 58 }, { hash := PyData.keyHash P (Str.ofString "ori"), key := Value.str (Str.ofString "ori") 324, val := Value.ref 59 }, { hash := PyData.keyHash P (Str.ofString "andi"), key := Value.str (Str.ofString "andi") 328, val := Value.ref 60 }, { hash := PyData.keyHash P (Str.ofString "slli"), key := Value.str (Str.ofString "slli") 332, val := Value.ref 61 }, { hash := PyData.keyHash P (Str.ofString "srli"), key := Value.str (Str.ofString "srli") 336, val := Value.ref 62 }, { hash := PyData.keyHash P (Str.ofString "srai"), key := Value.str (Str.ofString "srai") 340, val := Value.ref 63 }, { hash := PyData.keyHash P (Str.ofString "add"), key := Value.str (Str.ofString "add") 344, val := Value.ref 64 }, { hash := PyData.keyHash P (Str.ofString "sub"), key := Value.str (Str.ofString "sub") 348, val := Value.ref 65 }, { hash := PyData.keyHash P (Str.ofString "sll"), key := Value.str (Str.ofString "sll") 352, val := Value.ref 66 }, { hash := PyData.keyHash P (Str.ofString "slt"), key := Value.str (Str.ofString "slt") 356, val := Value.ref 67 }, { hash := PyData.keyHash P (Str.ofString "sltu"), key := Value.str (Str.ofString "sltu") 360, val := Value.ref 68 }, { hash := PyData.keyHash P (Str.ofString "xor"), key := Value.str (Str.ofString "xor") 364, val := Value.ref 69 }, { hash := PyData.keyHash P (Str.ofString "srl"), key := Value.str (Str.ofString "srl") 368, val := Value.ref 70 }, { hash := PyData.keyHash P (Str.ofString "sra"), key := Value.str (Str.ofString "sra") 372, val := Value.ref 72 }, { hash := PyData.keyHash P (Str.ofString "or"), key := Value.str (Str.ofString "or") 375, val := Value.ref 73 }, { hash := PyData.keyHash P (Str.ofString "and"), key := Value.str (Str.ofString "and") 378, val := Value.ref 74 }, { hash := PyData.keyHash P (Str.ofString "mul"), key := Value.str (Str.ofString "mul") 381, val := Value.ref 75 }, { hash := PyData.keyHash P (Str.ofString "mulh"), key := Value.str (Str.ofString "mulh") 384, val := Value.ref 76 }, { hash := PyData.keyHash P (Str.ofString "mulhsu"), key := Value.str (Str.ofString "mulhsu") 387, val := Value.ref 77 }, { hash := PyData.keyHash P (Str.ofString "mulhu"), key := Value.str (Str.ofString "mulhu") 390, val := Value.ref 78 }, { hash := PyData.keyHash P (Str.ofString "div"), key := Value.str (Str.ofString "div") 393, val := Value.ref 79 }, { hash := PyData.keyHash P (Str.ofString "divu"), key := Value.str (Str.ofString "divu") 396, val := Value.ref 80 }, { hash := PyData.keyHash P (Str.ofString "rem"), key := Value.str (Str.ofString "rem") 399, val := Value.ref 81 }, { hash := PyData.keyHash P (Str.ofString "remu"), key := Value.str (Str.ofString "remu") 402, val := Value.ref 82 }, { hash := PyData.keyHash P (Str.ofString "fence"), key := Value.str (Str.ofString "fence") 405, val := Value.ref 83 }, { hash := PyData.keyHash P (Str.ofString "ecall"), key := Value.str (Str.ofString "ecall") 408, val := Value.ref 84 }, { hash := PyData.keyHash P (Str.ofString "ebreak"), key := Value.str (Str.ofString "ebreak") 411, val := Value.ref 85 }] 48 }
noncomputable def o36 (_ : Params) : Obj := { cls := Value.type "tuple", data := Data.seq #[Value.str (Str.ofString "U") 237, Value.int 55 238] }
noncomputable def o37 (_ : Params) : Obj := { cls := Value.type "tuple", data := Data.seq #[Value.str (Str.ofString "U") 241, Value.int 23 242] }
noncomputable def o38 (_ : Params) : Obj := { cls := Value.type "tuple", data := Data.seq #[Value.str (Str.ofString "J") 245, Value.int 111 246] }
noncomputable def o39 (_ : Params) : Obj := { cls := Value.type "tuple", data := Data.seq #[Value.str (Str.ofString "I") 249, Value.int 103 250] }
noncomputable def o40 (_ : Params) : Obj := { cls := Value.type "tuple", data := Data.seq #[Value.str (Str.ofString "B") 253, Value.int 99 254] }
noncomputable def o41 (_ : Params) : Obj := { cls := Value.type "tuple", data := Data.seq #[Value.str (Str.ofString "B") 257, Value.int 4195 258] }
noncomputable def o42 (_ : Params) : Obj := { cls := Value.type "tuple", data := Data.seq #[Value.str (Str.ofString "B") 261, Value.int 16483 262] }
noncomputable def o43 (_ : Params) : Obj := { cls := Value.type "tuple", data := Data.seq #[Value.str (Str.ofString "B") 265, Value.int 20579 266] }
noncomputable def o44 (_ : Params) : Obj := { cls := Value.type "tuple", data := Data.seq #[Value.str (Str.ofString "B") 269, Value.int 24675 270] }
noncomputable def o45 (_ : Params) : Obj := { cls := Value.type "tuple", data := Data.seq #[Value.str (Str.ofString "B") 273, Value.int 28771 274] }
noncomputable def o46 (_ : Params) : Obj := { cls := Value.type "tuple", data := Data.seq #[Value.str (Str.ofString "I") 277, Value.int 3 278] }
noncomputable def o47 (_ : Params) : Obj := { cls := Value.type "tuple", data := Data.seq #[Value.str (Str.ofString "I") 281, Value.int 4099 282] }
noncomputable def o48 (_ : Params) : Obj := { cls := Value.type "tuple", data := Data.seq #[Value.str (Str.ofString "I") 285, Value.int 8195 286] }
noncomputable def o49 (_ : Params) : Obj := { cls := Value.type "tuple", data := Data.seq #[Value.str (Str.ofString "I") 289, Value.int 16387 290] }
noncomputable def o50 (_ : Params) : Obj := { cls := Value.type "tuple", data := Data.seq #[Value.str (Str.ofString "I") 293, Value.int 20483 294] }
noncomputable def o51 (_ : Params) : Obj := { cls := Value.type "tuple", data := Data.seq #[Value.str (Str.ofString "S") 297, Value.int 35 298] }
noncomputable def o52 (_ : Params) : Obj := { cls := Value.type "tuple", data := Data.seq #[Value.str (Str.ofString "S") 301, Value.int 4131 302] }
noncomputable def o53 (P : Params) : Obj := { cls := Value.type "dict", data := Data.dict #[{ hash := PyData.keyHash P (Str.ofString "sw"), key := Value.str (Str.ofString "sw") 304, val := Value.ref 54 }, { hash := PyData.keyHash P (Str.ofString "addi"), key := Value.str (Str.ofString "addi") 308, val := Value.ref 55 }, { hash := PyData.keyHash P (Str.ofString "slti"), key := Value.str (Str.ofString "slti") 312, val := Value.ref 56 }, { hash := PyData.keyHash P (Str.ofString "sltiu"), key := Value.str (Str.ofString "sltiu") 316, val := Value.ref 57 }, { hash := PyData.keyHash P (Str.ofString "xori"), key := Value.str (Str.ofString "xori") 320, val := Value.ref 58 }, { hash := PyData.keyHash P (Str.ofString "ori"), key := Value.str (Str.ofString "ori") 324, val := Value.ref 59 }, { hash := PyData.keyHash P (Str.ofString "andi"), key := Value.str (Str.ofString "andi") 328, val := Value.ref 60 }, { hash := PyData.keyHash P (Str.ofString "slli"), key := Value.str (Str.ofString "slli") 332, val := Value.ref 61 }, { hash := PyData.keyHash P (Str.ofString "srli"), key := Value.str (Str.ofString "srli") 336, val := Value.ref 62 }, { hash := PyData.keyHash P (Str.ofString "srai"), key := Value.str (Str.ofString "srai") 340, val := Value.ref 63 }, { hash := PyData.keyHash P (Str.ofString "add"), key := Value.str (Str.ofString "add") 344, val := Value.ref 64 }, { hash := PyData.keyHash P (Str.ofString "sub"), key := Value.str (Str.ofString "sub") 348, val := Value.ref 65 }, { hash := PyData.keyHash P (Str.ofString "sll"), key := Value.str (Str.ofString "sll") 352, val := Value.ref 66 }, { hash := PyData.keyHash P (Str.ofString "slt"), key := Value.str (Str.ofString "slt") 356, val := Value.ref 67 }, { hash := PyData.keyHash P (Str.ofString "sltu"), key := Value.str (Str.ofString "sltu") 360, val := Value.ref 68 }, { hash := PyData.keyHash P (Str.ofString "xor"), key := Value.str (Str.ofString "xor") 364, val := Value.ref 69 }, { hash := PyData.keyHash P (Str.ofString "srl"), key := Value.str (Str.ofString "srl") 368, val := Value.ref 70 }] 17 }
noncomputable def o54 (_ : Params) : Obj := { cls := Value.type "tuple", data := Data.seq #[Value.str (Str.ofString "S") 305, Value.int 8227 306] }
noncomputable def o55 (_ : Params) : Obj := { cls := Value.type "tuple", data := Data.seq #[Value.str (Str.ofString "I") 309, Value.int 19 310] }
noncomputable def o56 (_ : Params) : Obj := { cls := Value.type "tuple", data := Data.seq #[Value.str (Str.ofString "I") 313, Value.int 8211 314] }
noncomputable def o57 (_ : Params) : Obj := { cls := Value.type "tuple", data := Data.seq #[Value.str (Str.ofString "I") 317, Value.int 12307 318] }
noncomputable def o58 (_ : Params) : Obj := { cls := Value.type "tuple", data := Data.seq #[Value.str (Str.ofString "I") 321, Value.int 16403 322] }
noncomputable def o59 (_ : Params) : Obj := { cls := Value.type "tuple", data := Data.seq #[Value.str (Str.ofString "I") 325, Value.int 24595 326] }
noncomputable def o60 (_ : Params) : Obj := { cls := Value.type "tuple", data := Data.seq #[Value.str (Str.ofString "I") 329, Value.int 28691 330] }
noncomputable def o61 (_ : Params) : Obj := { cls := Value.type "tuple", data := Data.seq #[Value.str (Str.ofString "H") 333, Value.int 4115 334] }
noncomputable def o62 (_ : Params) : Obj := { cls := Value.type "tuple", data := Data.seq #[Value.str (Str.ofString "H") 337, Value.int 20499 338] }
noncomputable def o63 (_ : Params) : Obj := { cls := Value.type "tuple", data := Data.seq #[Value.str (Str.ofString "H") 341, Value.int 1073762323 342] }
noncomputable def o64 (_ : Params) : Obj := { cls := Value.type "tuple", data := Data.seq #[Value.str (Str.ofString "R") 345, Value.int 51 346] }
noncomputable def o65 (_ : Params) : Obj := { cls := Value.type "tuple", data := Data.seq #[Value.str (Str.ofString "R") 349, Value.int 1073741875 350] }
noncomputable def o66 (_ : Params) : Obj := { cls := Value.type "tuple", data := Data.seq #[Value.str (Str.ofString "R") 353, Value.int 4147 354] }
noncomputable def o67 (_ : Params) : Obj := { cls := Value.type "tuple", data := Data.seq #[Value.str (Str.ofString "R") 357, Value.int 8243 358] }
noncomputable def o68 (_ : Params) : Obj := { cls := Value.type "tuple", data := Data.seq #[Value.str (Str.ofString "R") 361, Value.int 12339 362] }
noncomputable def o69 (_ : Params) : Obj := { cls := Value.type "tuple", data := Data.seq #[Value.str (Str.ofString "R") 365, Value.int 16435 366] }
noncomputable def o70 (_ : Params) : Obj := { cls := Value.type "tuple", data := Data.seq #[Value.str (Str.ofString "R") 369, Value.int 20531 370] }
noncomputable def o71 (P : Params) : Obj := { cls := Value.type "dict", data := Data.dict #[{ hash := PyData.keyHash P (Str.ofString "sra"), key := Value.str (Str.ofString "sra") 372, val := Value.ref 72 }, { hash := PyData.keyHash P (Str.ofString "or"), key := Value.str (Str.ofString "or") 375, val := Value.ref 73 }, { hash := PyData.keyHash P (Str.ofString "and"), key := Value.str (Str.ofString "and") 378, val := Value.ref 74 }, { hash := PyData.keyHash P (Str.ofString "mul"), key := Value.str (Str.ofString "mul") 381, val := Value.ref 75 }, { hash := PyData.keyHash P (Str.ofString "mulh"), key := Value.str (Str.ofString "mulh") 384, val := Value.ref 76 }, { hash := PyData.keyHash P (Str.ofString "mulhsu"), key := Value.str (Str.ofString "mulhsu") 387, val := Value.ref 77 }, { hash := PyData.keyHash P (Str.ofString "mulhu"), key := Value.str (Str.ofString "mulhu") 390, val := Value.ref 78 }, { hash := PyData.keyHash P (Str.ofString "div"), key := Value.str (Str.ofString "div") 393, val := Value.ref 79 }, { hash := PyData.keyHash P (Str.ofString "divu"), key := Value.str (Str.ofString "divu") 396, val := Value.ref 80 }, { hash := PyData.keyHash P (Str.ofString "rem"), key := Value.str (Str.ofString "rem") 399, val := Value.ref 81 }, { hash := PyData.keyHash P (Str.ofString "remu"), key := Value.str (Str.ofString "remu") 402, val := Value.ref 82 }, { hash := PyData.keyHash P (Str.ofString "fence"), key := Value.str (Str.ofString "fence") 405, val := Value.ref 83 }, { hash := PyData.keyHash P (Str.ofString "ecall"), key := Value.str (Str.ofString "ecall") 408, val := Value.ref 84 }, { hash := PyData.keyHash P (Str.ofString "ebreak"), key := Value.str (Str.ofString "ebreak") 411, val := Value.ref 85 }] 14 }
noncomputable def o72 (_ : Params) : Obj := { cls := Value.type "tuple", data := Data.seq #[Value.str (Str.ofString "R") 373, Value.int 1073762355 374] }
noncomputable def o73 (_ : Params) : Obj := { cls := Value.type "tuple", data := Data.seq #[Value.str (Str.ofString "R") 376, Value.int 24627 377] }
noncomputable def o74 (_ : Params) : Obj := { cls := Value.type "tuple", data := Data.seq #[Value.str (Str.ofString "R") 379, Value.int 28723 380] }
noncomputable def o75 (_ : Params) : Obj := { cls := Value.type "tuple", data := Data.seq #[Value.str (Str.ofString "R") 382, Value.int 33554483 383] }
noncomputable def o76 (_ : Params) : Obj := { cls := Value.type "tuple", data := Data.seq #[Value.str (Str.ofString "R") 385, Value.int 33558579 386] }
noncomputable def o77 (_ : Params) : Obj := { cls := Value.type "tuple", data := Data.seq #[Value.str (Str.ofString "R") 388, Value.int 33562675 389] }
noncomputable def o78 (_ : Params) : Obj := { cls := Value.type "tuple", data := Data.seq #[Value.str (Str.ofString "R") 391, Value.int 33566771 392] }
noncomputable def o79 (_ : Params) : Obj := { cls := Value.type "tuple", data := Data.seq #[Value.str (Str.ofString "R") 394, Value.int 33570867 395] }
noncomputable def o80 (_ : Params) : Obj := { cls := Value.type "tuple", data := Data.seq #[Value.str (Str.ofString "R") 397, Value.int 33574963 398] }
noncomputable def o81 (_ : Params) : Obj := { cls := Value.type "tuple", data := Data.seq #[Value.str (Str.ofString "R") 400, Value.int 33579059 401] }
noncomputable def o82 (_ : Params) : Obj := { cls := Value.type "tuple", data := Data.seq #[Value.str (Str.ofString "R") 403, Value.int 33583155 404] }
noncomputable def o83 (_ : Params) : Obj := { cls := Value.type "tuple", data := Data.seq #[Value.str (Str.ofString "F") 406, Value.int 15 407] }
noncomputable def o84 (_ : Params) : Obj := { cls := Value.type "tuple", data := Data.seq #[Value.str (Str.ofString "E") 409, Value.int 115 410] }
noncomputable def o85 (_ : Params) : Obj := { cls := Value.type "tuple", data := Data.seq #[Value.str (Str.ofString "E") 412, Value.int 1048691 413] }
noncomputable def o86 (P : Params) : Obj := { cls := Value.type "dict", data := Data.dict #[{ hash := PyData.keyHash P (Str.ofString "R"), key := Value.str (Str.ofString "R") 429, val := Value.ref 90 }, { hash := PyData.keyHash P (Str.ofString "I"), key := Value.str (Str.ofString "I") 436, val := Value.ref 93 }, { hash := PyData.keyHash P (Str.ofString "H"), key := Value.str (Str.ofString "H") 441, val := Value.ref 96 }, { hash := PyData.keyHash P (Str.ofString "S"), key := Value.str (Str.ofString "S") 446, val := Value.ref 99 }, { hash := PyData.keyHash P (Str.ofString "B"), key := Value.str (Str.ofString "B") 451, val := Value.ref 102 }, { hash := PyData.keyHash P (Str.ofString "U"), key := Value.str (Str.ofString "U") 456, val := Value.ref 104 }, { hash := PyData.keyHash P (Str.ofString "J"), key := Value.str (Str.ofString "J") 459, val := Value.ref 106 }, { hash := PyData.keyHash P (Str.ofString "F"), key := Value.str (Str.ofString "F") 462, val := Value.ref 107 }, { hash := PyData.keyHash P (Str.ofString "E"), key := Value.str (Str.ofString "E") 463, val := Value.ref 108 }] 9 }
noncomputable def o87 (_ : Params) : Obj := { cls := Value.type "tuple", data := Data.seq #[Value.str (Str.ofString "rd") 430, Value.int 7 431] }
noncomputable def o88 (_ : Params) : Obj := { cls := Value.type "tuple", data := Data.seq #[Value.str (Str.ofString "rs1") 432, Value.int 15 433] }
noncomputable def o89 (_ : Params) : Obj := { cls := Value.type "tuple", data := Data.seq #[Value.str (Str.ofString "rs2") 434, Value.int 20 435] }
noncomputable def o90 (_ : Params) : Obj := { cls := Value.type "tuple", data := Data.seq #[Value.ref 87, Value.ref 88, Value.ref 89] }
noncomputable def o91 (_ : Params) : Obj := { cls := Value.type "tuple", data := Data.seq #[Value.str (Str.ofString "rd") 437, Value.int 7 438] }
noncomputable def o92 (_ : Params) : Obj := { cls := Value.type "tuple", data := Data.seq #[Value.str (Str.ofString "rs1") 439, Value.int 15 440] }
noncomputable def o93 (_ : Params) : Obj := { cls := Value.type "tuple", data := Data.seq #[Value.ref 91, Value.ref 92] }
noncomputable def o94 (_ : Params) : Obj := { cls := Value.type "tuple", data := Data.seq #[Value.str (Str.ofString "rd") 442, Value.int 7 443] }
noncomputable def o95 (_ : Params) : Obj := { cls := Value.type "tuple", data := Data.seq #[Value.str (Str.ofString "rs1") 444, Value.int 15 445] }
noncomputable def o96 (_ : Params) : Obj := { cls := Value.type "tuple", data := Data.seq #[Value.ref 94, Value.ref 95] }
noncomputable def o97 (_ : Params) : Obj := { cls := Value.type "tuple", data := Data.seq #[Value.str (Str.ofString "rs1") 447, Value.int 15 448] }
noncomputable def o98 (_ : Params) : Obj := { cls := Value.type "tuple", data := Data.seq #[Value.str (Str.ofString "rs2") 449, Value.int 20 450] }
noncomputable def o99 (_ : Params) : Obj := { cls := Value.type "tuple", data := Data.seq #[Value.ref 97, Value.ref 98] }
noncomputable def o100 (_ : Params) : Obj := { cls := Value.type "tuple", data := Data.seq #[Value.str (Str.ofString "rs1") 452, Value.int 15 453] }
noncomputable def o101 (_ : Params) : Obj := { cls := Value.type "tuple", data := Data.seq #[Value.str (Str.ofString "rs2") 454, Value.int 20 455] }
noncomputable def o102 (_ : Params) : Obj := { cls := Value.type "tuple", data := Data.seq #[Value.ref 100, Value.ref 101] }
noncomputable def o103 (_ : Params) : Obj := { cls := Value.type "tuple", data := Data.seq #[Value.str (Str.ofString "rd") 457, Value.int 7 458] }
noncomputable def o104 (_ : Params) : Obj := { cls := Value.type "tuple", data := Data.seq #[Value.ref 103] }
noncomputable def o105 (_ : Params) : Obj := { cls := Value.type "tuple", data := Data.seq #[Value.str (Str.ofString "rd") 460, Value.int 7 461] }
noncomputable def o106 (_ : Params) : Obj := { cls := Value.type "tuple", data := Data.seq #[Value.ref 105] }
noncomputable def o107 (_ : Params) : Obj := { cls := Value.type "tuple", data := Data.seq #[] }
noncomputable def o108 (_ : Params) : Obj := { cls := Value.type "tuple", data := Data.seq #[] }
noncomputable def o109 (P : Params) : Obj := { cls := Value.type "dict", data := Data.dict #[{ hash := PyData.keyHash P (Str.ofString "I"), key := Value.str (Str.ofString "I") 474, val := Value.ref 110 }, { hash := PyData.keyHash P (Str.ofString "H"), key := Value.str (Str.ofString "H") 479, val := Value.ref 111 }, { hash := PyData.keyHash P (Str.ofString "S"), key := Value.str (Str.ofString "S") 483, val := Value.ref 112 }, { hash := PyData.keyHash P (Str.ofString "B"), key := Value.str (Str.ofString "B") 488, val := Value.ref 113 }, { hash := PyData.keyHash P (Str.ofString "U"), key := Value.str (Str.ofString "U") 493, val := Value.ref 114 }, { hash := PyData.keyHash P (Str.ofString "J"), key := Value.str (Str.ofString "J") 497, val := Value.ref 115 }, { hash := PyData.keyHash P (Str.ofString "F"), key := Value.str (Str.ofString "F") 502, val := Value.ref 116 }] 7 }
noncomputable def o110 (_ : Params) : Obj := { cls := Value.type "tuple", data := Data.seq #[Value.int (-2048) 476, Value.int 2047 477, Value.int 1 478] }
noncomputable def o111 (_ : Params) : Obj := { cls := Value.type "tuple", data := Data.seq #[Value.int 0 480, Value.int 31 481, Value.int 1 482] }
noncomputable def o112 (_ : Params) : Obj := { cls := Value.type "tuple", data := Data.seq #[Value.int (-2048) 485, Value.int 2047 486, Value.int 1 487] }
noncomputable def o113 (_ : Params) : Obj := { cls := Value.type "tuple", data := Data.seq #[Value.int (-4096) 490, Value.int 4094 491, Value.int 2 492] }
noncomputable def o114 (_ : Params) : Obj := { cls := Value.type "tuple", data := Data.seq #[Value.int 0 494, Value.int 1048575 495, Value.int 1 496] }
noncomputable def o115 (_ : Params) : Obj := { cls := Value.type "tuple", data := Data.seq #[Value.int (-1048576) 499, Value.int 1048574 500, Value.int 2 501] }
noncomputable def o116 (_ : Params) : Obj := { cls := Value.type "tuple", data := Data.seq #[Value.int 0 503, Value.int 255 504, Value.int 1 505] }
noncomputable def o117 (_ : Params) : Obj := { cls := Value.type "tuple", data := Data.seq #[] }
noncomputable def o118 (_ : Params) : Obj := { cls := Value.none, data := Data.fields #[] }
noncomputable def o119 (_ : Params) : Obj := { cls := Value.type "tuple", data := Data.seq #[Value.str (Str.ofString "value") 517, Value.str (Str.ofString "width") 518, Value.str (Str.ofString "low") 519] }
noncomputable def o120 (_ : Params) : Obj := { cls := Value.type "tuple", data := Data.seq #[] }
noncomputable def o121 (_ : Params) : Obj := { cls := Value.none, data := Data.func { name := Str.ofString "signed", qualname := Str.ofString "signed", params := fdA (stm 13), body := FuncBody.stmts (fdB (stm 13)), scope := fdS (stm 13), globals := 0, closure := [], defaults := Value.none, kwdefaults := Value.none } }
noncomputable def o122 (_ : Params) : Obj := { cls := Value.type "code", data := Data.fields #[Value.str (Str.ofString "signed") 514, Value.str (Str.ofString "signed") 515, Value.str (Str.ofString "/claim/cut.py") 516, Value.int 19 0, Value.int 2 0, Value.int 0 0, Value.int 0 0, Value.int 3 0, Value.ref 117, Value.bool true, Value.int 181 0, Value.ref 118, Value.none, Value.ref 119, Value.ref 120, Value.ref 121, Value.int 520 0, Value.int 19 0, Value.str (Str.ofString "/claim/cut.py") 521] }
noncomputable def o123 (_ : Params) : Obj := { cls := Value.type "function", data := Data.func { name := Str.ofString "signed", qualname := Str.ofString "signed", params := fdA (stm 13), body := FuncBody.stmts (fdB (stm 13)), scope := fdS (stm 13), globals := 3, closure := [], defaults := Value.none, kwdefaults := Value.none, pyModule := Value.str (Str.ofString "corecc.rv32") 220, code := Value.ref 122 } }
noncomputable def o124 (_ : Params) : Obj := { cls := Value.type "tuple", data := Data.seq #[] }
noncomputable def o125 (_ : Params) : Obj := { cls := Value.none, data := Data.fields #[] }
noncomputable def o126 (_ : Params) : Obj := { cls := Value.type "tuple", data := Data.seq #[Value.str (Str.ofString "name") 526, Value.str (Str.ofString "imm") 527, Value.str (Str.ofString "least") 528, Value.str (Str.ofString "most") 529, Value.str (Str.ofString "by") 530] }
noncomputable def o127 (_ : Params) : Obj := { cls := Value.type "tuple", data := Data.seq #[] }
noncomputable def o128 (_ : Params) : Obj := { cls := Value.none, data := Data.func { name := Str.ofString "fits", qualname := Str.ofString "fits", params := fdA (stm 14), body := FuncBody.stmts (fdB (stm 14)), scope := fdS (stm 14), globals := 0, closure := [], defaults := Value.none, kwdefaults := Value.none } }
noncomputable def o129 (_ : Params) : Obj := { cls := Value.type "code", data := Data.fields #[Value.str (Str.ofString "fits") 523, Value.str (Str.ofString "fits") 524, Value.str (Str.ofString "/claim/cut.py") 525, Value.int 22 0, Value.int 2 0, Value.int 0 0, Value.int 0 0, Value.int 3 0, Value.ref 124, Value.bool true, Value.int 181 0, Value.ref 125, Value.none, Value.ref 126, Value.ref 127, Value.ref 128, Value.int 531 0, Value.int 22 0, Value.str (Str.ofString "/claim/cut.py") 532] }
noncomputable def o130 (_ : Params) : Obj := { cls := Value.type "function", data := Data.func { name := Str.ofString "fits", qualname := Str.ofString "fits", params := fdA (stm 14), body := FuncBody.stmts (fdB (stm 14)), scope := fdS (stm 14), globals := 3, closure := [], defaults := Value.none, kwdefaults := Value.none, pyModule := Value.str (Str.ofString "corecc.rv32") 220, code := Value.ref 129 } }
noncomputable def o131 (_ : Params) : Obj := { cls := Value.type "tuple", data := Data.seq #[] }
noncomputable def o132 (_ : Params) : Obj := { cls := Value.none, data := Data.fields #[] }
noncomputable def o133 (_ : Params) : Obj := { cls := Value.type "tuple", data := Data.seq #[Value.str (Str.ofString "form") 537, Value.str (Str.ofString "imm") 538] }
noncomputable def o134 (_ : Params) : Obj := { cls := Value.type "tuple", data := Data.seq #[] }
noncomputable def o135 (_ : Params) : Obj := { cls := Value.none, data := Data.func { name := Str.ofString "imm_bits", qualname := Str.ofString "imm_bits", params := fdA (stm 15), body := FuncBody.stmts (fdB (stm 15)), scope := fdS (stm 15), globals := 0, closure := [], defaults := Value.none, kwdefaults := Value.none } }
noncomputable def o136 (_ : Params) : Obj := { cls := Value.type "code", data := Data.fields #[Value.str (Str.ofString "imm_bits") 534, Value.str (Str.ofString "imm_bits") 535, Value.str (Str.ofString "/claim/cut.py") 536, Value.int 25 0, Value.int 2 0, Value.int 0 0, Value.int 0 0, Value.int 3 0, Value.ref 131, Value.bool true, Value.int 181 0, Value.ref 132, Value.none, Value.ref 133, Value.ref 134, Value.ref 135, Value.int 539 0, Value.int 25 0, Value.str (Str.ofString "/claim/cut.py") 540] }
noncomputable def o137 (_ : Params) : Obj := { cls := Value.type "function", data := Data.func { name := Str.ofString "imm_bits", qualname := Str.ofString "imm_bits", params := fdA (stm 15), body := FuncBody.stmts (fdB (stm 15)), scope := fdS (stm 15), globals := 3, closure := [], defaults := Value.none, kwdefaults := Value.none, pyModule := Value.str (Str.ofString "corecc.rv32") 220, code := Value.ref 136 } }
noncomputable def o138 (_ : Params) : Obj := { cls := Value.type "tuple", data := Data.seq #[] }
noncomputable def o139 (_ : Params) : Obj := { cls := Value.none, data := Data.fields #[] }
noncomputable def o140 (_ : Params) : Obj := { cls := Value.type "tuple", data := Data.seq #[Value.str (Str.ofString "form") 545, Value.str (Str.ofString "word") 546, Value.str (Str.ofString "high") 547] }
noncomputable def o141 (_ : Params) : Obj := { cls := Value.type "tuple", data := Data.seq #[] }
noncomputable def o142 (_ : Params) : Obj := { cls := Value.none, data := Data.func { name := Str.ofString "imm_of", qualname := Str.ofString "imm_of", params := fdA (stm 16), body := FuncBody.stmts (fdB (stm 16)), scope := fdS (stm 16), globals := 0, closure := [], defaults := Value.none, kwdefaults := Value.none } }
noncomputable def o143 (_ : Params) : Obj := { cls := Value.type "code", data := Data.fields #[Value.str (Str.ofString "imm_of") 542, Value.str (Str.ofString "imm_of") 543, Value.str (Str.ofString "/claim/cut.py") 544, Value.int 39 0, Value.int 2 0, Value.int 0 0, Value.int 0 0, Value.int 3 0, Value.ref 138, Value.bool true, Value.int 181 0, Value.ref 139, Value.none, Value.ref 140, Value.ref 141, Value.ref 142, Value.int 548 0, Value.int 39 0, Value.str (Str.ofString "/claim/cut.py") 549] }
noncomputable def o144 (_ : Params) : Obj := { cls := Value.type "function", data := Data.func { name := Str.ofString "imm_of", qualname := Str.ofString "imm_of", params := fdA (stm 16), body := FuncBody.stmts (fdB (stm 16)), scope := fdS (stm 16), globals := 3, closure := [], defaults := Value.none, kwdefaults := Value.none, pyModule := Value.str (Str.ofString "corecc.rv32") 220, code := Value.ref 143 } }
noncomputable def o145 (_ : Params) : Obj := { cls := Value.type "tuple", data := Data.seq #[] }
noncomputable def o146 (_ : Params) : Obj := { cls := Value.none, data := Data.fields #[] }
noncomputable def o147 (_ : Params) : Obj := { cls := Value.type "tuple", data := Data.seq #[Value.str (Str.ofString "name") 554, Value.str (Str.ofString "fields") 555, Value.str (Str.ofString "form") 556, Value.str (Str.ofString "found") 557, Value.str (Str.ofString "key") 558, Value.str (Str.ofString "shift") 559, Value.str (Str.ofString "number") 560] }
noncomputable def o148 (_ : Params) : Obj := { cls := Value.type "tuple", data := Data.seq #[] }
noncomputable def o149 (_ : Params) : Obj := { cls := Value.none, data := Data.func { name := Str.ofString "encode", qualname := Str.ofString "encode", params := fdA (stm 17), body := FuncBody.stmts (fdB (stm 17)), scope := fdS (stm 17), globals := 0, closure := [], defaults := Value.none, kwdefaults := Value.none } }
noncomputable def o150 (_ : Params) : Obj := { cls := Value.type "code", data := Data.fields #[Value.str (Str.ofString "encode") 551, Value.str (Str.ofString "encode") 552, Value.str (Str.ofString "/claim/cut.py") 553, Value.int 55 0, Value.int 2 0, Value.int 0 0, Value.int 0 0, Value.int 3 0, Value.ref 145, Value.bool true, Value.int 181 0, Value.ref 146, Value.none, Value.ref 147, Value.ref 148, Value.ref 149, Value.int 561 0, Value.int 55 0, Value.str (Str.ofString "/claim/cut.py") 562] }
noncomputable def o151 (_ : Params) : Obj := { cls := Value.type "function", data := Data.func { name := Str.ofString "encode", qualname := Str.ofString "encode", params := fdA (stm 17), body := FuncBody.stmts (fdB (stm 17)), scope := fdS (stm 17), globals := 3, closure := [], defaults := Value.none, kwdefaults := Value.none, pyModule := Value.str (Str.ofString "corecc.rv32") 220, code := Value.ref 150 } }
noncomputable def o152 (_ : Params) : Obj := { cls := Value.type "tuple", data := Data.seq #[] }
noncomputable def o153 (_ : Params) : Obj := { cls := Value.none, data := Data.fields #[] }
noncomputable def o154 (_ : Params) : Obj := { cls := Value.none, data := Data.func { name := Str.ofString "names_by_base", qualname := Str.ofString "names_by_base", params := fdA (stm 18), body := FuncBody.stmts (fdB (stm 18)), scope := fdS (stm 18), globals := 0, closure := [], defaults := Value.none, kwdefaults := Value.none } }
noncomputable def o155 (_ : Params) : Obj := { cls := Value.type "code", data := Data.fields #[Value.str (Str.ofString "names_by_base") 564, Value.str (Str.ofString "names_by_base") 565, Value.str (Str.ofString "/claim/cut.py") 566, Value.int 69 0, Value.int 0 0, Value.int 0 0, Value.int 0 0, Value.int 3 0, Value.ref 152, Value.bool true, Value.int 181 0, Value.ref 153, Value.none, Value.none, Value.none, Value.ref 154, Value.int 567 0, Value.int 69 0, Value.str (Str.ofString "/claim/cut.py") 568] }
noncomputable def o156 (_ : Params) : Obj := { cls := Value.type "function", data := Data.func { name := Str.ofString "names_by_base", qualname := Str.ofString "names_by_base", params := fdA (stm 18), body := FuncBody.stmts (fdB (stm 18)), scope := fdS (stm 18), globals := 3, closure := [], defaults := Value.none, kwdefaults := Value.none, pyModule := Value.str (Str.ofString "corecc.rv32") 220, code := Value.ref 155 } }
noncomputable def o157 (_ : Params) : Obj := { cls := Value.type "frame", data := Data.dict #[] }
noncomputable def o158 (_ : Params) : Obj := { cls := Value.type "dict_items", data := Data.fields #[Value.ref 35] }
noncomputable def o159 (_ : Params) : Obj := { cls := Value.type "dict_itemiterator", data := Data.fields #[Value.none, Value.bool false, Value.none, Value.int 48 0, Value.int 48 0, Value.int 48 0, Value.str (Str.ofString "ebreak") 411, Value.ref 85] }
noncomputable def o160 (_ : Params) : Obj := { cls := Value.type "dict", data := Data.dict #[{ hash := 55, key := Value.int 55 238, val := Value.str (Str.ofString "lui") 236 }, { hash := 23, key := Value.int 23 242, val := Value.str (Str.ofString "auipc") 240 }, { hash := 111, key := Value.int 111 246, val := Value.str (Str.ofString "jal") 244 }, { hash := 103, key := Value.int 103 250, val := Value.str (Str.ofString "jalr") 248 }, { hash := 99, key := Value.int 99 254, val := Value.str (Str.ofString "beq") 252 }, { hash := 4195, key := Value.int 4195 258, val := Value.str (Str.ofString "bne") 256 }, { hash := 16483, key := Value.int 16483 262, val := Value.str (Str.ofString "blt") 260 }, { hash := 20579, key := Value.int 20579 266, val := Value.str (Str.ofString "bge") 264 }, { hash := 24675, key := Value.int 24675 270, val := Value.str (Str.ofString "bltu") 268 }, { hash := 28771, key := Value.int 28771 274, val := Value.str (Str.ofString "bgeu") 272 }, { hash := 3, key := Value.int 3 278, val := Value.str (Str.ofString "lb") 276 }, { hash := 4099, key := Value.int 4099 282, val := Value.str (Str.ofString "lh") 280 }, { hash := 8195, key := Value.int 8195 286, val := Value.str (Str.ofString "lw") 284 }, { hash := 16387, key := Value.int 16387 290, val := Value.str (Str.ofString "lbu") 288 }, { hash := 20483, key := Value.int 20483 294, val := Value.str (Str.ofString "lhu") 292 }, { hash := 35, key := Value.int 35 298, val := Value.str (Str.ofString "sb") 296 }, { hash := 4131, key := Value.int 4131 302, val := Value.str (Str.ofString "sh") 300 }, { hash := 8227, key := Value.int 8227 306, val := Value.str (Str.ofString "sw") 304 }, { hash := 19, key := Value.int 19 310, val := Value.str (Str.ofString "addi") 308 }, { hash := 8211, key := Value.int 8211 314, val := Value.str (Str.ofString "slti") 312 }, { hash := 12307, key := Value.int 12307 318, val := Value.str (Str.ofString "sltiu") 316 }, { hash := 16403, key := Value.int 16403 322, val := Value.str (Str.ofString "xori") 320 }, { hash := 24595, key := Value.int 24595 326, val := Value.str (Str.ofString "ori") 324 }, { hash := 28691, key := Value.int 28691 330, val := Value.str (Str.ofString "andi") 328 }, { hash := 4115, key := Value.int 4115 334, val := Value.str (Str.ofString "slli") 332 }, { hash := 20499, key := Value.int 20499 338, val := Value.str (Str.ofString "srli") 336 }, { hash := 1073762323, key := Value.int 1073762323 342, val := Value.str (Str.ofString "srai") 340 }, { hash := 51, key := Value.int 51 346, val := Value.str (Str.ofString "add") 344 }, { hash := 1073741875, key := Value.int 1073741875 350, val := Value.str (Str.ofString "sub") 348 }, { hash := 4147, key := Value.int 4147 354, val := Value.str (Str.ofString "sll") 352 }, { hash := 8243, key := Value.int 8243 358, val := Value.str (Str.ofString "slt") 356 }, { hash := 12339, key := Value.int 12339 362, val := Value.str (Str.ofString "sltu") 360 }, { hash := 16435, key := Value.int 16435 366, val := Value.str (Str.ofString "xor") 364 }, { hash := 20531, key := Value.int 20531 370, val := Value.str (Str.ofString "srl") 368 }, { hash := 1073762355, key := Value.int 1073762355 374, val := Value.str (Str.ofString "sra") 372 }, { hash := 24627, key := Value.int 24627 377, val := Value.str (Str.ofString "or") 375 }, { hash := 28723, key := Value.int 28723 380, val := Value.str (Str.ofString "and") 378 }, { hash := 33554483, key := Value.int 33554483 383, val := Value.str (Str.ofString "mul") 381 }, { hash := 33558579, key := Value.int 33558579 386, val := Value.str (Str.ofString "mulh") 384 }, { hash := 33562675, key := Value.int 33562675 389, val := Value.str (Str.ofString "mulhsu") 387 }, { hash := 33566771, key := Value.int 33566771 392, val := Value.str (Str.ofString "mulhu") 390 }, { hash := 33570867, key := Value.int 33570867 395, val := Value.str (Str.ofString "div") 393 }, { hash := 33574963, key := Value.int 33574963 398, val := Value.str (Str.ofString "divu") 396 }, { hash := 33579059, key := Value.int 33579059 401, val := Value.str (Str.ofString "rem") 399 }, { hash := 33583155, key := Value.int 33583155 404, val := Value.str (Str.ofString "remu") 402 }, { hash := 15, key := Value.int 15 407, val := Value.str (Str.ofString "fence") 405 }, { hash := 115, key := Value.int 115 410, val := Value.str (Str.ofString "ecall") 408 }, { hash := 1048691, key := Value.int 1048691 413, val := Value.str (Str.ofString "ebreak") 411 }] 48 }
noncomputable def o161 (_ : Params) : Obj := { cls := Value.type "dict", data := Data.dict #[] 4 }
noncomputable def o162 (_ : Params) : Obj := { cls := Value.type "tuple", data := Data.seq #[Value.str (Str.ofString "lui") 236, Value.ref 36] }
noncomputable def o163 (_ : Params) : Obj := { cls := Value.type "tuple_iterator", data := Data.fields #[Value.none, Value.int 2 0] }
noncomputable def o164 (_ : Params) : Obj := { cls := Value.type "tuple", data := Data.seq #[] }
noncomputable def o165 (_ : Params) : Obj := { cls := Value.type "StopIteration", data := Data.fields #[Value.ref 164, Value.none, Value.none, Value.none, Value.bool false, Value.none] }
noncomputable def o166 (_ : Params) : Obj := { cls := Value.type "tuple", data := Data.seq #[Value.str (Str.ofString "auipc") 240, Value.ref 37] }
noncomputable def o167 (_ : Params) : Obj := { cls := Value.type "tuple_iterator", data := Data.fields #[Value.none, Value.int 2 0] }
noncomputable def o168 (_ : Params) : Obj := { cls := Value.type "tuple", data := Data.seq #[] }
noncomputable def o169 (_ : Params) : Obj := { cls := Value.type "StopIteration", data := Data.fields #[Value.ref 168, Value.none, Value.none, Value.none, Value.bool false, Value.none] }
noncomputable def o170 (_ : Params) : Obj := { cls := Value.type "tuple", data := Data.seq #[Value.str (Str.ofString "jal") 244, Value.ref 38] }
noncomputable def o171 (_ : Params) : Obj := { cls := Value.type "tuple_iterator", data := Data.fields #[Value.none, Value.int 2 0] }
noncomputable def o172 (_ : Params) : Obj := { cls := Value.type "tuple", data := Data.seq #[] }
noncomputable def o173 (_ : Params) : Obj := { cls := Value.type "StopIteration", data := Data.fields #[Value.ref 172, Value.none, Value.none, Value.none, Value.bool false, Value.none] }
noncomputable def o174 (_ : Params) : Obj := { cls := Value.type "tuple", data := Data.seq #[Value.str (Str.ofString "jalr") 248, Value.ref 39] }
noncomputable def o175 (_ : Params) : Obj := { cls := Value.type "tuple_iterator", data := Data.fields #[Value.none, Value.int 2 0] }
noncomputable def o176 (_ : Params) : Obj := { cls := Value.type "tuple", data := Data.seq #[] }
noncomputable def o177 (_ : Params) : Obj := { cls := Value.type "StopIteration", data := Data.fields #[Value.ref 176, Value.none, Value.none, Value.none, Value.bool false, Value.none] }
noncomputable def o178 (_ : Params) : Obj := { cls := Value.type "tuple", data := Data.seq #[Value.str (Str.ofString "beq") 252, Value.ref 40] }
noncomputable def o179 (_ : Params) : Obj := { cls := Value.type "tuple_iterator", data := Data.fields #[Value.none, Value.int 2 0] }
noncomputable def o180 (_ : Params) : Obj := { cls := Value.type "tuple", data := Data.seq #[] }
noncomputable def o181 (_ : Params) : Obj := { cls := Value.type "StopIteration", data := Data.fields #[Value.ref 180, Value.none, Value.none, Value.none, Value.bool false, Value.none] }
noncomputable def o182 (_ : Params) : Obj := { cls := Value.type "tuple", data := Data.seq #[Value.str (Str.ofString "bne") 256, Value.ref 41] }
noncomputable def o183 (_ : Params) : Obj := { cls := Value.type "tuple_iterator", data := Data.fields #[Value.none, Value.int 2 0] }
noncomputable def o184 (_ : Params) : Obj := { cls := Value.type "tuple", data := Data.seq #[] }
noncomputable def o185 (_ : Params) : Obj := { cls := Value.type "StopIteration", data := Data.fields #[Value.ref 184, Value.none, Value.none, Value.none, Value.bool false, Value.none] }
noncomputable def o186 (_ : Params) : Obj := { cls := Value.type "tuple", data := Data.seq #[Value.str (Str.ofString "blt") 260, Value.ref 42] }
noncomputable def o187 (_ : Params) : Obj := { cls := Value.type "tuple_iterator", data := Data.fields #[Value.none, Value.int 2 0] }
noncomputable def o188 (_ : Params) : Obj := { cls := Value.type "tuple", data := Data.seq #[] }
noncomputable def o189 (_ : Params) : Obj := { cls := Value.type "StopIteration", data := Data.fields #[Value.ref 188, Value.none, Value.none, Value.none, Value.bool false, Value.none] }
noncomputable def o190 (_ : Params) : Obj := { cls := Value.type "tuple", data := Data.seq #[Value.str (Str.ofString "bge") 264, Value.ref 43] }
noncomputable def o191 (_ : Params) : Obj := { cls := Value.type "tuple_iterator", data := Data.fields #[Value.none, Value.int 2 0] }
noncomputable def o192 (_ : Params) : Obj := { cls := Value.type "tuple", data := Data.seq #[] }
noncomputable def o193 (_ : Params) : Obj := { cls := Value.type "StopIteration", data := Data.fields #[Value.ref 192, Value.none, Value.none, Value.none, Value.bool false, Value.none] }
noncomputable def o194 (_ : Params) : Obj := { cls := Value.type "tuple", data := Data.seq #[Value.str (Str.ofString "bltu") 268, Value.ref 44] }
noncomputable def o195 (_ : Params) : Obj := { cls := Value.type "tuple_iterator", data := Data.fields #[Value.none, Value.int 2 0] }
noncomputable def o196 (_ : Params) : Obj := { cls := Value.type "tuple", data := Data.seq #[] }
noncomputable def o197 (_ : Params) : Obj := { cls := Value.type "StopIteration", data := Data.fields #[Value.ref 196, Value.none, Value.none, Value.none, Value.bool false, Value.none] }
noncomputable def o198 (_ : Params) : Obj := { cls := Value.type "tuple", data := Data.seq #[Value.str (Str.ofString "bgeu") 272, Value.ref 45] }
noncomputable def o199 (_ : Params) : Obj := { cls := Value.type "tuple_iterator", data := Data.fields #[Value.none, Value.int 2 0] }
noncomputable def o200 (_ : Params) : Obj := { cls := Value.type "tuple", data := Data.seq #[] }
noncomputable def o201 (_ : Params) : Obj := { cls := Value.type "StopIteration", data := Data.fields #[Value.ref 200, Value.none, Value.none, Value.none, Value.bool false, Value.none] }
noncomputable def o202 (_ : Params) : Obj := { cls := Value.type "tuple", data := Data.seq #[Value.str (Str.ofString "lb") 276, Value.ref 46] }
noncomputable def o203 (_ : Params) : Obj := { cls := Value.type "tuple_iterator", data := Data.fields #[Value.none, Value.int 2 0] }
noncomputable def o204 (_ : Params) : Obj := { cls := Value.type "tuple", data := Data.seq #[] }
noncomputable def o205 (_ : Params) : Obj := { cls := Value.type "StopIteration", data := Data.fields #[Value.ref 204, Value.none, Value.none, Value.none, Value.bool false, Value.none] }
noncomputable def o206 (_ : Params) : Obj := { cls := Value.type "tuple", data := Data.seq #[Value.str (Str.ofString "lh") 280, Value.ref 47] }
noncomputable def o207 (_ : Params) : Obj := { cls := Value.type "tuple_iterator", data := Data.fields #[Value.none, Value.int 2 0] }
noncomputable def o208 (_ : Params) : Obj := { cls := Value.type "tuple", data := Data.seq #[] }
noncomputable def o209 (_ : Params) : Obj := { cls := Value.type "StopIteration", data := Data.fields #[Value.ref 208, Value.none, Value.none, Value.none, Value.bool false, Value.none] }
noncomputable def o210 (_ : Params) : Obj := { cls := Value.type "tuple", data := Data.seq #[Value.str (Str.ofString "lw") 284, Value.ref 48] }
noncomputable def o211 (_ : Params) : Obj := { cls := Value.type "tuple_iterator", data := Data.fields #[Value.none, Value.int 2 0] }
noncomputable def o212 (_ : Params) : Obj := { cls := Value.type "tuple", data := Data.seq #[] }
noncomputable def o213 (_ : Params) : Obj := { cls := Value.type "StopIteration", data := Data.fields #[Value.ref 212, Value.none, Value.none, Value.none, Value.bool false, Value.none] }
noncomputable def o214 (_ : Params) : Obj := { cls := Value.type "tuple", data := Data.seq #[Value.str (Str.ofString "lbu") 288, Value.ref 49] }
noncomputable def o215 (_ : Params) : Obj := { cls := Value.type "tuple_iterator", data := Data.fields #[Value.none, Value.int 2 0] }
noncomputable def o216 (_ : Params) : Obj := { cls := Value.type "tuple", data := Data.seq #[] }
noncomputable def o217 (_ : Params) : Obj := { cls := Value.type "StopIteration", data := Data.fields #[Value.ref 216, Value.none, Value.none, Value.none, Value.bool false, Value.none] }
noncomputable def o218 (_ : Params) : Obj := { cls := Value.type "tuple", data := Data.seq #[Value.str (Str.ofString "lhu") 292, Value.ref 50] }
noncomputable def o219 (_ : Params) : Obj := { cls := Value.type "tuple_iterator", data := Data.fields #[Value.none, Value.int 2 0] }
noncomputable def o220 (_ : Params) : Obj := { cls := Value.type "tuple", data := Data.seq #[] }
noncomputable def o221 (_ : Params) : Obj := { cls := Value.type "StopIteration", data := Data.fields #[Value.ref 220, Value.none, Value.none, Value.none, Value.bool false, Value.none] }
noncomputable def o222 (_ : Params) : Obj := { cls := Value.type "tuple", data := Data.seq #[Value.str (Str.ofString "sb") 296, Value.ref 51] }
noncomputable def o223 (_ : Params) : Obj := { cls := Value.type "tuple_iterator", data := Data.fields #[Value.none, Value.int 2 0] }
noncomputable def o224 (_ : Params) : Obj := { cls := Value.type "tuple", data := Data.seq #[] }
noncomputable def o225 (_ : Params) : Obj := { cls := Value.type "StopIteration", data := Data.fields #[Value.ref 224, Value.none, Value.none, Value.none, Value.bool false, Value.none] }
noncomputable def o226 (_ : Params) : Obj := { cls := Value.type "tuple", data := Data.seq #[Value.str (Str.ofString "sh") 300, Value.ref 52] }
noncomputable def o227 (_ : Params) : Obj := { cls := Value.type "tuple_iterator", data := Data.fields #[Value.none, Value.int 2 0] }
noncomputable def o228 (_ : Params) : Obj := { cls := Value.type "tuple", data := Data.seq #[] }
noncomputable def o229 (_ : Params) : Obj := { cls := Value.type "StopIteration", data := Data.fields #[Value.ref 228, Value.none, Value.none, Value.none, Value.bool false, Value.none] }
noncomputable def o230 (_ : Params) : Obj := { cls := Value.type "tuple", data := Data.seq #[Value.str (Str.ofString "sw") 304, Value.ref 54] }
noncomputable def o231 (_ : Params) : Obj := { cls := Value.type "tuple_iterator", data := Data.fields #[Value.none, Value.int 2 0] }
noncomputable def o232 (_ : Params) : Obj := { cls := Value.type "tuple", data := Data.seq #[] }
noncomputable def o233 (_ : Params) : Obj := { cls := Value.type "StopIteration", data := Data.fields #[Value.ref 232, Value.none, Value.none, Value.none, Value.bool false, Value.none] }
noncomputable def o234 (_ : Params) : Obj := { cls := Value.type "tuple", data := Data.seq #[Value.str (Str.ofString "addi") 308, Value.ref 55] }
noncomputable def o235 (_ : Params) : Obj := { cls := Value.type "tuple_iterator", data := Data.fields #[Value.none, Value.int 2 0] }
noncomputable def o236 (_ : Params) : Obj := { cls := Value.type "tuple", data := Data.seq #[] }
noncomputable def o237 (_ : Params) : Obj := { cls := Value.type "StopIteration", data := Data.fields #[Value.ref 236, Value.none, Value.none, Value.none, Value.bool false, Value.none] }
noncomputable def o238 (_ : Params) : Obj := { cls := Value.type "tuple", data := Data.seq #[Value.str (Str.ofString "slti") 312, Value.ref 56] }
noncomputable def o239 (_ : Params) : Obj := { cls := Value.type "tuple_iterator", data := Data.fields #[Value.none, Value.int 2 0] }
noncomputable def o240 (_ : Params) : Obj := { cls := Value.type "tuple", data := Data.seq #[] }
noncomputable def o241 (_ : Params) : Obj := { cls := Value.type "StopIteration", data := Data.fields #[Value.ref 240, Value.none, Value.none, Value.none, Value.bool false, Value.none] }
noncomputable def o242 (_ : Params) : Obj := { cls := Value.type "tuple", data := Data.seq #[Value.str (Str.ofString "sltiu") 316, Value.ref 57] }
noncomputable def o243 (_ : Params) : Obj := { cls := Value.type "tuple_iterator", data := Data.fields #[Value.none, Value.int 2 0] }
noncomputable def o244 (_ : Params) : Obj := { cls := Value.type "tuple", data := Data.seq #[] }
noncomputable def o245 (_ : Params) : Obj := { cls := Value.type "StopIteration", data := Data.fields #[Value.ref 244, Value.none, Value.none, Value.none, Value.bool false, Value.none] }
noncomputable def o246 (_ : Params) : Obj := { cls := Value.type "tuple", data := Data.seq #[Value.str (Str.ofString "xori") 320, Value.ref 58] }
noncomputable def o247 (_ : Params) : Obj := { cls := Value.type "tuple_iterator", data := Data.fields #[Value.none, Value.int 2 0] }
noncomputable def o248 (_ : Params) : Obj := { cls := Value.type "tuple", data := Data.seq #[] }
noncomputable def o249 (_ : Params) : Obj := { cls := Value.type "StopIteration", data := Data.fields #[Value.ref 248, Value.none, Value.none, Value.none, Value.bool false, Value.none] }
noncomputable def o250 (_ : Params) : Obj := { cls := Value.type "tuple", data := Data.seq #[Value.str (Str.ofString "ori") 324, Value.ref 59] }
noncomputable def o251 (_ : Params) : Obj := { cls := Value.type "tuple_iterator", data := Data.fields #[Value.none, Value.int 2 0] }
noncomputable def o252 (_ : Params) : Obj := { cls := Value.type "tuple", data := Data.seq #[] }
noncomputable def o253 (_ : Params) : Obj := { cls := Value.type "StopIteration", data := Data.fields #[Value.ref 252, Value.none, Value.none, Value.none, Value.bool false, Value.none] }
noncomputable def o254 (_ : Params) : Obj := { cls := Value.type "tuple", data := Data.seq #[Value.str (Str.ofString "andi") 328, Value.ref 60] }
noncomputable def o255 (_ : Params) : Obj := { cls := Value.type "tuple_iterator", data := Data.fields #[Value.none, Value.int 2 0] }
noncomputable def o256 (_ : Params) : Obj := { cls := Value.type "tuple", data := Data.seq #[] }
noncomputable def o257 (_ : Params) : Obj := { cls := Value.type "StopIteration", data := Data.fields #[Value.ref 256, Value.none, Value.none, Value.none, Value.bool false, Value.none] }
noncomputable def o258 (_ : Params) : Obj := { cls := Value.type "tuple", data := Data.seq #[Value.str (Str.ofString "slli") 332, Value.ref 61] }
noncomputable def o259 (_ : Params) : Obj := { cls := Value.type "tuple_iterator", data := Data.fields #[Value.none, Value.int 2 0] }
noncomputable def o260 (_ : Params) : Obj := { cls := Value.type "tuple", data := Data.seq #[] }
noncomputable def o261 (_ : Params) : Obj := { cls := Value.type "StopIteration", data := Data.fields #[Value.ref 260, Value.none, Value.none, Value.none, Value.bool false, Value.none] }
noncomputable def o262 (_ : Params) : Obj := { cls := Value.type "tuple", data := Data.seq #[Value.str (Str.ofString "srli") 336, Value.ref 62] }
noncomputable def o263 (_ : Params) : Obj := { cls := Value.type "tuple_iterator", data := Data.fields #[Value.none, Value.int 2 0] }
noncomputable def o264 (_ : Params) : Obj := { cls := Value.type "tuple", data := Data.seq #[] }
noncomputable def o265 (_ : Params) : Obj := { cls := Value.type "StopIteration", data := Data.fields #[Value.ref 264, Value.none, Value.none, Value.none, Value.bool false, Value.none] }
noncomputable def o266 (_ : Params) : Obj := { cls := Value.type "tuple", data := Data.seq #[Value.str (Str.ofString "srai") 340, Value.ref 63] }
noncomputable def o267 (_ : Params) : Obj := { cls := Value.type "tuple_iterator", data := Data.fields #[Value.none, Value.int 2 0] }
noncomputable def o268 (_ : Params) : Obj := { cls := Value.type "tuple", data := Data.seq #[] }
noncomputable def o269 (_ : Params) : Obj := { cls := Value.type "StopIteration", data := Data.fields #[Value.ref 268, Value.none, Value.none, Value.none, Value.bool false, Value.none] }
noncomputable def o270 (_ : Params) : Obj := { cls := Value.type "tuple", data := Data.seq #[Value.str (Str.ofString "add") 344, Value.ref 64] }
noncomputable def o271 (_ : Params) : Obj := { cls := Value.type "tuple_iterator", data := Data.fields #[Value.none, Value.int 2 0] }
noncomputable def o272 (_ : Params) : Obj := { cls := Value.type "tuple", data := Data.seq #[] }
noncomputable def o273 (_ : Params) : Obj := { cls := Value.type "StopIteration", data := Data.fields #[Value.ref 272, Value.none, Value.none, Value.none, Value.bool false, Value.none] }
noncomputable def o274 (_ : Params) : Obj := { cls := Value.type "tuple", data := Data.seq #[Value.str (Str.ofString "sub") 348, Value.ref 65] }
noncomputable def o275 (_ : Params) : Obj := { cls := Value.type "tuple_iterator", data := Data.fields #[Value.none, Value.int 2 0] }
noncomputable def o276 (_ : Params) : Obj := { cls := Value.type "tuple", data := Data.seq #[] }
noncomputable def o277 (_ : Params) : Obj := { cls := Value.type "StopIteration", data := Data.fields #[Value.ref 276, Value.none, Value.none, Value.none, Value.bool false, Value.none] }
noncomputable def o278 (_ : Params) : Obj := { cls := Value.type "tuple", data := Data.seq #[Value.str (Str.ofString "sll") 352, Value.ref 66] }
noncomputable def o279 (_ : Params) : Obj := { cls := Value.type "tuple_iterator", data := Data.fields #[Value.none, Value.int 2 0] }
noncomputable def o280 (_ : Params) : Obj := { cls := Value.type "tuple", data := Data.seq #[] }
noncomputable def o281 (_ : Params) : Obj := { cls := Value.type "StopIteration", data := Data.fields #[Value.ref 280, Value.none, Value.none, Value.none, Value.bool false, Value.none] }
noncomputable def o282 (_ : Params) : Obj := { cls := Value.type "tuple", data := Data.seq #[Value.str (Str.ofString "slt") 356, Value.ref 67] }
noncomputable def o283 (_ : Params) : Obj := { cls := Value.type "tuple_iterator", data := Data.fields #[Value.none, Value.int 2 0] }
noncomputable def o284 (_ : Params) : Obj := { cls := Value.type "tuple", data := Data.seq #[] }
noncomputable def o285 (_ : Params) : Obj := { cls := Value.type "StopIteration", data := Data.fields #[Value.ref 284, Value.none, Value.none, Value.none, Value.bool false, Value.none] }
noncomputable def o286 (_ : Params) : Obj := { cls := Value.type "tuple", data := Data.seq #[Value.str (Str.ofString "sltu") 360, Value.ref 68] }
noncomputable def o287 (_ : Params) : Obj := { cls := Value.type "tuple_iterator", data := Data.fields #[Value.none, Value.int 2 0] }
noncomputable def o288 (_ : Params) : Obj := { cls := Value.type "tuple", data := Data.seq #[] }
noncomputable def o289 (_ : Params) : Obj := { cls := Value.type "StopIteration", data := Data.fields #[Value.ref 288, Value.none, Value.none, Value.none, Value.bool false, Value.none] }
noncomputable def o290 (_ : Params) : Obj := { cls := Value.type "tuple", data := Data.seq #[Value.str (Str.ofString "xor") 364, Value.ref 69] }
noncomputable def o291 (_ : Params) : Obj := { cls := Value.type "tuple_iterator", data := Data.fields #[Value.none, Value.int 2 0] }
noncomputable def o292 (_ : Params) : Obj := { cls := Value.type "tuple", data := Data.seq #[] }
noncomputable def o293 (_ : Params) : Obj := { cls := Value.type "StopIteration", data := Data.fields #[Value.ref 292, Value.none, Value.none, Value.none, Value.bool false, Value.none] }
noncomputable def o294 (_ : Params) : Obj := { cls := Value.type "tuple", data := Data.seq #[Value.str (Str.ofString "srl") 368, Value.ref 70] }
noncomputable def o295 (_ : Params) : Obj := { cls := Value.type "tuple_iterator", data := Data.fields #[Value.none, Value.int 2 0] }
noncomputable def o296 (_ : Params) : Obj := { cls := Value.type "tuple", data := Data.seq #[] }
noncomputable def o297 (_ : Params) : Obj := { cls := Value.type "StopIteration", data := Data.fields #[Value.ref 296, Value.none, Value.none, Value.none, Value.bool false, Value.none] }
noncomputable def o298 (_ : Params) : Obj := { cls := Value.type "tuple", data := Data.seq #[Value.str (Str.ofString "sra") 372, Value.ref 72] }
noncomputable def o299 (_ : Params) : Obj := { cls := Value.type "tuple_iterator", data := Data.fields #[Value.none, Value.int 2 0] }
noncomputable def o300 (_ : Params) : Obj := { cls := Value.type "tuple", data := Data.seq #[] }
noncomputable def o301 (_ : Params) : Obj := { cls := Value.type "StopIteration", data := Data.fields #[Value.ref 300, Value.none, Value.none, Value.none, Value.bool false, Value.none] }
noncomputable def o302 (_ : Params) : Obj := { cls := Value.type "tuple", data := Data.seq #[Value.str (Str.ofString "or") 375, Value.ref 73] }
noncomputable def o303 (_ : Params) : Obj := { cls := Value.type "tuple_iterator", data := Data.fields #[Value.none, Value.int 2 0] }
noncomputable def o304 (_ : Params) : Obj := { cls := Value.type "tuple", data := Data.seq #[] }
noncomputable def o305 (_ : Params) : Obj := { cls := Value.type "StopIteration", data := Data.fields #[Value.ref 304, Value.none, Value.none, Value.none, Value.bool false, Value.none] }
noncomputable def o306 (_ : Params) : Obj := { cls := Value.type "tuple", data := Data.seq #[Value.str (Str.ofString "and") 378, Value.ref 74] }
noncomputable def o307 (_ : Params) : Obj := { cls := Value.type "tuple_iterator", data := Data.fields #[Value.none, Value.int 2 0] }
noncomputable def o308 (_ : Params) : Obj := { cls := Value.type "tuple", data := Data.seq #[] }
noncomputable def o309 (_ : Params) : Obj := { cls := Value.type "StopIteration", data := Data.fields #[Value.ref 308, Value.none, Value.none, Value.none, Value.bool false, Value.none] }
noncomputable def o310 (_ : Params) : Obj := { cls := Value.type "tuple", data := Data.seq #[Value.str (Str.ofString "mul") 381, Value.ref 75] }
noncomputable def o311 (_ : Params) : Obj := { cls := Value.type "tuple_iterator", data := Data.fields #[Value.none, Value.int 2 0] }
noncomputable def o312 (_ : Params) : Obj := { cls := Value.type "tuple", data := Data.seq #[] }
noncomputable def o313 (_ : Params) : Obj := { cls := Value.type "StopIteration", data := Data.fields #[Value.ref 312, Value.none, Value.none, Value.none, Value.bool false, Value.none] }
noncomputable def o314 (_ : Params) : Obj := { cls := Value.type "tuple", data := Data.seq #[Value.str (Str.ofString "mulh") 384, Value.ref 76] }
noncomputable def o315 (_ : Params) : Obj := { cls := Value.type "tuple_iterator", data := Data.fields #[Value.none, Value.int 2 0] }
noncomputable def o316 (_ : Params) : Obj := { cls := Value.type "tuple", data := Data.seq #[] }
noncomputable def o317 (_ : Params) : Obj := { cls := Value.type "StopIteration", data := Data.fields #[Value.ref 316, Value.none, Value.none, Value.none, Value.bool false, Value.none] }
noncomputable def o318 (_ : Params) : Obj := { cls := Value.type "tuple", data := Data.seq #[Value.str (Str.ofString "mulhsu") 387, Value.ref 77] }
noncomputable def o319 (_ : Params) : Obj := { cls := Value.type "tuple_iterator", data := Data.fields #[Value.none, Value.int 2 0] }
noncomputable def o320 (_ : Params) : Obj := { cls := Value.type "tuple", data := Data.seq #[] }
noncomputable def o321 (_ : Params) : Obj := { cls := Value.type "StopIteration", data := Data.fields #[Value.ref 320, Value.none, Value.none, Value.none, Value.bool false, Value.none] }
noncomputable def o322 (_ : Params) : Obj := { cls := Value.type "tuple", data := Data.seq #[Value.str (Str.ofString "mulhu") 390, Value.ref 78] }
noncomputable def o323 (_ : Params) : Obj := { cls := Value.type "tuple_iterator", data := Data.fields #[Value.none, Value.int 2 0] }
noncomputable def o324 (_ : Params) : Obj := { cls := Value.type "tuple", data := Data.seq #[] }
noncomputable def o325 (_ : Params) : Obj := { cls := Value.type "StopIteration", data := Data.fields #[Value.ref 324, Value.none, Value.none, Value.none, Value.bool false, Value.none] }
noncomputable def o326 (_ : Params) : Obj := { cls := Value.type "tuple", data := Data.seq #[Value.str (Str.ofString "div") 393, Value.ref 79] }
noncomputable def o327 (_ : Params) : Obj := { cls := Value.type "tuple_iterator", data := Data.fields #[Value.none, Value.int 2 0] }
noncomputable def o328 (_ : Params) : Obj := { cls := Value.type "tuple", data := Data.seq #[] }
noncomputable def o329 (_ : Params) : Obj := { cls := Value.type "StopIteration", data := Data.fields #[Value.ref 328, Value.none, Value.none, Value.none, Value.bool false, Value.none] }
noncomputable def o330 (_ : Params) : Obj := { cls := Value.type "tuple", data := Data.seq #[Value.str (Str.ofString "divu") 396, Value.ref 80] }
noncomputable def o331 (_ : Params) : Obj := { cls := Value.type "tuple_iterator", data := Data.fields #[Value.none, Value.int 2 0] }
noncomputable def o332 (_ : Params) : Obj := { cls := Value.type "tuple", data := Data.seq #[] }
noncomputable def o333 (_ : Params) : Obj := { cls := Value.type "StopIteration", data := Data.fields #[Value.ref 332, Value.none, Value.none, Value.none, Value.bool false, Value.none] }
noncomputable def o334 (_ : Params) : Obj := { cls := Value.type "tuple", data := Data.seq #[Value.str (Str.ofString "rem") 399, Value.ref 81] }
noncomputable def o335 (_ : Params) : Obj := { cls := Value.type "tuple_iterator", data := Data.fields #[Value.none, Value.int 2 0] }
noncomputable def o336 (_ : Params) : Obj := { cls := Value.type "tuple", data := Data.seq #[] }
noncomputable def o337 (_ : Params) : Obj := { cls := Value.type "StopIteration", data := Data.fields #[Value.ref 336, Value.none, Value.none, Value.none, Value.bool false, Value.none] }
noncomputable def o338 (_ : Params) : Obj := { cls := Value.type "tuple", data := Data.seq #[Value.str (Str.ofString "remu") 402, Value.ref 82] }
noncomputable def o339 (_ : Params) : Obj := { cls := Value.type "tuple_iterator", data := Data.fields #[Value.none, Value.int 2 0] }
noncomputable def o340 (_ : Params) : Obj := { cls := Value.type "tuple", data := Data.seq #[] }
noncomputable def o341 (_ : Params) : Obj := { cls := Value.type "StopIteration", data := Data.fields #[Value.ref 340, Value.none, Value.none, Value.none, Value.bool false, Value.none] }
noncomputable def o342 (_ : Params) : Obj := { cls := Value.type "tuple", data := Data.seq #[Value.str (Str.ofString "fence") 405, Value.ref 83] }
noncomputable def o343 (_ : Params) : Obj := { cls := Value.type "tuple_iterator", data := Data.fields #[Value.none, Value.int 2 0] }
noncomputable def o344 (_ : Params) : Obj := { cls := Value.type "tuple", data := Data.seq #[] }
noncomputable def o345 (_ : Params) : Obj := { cls := Value.type "StopIteration", data := Data.fields #[Value.ref 344, Value.none, Value.none, Value.none, Value.bool false, Value.none] }
noncomputable def o346 (_ : Params) : Obj := { cls := Value.type "tuple", data := Data.seq #[Value.str (Str.ofString "ecall") 408, Value.ref 84] }
noncomputable def o347 (_ : Params) : Obj := { cls := Value.type "tuple_iterator", data := Data.fields #[Value.none, Value.int 2 0] }
noncomputable def o348 (_ : Params) : Obj := { cls := Value.type "tuple", data := Data.seq #[] }
noncomputable def o349 (_ : Params) : Obj := { cls := Value.type "StopIteration", data := Data.fields #[Value.ref 348, Value.none, Value.none, Value.none, Value.bool false, Value.none] }
noncomputable def o350 (_ : Params) : Obj := { cls := Value.type "tuple", data := Data.seq #[Value.str (Str.ofString "ebreak") 411, Value.ref 85] }
noncomputable def o351 (_ : Params) : Obj := { cls := Value.type "tuple_iterator", data := Data.fields #[Value.none, Value.int 2 0] }
noncomputable def o352 (_ : Params) : Obj := { cls := Value.type "tuple", data := Data.seq #[] }
noncomputable def o353 (_ : Params) : Obj := { cls := Value.type "StopIteration", data := Data.fields #[Value.ref 352, Value.none, Value.none, Value.none, Value.bool false, Value.none] }
noncomputable def o354 (_ : Params) : Obj := { cls := Value.type "tuple", data := Data.seq #[] }
noncomputable def o355 (_ : Params) : Obj := { cls := Value.type "StopIteration", data := Data.fields #[Value.ref 354, Value.none, Value.none, Value.none, Value.bool false, Value.none] }
noncomputable def o356 (_ : Params) : Obj := { cls := Value.type "tuple", data := Data.seq #[] }
noncomputable def o357 (_ : Params) : Obj := { cls := Value.none, data := Data.fields #[] }
noncomputable def o358 (_ : Params) : Obj := { cls := Value.type "tuple", data := Data.seq #[Value.str (Str.ofString "word") 766, Value.str (Str.ofString "opcode") 767, Value.str (Str.ofString "low") 768] }
noncomputable def o359 (_ : Params) : Obj := { cls := Value.type "tuple", data := Data.seq #[] }
noncomputable def o360 (_ : Params) : Obj := { cls := Value.none, data := Data.func { name := Str.ofString "name_of", qualname := Str.ofString "name_of", params := fdA (stm 20), body := FuncBody.stmts (fdB (stm 20)), scope := fdS (stm 20), globals := 0, closure := [], defaults := Value.none, kwdefaults := Value.none } }
noncomputable def o361 (_ : Params) : Obj := { cls := Value.type "code", data := Data.fields #[Value.str (Str.ofString "name_of") 763, Value.str (Str.ofString "name_of") 764, Value.str (Str.ofString "/claim/cut.py") 765, Value.int 72 0, Value.int 1 0, Value.int 0 0, Value.int 0 0, Value.int 3 0, Value.ref 356, Value.bool true, Value.int 181 0, Value.ref 357, Value.none, Value.ref 358, Value.ref 359, Value.ref 360, Value.int 769 0, Value.int 72 0, Value.str (Str.ofString "/claim/cut.py") 770] }
noncomputable def o362 (_ : Params) : Obj := { cls := Value.type "function", data := Data.func { name := Str.ofString "name_of", qualname := Str.ofString "name_of", params := fdA (stm 20), body := FuncBody.stmts (fdB (stm 20)), scope := fdS (stm 20), globals := 3, closure := [], defaults := Value.none, kwdefaults := Value.none, pyModule := Value.str (Str.ofString "corecc.rv32") 220, code := Value.ref 361 } }
noncomputable def o363 (_ : Params) : Obj := { cls := Value.type "tuple", data := Data.seq #[] }
noncomputable def o364 (_ : Params) : Obj := { cls := Value.none, data := Data.fields #[] }
noncomputable def o365 (_ : Params) : Obj := { cls := Value.type "tuple", data := Data.seq #[Value.str (Str.ofString "word") 775, Value.str (Str.ofString "name") 776, Value.str (Str.ofString "form") 777, Value.str (Str.ofString "fields") 778, Value.str (Str.ofString "key") 779, Value.str (Str.ofString "shift") 780] }
noncomputable def o366 (_ : Params) : Obj := { cls := Value.type "tuple", data := Data.seq #[] }
noncomputable def o367 (_ : Params) : Obj := { cls := Value.none, data := Data.func { name := Str.ofString "decode", qualname := Str.ofString "decode", params := fdA (stm 21), body := FuncBody.stmts (fdB (stm 21)), scope := fdS (stm 21), globals := 0, closure := [], defaults := Value.none, kwdefaults := Value.none } }
noncomputable def o368 (_ : Params) : Obj := { cls := Value.type "code", data := Data.fields #[Value.str (Str.ofString "decode") 772, Value.str (Str.ofString "decode") 773, Value.str (Str.ofString "/claim/cut.py") 774, Value.int 83 0, Value.int 1 0, Value.int 0 0, Value.int 0 0, Value.int 3 0, Value.ref 363, Value.bool true, Value.int 181 0, Value.ref 364, Value.none, Value.ref 365, Value.ref 366, Value.ref 367, Value.int 781 0, Value.int 83 0, Value.str (Str.ofString "/claim/cut.py") 782] }
noncomputable def o369 (_ : Params) : Obj := { cls := Value.type "function", data := Data.func { name := Str.ofString "decode", qualname := Str.ofString "decode", params := fdA (stm 21), body := FuncBody.stmts (fdB (stm 21)), scope := fdS (stm 21), globals := 3, closure := [], defaults := Value.none, kwdefaults := Value.none, pyModule := Value.str (Str.ofString "corecc.rv32") 220, code := Value.ref 368 } }
noncomputable def o370 (_ : Params) : Obj := { cls := Value.type "tuple", data := Data.seq #[] }
noncomputable def o371 (_ : Params) : Obj := { cls := Value.none, data := Data.fields #[] }
noncomputable def o372 (_ : Params) : Obj := { cls := Value.none, data := Data.func { name := Str.ofString "_law_well", qualname := Str.ofString "_law_well", params := fdA (stm 23), body := FuncBody.stmts (fdB (stm 23)), scope := fdS (stm 23), globals := 0, closure := [], defaults := Value.none, kwdefaults := Value.none } }
noncomputable def o373 (_ : Params) : Obj := { cls := Value.type "code", data := Data.fields #[Value.str (Str.ofString "_law_well") 786, Value.str (Str.ofString "_law_well") 787, Value.str (Str.ofString "/claim/cut.py") 788, Value.int 95 0, Value.int 1 0, Value.int 0 0, Value.int 0 0, Value.int 3 0, Value.ref 370, Value.bool true, Value.int 181 0, Value.ref 371, Value.none, Value.none, Value.none, Value.ref 372, Value.int 789 0, Value.int 95 0, Value.str (Str.ofString "/claim/cut.py") 790] }
noncomputable def o374 (_ : Params) : Obj := { cls := Value.type "function", data := Data.func { name := Str.ofString "_law_well", qualname := Str.ofString "_law_well", params := fdA (stm 23), body := FuncBody.stmts (fdB (stm 23)), scope := fdS (stm 23), globals := 3, closure := [], defaults := Value.none, kwdefaults := Value.none, pyModule := Value.str (Str.ofString "law_nm0007_01") 784, code := Value.ref 373 } }
noncomputable def o375 (_ : Params) : Obj := { cls := Value.type "tuple", data := Data.seq #[] }
noncomputable def o376 (_ : Params) : Obj := { cls := Value.none, data := Data.fields #[] }
noncomputable def o377 (_ : Params) : Obj := { cls := Value.type "tuple", data := Data.seq #[Value.str (Str.ofString "well") 795, Value.str (Str.ofString "size") 796, Value.str (Str.ofString "place") 797, Value.str (Str.ofString "number") 798] }
noncomputable def o378 (_ : Params) : Obj := { cls := Value.type "tuple", data := Data.seq #[] }
noncomputable def o379 (_ : Params) : Obj := { cls := Value.none, data := Data.func { name := Str.ofString "_law_draw", qualname := Str.ofString "_law_draw", params := fdA (stm 24), body := FuncBody.stmts (fdB (stm 24)), scope := fdS (stm 24), globals := 0, closure := [], defaults := Value.none, kwdefaults := Value.none } }
noncomputable def o380 (_ : Params) : Obj := { cls := Value.type "code", data := Data.fields #[Value.str (Str.ofString "_law_draw") 792, Value.str (Str.ofString "_law_draw") 793, Value.str (Str.ofString "/claim/cut.py") 794, Value.int 97 0, Value.int 2 0, Value.int 0 0, Value.int 0 0, Value.int 3 0, Value.ref 375, Value.bool true, Value.int 181 0, Value.ref 376, Value.none, Value.ref 377, Value.ref 378, Value.ref 379, Value.int 799 0, Value.int 97 0, Value.str (Str.ofString "/claim/cut.py") 800] }
noncomputable def o381 (_ : Params) : Obj := { cls := Value.type "function", data := Data.func { name := Str.ofString "_law_draw", qualname := Str.ofString "_law_draw", params := fdA (stm 24), body := FuncBody.stmts (fdB (stm 24)), scope := fdS (stm 24), globals := 3, closure := [], defaults := Value.none, kwdefaults := Value.none, pyModule := Value.str (Str.ofString "law_nm0007_01") 784, code := Value.ref 380 } }
noncomputable def o382 (_ : Params) : Obj := { cls := Value.type "tuple", data := Data.seq #[] }
noncomputable def o383 (_ : Params) : Obj := { cls := Value.none, data := Data.fields #[] }
noncomputable def o384 (_ : Params) : Obj := { cls := Value.type "tuple", data := Data.seq #[Value.str (Str.ofString "found") 805, Value.str (Str.ofString "groups") 806, Value.str (Str.ofString "form") 807, Value.str (Str.ofString "opcode") 808, Value.str (Str.ofString "text") 809, Value.str (Str.ofString "parts") 810, Value.str (Str.ofString "at") 811, Value.str (Str.ofString "high") 812, Value.str (Str.ofString "low") 813, Value.str (Str.ofString "name") 814] }
noncomputable def o385 (_ : Params) : Obj := { cls := Value.type "tuple", data := Data.seq #[] }
noncomputable def o386 (_ : Params) : Obj := { cls := Value.none, data := Data.func { name := Str.ofString "_law_table", qualname := Str.ofString "_law_table", params := fdA (stm 25), body := FuncBody.stmts (fdB (stm 25)), scope := fdS (stm 25), globals := 0, closure := [], defaults := Value.none, kwdefaults := Value.none } }
noncomputable def o387 (_ : Params) : Obj := { cls := Value.type "code", data := Data.fields #[Value.str (Str.ofString "_law_table") 802, Value.str (Str.ofString "_law_table") 803, Value.str (Str.ofString "/claim/cut.py") 804, Value.int 103 0, Value.int 0 0, Value.int 0 0, Value.int 0 0, Value.int 3 0, Value.ref 382, Value.bool true, Value.int 181 0, Value.ref 383, Value.none, Value.ref 384, Value.ref 385, Value.ref 386, Value.int 815 0, Value.int 103 0, Value.str (Str.ofString "/claim/cut.py") 816] }
noncomputable def o388 (_ : Params) : Obj := { cls := Value.type "function", data := Data.func { name := Str.ofString "_law_table", qualname := Str.ofString "_law_table", params := fdA (stm 25), body := FuncBody.stmts (fdB (stm 25)), scope := fdS (stm 25), globals := 3, closure := [], defaults := Value.none, kwdefaults := Value.none, pyModule := Value.str (Str.ofString "law_nm0007_01") 784, code := Value.ref 387 } }
noncomputable def o389 (_ : Params) : Obj := { cls := Value.type "tuple", data := Data.seq #[] }
noncomputable def o390 (_ : Params) : Obj := { cls := Value.none, data := Data.fields #[] }
noncomputable def o391 (_ : Params) : Obj := { cls := Value.none, data := Data.func { name := Str.ofString "_law_places", qualname := Str.ofString "_law_places", params := fdA (stm 26), body := FuncBody.stmts (fdB (stm 26)), scope := fdS (stm 26), globals := 0, closure := [], defaults := Value.none, kwdefaults := Value.none } }
noncomputable def o392 (_ : Params) : Obj := { cls := Value.type "code", data := Data.fields #[Value.str (Str.ofString "_law_places") 818, Value.str (Str.ofString "_law_places") 819, Value.str (Str.ofString "/claim/cut.py") 820, Value.int 117 0, Value.int 1 0, Value.int 0 0, Value.int 0 0, Value.int 3 0, Value.ref 389, Value.bool true, Value.int 181 0, Value.ref 390, Value.none, Value.none, Value.none, Value.ref 391, Value.int 821 0, Value.int 117 0, Value.str (Str.ofString "/claim/cut.py") 822] }
noncomputable def o393 (_ : Params) : Obj := { cls := Value.type "function", data := Data.func { name := Str.ofString "_law_places", qualname := Str.ofString "_law_places", params := fdA (stm 26), body := FuncBody.stmts (fdB (stm 26)), scope := fdS (stm 26), globals := 3, closure := [], defaults := Value.none, kwdefaults := Value.none, pyModule := Value.str (Str.ofString "law_nm0007_01") 784, code := Value.ref 392 } }
noncomputable def o394 (_ : Params) : Obj := { cls := Value.type "tuple", data := Data.seq #[] }
noncomputable def o395 (_ : Params) : Obj := { cls := Value.none, data := Data.fields #[] }
noncomputable def o396 (_ : Params) : Obj := { cls := Value.type "tuple", data := Data.seq #[Value.str (Str.ofString "form") 827] }
noncomputable def o397 (_ : Params) : Obj := { cls := Value.type "tuple", data := Data.seq #[] }
noncomputable def o398 (_ : Params) : Obj := { cls := Value.none, data := Data.func { name := Str.ofString "_law_registers", qualname := Str.ofString "_law_registers", params := fdA (stm 27), body := FuncBody.stmts (fdB (stm 27)), scope := fdS (stm 27), globals := 0, closure := [], defaults := Value.none, kwdefaults := Value.none } }
noncomputable def o399 (_ : Params) : Obj := { cls := Value.type "code", data := Data.fields #[Value.str (Str.ofString "_law_registers") 824, Value.str (Str.ofString "_law_registers") 825, Value.str (Str.ofString "/claim/cut.py") 826, Value.int 131 0, Value.int 1 0, Value.int 0 0, Value.int 0 0, Value.int 3 0, Value.ref 394, Value.bool true, Value.int 181 0, Value.ref 395, Value.none, Value.ref 396, Value.ref 397, Value.ref 398, Value.int 828 0, Value.int 131 0, Value.str (Str.ofString "/claim/cut.py") 829] }
noncomputable def o400 (_ : Params) : Obj := { cls := Value.type "function", data := Data.func { name := Str.ofString "_law_registers", qualname := Str.ofString "_law_registers", params := fdA (stm 27), body := FuncBody.stmts (fdB (stm 27)), scope := fdS (stm 27), globals := 3, closure := [], defaults := Value.none, kwdefaults := Value.none, pyModule := Value.str (Str.ofString "law_nm0007_01") 784, code := Value.ref 399 } }
noncomputable def o401 (_ : Params) : Obj := { cls := Value.type "tuple", data := Data.seq #[] }
noncomputable def o402 (_ : Params) : Obj := { cls := Value.none, data := Data.fields #[] }
noncomputable def o403 (_ : Params) : Obj := { cls := Value.type "tuple", data := Data.seq #[Value.str (Str.ofString "form") 834, Value.str (Str.ofString "ends") 835] }
noncomputable def o404 (_ : Params) : Obj := { cls := Value.type "tuple", data := Data.seq #[] }
noncomputable def o405 (_ : Params) : Obj := { cls := Value.none, data := Data.func { name := Str.ofString "_law_ends", qualname := Str.ofString "_law_ends", params := fdA (stm 28), body := FuncBody.stmts (fdB (stm 28)), scope := fdS (stm 28), globals := 0, closure := [], defaults := Value.none, kwdefaults := Value.none } }
noncomputable def o406 (_ : Params) : Obj := { cls := Value.type "code", data := Data.fields #[Value.str (Str.ofString "_law_ends") 831, Value.str (Str.ofString "_law_ends") 832, Value.str (Str.ofString "/claim/cut.py") 833, Value.int 139 0, Value.int 1 0, Value.int 0 0, Value.int 0 0, Value.int 3 0, Value.ref 401, Value.bool true, Value.int 181 0, Value.ref 402, Value.none, Value.ref 403, Value.ref 404, Value.ref 405, Value.int 836 0, Value.int 139 0, Value.str (Str.ofString "/claim/cut.py") 837] }
noncomputable def o407 (_ : Params) : Obj := { cls := Value.type "function", data := Data.func { name := Str.ofString "_law_ends", qualname := Str.ofString "_law_ends", params := fdA (stm 28), body := FuncBody.stmts (fdB (stm 28)), scope := fdS (stm 28), globals := 3, closure := [], defaults := Value.none, kwdefaults := Value.none, pyModule := Value.str (Str.ofString "law_nm0007_01") 784, code := Value.ref 406 } }
noncomputable def o408 (_ : Params) : Obj := { cls := Value.type "tuple", data := Data.seq #[] }
noncomputable def o409 (_ : Params) : Obj := { cls := Value.none, data := Data.fields #[] }
noncomputable def o410 (_ : Params) : Obj := { cls := Value.type "tuple", data := Data.seq #[Value.str (Str.ofString "well") 842, Value.str (Str.ofString "form") 843, Value.str (Str.ofString "found") 844, Value.str (Str.ofString "key") 845, Value.str (Str.ofString "place") 846, Value.str (Str.ofString "least") 847, Value.str (Str.ofString "most") 848, Value.str (Str.ofString "pace") 849, Value.str (Str.ofString "drawn") 850] }
noncomputable def o411 (_ : Params) : Obj := { cls := Value.type "tuple", data := Data.seq #[] }
noncomputable def o412 (_ : Params) : Obj := { cls := Value.none, data := Data.func { name := Str.ofString "_law_fields", qualname := Str.ofString "_law_fields", params := fdA (stm 29), body := FuncBody.stmts (fdB (stm 29)), scope := fdS (stm 29), globals := 0, closure := [], defaults := Value.none, kwdefaults := Value.none } }
noncomputable def o413 (_ : Params) : Obj := { cls := Value.type "code", data := Data.fields #[Value.str (Str.ofString "_law_fields") 839, Value.str (Str.ofString "_law_fields") 840, Value.str (Str.ofString "/claim/cut.py") 841, Value.int 142 0, Value.int 2 0, Value.int 0 0, Value.int 0 0, Value.int 3 0, Value.ref 408, Value.bool true, Value.int 181 0, Value.ref 409, Value.none, Value.ref 410, Value.ref 411, Value.ref 412, Value.int 851 0, Value.int 142 0, Value.str (Str.ofString "/claim/cut.py") 852] }
noncomputable def o414 (_ : Params) : Obj := { cls := Value.type "function", data := Data.func { name := Str.ofString "_law_fields", qualname := Str.ofString "_law_fields", params := fdA (stm 29), body := FuncBody.stmts (fdB (stm 29)), scope := fdS (stm 29), globals := 3, closure := [], defaults := Value.none, kwdefaults := Value.none, pyModule := Value.str (Str.ofString "law_nm0007_01") 784, code := Value.ref 413 } }
noncomputable def o415 (_ : Params) : Obj := { cls := Value.type "tuple", data := Data.seq #[] }
noncomputable def o416 (_ : Params) : Obj := { cls := Value.none, data := Data.fields #[] }
noncomputable def o417 (_ : Params) : Obj := { cls := Value.type "tuple", data := Data.seq #[Value.str (Str.ofString "row") 857, Value.str (Str.ofString "fields") 858, Value.str (Str.ofString "name") 859, Value.str (Str.ofString "form") 860, Value.str (Str.ofString "opcode") 861, Value.str (Str.ofString "low") 862, Value.str (Str.ofString "high") 863, Value.str (Str.ofString "found") 864, Value.str (Str.ofString "key") 865, Value.str (Str.ofString "place") 866, Value.str (Str.ofString "bit") 867] }
noncomputable def o418 (_ : Params) : Obj := { cls := Value.type "tuple", data := Data.seq #[] }
noncomputable def o419 (_ : Params) : Obj := { cls := Value.none, data := Data.func { name := Str.ofString "_law_laid", qualname := Str.ofString "_law_laid", params := fdA (stm 30), body := FuncBody.stmts (fdB (stm 30)), scope := fdS (stm 30), globals := 0, closure := [], defaults := Value.none, kwdefaults := Value.none } }
noncomputable def o420 (_ : Params) : Obj := { cls := Value.type "code", data := Data.fields #[Value.str (Str.ofString "_law_laid") 854, Value.str (Str.ofString "_law_laid") 855, Value.str (Str.ofString "/claim/cut.py") 856, Value.int 151 0, Value.int 2 0, Value.int 0 0, Value.int 0 0, Value.int 3 0, Value.ref 415, Value.bool true, Value.int 181 0, Value.ref 416, Value.none, Value.ref 417, Value.ref 418, Value.ref 419, Value.int 868 0, Value.int 151 0, Value.str (Str.ofString "/claim/cut.py") 869] }
noncomputable def o421 (_ : Params) : Obj := { cls := Value.type "function", data := Data.func { name := Str.ofString "_law_laid", qualname := Str.ofString "_law_laid", params := fdA (stm 30), body := FuncBody.stmts (fdB (stm 30)), scope := fdS (stm 30), globals := 3, closure := [], defaults := Value.none, kwdefaults := Value.none, pyModule := Value.str (Str.ofString "law_nm0007_01") 784, code := Value.ref 420 } }
noncomputable def o422 (_ : Params) : Obj := { cls := Value.type "tuple", data := Data.seq #[] }
noncomputable def o423 (_ : Params) : Obj := { cls := Value.none, data := Data.fields #[] }
noncomputable def o424 (_ : Params) : Obj := { cls := Value.type "tuple", data := Data.seq #[Value.str (Str.ofString "row") 874, Value.str (Str.ofString "number") 875, Value.str (Str.ofString "name") 876, Value.str (Str.ofString "form") 877, Value.str (Str.ofString "opcode") 878, Value.str (Str.ofString "low") 879, Value.str (Str.ofString "high") 880] }
noncomputable def o425 (_ : Params) : Obj := { cls := Value.type "tuple", data := Data.seq #[] }
noncomputable def o426 (_ : Params) : Obj := { cls := Value.none, data := Data.func { name := Str.ofString "_law_is_one", qualname := Str.ofString "_law_is_one", params := fdA (stm 31), body := FuncBody.stmts (fdB (stm 31)), scope := fdS (stm 31), globals := 0, closure := [], defaults := Value.none, kwdefaults := Value.none } }
noncomputable def o427 (_ : Params) : Obj := { cls := Value.type "code", data := Data.fields #[Value.str (Str.ofString "_law_is_one") 871, Value.str (Str.ofString "_law_is_one") 872, Value.str (Str.ofString "/claim/cut.py") 873, Value.int 159 0, Value.int 2 0, Value.int 0 0, Value.int 0 0, Value.int 3 0, Value.ref 422, Value.bool true, Value.int 181 0, Value.ref 423, Value.none, Value.ref 424, Value.ref 425, Value.ref 426, Value.int 881 0, Value.int 159 0, Value.str (Str.ofString "/claim/cut.py") 882] }
noncomputable def o428 (_ : Params) : Obj := { cls := Value.type "function", data := Data.func { name := Str.ofString "_law_is_one", qualname := Str.ofString "_law_is_one", params := fdA (stm 31), body := FuncBody.stmts (fdB (stm 31)), scope := fdS (stm 31), globals := 3, closure := [], defaults := Value.none, kwdefaults := Value.none, pyModule := Value.str (Str.ofString "law_nm0007_01") 784, code := Value.ref 427 } }
noncomputable def o429 (_ : Params) : Obj := { cls := Value.type "tuple", data := Data.seq #[] }
noncomputable def o430 (_ : Params) : Obj := { cls := Value.none, data := Data.fields #[] }
noncomputable def o431 (_ : Params) : Obj := { cls := Value.type "tuple", data := Data.seq #[Value.str (Str.ofString "row") 887, Value.str (Str.ofString "number") 888, Value.str (Str.ofString "form") 889, Value.str (Str.ofString "found") 890, Value.str (Str.ofString "value") 891, Value.str (Str.ofString "top") 892, Value.str (Str.ofString "key") 893, Value.str (Str.ofString "place") 894, Value.str (Str.ofString "bit") 895] }
noncomputable def o432 (_ : Params) : Obj := { cls := Value.type "tuple", data := Data.seq #[] }
noncomputable def o433 (_ : Params) : Obj := { cls := Value.none, data := Data.func { name := Str.ofString "_law_read", qualname := Str.ofString "_law_read", params := fdA (stm 32), body := FuncBody.stmts (fdB (stm 32)), scope := fdS (stm 32), globals := 0, closure := [], defaults := Value.none, kwdefaults := Value.none } }
noncomputable def o434 (_ : Params) : Obj := { cls := Value.type "code", data := Data.fields #[Value.str (Str.ofString "_law_read") 884, Value.str (Str.ofString "_law_read") 885, Value.str (Str.ofString "/claim/cut.py") 886, Value.int 170 0, Value.int 2 0, Value.int 0 0, Value.int 0 0, Value.int 3 0, Value.ref 429, Value.bool true, Value.int 181 0, Value.ref 430, Value.none, Value.ref 431, Value.ref 432, Value.ref 433, Value.int 896 0, Value.int 170 0, Value.str (Str.ofString "/claim/cut.py") 897] }
noncomputable def o435 (_ : Params) : Obj := { cls := Value.type "function", data := Data.func { name := Str.ofString "_law_read", qualname := Str.ofString "_law_read", params := fdA (stm 32), body := FuncBody.stmts (fdB (stm 32)), scope := fdS (stm 32), globals := 3, closure := [], defaults := Value.none, kwdefaults := Value.none, pyModule := Value.str (Str.ofString "law_nm0007_01") 784, code := Value.ref 434 } }
noncomputable def o436 (_ : Params) : Obj := { cls := Value.type "tuple", data := Data.seq #[] }
noncomputable def o437 (_ : Params) : Obj := { cls := Value.none, data := Data.fields #[] }
noncomputable def o438 (_ : Params) : Obj := { cls := Value.type "tuple", data := Data.seq #[Value.str (Str.ofString "name") 902, Value.str (Str.ofString "fields") 903] }
noncomputable def o439 (_ : Params) : Obj := { cls := Value.type "tuple", data := Data.seq #[] }
noncomputable def o440 (_ : Params) : Obj := { cls := Value.none, data := Data.func { name := Str.ofString "_law_refused", qualname := Str.ofString "_law_refused", params := fdA (stm 33), body := FuncBody.stmts (fdB (stm 33)), scope := fdS (stm 33), globals := 0, closure := [], defaults := Value.none, kwdefaults := Value.none } }
noncomputable def o441 (_ : Params) : Obj := { cls := Value.type "code", data := Data.fields #[Value.str (Str.ofString "_law_refused") 899, Value.str (Str.ofString "_law_refused") 900, Value.str (Str.ofString "/claim/cut.py") 901, Value.int 182 0, Value.int 2 0, Value.int 0 0, Value.int 0 0, Value.int 3 0, Value.ref 436, Value.bool true, Value.int 181 0, Value.ref 437, Value.none, Value.ref 438, Value.ref 439, Value.ref 440, Value.int 904 0, Value.int 182 0, Value.str (Str.ofString "/claim/cut.py") 905] }
noncomputable def o442 (_ : Params) : Obj := { cls := Value.type "function", data := Data.func { name := Str.ofString "_law_refused", qualname := Str.ofString "_law_refused", params := fdA (stm 33), body := FuncBody.stmts (fdB (stm 33)), scope := fdS (stm 33), globals := 3, closure := [], defaults := Value.none, kwdefaults := Value.none, pyModule := Value.str (Str.ofString "law_nm0007_01") 784, code := Value.ref 441 } }
noncomputable def o443 (_ : Params) : Obj := { cls := Value.type "tuple", data := Data.seq #[] }
noncomputable def o444 (_ : Params) : Obj := { cls := Value.none, data := Data.fields #[] }
noncomputable def o445 (_ : Params) : Obj := { cls := Value.none, data := Data.func { name := Str.ofString "_law_ill_right", qualname := Str.ofString "_law_ill_right", params := fdA (stm 34), body := FuncBody.stmts (fdB (stm 34)), scope := fdS (stm 34), globals := 0, closure := [], defaults := Value.none, kwdefaults := Value.none } }
noncomputable def o446 (_ : Params) : Obj := { cls := Value.type "code", data := Data.fields #[Value.str (Str.ofString "_law_ill_right") 907, Value.str (Str.ofString "_law_ill_right") 908, Value.str (Str.ofString "/claim/cut.py") 909, Value.int 188 0, Value.int 0 0, Value.int 0 0, Value.int 0 0, Value.int 3 0, Value.ref 443, Value.bool true, Value.int 181 0, Value.ref 444, Value.none, Value.none, Value.none, Value.ref 445, Value.int 910 0, Value.int 188 0, Value.str (Str.ofString "/claim/cut.py") 911] }
noncomputable def o447 (_ : Params) : Obj := { cls := Value.type "function", data := Data.func { name := Str.ofString "_law_ill_right", qualname := Str.ofString "_law_ill_right", params := fdA (stm 34), body := FuncBody.stmts (fdB (stm 34)), scope := fdS (stm 34), globals := 3, closure := [], defaults := Value.none, kwdefaults := Value.none, pyModule := Value.str (Str.ofString "law_nm0007_01") 784, code := Value.ref 446 } }
noncomputable def o448 (_ : Params) : Obj := { cls := Value.type "tuple", data := Data.seq #[] }
noncomputable def o449 (_ : Params) : Obj := { cls := Value.none, data := Data.fields #[] }
noncomputable def o450 (_ : Params) : Obj := { cls := Value.none, data := Data.func { name := Str.ofString "_law_turned_right", qualname := Str.ofString "_law_turned_right", params := fdA (stm 35), body := FuncBody.stmts (fdB (stm 35)), scope := fdS (stm 35), globals := 0, closure := [], defaults := Value.none, kwdefaults := Value.none } }
noncomputable def o451 (_ : Params) : Obj := { cls := Value.type "code", data := Data.fields #[Value.str (Str.ofString "_law_turned_right") 913, Value.str (Str.ofString "_law_turned_right") 914, Value.str (Str.ofString "/claim/cut.py") 915, Value.int 195 0, Value.int 2 0, Value.int 0 0, Value.int 0 0, Value.int 3 0, Value.ref 448, Value.bool true, Value.int 181 0, Value.ref 449, Value.none, Value.none, Value.none, Value.ref 450, Value.int 916 0, Value.int 195 0, Value.str (Str.ofString "/claim/cut.py") 917] }
noncomputable def o452 (_ : Params) : Obj := { cls := Value.type "function", data := Data.func { name := Str.ofString "_law_turned_right", qualname := Str.ofString "_law_turned_right", params := fdA (stm 35), body := FuncBody.stmts (fdB (stm 35)), scope := fdS (stm 35), globals := 3, closure := [], defaults := Value.none, kwdefaults := Value.none, pyModule := Value.str (Str.ofString "law_nm0007_01") 784, code := Value.ref 451 } }
noncomputable def o453 (_ : Params) : Obj := { cls := Value.type "tuple", data := Data.seq #[] }
noncomputable def o454 (_ : Params) : Obj := { cls := Value.none, data := Data.fields #[] }
noncomputable def o455 (_ : Params) : Obj := { cls := Value.none, data := Data.func { name := Str.ofString "law", qualname := Str.ofString "law", params := fdA (stm 36), body := FuncBody.stmts (fdB (stm 36)), scope := fdS (stm 36), globals := 0, closure := [], defaults := Value.none, kwdefaults := Value.none } }
noncomputable def o456 (_ : Params) : Obj := { cls := Value.type "code", data := Data.fields #[Value.str (Str.ofString "law") 919, Value.str (Str.ofString "law") 920, Value.str (Str.ofString "/claim/cut.py") 921, Value.int 204 0, Value.int 1 0, Value.int 0 0, Value.int 0 0, Value.int 3 0, Value.ref 453, Value.bool true, Value.int 181 0, Value.ref 454, Value.none, Value.none, Value.none, Value.ref 455, Value.int 922 0, Value.int 204 0, Value.str (Str.ofString "/claim/cut.py") 923] }
noncomputable def o457 (_ : Params) : Obj := { cls := Value.type "function", data := Data.func { name := Str.ofString "law", qualname := Str.ofString "law", params := fdA (stm 36), body := FuncBody.stmts (fdB (stm 36)), scope := fdS (stm 36), globals := 3, closure := [], defaults := Value.none, kwdefaults := Value.none, pyModule := Value.str (Str.ofString "law_nm0007_01") 784, code := Value.ref 456 } }
noncomputable def o3s (P : Params) : Obj := { cls := Value.type "dict", data := Data.dict #[{ hash := PyData.keyHash P (Str.ofString "__name__"), key := Value.str (Str.ofString "__name__") 165, val := Value.str (Str.ofString "corecc.rv32") 220 }, { hash := PyData.keyHash P (Str.ofString "__doc__"), key := Value.str (Str.ofString "__doc__") 166, val := Value.none }, { hash := PyData.keyHash P (Str.ofString "__package__"), key := Value.str (Str.ofString "__package__") 167, val := Value.none }, { hash := PyData.keyHash P (Str.ofString "__loader__"), key := Value.str (Str.ofString "__loader__") 168, val := Value.builtin "__main__.__loader__#opaque" }, { hash := PyData.keyHash P (Str.ofString "__spec__"), key := Value.str (Str.ofString "__spec__") 169, val := Value.none }, { hash := PyData.keyHash P (Str.ofString "__annotations__"), key := Value.str (Str.ofString "__annotations__") 170, val := Value.ref 6 }, { hash := PyData.keyHash P (Str.ofString "__builtins__"), key := Value.str (Str.ofString "__builtins__") 171, val := Value.ref 4 }, { hash := PyData.keyHash P (Str.ofString "__file__"), key := Value.str (Str.ofString "__file__") 173, val := Value.str (Str.ofString "/claim/cut.py") 172 }, { hash := PyData.keyHash P (Str.ofString "__cached__"), key := Value.str (Str.ofString "__cached__") 174, val := Value.none }, { hash := PyData.keyHash P (Str.ofString "AssemblyFault"), key := Value.str (Str.ofString "AssemblyFault") 219, val := Value.ref 31 }, { hash := PyData.keyHash P (Str.ofString "LUI"), key := Value.str (Str.ofString "LUI") 223, val := Value.int 55 222 }, { hash := PyData.keyHash P (Str.ofString "AUIPC"), key := Value.str (Str.ofString "AUIPC") 225, val := Value.int 23 224 }, { hash := PyData.keyHash P (Str.ofString "JAL"), key := Value.str (Str.ofString "JAL") 227, val := Value.int 111 226 }, { hash := PyData.keyHash P (Str.ofString "WITH_IMM"), key := Value.str (Str.ofString "WITH_IMM") 229, val := Value.int 19 228 }, { hash := PyData.keyHash P (Str.ofString "WITH_REG"), key := Value.str (Str.ofString "WITH_REG") 231, val := Value.int 51 230 }, { hash := PyData.keyHash P (Str.ofString "FENCE"), key := Value.str (Str.ofString "FENCE") 233, val := Value.int 15 232 }, { hash := PyData.keyHash P (Str.ofString "SYSTEM"), key := Value.str (Str.ofString "SYSTEM") 235, val := Value.int 115 234 }, { hash := PyData.keyHash P (Str.ofString "INSTRUCTIONS"), key := Value.str (Str.ofString "INSTRUCTIONS") 428, val := Value.ref 35 }, { hash := PyData.keyHash P (Str.ofString "PLACES"), key := Value.str (Str.ofString "PLACES") 473, val := Value.ref 86 }, { hash := PyData.keyHash P (Str.ofString "BOUNDS"), key := Value.str (Str.ofString "BOUNDS") 513, val := Value.ref 109 }, { hash := PyData.keyHash P (Str.ofString "signed"), key := Value.str (Str.ofString "signed") 522, val := Value.ref 123 }, { hash := PyData.keyHash P (Str.ofString "fits"), key := Value.str (Str.ofString "fits") 533, val := Value.ref 130 }, { hash := PyData.keyHash P (Str.ofString "imm_bits"), key := Value.str (Str.ofString "imm_bits") 541, val := Value.ref 137 }, { hash := PyData.keyHash P (Str.ofString "imm_of"), key := Value.str (Str.ofString "imm_of") 550, val := Value.ref 144 }, { hash := PyData.keyHash P (Str.ofString "encode"), key := Value.str (Str.ofString "encode") 563, val := Value.ref 151 }, { hash := PyData.keyHash P (Str.ofString "names_by_base"), key := Value.str (Str.ofString "names_by_base") 569, val := Value.ref 156 }, { hash := PyData.keyHash P (Str.ofString "NAMES_BY_BASE"), key := Value.str (Str.ofString "NAMES_BY_BASE") 762, val := Value.ref 160 }] 27 }
noncomputable def o12s (_ : Params) : Obj := { cls := Value.none, data := Data.fields #[Value.int 2 0, Value.int 0 0, Value.ref 20, Value.int 19 0, Value.int 0 0, Value.ref 122, Value.int 22 0, Value.int 0 0, Value.ref 129, Value.int 25 0, Value.int 0 0, Value.ref 136, Value.int 39 0, Value.int 0 0, Value.ref 143, Value.int 55 0, Value.int 0 0, Value.ref 150, Value.int 69 0, Value.int 0 0, Value.ref 155] }
noncomputable def treeF (P : Params) : BT := (.node (o0 P) (.node (o1 P) (.node (o3 P) (.node (o7 P) (.node (o15 P) (.node (o31 P) (.node (o63 P) (.node (o127 P) (.node (o255 P) .nil .nil) (.node (o383 P) .nil .nil)) (.node (o191 P) (.node (o319 P) .nil .nil) (.node (o447 P) .nil .nil))) (.node (o95 P) (.node (o159 P) (.node (o287 P) .nil .nil) (.node (o415 P) .nil .nil)) (.node (o223 P) (.node (o351 P) .nil .nil) .nil))) (.node (o47 P) (.node (o79 P) (.node (o143 P) (.node (o271 P) .nil .nil) (.node (o399 P) .nil .nil)) (.node (o207 P) (.node (o335 P) .nil .nil) .nil)) (.node (o111 P) (.node (o175 P) (.node (o303 P) .nil .nil) (.node (o431 P) .nil .nil)) (.node (o239 P) (.node (o367 P) .nil .nil) .nil)))) (.node (o23 P) (.node (o39 P) (.node (o71 P) (.node (o135 P) (.node (o263 P) .nil .nil) (.node (o391 P) .nil .nil)) (.node (o199 P) (.node (o327 P) .nil .nil) (.node (o455 P) .nil .nil))) (.node (o103 P) (.node (o167 P) (.node (o295 P) .nil .nil) (.node (o423 P) .nil .nil)) (.node (o231 P) (.node (o359 P) .nil .nil) .nil))) (.node (o55 P) (.node (o87 P) (.node (o151 P) (.node (o279 P) .nil .nil) (.node (o407 P) .nil .nil)) (.node (o215 P) (.node (o343 P) .nil .nil) .nil)) (.node (o119 P) (.node (o183 P) (.node (o311 P) .nil .nil) (.node (o439 P) .nil .nil)) (.node (o247 P) (.node (o375 P) .nil .nil) .nil))))) (.node (o11 P) (.node (o19 P) (.node (o35 P) (.node (o67 P) (.node (o131 P) (.node (o259 P) .nil .nil) (.node (o387 P) .nil .nil)) (.node (o195 P) (.node (o323 P) .nil .nil) (.node (o451 P) .nil .nil))) (.node (o99 P) (.node (o163 P) (.node (o291 P) .nil .nil) (.node (o419 P) .nil .nil)) (.node (o227 P) (.node (o355 P) .nil .nil) .nil))) (.node (o51 P) (.node (o83 P) (.node (o147 P) (.node (o275 P) .nil .nil) (.node (o403 P) .nil .nil)) (.node (o211 P) (.node (o339 P) .nil .nil) .nil)) (.node (o115 P) (.node (o179 P) (.node (o307 P) .nil .nil) (.node (o435 P) .nil .nil)) (.node (o243 P) (.node (o371 P) .nil .nil) .nil)))) (.node (o27 P) (.node (o43 P) (.node (o75 P) (.node (o139 P) (.node (o267 P) .nil .nil) (.node (o395 P) .nil .nil)) (.node (o203 P) (.node (o331 P) .nil .nil) .nil)) (.node (o107 P) (.node (o171 P) (.node (o299 P) .nil .nil) (.node (o427 P) .nil .nil)) (.node (o235 P) (.node (o363 P) .nil .nil) .nil))) (.node (o59 P) (.node (o91 P) (.node (o155 P) (.node (o283 P) .nil .nil) (.node (o411 P) .nil .nil)) (.node (o219 P) (.node (o347 P) .nil .nil) .nil)) (.node (o123 P) (.node (o187 P) (.node (o315 P) .nil .nil) (.node (o443 P) .nil .nil)) (.node (o251 P) (.node (o379 P) .nil .nil) .nil)))))) (.node (o5 P) (.node (o9 P) (.node (o17 P) (.node (o33 P) (.node (o65 P) (.node (o129 P) (.node (o257 P) .nil .nil) (.node (o385 P) .nil .nil)) (.node (o193 P) (.node (o321 P) .nil .nil) (.node (o449 P) .nil .nil))) (.node (o97 P) (.node (o161 P) (.node (o289 P) .nil .nil) (.node (o417 P) .nil .nil)) (.node (o225 P) (.node (o353 P) .nil .nil) .nil))) (.node (o49 P) (.node (o81 P) (.node (o145 P) (.node (o273 P) .nil .nil) (.node (o401 P) .nil .nil)) (.node (o209 P) (.node (o337 P) .nil .nil) .nil)) (.node (o113 P) (.node (o177 P) (.node (o305 P) .nil .nil) (.node (o433 P) .nil .nil)) (.node (o241 P) (.node (o369 P) .nil .nil) .nil)))) (.node (o25 P) (.node (o41 P) (.node (o73 P) (.node (o137 P) (.node (o265 P) .nil .nil) (.node (o393 P) .nil .nil)) (.node (o201 P) (.node (o329 P) .nil .nil) (.node (o457 P) .nil .nil))) (.node (o105 P) (.node (o169 P) (.node (o297 P) .nil .nil) (.node (o425 P) .nil .nil)) (.node (o233 P) (.node (o361 P) .nil .nil) .nil))) (.node (o57 P) (.node (o89 P) (.node (o153 P) (.node (o281 P) .nil .nil) (.node (o409 P) .nil .nil)) (.node (o217 P) (.node (o345 P) .nil .nil) .nil)) (.node (o121 P) (.node (o185 P) (.node (o313 P) .nil .nil) (.node (o441 P) .nil .nil)) (.node (o249 P) (.node (o377 P) .nil .nil) .nil))))) (.node (o13 P) (.node (o21 P) (.node (o37 P) (.node (o69 P) (.node (o133 P) (.node (o261 P) .nil .nil) (.node (o389 P) .nil .nil)) (.node (o197 P) (.node (o325 P) .nil .nil) (.node (o453 P) .nil .nil))) (.node (o101 P) (.node (o165 P) (.node (o293 P) .nil .nil) (.node (o421 P) .nil .nil)) (.node (o229 P) (.node (o357 P) .nil .nil) .nil))) (.node (o53 P) (.node (o85 P) (.node (o149 P) (.node (o277 P) .nil .nil) (.node (o405 P) .nil .nil)) (.node (o213 P) (.node (o341 P) .nil .nil) .nil)) (.node (o117 P) (.node (o181 P) (.node (o309 P) .nil .nil) (.node (o437 P) .nil .nil)) (.node (o245 P) (.node (o373 P) .nil .nil) .nil)))) (.node (o29 P) (.node (o45 P) (.node (o77 P) (.node (o141 P) (.node (o269 P) .nil .nil) (.node (o397 P) .nil .nil)) (.node (o205 P) (.node (o333 P) .nil .nil) .nil)) (.node (o109 P) (.node (o173 P) (.node (o301 P) .nil .nil) (.node (o429 P) .nil .nil)) (.node (o237 P) (.node (o365 P) .nil .nil) .nil))) (.node (o61 P) (.node (o93 P) (.node (o157 P) (.node (o285 P) .nil .nil) (.node (o413 P) .nil .nil)) (.node (o221 P) (.node (o349 P) .nil .nil) .nil)) (.node (o125 P) (.node (o189 P) (.node (o317 P) .nil .nil) (.node (o445 P) .nil .nil)) (.node (o253 P) (.node (o381 P) .nil .nil) .nil))))))) (.node (o2 P) (.node (o4 P) (.node (o8 P) (.node (o16 P) (.node (o32 P) (.node (o64 P) (.node (o128 P) (.node (o256 P) .nil .nil) (.node (o384 P) .nil .nil)) (.node (o192 P) (.node (o320 P) .nil .nil) (.node (o448 P) .nil .nil))) (.node (o96 P) (.node (o160 P) (.node (o288 P) .nil .nil) (.node (o416 P) .nil .nil)) (.node (o224 P) (.node (o352 P) .nil .nil) .nil))) (.node (o48 P) (.node (o80 P) (.node (o144 P) (.node (o272 P) .nil .nil) (.node (o400 P) .nil .nil)) (.node (o208 P) (.node (o336 P) .nil .nil) .nil)) (.node (o112 P) (.node (o176 P) (.node (o304 P) .nil .nil) (.node (o432 P) .nil .nil)) (.node (o240 P) (.node (o368 P) .nil .nil) .nil)))) (.node (o24 P) (.node (o40 P) (.node (o72 P) (.node (o136 P) (.node (o264 P) .nil .nil) (.node (o392 P) .nil .nil)) (.node (o200 P) (.node (o328 P) .nil .nil) (.node (o456 P) .nil .nil))) (.node (o104 P) (.node (o168 P) (.node (o296 P) .nil .nil) (.node (o424 P) .nil .nil)) (.node (o232 P) (.node (o360 P) .nil .nil) .nil))) (.node (o56 P) (.node (o88 P) (.node (o152 P) (.node (o280 P) .nil .nil) (.node (o408 P) .nil .nil)) (.node (o216 P) (.node (o344 P) .nil .nil) .nil)) (.node (o120 P) (.node (o184 P) (.node (o312 P) .nil .nil) (.node (o440 P) .nil .nil)) (.node (o248 P) (.node (o376 P) .nil .nil) .nil))))) (.node (o12 P) (.node (o20 P) (.node (o36 P) (.node (o68 P) (.node (o132 P) (.node (o260 P) .nil .nil) (.node (o388 P) .nil .nil)) (.node (o196 P) (.node (o324 P) .nil .nil) (.node (o452 P) .nil .nil))) (.node (o100 P) (.node (o164 P) (.node (o292 P) .nil .nil) (.node (o420 P) .nil .nil)) (.node (o228 P) (.node (o356 P) .nil .nil) .nil))) (.node (o52 P) (.node (o84 P) (.node (o148 P) (.node (o276 P) .nil .nil) (.node (o404 P) .nil .nil)) (.node (o212 P) (.node (o340 P) .nil .nil) .nil)) (.node (o116 P) (.node (o180 P) (.node (o308 P) .nil .nil) (.node (o436 P) .nil .nil)) (.node (o244 P) (.node (o372 P) .nil .nil) .nil)))) (.node (o28 P) (.node (o44 P) (.node (o76 P) (.node (o140 P) (.node (o268 P) .nil .nil) (.node (o396 P) .nil .nil)) (.node (o204 P) (.node (o332 P) .nil .nil) .nil)) (.node (o108 P) (.node (o172 P) (.node (o300 P) .nil .nil) (.node (o428 P) .nil .nil)) (.node (o236 P) (.node (o364 P) .nil .nil) .nil))) (.node (o60 P) (.node (o92 P) (.node (o156 P) (.node (o284 P) .nil .nil) (.node (o412 P) .nil .nil)) (.node (o220 P) (.node (o348 P) .nil .nil) .nil)) (.node (o124 P) (.node (o188 P) (.node (o316 P) .nil .nil) (.node (o444 P) .nil .nil)) (.node (o252 P) (.node (o380 P) .nil .nil) .nil)))))) (.node (o6 P) (.node (o10 P) (.node (o18 P) (.node (o34 P) (.node (o66 P) (.node (o130 P) (.node (o258 P) .nil .nil) (.node (o386 P) .nil .nil)) (.node (o194 P) (.node (o322 P) .nil .nil) (.node (o450 P) .nil .nil))) (.node (o98 P) (.node (o162 P) (.node (o290 P) .nil .nil) (.node (o418 P) .nil .nil)) (.node (o226 P) (.node (o354 P) .nil .nil) .nil))) (.node (o50 P) (.node (o82 P) (.node (o146 P) (.node (o274 P) .nil .nil) (.node (o402 P) .nil .nil)) (.node (o210 P) (.node (o338 P) .nil .nil) .nil)) (.node (o114 P) (.node (o178 P) (.node (o306 P) .nil .nil) (.node (o434 P) .nil .nil)) (.node (o242 P) (.node (o370 P) .nil .nil) .nil)))) (.node (o26 P) (.node (o42 P) (.node (o74 P) (.node (o138 P) (.node (o266 P) .nil .nil) (.node (o394 P) .nil .nil)) (.node (o202 P) (.node (o330 P) .nil .nil) .nil)) (.node (o106 P) (.node (o170 P) (.node (o298 P) .nil .nil) (.node (o426 P) .nil .nil)) (.node (o234 P) (.node (o362 P) .nil .nil) .nil))) (.node (o58 P) (.node (o90 P) (.node (o154 P) (.node (o282 P) .nil .nil) (.node (o410 P) .nil .nil)) (.node (o218 P) (.node (o346 P) .nil .nil) .nil)) (.node (o122 P) (.node (o186 P) (.node (o314 P) .nil .nil) (.node (o442 P) .nil .nil)) (.node (o250 P) (.node (o378 P) .nil .nil) .nil))))) (.node (o14 P) (.node (o22 P) (.node (o38 P) (.node (o70 P) (.node (o134 P) (.node (o262 P) .nil .nil) (.node (o390 P) .nil .nil)) (.node (o198 P) (.node (o326 P) .nil .nil) (.node (o454 P) .nil .nil))) (.node (o102 P) (.node (o166 P) (.node (o294 P) .nil .nil) (.node (o422 P) .nil .nil)) (.node (o230 P) (.node (o358 P) .nil .nil) .nil))) (.node (o54 P) (.node (o86 P) (.node (o150 P) (.node (o278 P) .nil .nil) (.node (o406 P) .nil .nil)) (.node (o214 P) (.node (o342 P) .nil .nil) .nil)) (.node (o118 P) (.node (o182 P) (.node (o310 P) .nil .nil) (.node (o438 P) .nil .nil)) (.node (o246 P) (.node (o374 P) .nil .nil) .nil)))) (.node (o30 P) (.node (o46 P) (.node (o78 P) (.node (o142 P) (.node (o270 P) .nil .nil) (.node (o398 P) .nil .nil)) (.node (o206 P) (.node (o334 P) .nil .nil) .nil)) (.node (o110 P) (.node (o174 P) (.node (o302 P) .nil .nil) (.node (o430 P) .nil .nil)) (.node (o238 P) (.node (o366 P) .nil .nil) .nil))) (.node (o62 P) (.node (o94 P) (.node (o158 P) (.node (o286 P) .nil .nil) (.node (o414 P) .nil .nil)) (.node (o222 P) (.node (o350 P) .nil .nil) .nil)) (.node (o126 P) (.node (o190 P) (.node (o318 P) .nil .nil) (.node (o446 P) .nil .nil)) (.node (o254 P) (.node (o382 P) .nil .nil) .nil))))))))
noncomputable def env1 : Env := { scope := PySem.Challenge.pw_nm0007_01.main.scope, locals := mainNs, globals := mainNs, cells := [], code := Value.ref 13, frame := some 14 }
noncomputable def o3b (P : Params) : Obj := { cls := Value.type "dict", data := Data.dict #[{ hash := PyData.keyHash P (PySem.Str.ofString "__name__"), key := Value.str (PySem.Str.ofString "__name__") 165, val := Value.str (PySem.Str.ofString "corecc.rv32") 220 }, { hash := PyData.keyHash P (PySem.Str.ofString "__doc__"), key := Value.str (PySem.Str.ofString "__doc__") 166, val := Value.none }, { hash := PyData.keyHash P (PySem.Str.ofString "__package__"), key := Value.str (PySem.Str.ofString "__package__") 167, val := Value.none }, { hash := PyData.keyHash P (PySem.Str.ofString "__loader__"), key := Value.str (PySem.Str.ofString "__loader__") 168, val := Value.builtin "__main__.__loader__#opaque" }, { hash := PyData.keyHash P (PySem.Str.ofString "__spec__"), key := Value.str (PySem.Str.ofString "__spec__") 169, val := Value.none }, { hash := PyData.keyHash P (PySem.Str.ofString "__annotations__"), key := Value.str (PySem.Str.ofString "__annotations__") 170, val := Value.ref 6 }, { hash := PyData.keyHash P (PySem.Str.ofString "__builtins__"), key := Value.str (PySem.Str.ofString "__builtins__") 171, val := Value.ref 4 }, { hash := PyData.keyHash P (PySem.Str.ofString "__file__"), key := Value.str (PySem.Str.ofString "__file__") 173, val := Value.str (PySem.Str.ofString "/claim/cut.py") 172 }, { hash := PyData.keyHash P (PySem.Str.ofString "__cached__"), key := Value.str (PySem.Str.ofString "__cached__") 174, val := Value.none }, { hash := PyData.keyHash P (PySem.Str.ofString "AssemblyFault"), key := Value.str (PySem.Str.ofString "AssemblyFault") 219, val := Value.ref 31 }, { hash := PyData.keyHash P (PySem.Str.ofString "LUI"), key := Value.str (PySem.Str.ofString "LUI") 223, val := Value.int 55 222 }, { hash := PyData.keyHash P (PySem.Str.ofString "AUIPC"), key := Value.str (PySem.Str.ofString "AUIPC") 225, val := Value.int 23 224 }, { hash := PyData.keyHash P (PySem.Str.ofString "JAL"), key := Value.str (PySem.Str.ofString "JAL") 227, val := Value.int 111 226 }, { hash := PyData.keyHash P (PySem.Str.ofString "WITH_IMM"), key := Value.str (PySem.Str.ofString "WITH_IMM") 229, val := Value.int 19 228 }, { hash := PyData.keyHash P (PySem.Str.ofString "WITH_REG"), key := Value.str (PySem.Str.ofString "WITH_REG") 231, val := Value.int 51 230 }, { hash := PyData.keyHash P (PySem.Str.ofString "FENCE"), key := Value.str (PySem.Str.ofString "FENCE") 233, val := Value.int 15 232 }, { hash := PyData.keyHash P (PySem.Str.ofString "SYSTEM"), key := Value.str (PySem.Str.ofString "SYSTEM") 235, val := Value.int 115 234 }, { hash := PyData.keyHash P (PySem.Str.ofString "INSTRUCTIONS"), key := Value.str (PySem.Str.ofString "INSTRUCTIONS") 428, val := Value.ref 35 }, { hash := PyData.keyHash P (PySem.Str.ofString "PLACES"), key := Value.str (PySem.Str.ofString "PLACES") 473, val := Value.ref 86 }, { hash := PyData.keyHash P (PySem.Str.ofString "BOUNDS"), key := Value.str (PySem.Str.ofString "BOUNDS") 513, val := Value.ref 109 }, { hash := PyData.keyHash P (PySem.Str.ofString "signed"), key := Value.str (PySem.Str.ofString "signed") 522, val := Value.ref 123 }, { hash := PyData.keyHash P (PySem.Str.ofString "fits"), key := Value.str (PySem.Str.ofString "fits") 533, val := Value.ref 130 }, { hash := PyData.keyHash P (PySem.Str.ofString "imm_bits"), key := Value.str (PySem.Str.ofString "imm_bits") 541, val := Value.ref 137 }, { hash := PyData.keyHash P (PySem.Str.ofString "imm_of"), key := Value.str (PySem.Str.ofString "imm_of") 550, val := Value.ref 144 }, { hash := PyData.keyHash P (PySem.Str.ofString "encode"), key := Value.str (PySem.Str.ofString "encode") 563, val := Value.ref 151 }, { hash := PyData.keyHash P (PySem.Str.ofString "names_by_base"), key := Value.str (PySem.Str.ofString "names_by_base") 569, val := Value.ref 156 }] 26 }
noncomputable def o12b (_ : Params) : Obj := { cls := Value.none, data := Data.fields #[Value.int 2 0, Value.int 0 0, Value.ref 20, Value.int 19 0, Value.int 0 0, Value.ref 122, Value.int 22 0, Value.int 0 0, Value.ref 129, Value.int 25 0, Value.int 0 0, Value.ref 136, Value.int 39 0, Value.int 0 0, Value.ref 143, Value.int 55 0, Value.int 0 0, Value.ref 150, Value.int 69 0, Value.int 0 0, Value.ref 155] }
noncomputable def tree15 (P : Params) : BT := (.node (boot_o_0 P) (.node (boot_o_1 P) (.node (boot_o_3 P) (.node (boot_o_7 P) .nil .nil) (.node (o11 P) .nil .nil)) (.node (boot_o_5 P) (.node (boot_o_9 P) .nil .nil) (.node (o13 P) .nil .nil))) (.node (boot_o_2 P) (.node (boot_o_4 P) (.node (boot_o_8 P) .nil .nil) (.node { cls := Value.none, data := Data.fields #[] } .nil .nil)) (.node (boot_o_6 P) (.node (boot_o_10 P) .nil .nil) (.node (o14 P) .nil .nil))))
noncomputable def tree18 (P : Params) : BT := (.node (o0 P) (.node (o1 P) (.node (o3b P) (.node (o7 P) (.node (o15 P) (.node (o31 P) (.node (o63 P) (.node (o127 P) .nil .nil) .nil) (.node (o95 P) .nil .nil)) (.node (o47 P) (.node (o79 P) (.node (o143 P) .nil .nil) .nil) (.node (o111 P) .nil .nil))) (.node (o23 P) (.node (o39 P) (.node (o71 P) (.node (o135 P) .nil .nil) .nil) (.node (o103 P) .nil .nil)) (.node (o55 P) (.node (o87 P) (.node (o151 P) .nil .nil) .nil) (.node (o119 P) .nil .nil)))) (.node (o11 P) (.node (o19 P) (.node (o35 P) (.node (o67 P) (.node (o131 P) .nil .nil) .nil) (.node (o99 P) .nil .nil)) (.node (o51 P) (.node (o83 P) (.node (o147 P) .nil .nil) .nil) (.node (o115 P) .nil .nil))) (.node (o27 P) (.node (o43 P) (.node (o75 P) (.node (o139 P) .nil .nil) .nil) (.node (o107 P) .nil .nil)) (.node (o59 P) (.node (o91 P) (.node (o155 P) .nil .nil) .nil) (.node (o123 P) .nil .nil))))) (.node (o5 P) (.node (o9 P) (.node (o17 P) (.node (o33 P) (.node (o65 P) (.node (o129 P) .nil .nil) .nil) (.node (o97 P) .nil .nil)) (.node (o49 P) (.node (o81 P) (.node (o145 P) .nil .nil) .nil) (.node (o113 P) .nil .nil))) (.node (o25 P) (.node (o41 P) (.node (o73 P) (.node (o137 P) .nil .nil) .nil) (.node (o105 P) .nil .nil)) (.node (o57 P) (.node (o89 P) (.node (o153 P) .nil .nil) .nil) (.node (o121 P) .nil .nil)))) (.node (o13 P) (.node (o21 P) (.node (o37 P) (.node (o69 P) (.node (o133 P) .nil .nil) .nil) (.node (o101 P) .nil .nil)) (.node (o53 P) (.node (o85 P) (.node (o149 P) .nil .nil) .nil) (.node (o117 P) .nil .nil))) (.node (o29 P) (.node (o45 P) (.node (o77 P) (.node (o141 P) .nil .nil) .nil) (.node (o109 P) .nil .nil)) (.node (o61 P) (.node (o93 P) .nil .nil) (.node (o125 P) .nil .nil)))))) (.node (o2 P) (.node (o4 P) (.node (o8 P) (.node (o16 P) (.node (o32 P) (.node (o64 P) (.node (o128 P) .nil .nil) .nil) (.node (o96 P) .nil .nil)) (.node (o48 P) (.node (o80 P) (.node (o144 P) .nil .nil) .nil) (.node (o112 P) .nil .nil))) (.node (o24 P) (.node (o40 P) (.node (o72 P) (.node (o136 P) .nil .nil) .nil) (.node (o104 P) .nil .nil)) (.node (o56 P) (.node (o88 P) (.node (o152 P) .nil .nil) .nil) (.node (o120 P) .nil .nil)))) (.node (o12b P) (.node (o20 P) (.node (o36 P) (.node (o68 P) (.node (o132 P) .nil .nil) .nil) (.node (o100 P) .nil .nil)) (.node (o52 P) (.node (o84 P) (.node (o148 P) .nil .nil) .nil) (.node (o116 P) .nil .nil))) (.node (o28 P) (.node (o44 P) (.node (o76 P) (.node (o140 P) .nil .nil) .nil) (.node (o108 P) .nil .nil)) (.node (o60 P) (.node (o92 P) (.node (o156 P) .nil .nil) .nil) (.node (o124 P) .nil .nil))))) (.node (o6 P) (.node (o10 P) (.node (o18 P) (.node (o34 P) (.node (o66 P) (.node (o130 P) .nil .nil) .nil) (.node (o98 P) .nil .nil)) (.node (o50 P) (.node (o82 P) (.node (o146 P) .nil .nil) .nil) (.node (o114 P) .nil .nil))) (.node (o26 P) (.node (o42 P) (.node (o74 P) (.node (o138 P) .nil .nil) .nil) (.node (o106 P) .nil .nil)) (.node (o58 P) (.node (o90 P) (.node (o154 P) .nil .nil) .nil) (.node (o122 P) .nil .nil)))) (.node (o14 P) (.node (o22 P) (.node (o38 P) (.node (o70 P) (.node (o134 P) .nil .nil) .nil) (.node (o102 P) .nil .nil)) (.node (o54 P) (.node (o86 P) (.node (o150 P) .nil .nil) .nil) (.node (o118 P) .nil .nil))) (.node (o30 P) (.node (o46 P) (.node (o78 P) (.node (o142 P) .nil .nil) .nil) (.node (o110 P) .nil .nil)) (.node (o62 P) (.node (o94 P) .nil .nil) (.node (o126 P) .nil .nil)))))))
noncomputable def treeS (P : Params) : BT := (.node (o0 P) (.node (o1 P) (.node (o3s P) (.node (o7 P) (.node (o15 P) (.node (o31 P) (.node (o63 P) (.node (o127 P) (.node (o255 P) .nil .nil) .nil) (.node (o191 P) (.node (o319 P) .nil .nil) .nil)) (.node (o95 P) (.node (o159 P) (.node (o287 P) .nil .nil) .nil) (.node (o223 P) (.node (o351 P) .nil .nil) .nil))) (.node (o47 P) (.node (o79 P) (.node (o143 P) (.node (o271 P) .nil .nil) .nil) (.node (o207 P) (.node (o335 P) .nil .nil) .nil)) (.node (o111 P) (.node (o175 P) (.node (o303 P) .nil .nil) .nil) (.node (o239 P) .nil .nil)))) (.node (o23 P) (.node (o39 P) (.node (o71 P) (.node (o135 P) (.node (o263 P) .nil .nil) .nil) (.node (o199 P) (.node (o327 P) .nil .nil) .nil)) (.node (o103 P) (.node (o167 P) (.node (o295 P) .nil .nil) .nil) (.node (o231 P) .nil .nil))) (.node (o55 P) (.node (o87 P) (.node (o151 P) (.node (o279 P) .nil .nil) .nil) (.node (o215 P) (.node (o343 P) .nil .nil) .nil)) (.node (o119 P) (.node (o183 P) (.node (o311 P) .nil .nil) .nil) (.node (o247 P) .nil .nil))))) (.node (o11 P) (.node (o19 P) (.node (o35 P) (.node (o67 P) (.node (o131 P) (.node (o259 P) .nil .nil) .nil) (.node (o195 P) (.node (o323 P) .nil .nil) .nil)) (.node (o99 P) (.node (o163 P) (.node (o291 P) .nil .nil) .nil) (.node (o227 P) (.node (o355 P) .nil .nil) .nil))) (.node (o51 P) (.node (o83 P) (.node (o147 P) (.node (o275 P) .nil .nil) .nil) (.node (o211 P) (.node (o339 P) .nil .nil) .nil)) (.node (o115 P) (.node (o179 P) (.node (o307 P) .nil .nil) .nil) (.node (o243 P) .nil .nil)))) (.node (o27 P) (.node (o43 P) (.node (o75 P) (.node (o139 P) (.node (o267 P) .nil .nil) .nil) (.node (o203 P) (.node (o331 P) .nil .nil) .nil)) (.node (o107 P) (.node (o171 P) (.node (o299 P) .nil .nil) .nil) (.node (o235 P) .nil .nil))) (.node (o59 P) (.node (o91 P) (.node (o155 P) (.node (o283 P) .nil .nil) .nil) (.node (o219 P) (.node (o347 P) .nil .nil) .nil)) (.node (o123 P) (.node (o187 P) (.node (o315 P) .nil .nil) .nil) (.node (o251 P) .nil .nil)))))) (.node (o5 P) (.node (o9 P) (.node (o17 P) (.node (o33 P) (.node (o65 P) (.node (o129 P) (.node (o257 P) .nil .nil) .nil) (.node (o193 P) (.node (o321 P) .nil .nil) .nil)) (.node (o97 P) (.node (o161 P) (.node (o289 P) .nil .nil) .nil) (.node (o225 P) (.node (o353 P) .nil .nil) .nil))) (.node (o49 P) (.node (o81 P) (.node (o145 P) (.node (o273 P) .nil .nil) .nil) (.node (o209 P) (.node (o337 P) .nil .nil) .nil)) (.node (o113 P) (.node (o177 P) (.node (o305 P) .nil .nil) .nil) (.node (o241 P) .nil .nil)))) (.node (o25 P) (.node (o41 P) (.node (o73 P) (.node (o137 P) (.node (o265 P) .nil .nil) .nil) (.node (o201 P) (.node (o329 P) .nil .nil) .nil)) (.node (o105 P) (.node (o169 P) (.node (o297 P) .nil .nil) .nil) (.node (o233 P) .nil .nil))) (.node (o57 P) (.node (o89 P) (.node (o153 P) (.node (o281 P) .nil .nil) .nil) (.node (o217 P) (.node (o345 P) .nil .nil) .nil)) (.node (o121 P) (.node (o185 P) (.node (o313 P) .nil .nil) .nil) (.node (o249 P) .nil .nil))))) (.node (o13 P) (.node (o21 P) (.node (o37 P) (.node (o69 P) (.node (o133 P) (.node (o261 P) .nil .nil) .nil) (.node (o197 P) (.node (o325 P) .nil .nil) .nil)) (.node (o101 P) (.node (o165 P) (.node (o293 P) .nil .nil) .nil) (.node (o229 P) .nil .nil))) (.node (o53 P) (.node (o85 P) (.node (o149 P) (.node (o277 P) .nil .nil) .nil) (.node (o213 P) (.node (o341 P) .nil .nil) .nil)) (.node (o117 P) (.node (o181 P) (.node (o309 P) .nil .nil) .nil) (.node (o245 P) .nil .nil)))) (.node (o29 P) (.node (o45 P) (.node (o77 P) (.node (o141 P) (.node (o269 P) .nil .nil) .nil) (.node (o205 P) (.node (o333 P) .nil .nil) .nil)) (.node (o109 P) (.node (o173 P) (.node (o301 P) .nil .nil) .nil) (.node (o237 P) .nil .nil))) (.node (o61 P) (.node (o93 P) (.node (o157 P) (.node (o285 P) .nil .nil) .nil) (.node (o221 P) (.node (o349 P) .nil .nil) .nil)) (.node (o125 P) (.node (o189 P) (.node (o317 P) .nil .nil) .nil) (.node (o253 P) .nil .nil))))))) (.node (o2 P) (.node (o4 P) (.node (o8 P) (.node (o16 P) (.node (o32 P) (.node (o64 P) (.node (o128 P) (.node (o256 P) .nil .nil) .nil) (.node (o192 P) (.node (o320 P) .nil .nil) .nil)) (.node (o96 P) (.node (o160 P) (.node (o288 P) .nil .nil) .nil) (.node (o224 P) (.node (o352 P) .nil .nil) .nil))) (.node (o48 P) (.node (o80 P) (.node (o144 P) (.node (o272 P) .nil .nil) .nil) (.node (o208 P) (.node (o336 P) .nil .nil) .nil)) (.node (o112 P) (.node (o176 P) (.node (o304 P) .nil .nil) .nil) (.node (o240 P) .nil .nil)))) (.node (o24 P) (.node (o40 P) (.node (o72 P) (.node (o136 P) (.node (o264 P) .nil .nil) .nil) (.node (o200 P) (.node (o328 P) .nil .nil) .nil)) (.node (o104 P) (.node (o168 P) (.node (o296 P) .nil .nil) .nil) (.node (o232 P) .nil .nil))) (.node (o56 P) (.node (o88 P) (.node (o152 P) (.node (o280 P) .nil .nil) .nil) (.node (o216 P) (.node (o344 P) .nil .nil) .nil)) (.node (o120 P) (.node (o184 P) (.node (o312 P) .nil .nil) .nil) (.node (o248 P) .nil .nil))))) (.node (o12s P) (.node (o20 P) (.node (o36 P) (.node (o68 P) (.node (o132 P) (.node (o260 P) .nil .nil) .nil) (.node (o196 P) (.node (o324 P) .nil .nil) .nil)) (.node (o100 P) (.node (o164 P) (.node (o292 P) .nil .nil) .nil) (.node (o228 P) .nil .nil))) (.node (o52 P) (.node (o84 P) (.node (o148 P) (.node (o276 P) .nil .nil) .nil) (.node (o212 P) (.node (o340 P) .nil .nil) .nil)) (.node (o116 P) (.node (o180 P) (.node (o308 P) .nil .nil) .nil) (.node (o244 P) .nil .nil)))) (.node (o28 P) (.node (o44 P) (.node (o76 P) (.node (o140 P) (.node (o268 P) .nil .nil) .nil) (.node (o204 P) (.node (o332 P) .nil .nil) .nil)) (.node (o108 P) (.node (o172 P) (.node (o300 P) .nil .nil) .nil) (.node (o236 P) .nil .nil))) (.node (o60 P) (.node (o92 P) (.node (o156 P) (.node (o284 P) .nil .nil) .nil) (.node (o220 P) (.node (o348 P) .nil .nil) .nil)) (.node (o124 P) (.node (o188 P) (.node (o316 P) .nil .nil) .nil) (.node (o252 P) .nil .nil)))))) (.node (o6 P) (.node (o10 P) (.node (o18 P) (.node (o34 P) (.node (o66 P) (.node (o130 P) (.node (o258 P) .nil .nil) .nil) (.node (o194 P) (.node (o322 P) .nil .nil) .nil)) (.node (o98 P) (.node (o162 P) (.node (o290 P) .nil .nil) .nil) (.node (o226 P) (.node (o354 P) .nil .nil) .nil))) (.node (o50 P) (.node (o82 P) (.node (o146 P) (.node (o274 P) .nil .nil) .nil) (.node (o210 P) (.node (o338 P) .nil .nil) .nil)) (.node (o114 P) (.node (o178 P) (.node (o306 P) .nil .nil) .nil) (.node (o242 P) .nil .nil)))) (.node (o26 P) (.node (o42 P) (.node (o74 P) (.node (o138 P) (.node (o266 P) .nil .nil) .nil) (.node (o202 P) (.node (o330 P) .nil .nil) .nil)) (.node (o106 P) (.node (o170 P) (.node (o298 P) .nil .nil) .nil) (.node (o234 P) .nil .nil))) (.node (o58 P) (.node (o90 P) (.node (o154 P) (.node (o282 P) .nil .nil) .nil) (.node (o218 P) (.node (o346 P) .nil .nil) .nil)) (.node (o122 P) (.node (o186 P) (.node (o314 P) .nil .nil) .nil) (.node (o250 P) .nil .nil))))) (.node (o14 P) (.node (o22 P) (.node (o38 P) (.node (o70 P) (.node (o134 P) (.node (o262 P) .nil .nil) .nil) (.node (o198 P) (.node (o326 P) .nil .nil) .nil)) (.node (o102 P) (.node (o166 P) (.node (o294 P) .nil .nil) .nil) (.node (o230 P) .nil .nil))) (.node (o54 P) (.node (o86 P) (.node (o150 P) (.node (o278 P) .nil .nil) .nil) (.node (o214 P) (.node (o342 P) .nil .nil) .nil)) (.node (o118 P) (.node (o182 P) (.node (o310 P) .nil .nil) .nil) (.node (o246 P) .nil .nil)))) (.node (o30 P) (.node (o46 P) (.node (o78 P) (.node (o142 P) (.node (o270 P) .nil .nil) .nil) (.node (o206 P) (.node (o334 P) .nil .nil) .nil)) (.node (o110 P) (.node (o174 P) (.node (o302 P) .nil .nil) .nil) (.node (o238 P) .nil .nil))) (.node (o62 P) (.node (o94 P) (.node (o158 P) (.node (o286 P) .nil .nil) .nil) (.node (o222 P) (.node (o350 P) .nil .nil) .nil)) (.node (o126 P) (.node (o190 P) (.node (o318 P) .nil .nil) .nil) (.node (o254 P) .nil .nil))))))))

noncomputable abbrev RW (x : String) (t : Tok) (k : Int) (u : Tok) (a : Addr) : PySem.Str × Tok × Int × Tok × Addr := (Str.ofString x, t, k, u, a)
noncomputable abbrev rowsN : List (PySem.Str × Tok × Int × Tok × Addr) := [RW "lui" 236 55 238 36, RW "auipc" 240 23 242 37, RW "jal" 244 111 246 38, RW "jalr" 248 103 250 39, RW "beq" 252 99 254 40, RW "bne" 256 4195 258 41, RW "blt" 260 16483 262 42, RW "bge" 264 20579 266 43, RW "bltu" 268 24675 270 44, RW "bgeu" 272 28771 274 45, RW "lb" 276 3 278 46, RW "lh" 280 4099 282 47, RW "lw" 284 8195 286 48, RW "lbu" 288 16387 290 49, RW "lhu" 292 20483 294 50, RW "sb" 296 35 298 51, RW "sh" 300 4131 302 52, RW "sw" 304 8227 306 54, RW "addi" 308 19 310 55, RW "slti" 312 8211 314 56, RW "sltiu" 316 12307 318 57, RW "xori" 320 16403 322 58, RW "ori" 324 24595 326 59, RW "andi" 328 28691 330 60, RW "slli" 332 4115 334 61, RW "srli" 336 20499 338 62, RW "srai" 340 1073762323 342 63, RW "add" 344 51 346 64, RW "sub" 348 1073741875 350 65, RW "sll" 352 4147 354 66, RW "slt" 356 8243 358 67, RW "sltu" 360 12339 362 68, RW "xor" 364 16435 366 69, RW "srl" 368 20531 370 70, RW "sra" 372 1073762355 374 72, RW "or" 375 24627 377 73, RW "and" 378 28723 380 74, RW "mul" 381 33554483 383 75, RW "mulh" 384 33558579 386 76, RW "mulhsu" 387 33562675 389 77, RW "mulhu" 390 33566771 392 78, RW "div" 393 33570867 395 79, RW "divu" 396 33574963 398 80, RW "rem" 399 33579059 401 81, RW "remu" 402 33583155 404 82, RW "fence" 405 15 407 83, RW "ecall" 408 115 410 84, RW "ebreak" 411 1048691 413 85]
noncomputable abbrev ob (c : String) (d : Data) : Obj := { cls := .type c, data := d }
noncomputable def oIt (i : Nat) : Obj := ob "dict_itemiterator" (.fields #[.none, .bool false, .ref 35, .int i 0, .int 48 0, .int 48 0, (match i with | 0 => .none | j + 1 => match rowsN[j]? with | some (x, t, _) => .str x t | none => .none), (match i with | 0 => .none | j + 1 => match rowsN[j]? with | some (_, _, _, _, a) => .ref a | none => .none)])
noncomputable def oAcc (i : Nat) : Obj := ob "dict" (.dict ⟨(rowsN.take i).map fun (x, t, k, u, _) => { hash := k, key := .int k u, val := .str x t }⟩ i)
noncomputable def oSc (P : Params) (i : Nat) : Obj := match i with
  | 0 => ob "dict" (.dict #[] 0)
  | j + 1 => match rowsN[j]? with
    | some (x, t, _, _, a) => ob "dict" (.dict #[{ hash := PyData.keyHash P "name", key := .str "name" 570, val := .str x t }, { hash := PyData.keyHash P "row", key := .str "row" 571, val := .ref a }] 2)
    | none => ob "dict" (.dict #[] 0)
noncomputable def grow (P : Params) (i : Nat) : BT := Nat.rec
  ((((((tree18 P).ins 157 (ob "frame" (.dict #[] 0))).ins 158 (ob "dict_items" (.fields #[.ref 35]))).ins 159 (oIt 0)).ins 160 (oAcc 0)).ins 161 (oSc P 0))
  (fun j T => match rowsN[j]? with
    | some (x, t, _, _, a) => (((T.ins (162 + 4 * j) (ob "tuple" (.seq #[.str x t, .ref a]))).ins (163 + 4 * j) (ob "tuple_iterator" (.fields #[.none, .int 2 0]))).ins (164 + 4 * j) (ob "tuple" (.seq #[]))).ins (165 + 4 * j) (ob "StopIteration" (.fields #[.ref (164 + 4 * j), .none, .none, .none, .bool false, .none]))
    | none => T) i
noncomputable def treeAt (P : Params) (i : Nat) : BT := (((grow P i).set 159 fun _ => oIt i).set 160 fun _ => oAcc i).set 161 fun _ => oSc P i
noncomputable def St (w : World) (os : OsState) (i : Nat) : SharedT := { tree := treeAt w.params i, n := 162 + 4 * i, life := {}, gens := { toList := [] }, drawn := {}, toks := 570 + 4 * i, os := os }
noncomputable def dcE : Expr := match fdB (stm 18) with
  | [Stmt.Return (some e) _] => e
  | _ => .Constant .none 0 default
noncomputable def dcScope : Scope := match dcE with
  | .DictComp _ _ _ sc _ => sc
  | _ => default
noncomputable def envC : Env := { scope := dcScope, locals := 161, globals := 3, cells := [], qual := "names_by_base.<locals>.", func := none, code := .ref 155, frame := some 157, builtins := 0 }
noncomputable abbrev qGo := @Fast.tw10295753902157049106
noncomputable abbrev qRun := @Fast.tw10110043849684766642
noncomputable abbrev qTb := Fast.tw14364793385576792824
noncomputable abbrev qDen := Fast.tw11892475500146522536
noncomputable abbrev qExecs := Fast.tw12563942051412417395
noncomputable abbrev pw := PySem.Challenge.pw_nm0007_01
noncomputable def Tl (pos : Pos) (k1 k2 : Result → Sem Fin) (l1 l2 : List Value) (c1 c2 : Code) (p1 p2 q : Pos) : Thread := ⟨qDen qTb (.compLoop dcE 0 (.ref 159) (.ref 160) envC), .compLoop dcE 0 (.ref 159) (.ref 160) envC, pos, [.ret k1 none true l1 c1 p1 [], .ret k2 none false l2 c2 p2 [], topFrame q]⟩
noncomputable def S18T (w : World) (os : OsState) : SharedT := { tree := tree18 w.params, n := 157, life := {}, gens := { toList := [] }, drawn := {}, toks := 570, os := os }
noncomputable def S20T (w : World) (os : OsState) : SharedT := { tree := treeS w.params, n := 356, life := {}, gens := { toList := [] }, drawn := {}, toks := 763, os := os }
noncomputable def SFT (w : World) (os : OsState) : SharedT := { tree := treeF w.params, n := 458, life := {}, gens := { toList := [] }, drawn := {}, toks := 925, os := os }
noncomputable def qPieces (l : List Stmt) (env : Env) (c : Code) (p : Pos) (B : List Frame) : Thread := ⟨(qExecs l env).wrap doneF deadEnd id id, c, p, B⟩
noncomputable def q0 : Pos := ⟨0, 0, 0, 0⟩
noncomputable def cdB (b : List Stmt) : Code := .body b env1
noncomputable def thr0 (n : Nat) (w : World) (os : OsState) (b : List Stmt) : Thread := match qGo qTb pw w 11 (some (.ref 6)) 1 n (S18T w os) (qPieces [stm 19] env1 (cdB b) ⟨69, 0, 70, 63⟩ [topFrame q0]) with
  | some (_, t) => t
  | none => ⟨.pure (.done .next), default, q0, []⟩
noncomputable def frK : Frame → Result → Sem Fin
  | .ret k _ _ _ _ _ _ => k
  | _ => fun _ => .pure (.done .next)
noncomputable def frL : Frame → List Value
  | .ret _ _ _ l _ _ _ => l
  | _ => []
noncomputable def frC : Frame → Code
  | .ret _ _ _ _ c _ _ => c
  | _ => default
noncomputable def frP : Frame → Pos
  | .ret _ _ _ _ _ p _ => p
  | _ => default
noncomputable def frAt (t : Thread) (i : Nat) : Frame := match t.stack, i with
  | a :: _, 0 => a
  | _ :: a :: _, 1 => a
  | _, _ => .ret (fun _ => .pure (.done .next)) none false [] default default []
noncomputable def Tl0 (pos : Pos) (n : Nat) (w : World) (os : OsState) (b : List Stmt) : Thread :=
  Tl pos (frK (frAt (thr0 n w os b) 0)) (frK (frAt (thr0 n w os b) 1)) (frL (frAt (thr0 n w os b) 0)) (frL (frAt (thr0 n w os b) 1)) (frC (frAt (thr0 n w os b) 0)) (frC (frAt (thr0 n w os b) 1)) (frP (frAt (thr0 n w os b) 0)) (frP (frAt (thr0 n w os b) 1)) q0
end
end Mine
end
section
open PySem PySem.W PyProof.Rows
set_option maxHeartbeats 0
namespace Mine
noncomputable def stsA : List Stmt := [stm 0, stm 1, stm 2, stm 3, stm 4, stm 5, stm 6, stm 7, stm 8, stm 9, stm 10, stm 11, stm 12, stm 13, stm 14, stm 15, stm 16, stm 17, stm 18]
noncomputable def S15T (w : World) (os : OsState) : SharedT := { tree := tree15 w.params, n := 15, life := {}, gens := { toList := [] }, drawn := {}, toks := 187, os := os }
theorem preA_t (w : World) (os : OsState) (b : List Stmt) :
  qRun qTb pw (w.withFollow "special-get-raises" true) 11 (some (.ref 6)) 1 1944 (S15T (w.withFollow "special-get-raises" true) os) (qPieces stsA env1 (cdB b) q0 [topFrame q0]) = some (.next, S18T (w.withFollow "special-get-raises" true) os, cdB b, ⟨69, 0, 70, 63⟩) := by
  kernel_rfl
theorem preA_f (w : World) (os : OsState) (b : List Stmt) :
  qRun qTb pw (w.withFollow "special-get-raises" false) 11 (some (.ref 6)) 1 1944 (S15T (w.withFollow "special-get-raises" false) os) (qPieces stsA env1 (cdB b) q0 [topFrame q0]) = some (.next, S18T (w.withFollow "special-get-raises" false) os, cdB b, ⟨69, 0, 70, 63⟩) := by
  kernel_rfl
end Mine
end
section
open PySem PySem.W PyProof.Rows
set_option maxHeartbeats 0
namespace Mine
noncomputable abbrev wr (a c : Bool) (w : World) : World := (w.withFollow "comprehension-iter-twice" a).withFollow "special-get-raises" c
theorem first_tt (w : World) (os : OsState) (b : List Stmt) :
  qGo qTb pw (wr true true w) 11 (some (.ref 6)) 1 48 (S18T (wr true true w) os) (qPieces [stm 19] env1 (cdB b) ⟨69, 0, 70, 63⟩ [topFrame q0]) = some (St (wr true true w) os 0, Tl0 ⟨70, 42, 70, 62⟩ 48 (wr true true w) os b) := by
  kernel_rfl
theorem first_tf (w : World) (os : OsState) (b : List Stmt) :
  qGo qTb pw (wr true false w) 11 (some (.ref 6)) 1 48 (S18T (wr true false w) os) (qPieces [stm 19] env1 (cdB b) ⟨69, 0, 70, 63⟩ [topFrame q0]) = some (St (wr true false w) os 0, Tl0 ⟨70, 42, 70, 62⟩ 48 (wr true false w) os b) := by
  kernel_rfl
theorem first_ft (w : World) (os : OsState) (b : List Stmt) :
  qGo qTb pw (wr false true w) 11 (some (.ref 6)) 1 58 (S18T (wr false true w) os) (qPieces [stm 19] env1 (cdB b) ⟨69, 0, 70, 63⟩ [topFrame q0]) = some (St (wr false true w) os 0, Tl0 ⟨70, 42, 70, 62⟩ 58 (wr false true w) os b) := by
  kernel_rfl
theorem first_ff (w : World) (os : OsState) (b : List Stmt) :
  qGo qTb pw (wr false false w) 11 (some (.ref 6)) 1 58 (S18T (wr false false w) os) (qPieces [stm 19] env1 (cdB b) ⟨69, 0, 70, 63⟩ [topFrame q0]) = some (St (wr false false w) os 0, Tl0 ⟨70, 42, 70, 62⟩ 58 (wr false false w) os b) := by
  kernel_rfl
theorem last_tt (w : World) (os : OsState) (b : List Stmt) :
  qRun qTb pw (wr true true w) 11 (some (.ref 6)) 1 60 (St (wr true true w) os 48) (Tl0 ⟨70, 12, 70, 24⟩ 48 (wr true true w) os b) = some (.next, S20T (wr true true w) os, cdB b, ⟨71, 0, 71, 13⟩) := by
  kernel_rfl
theorem last_tf (w : World) (os : OsState) (b : List Stmt) :
  qRun qTb pw (wr true false w) 11 (some (.ref 6)) 1 60 (St (wr true false w) os 48) (Tl0 ⟨70, 12, 70, 24⟩ 48 (wr true false w) os b) = some (.next, S20T (wr true false w) os, cdB b, ⟨71, 0, 71, 13⟩) := by
  kernel_rfl
theorem last_ft (w : World) (os : OsState) (b : List Stmt) :
  qRun qTb pw (wr false true w) 11 (some (.ref 6)) 1 50 (St (wr false true w) os 48) (Tl0 ⟨70, 12, 70, 24⟩ 58 (wr false true w) os b) = some (.next, S20T (wr false true w) os, cdB b, ⟨71, 0, 71, 13⟩) := by
  kernel_rfl
theorem last_ff (w : World) (os : OsState) (b : List Stmt) :
  qRun qTb pw (wr false false w) 11 (some (.ref 6)) 1 50 (St (wr false false w) os 48) (Tl0 ⟨70, 12, 70, 24⟩ 58 (wr false false w) os b) = some (.next, S20T (wr false false w) os, cdB b, ⟨71, 0, 71, 13⟩) := by
  kernel_rfl
end Mine
end
section
open PySem PySem.W PyProof.Rows
set_option maxHeartbeats 0
namespace Mine
theorem it0f (w : World) (os : OsState) (k1 k2 : Result → Sem Fin) (l1 l2 : List Value) (c1 c2 : Code) (p1 p2 q : Pos) :
  qGo qTb pw (w.withFollow "special-get-raises" false) 11 (some (.ref 6)) 1 120 (St (w.withFollow "special-get-raises" false) os 0) (Tl ⟨70, 42, 70, 62⟩ k1 k2 l1 l2 c1 c2 p1 p2 q) = some (St (w.withFollow "special-get-raises" false) os 1, Tl ⟨70, 12, 70, 24⟩ k1 k2 l1 l2 c1 c2 p1 p2 q) := by kernel_rfl
theorem it0t (w : World) (os : OsState) (k1 k2 : Result → Sem Fin) (l1 l2 : List Value) (c1 c2 : Code) (p1 p2 q : Pos) :
  qGo qTb pw (w.withFollow "special-get-raises" true) 11 (some (.ref 6)) 1 120 (St (w.withFollow "special-get-raises" true) os 0) (Tl ⟨70, 42, 70, 62⟩ k1 k2 l1 l2 c1 c2 p1 p2 q) = some (St (w.withFollow "special-get-raises" true) os 1, Tl ⟨70, 12, 70, 24⟩ k1 k2 l1 l2 c1 c2 p1 p2 q) := by kernel_rfl
theorem it1f (w : World) (os : OsState) (k1 k2 : Result → Sem Fin) (l1 l2 : List Value) (c1 c2 : Code) (p1 p2 q : Pos) :
  qGo qTb pw (w.withFollow "special-get-raises" false) 11 (some (.ref 6)) 1 120 (St (w.withFollow "special-get-raises" false) os 1) (Tl ⟨70, 12, 70, 24⟩ k1 k2 l1 l2 c1 c2 p1 p2 q) = some (St (w.withFollow "special-get-raises" false) os 2, Tl ⟨70, 12, 70, 24⟩ k1 k2 l1 l2 c1 c2 p1 p2 q) := by kernel_rfl
theorem it1t (w : World) (os : OsState) (k1 k2 : Result → Sem Fin) (l1 l2 : List Value) (c1 c2 : Code) (p1 p2 q : Pos) :
  qGo qTb pw (w.withFollow "special-get-raises" true) 11 (some (.ref 6)) 1 120 (St (w.withFollow "special-get-raises" true) os 1) (Tl ⟨70, 12, 70, 24⟩ k1 k2 l1 l2 c1 c2 p1 p2 q) = some (St (w.withFollow "special-get-raises" true) os 2, Tl ⟨70, 12, 70, 24⟩ k1 k2 l1 l2 c1 c2 p1 p2 q) := by kernel_rfl
theorem it2f (w : World) (os : OsState) (k1 k2 : Result → Sem Fin) (l1 l2 : List Value) (c1 c2 : Code) (p1 p2 q : Pos) :
  qGo qTb pw (w.withFollow "special-get-raises" false) 11 (some (.ref 6)) 1 120 (St (w.withFollow "special-get-raises" false) os 2) (Tl ⟨70, 12, 70, 24⟩ k1 k2 l1 l2 c1 c2 p1 p2 q) = some (St (w.withFollow "special-get-raises" false) os 3, Tl ⟨70, 12, 70, 24⟩ k1 k2 l1 l2 c1 c2 p1 p2 q) := by kernel_rfl
theorem it2t (w : World) (os : OsState) (k1 k2 : Result → Sem Fin) (l1 l2 : List Value) (c1 c2 : Code) (p1 p2 q : Pos) :
  qGo qTb pw (w.withFollow "special-get-raises" true) 11 (some (.ref 6)) 1 120 (St (w.withFollow "special-get-raises" true) os 2) (Tl ⟨70, 12, 70, 24⟩ k1 k2 l1 l2 c1 c2 p1 p2 q) = some (St (w.withFollow "special-get-raises" true) os 3, Tl ⟨70, 12, 70, 24⟩ k1 k2 l1 l2 c1 c2 p1 p2 q) := by kernel_rfl
theorem it3f (w : World) (os : OsState) (k1 k2 : Result → Sem Fin) (l1 l2 : List Value) (c1 c2 : Code) (p1 p2 q : Pos) :
  qGo qTb pw (w.withFollow "special-get-raises" false) 11 (some (.ref 6)) 1 120 (St (w.withFollow "special-get-raises" false) os 3) (Tl ⟨70, 12, 70, 24⟩ k1 k2 l1 l2 c1 c2 p1 p2 q) = some (St (w.withFollow "special-get-raises" false) os 4, Tl ⟨70, 12, 70, 24⟩ k1 k2 l1 l2 c1 c2 p1 p2 q) := by kernel_rfl
theorem it3t (w : World) (os : OsState) (k1 k2 : Result → Sem Fin) (l1 l2 : List Value) (c1 c2 : Code) (p1 p2 q : Pos) :
  qGo qTb pw (w.withFollow "special-get-raises" true) 11 (some (.ref 6)) 1 120 (St (w.withFollow "special-get-raises" true) os 3) (Tl ⟨70, 12, 70, 24⟩ k1 k2 l1 l2 c1 c2 p1 p2 q) = some (St (w.withFollow "special-get-raises" true) os 4, Tl ⟨70, 12, 70, 24⟩ k1 k2 l1 l2 c1 c2 p1 p2 q) := by kernel_rfl
theorem it4f (w : World) (os : OsState) (k1 k2 : Result → Sem Fin) (l1 l2 : List Value) (c1 c2 : Code) (p1 p2 q : Pos) :
  qGo qTb pw (w.withFollow "special-get-raises" false) 11 (some (.ref 6)) 1 120 (St (w.withFollow "special-get-raises" false) os 4) (Tl ⟨70, 12, 70, 24⟩ k1 k2 l1 l2 c1 c2 p1 p2 q) = some (St (w.withFollow "special-get-raises" false) os 5, Tl ⟨70, 12, 70, 24⟩ k1 k2 l1 l2 c1 c2 p1 p2 q) := by kernel_rfl
theorem it4t (w : World) (os : OsState) (k1 k2 : Result → Sem Fin) (l1 l2 : List Value) (c1 c2 : Code) (p1 p2 q : Pos) :
  qGo qTb pw (w.withFollow "special-get-raises" true) 11 (some (.ref 6)) 1 120 (St (w.withFollow "special-get-raises" true) os 4) (Tl ⟨70, 12, 70, 24⟩ k1 k2 l1 l2 c1 c2 p1 p2 q) = some (St (w.withFollow "special-get-raises" true) os 5, Tl ⟨70, 12, 70, 24⟩ k1 k2 l1 l2 c1 c2 p1 p2 q) := by kernel_rfl
theorem it5f (w : World) (os : OsState) (k1 k2 : Result → Sem Fin) (l1 l2 : List Value) (c1 c2 : Code) (p1 p2 q : Pos) :
  qGo qTb pw (w.withFollow "special-get-raises" false) 11 (some (.ref 6)) 1 120 (St (w.withFollow "special-get-raises" false) os 5) (Tl ⟨70, 12, 70, 24⟩ k1 k2 l1 l2 c1 c2 p1 p2 q) = some (St (w.withFollow "special-get-raises" false) os 6, Tl ⟨70, 12, 70, 24⟩ k1 k2 l1 l2 c1 c2 p1 p2 q) := by kernel_rfl
theorem it5t (w : World) (os : OsState) (k1 k2 : Result → Sem Fin) (l1 l2 : List Value) (c1 c2 : Code) (p1 p2 q : Pos) :
  qGo qTb pw (w.withFollow "special-get-raises" true) 11 (some (.ref 6)) 1 120 (St (w.withFollow "special-get-raises" true) os 5) (Tl ⟨70, 12, 70, 24⟩ k1 k2 l1 l2 c1 c2 p1 p2 q) = some (St (w.withFollow "special-get-raises" true) os 6, Tl ⟨70, 12, 70, 24⟩ k1 k2 l1 l2 c1 c2 p1 p2 q) := by kernel_rfl
theorem it6f (w : World) (os : OsState) (k1 k2 : Result → Sem Fin) (l1 l2 : List Value) (c1 c2 : Code) (p1 p2 q : Pos) :
  qGo qTb pw (w.withFollow "special-get-raises" false) 11 (some (.ref 6)) 1 120 (St (w.withFollow "special-get-raises" false) os 6) (Tl ⟨70, 12, 70, 24⟩ k1 k2 l1 l2 c1 c2 p1 p2 q) = some (St (w.withFollow "special-get-raises" false) os 7, Tl ⟨70, 12, 70, 24⟩ k1 k2 l1 l2 c1 c2 p1 p2 q) := by kernel_rfl
theorem it6t (w : World) (os : OsState) (k1 k2 : Result → Sem Fin) (l1 l2 : List Value) (c1 c2 : Code) (p1 p2 q : Pos) :
  qGo qTb pw (w.withFollow "special-get-raises" true) 11 (some (.ref 6)) 1 120 (St (w.withFollow "special-get-raises" true) os 6) (Tl ⟨70, 12, 70, 24⟩ k1 k2 l1 l2 c1 c2 p1 p2 q) = some (St (w.withFollow "special-get-raises" true) os 7, Tl ⟨70, 12, 70, 24⟩ k1 k2 l1 l2 c1 c2 p1 p2 q) := by kernel_rfl
theorem it7f (w : World) (os : OsState) (k1 k2 : Result → Sem Fin) (l1 l2 : List Value) (c1 c2 : Code) (p1 p2 q : Pos) :
  qGo qTb pw (w.withFollow "special-get-raises" false) 11 (some (.ref 6)) 1 120 (St (w.withFollow "special-get-raises" false) os 7) (Tl ⟨70, 12, 70, 24⟩ k1 k2 l1 l2 c1 c2 p1 p2 q) = some (St (w.withFollow "special-get-raises" false) os 8, Tl ⟨70, 12, 70, 24⟩ k1 k2 l1 l2 c1 c2 p1 p2 q) := by kernel_rfl
theorem it7t (w : World) (os : OsState) (k1 k2 : Result → Sem Fin) (l1 l2 : List Value) (c1 c2 : Code) (p1 p2 q : Pos) :
  qGo qTb pw (w.withFollow "special-get-raises" true) 11 (some (.ref 6)) 1 120 (St (w.withFollow "special-get-raises" true) os 7) (Tl ⟨70, 12, 70, 24⟩ k1 k2 l1 l2 c1 c2 p1 p2 q) = some (St (w.withFollow "special-get-raises" true) os 8, Tl ⟨70, 12, 70, 24⟩ k1 k2 l1 l2 c1 c2 p1 p2 q) := by kernel_rfl
theorem it8f (w : World) (os : OsState) (k1 k2 : Result → Sem Fin) (l1 l2 : List Value) (c1 c2 : Code) (p1 p2 q : Pos) :
  qGo qTb pw (w.withFollow "special-get-raises" false) 11 (some (.ref 6)) 1 120 (St (w.withFollow "special-get-raises" false) os 8) (Tl ⟨70, 12, 70, 24⟩ k1 k2 l1 l2 c1 c2 p1 p2 q) = some (St (w.withFollow "special-get-raises" false) os 9, Tl ⟨70, 12, 70, 24⟩ k1 k2 l1 l2 c1 c2 p1 p2 q) := by kernel_rfl
theorem it8t (w : World) (os : OsState) (k1 k2 : Result → Sem Fin) (l1 l2 : List Value) (c1 c2 : Code) (p1 p2 q : Pos) :
  qGo qTb pw (w.withFollow "special-get-raises" true) 11 (some (.ref 6)) 1 120 (St (w.withFollow "special-get-raises" true) os 8) (Tl ⟨70, 12, 70, 24⟩ k1 k2 l1 l2 c1 c2 p1 p2 q) = some (St (w.withFollow "special-get-raises" true) os 9, Tl ⟨70, 12, 70, 24⟩ k1 k2 l1 l2 c1 c2 p1 p2 q) := by kernel_rfl
theorem it9f (w : World) (os : OsState) (k1 k2 : Result → Sem Fin) (l1 l2 : List Value) (c1 c2 : Code) (p1 p2 q : Pos) :
  qGo qTb pw (w.withFollow "special-get-raises" false) 11 (some (.ref 6)) 1 120 (St (w.withFollow "special-get-raises" false) os 9) (Tl ⟨70, 12, 70, 24⟩ k1 k2 l1 l2 c1 c2 p1 p2 q) = some (St (w.withFollow "special-get-raises" false) os 10, Tl ⟨70, 12, 70, 24⟩ k1 k2 l1 l2 c1 c2 p1 p2 q) := by kernel_rfl
theorem it9t (w : World) (os : OsState) (k1 k2 : Result → Sem Fin) (l1 l2 : List Value) (c1 c2 : Code) (p1 p2 q : Pos) :
  qGo qTb pw (w.withFollow "special-get-raises" true) 11 (some (.ref 6)) 1 120 (St (w.withFollow "special-get-raises" true) os 9) (Tl ⟨70, 12, 70, 24⟩ k1 k2 l1 l2 c1 c2 p1 p2 q) = some (St (w.withFollow "special-get-raises" true) os 10, Tl ⟨70, 12, 70, 24⟩ k1 k2 l1 l2 c1 c2 p1 p2 q) := by kernel_rfl
theorem it10f (w : World) (os : OsState) (k1 k2 : Result → Sem Fin) (l1 l2 : List Value) (c1 c2 : Code) (p1 p2 q : Pos) :
  qGo qTb pw (w.withFollow "special-get-raises" false) 11 (some (.ref 6)) 1 120 (St (w.withFollow "special-get-raises" false) os 10) (Tl ⟨70, 12, 70, 24⟩ k1 k2 l1 l2 c1 c2 p1 p2 q) = some (St (w.withFollow "special-get-raises" false) os 11, Tl ⟨70, 12, 70, 24⟩ k1 k2 l1 l2 c1 c2 p1 p2 q) := by kernel_rfl
theorem it10t (w : World) (os : OsState) (k1 k2 : Result → Sem Fin) (l1 l2 : List Value) (c1 c2 : Code) (p1 p2 q : Pos) :
  qGo qTb pw (w.withFollow "special-get-raises" true) 11 (some (.ref 6)) 1 120 (St (w.withFollow "special-get-raises" true) os 10) (Tl ⟨70, 12, 70, 24⟩ k1 k2 l1 l2 c1 c2 p1 p2 q) = some (St (w.withFollow "special-get-raises" true) os 11, Tl ⟨70, 12, 70, 24⟩ k1 k2 l1 l2 c1 c2 p1 p2 q) := by kernel_rfl
theorem it11f (w : World) (os : OsState) (k1 k2 : Result → Sem Fin) (l1 l2 : List Value) (c1 c2 : Code) (p1 p2 q : Pos) :
  qGo qTb pw (w.withFollow "special-get-raises" false) 11 (some (.ref 6)) 1 120 (St (w.withFollow "special-get-raises" false) os 11) (Tl ⟨70, 12, 70, 24⟩ k1 k2 l1 l2 c1 c2 p1 p2 q) = some (St (w.withFollow "special-get-raises" false) os 12, Tl ⟨70, 12, 70, 24⟩ k1 k2 l1 l2 c1 c2 p1 p2 q) := by kernel_rfl
theorem it11t (w : World) (os : OsState) (k1 k2 : Result → Sem Fin) (l1 l2 : List Value) (c1 c2 : Code) (p1 p2 q : Pos) :
  qGo qTb pw (w.withFollow "special-get-raises" true) 11 (some (.ref 6)) 1 120 (St (w.withFollow "special-get-raises" true) os 11) (Tl ⟨70, 12, 70, 24⟩ k1 k2 l1 l2 c1 c2 p1 p2 q) = some (St (w.withFollow "special-get-raises" true) os 12, Tl ⟨70, 12, 70, 24⟩ k1 k2 l1 l2 c1 c2 p1 p2 q) := by kernel_rfl
theorem it12f (w : World) (os : OsState) (k1 k2 : Result → Sem Fin) (l1 l2 : List Value) (c1 c2 : Code) (p1 p2 q : Pos) :
  qGo qTb pw (w.withFollow "special-get-raises" false) 11 (some (.ref 6)) 1 120 (St (w.withFollow "special-get-raises" false) os 12) (Tl ⟨70, 12, 70, 24⟩ k1 k2 l1 l2 c1 c2 p1 p2 q) = some (St (w.withFollow "special-get-raises" false) os 13, Tl ⟨70, 12, 70, 24⟩ k1 k2 l1 l2 c1 c2 p1 p2 q) := by kernel_rfl
theorem it12t (w : World) (os : OsState) (k1 k2 : Result → Sem Fin) (l1 l2 : List Value) (c1 c2 : Code) (p1 p2 q : Pos) :
  qGo qTb pw (w.withFollow "special-get-raises" true) 11 (some (.ref 6)) 1 120 (St (w.withFollow "special-get-raises" true) os 12) (Tl ⟨70, 12, 70, 24⟩ k1 k2 l1 l2 c1 c2 p1 p2 q) = some (St (w.withFollow "special-get-raises" true) os 13, Tl ⟨70, 12, 70, 24⟩ k1 k2 l1 l2 c1 c2 p1 p2 q) := by kernel_rfl
theorem it13f (w : World) (os : OsState) (k1 k2 : Result → Sem Fin) (l1 l2 : List Value) (c1 c2 : Code) (p1 p2 q : Pos) :
  qGo qTb pw (w.withFollow "special-get-raises" false) 11 (some (.ref 6)) 1 120 (St (w.withFollow "special-get-raises" false) os 13) (Tl ⟨70, 12, 70, 24⟩ k1 k2 l1 l2 c1 c2 p1 p2 q) = some (St (w.withFollow "special-get-raises" false) os 14, Tl ⟨70, 12, 70, 24⟩ k1 k2 l1 l2 c1 c2 p1 p2 q) := by kernel_rfl
theorem it13t (w : World) (os : OsState) (k1 k2 : Result → Sem Fin) (l1 l2 : List Value) (c1 c2 : Code) (p1 p2 q : Pos) :
  qGo qTb pw (w.withFollow "special-get-raises" true) 11 (some (.ref 6)) 1 120 (St (w.withFollow "special-get-raises" true) os 13) (Tl ⟨70, 12, 70, 24⟩ k1 k2 l1 l2 c1 c2 p1 p2 q) = some (St (w.withFollow "special-get-raises" true) os 14, Tl ⟨70, 12, 70, 24⟩ k1 k2 l1 l2 c1 c2 p1 p2 q) := by kernel_rfl
theorem it14f (w : World) (os : OsState) (k1 k2 : Result → Sem Fin) (l1 l2 : List Value) (c1 c2 : Code) (p1 p2 q : Pos) :
  qGo qTb pw (w.withFollow "special-get-raises" false) 11 (some (.ref 6)) 1 120 (St (w.withFollow "special-get-raises" false) os 14) (Tl ⟨70, 12, 70, 24⟩ k1 k2 l1 l2 c1 c2 p1 p2 q) = some (St (w.withFollow "special-get-raises" false) os 15, Tl ⟨70, 12, 70, 24⟩ k1 k2 l1 l2 c1 c2 p1 p2 q) := by kernel_rfl
theorem it14t (w : World) (os : OsState) (k1 k2 : Result → Sem Fin) (l1 l2 : List Value) (c1 c2 : Code) (p1 p2 q : Pos) :
  qGo qTb pw (w.withFollow "special-get-raises" true) 11 (some (.ref 6)) 1 120 (St (w.withFollow "special-get-raises" true) os 14) (Tl ⟨70, 12, 70, 24⟩ k1 k2 l1 l2 c1 c2 p1 p2 q) = some (St (w.withFollow "special-get-raises" true) os 15, Tl ⟨70, 12, 70, 24⟩ k1 k2 l1 l2 c1 c2 p1 p2 q) := by kernel_rfl
theorem it15f (w : World) (os : OsState) (k1 k2 : Result → Sem Fin) (l1 l2 : List Value) (c1 c2 : Code) (p1 p2 q : Pos) :
  qGo qTb pw (w.withFollow "special-get-raises" false) 11 (some (.ref 6)) 1 120 (St (w.withFollow "special-get-raises" false) os 15) (Tl ⟨70, 12, 70, 24⟩ k1 k2 l1 l2 c1 c2 p1 p2 q) = some (St (w.withFollow "special-get-raises" false) os 16, Tl ⟨70, 12, 70, 24⟩ k1 k2 l1 l2 c1 c2 p1 p2 q) := by kernel_rfl
theorem it15t (w : World) (os : OsState) (k1 k2 : Result → Sem Fin) (l1 l2 : List Value) (c1 c2 : Code) (p1 p2 q : Pos) :
  qGo qTb pw (w.withFollow "special-get-raises" true) 11 (some (.ref 6)) 1 120 (St (w.withFollow "special-get-raises" true) os 15) (Tl ⟨70, 12, 70, 24⟩ k1 k2 l1 l2 c1 c2 p1 p2 q) = some (St (w.withFollow "special-get-raises" true) os 16, Tl ⟨70, 12, 70, 24⟩ k1 k2 l1 l2 c1 c2 p1 p2 q) := by kernel_rfl
theorem it16f (w : World) (os : OsState) (k1 k2 : Result → Sem Fin) (l1 l2 : List Value) (c1 c2 : Code) (p1 p2 q : Pos) :
  qGo qTb pw (w.withFollow "special-get-raises" false) 11 (some (.ref 6)) 1 120 (St (w.withFollow "special-get-raises" false) os 16) (Tl ⟨70, 12, 70, 24⟩ k1 k2 l1 l2 c1 c2 p1 p2 q) = some (St (w.withFollow "special-get-raises" false) os 17, Tl ⟨70, 12, 70, 24⟩ k1 k2 l1 l2 c1 c2 p1 p2 q) := by kernel_rfl
theorem it16t (w : World) (os : OsState) (k1 k2 : Result → Sem Fin) (l1 l2 : List Value) (c1 c2 : Code) (p1 p2 q : Pos) :
  qGo qTb pw (w.withFollow "special-get-raises" true) 11 (some (.ref 6)) 1 120 (St (w.withFollow "special-get-raises" true) os 16) (Tl ⟨70, 12, 70, 24⟩ k1 k2 l1 l2 c1 c2 p1 p2 q) = some (St (w.withFollow "special-get-raises" true) os 17, Tl ⟨70, 12, 70, 24⟩ k1 k2 l1 l2 c1 c2 p1 p2 q) := by kernel_rfl
theorem it17f (w : World) (os : OsState) (k1 k2 : Result → Sem Fin) (l1 l2 : List Value) (c1 c2 : Code) (p1 p2 q : Pos) :
  qGo qTb pw (w.withFollow "special-get-raises" false) 11 (some (.ref 6)) 1 120 (St (w.withFollow "special-get-raises" false) os 17) (Tl ⟨70, 12, 70, 24⟩ k1 k2 l1 l2 c1 c2 p1 p2 q) = some (St (w.withFollow "special-get-raises" false) os 18, Tl ⟨70, 12, 70, 24⟩ k1 k2 l1 l2 c1 c2 p1 p2 q) := by kernel_rfl
theorem it17t (w : World) (os : OsState) (k1 k2 : Result → Sem Fin) (l1 l2 : List Value) (c1 c2 : Code) (p1 p2 q : Pos) :
  qGo qTb pw (w.withFollow "special-get-raises" true) 11 (some (.ref 6)) 1 120 (St (w.withFollow "special-get-raises" true) os 17) (Tl ⟨70, 12, 70, 24⟩ k1 k2 l1 l2 c1 c2 p1 p2 q) = some (St (w.withFollow "special-get-raises" true) os 18, Tl ⟨70, 12, 70, 24⟩ k1 k2 l1 l2 c1 c2 p1 p2 q) := by kernel_rfl
theorem it18f (w : World) (os : OsState) (k1 k2 : Result → Sem Fin) (l1 l2 : List Value) (c1 c2 : Code) (p1 p2 q : Pos) :
  qGo qTb pw (w.withFollow "special-get-raises" false) 11 (some (.ref 6)) 1 120 (St (w.withFollow "special-get-raises" false) os 18) (Tl ⟨70, 12, 70, 24⟩ k1 k2 l1 l2 c1 c2 p1 p2 q) = some (St (w.withFollow "special-get-raises" false) os 19, Tl ⟨70, 12, 70, 24⟩ k1 k2 l1 l2 c1 c2 p1 p2 q) := by kernel_rfl
theorem it18t (w : World) (os : OsState) (k1 k2 : Result → Sem Fin) (l1 l2 : List Value) (c1 c2 : Code) (p1 p2 q : Pos) :
  qGo qTb pw (w.withFollow "special-get-raises" true) 11 (some (.ref 6)) 1 120 (St (w.withFollow "special-get-raises" true) os 18) (Tl ⟨70, 12, 70, 24⟩ k1 k2 l1 l2 c1 c2 p1 p2 q) = some (St (w.withFollow "special-get-raises" true) os 19, Tl ⟨70, 12, 70, 24⟩ k1 k2 l1 l2 c1 c2 p1 p2 q) := by kernel_rfl
theorem it19f (w : World) (os : OsState) (k1 k2 : Result → Sem Fin) (l1 l2 : List Value) (c1 c2 : Code) (p1 p2 q : Pos) :
  qGo qTb pw (w.withFollow "special-get-raises" false) 11 (some (.ref 6)) 1 120 (St (w.withFollow "special-get-raises" false) os 19) (Tl ⟨70, 12, 70, 24⟩ k1 k2 l1 l2 c1 c2 p1 p2 q) = some (St (w.withFollow "special-get-raises" false) os 20, Tl ⟨70, 12, 70, 24⟩ k1 k2 l1 l2 c1 c2 p1 p2 q) := by kernel_rfl
theorem it19t (w : World) (os : OsState) (k1 k2 : Result → Sem Fin) (l1 l2 : List Value) (c1 c2 : Code) (p1 p2 q : Pos) :
  qGo qTb pw (w.withFollow "special-get-raises" true) 11 (some (.ref 6)) 1 120 (St (w.withFollow "special-get-raises" true) os 19) (Tl ⟨70, 12, 70, 24⟩ k1 k2 l1 l2 c1 c2 p1 p2 q) = some (St (w.withFollow "special-get-raises" true) os 20, Tl ⟨70, 12, 70, 24⟩ k1 k2 l1 l2 c1 c2 p1 p2 q) := by kernel_rfl
theorem it20f (w : World) (os : OsState) (k1 k2 : Result → Sem Fin) (l1 l2 : List Value) (c1 c2 : Code) (p1 p2 q : Pos) :
  qGo qTb pw (w.withFollow "special-get-raises" false) 11 (some (.ref 6)) 1 120 (St (w.withFollow "special-get-raises" false) os 20) (Tl ⟨70, 12, 70, 24⟩ k1 k2 l1 l2 c1 c2 p1 p2 q) = some (St (w.withFollow "special-get-raises" false) os 21, Tl ⟨70, 12, 70, 24⟩ k1 k2 l1 l2 c1 c2 p1 p2 q) := by kernel_rfl
theorem it20t (w : World) (os : OsState) (k1 k2 : Result → Sem Fin) (l1 l2 : List Value) (c1 c2 : Code) (p1 p2 q : Pos) :
  qGo qTb pw (w.withFollow "special-get-raises" true) 11 (some (.ref 6)) 1 120 (St (w.withFollow "special-get-raises" true) os 20) (Tl ⟨70, 12, 70, 24⟩ k1 k2 l1 l2 c1 c2 p1 p2 q) = some (St (w.withFollow "special-get-raises" true) os 21, Tl ⟨70, 12, 70, 24⟩ k1 k2 l1 l2 c1 c2 p1 p2 q) := by kernel_rfl
theorem it21f (w : World) (os : OsState) (k1 k2 : Result → Sem Fin) (l1 l2 : List Value) (c1 c2 : Code) (p1 p2 q : Pos) :
  qGo qTb pw (w.withFollow "special-get-raises" false) 11 (some (.ref 6)) 1 120 (St (w.withFollow "special-get-raises" false) os 21) (Tl ⟨70, 12, 70, 24⟩ k1 k2 l1 l2 c1 c2 p1 p2 q) = some (St (w.withFollow "special-get-raises" false) os 22, Tl ⟨70, 12, 70, 24⟩ k1 k2 l1 l2 c1 c2 p1 p2 q) := by kernel_rfl
theorem it21t (w : World) (os : OsState) (k1 k2 : Result → Sem Fin) (l1 l2 : List Value) (c1 c2 : Code) (p1 p2 q : Pos) :
  qGo qTb pw (w.withFollow "special-get-raises" true) 11 (some (.ref 6)) 1 120 (St (w.withFollow "special-get-raises" true) os 21) (Tl ⟨70, 12, 70, 24⟩ k1 k2 l1 l2 c1 c2 p1 p2 q) = some (St (w.withFollow "special-get-raises" true) os 22, Tl ⟨70, 12, 70, 24⟩ k1 k2 l1 l2 c1 c2 p1 p2 q) := by kernel_rfl
theorem it22f (w : World) (os : OsState) (k1 k2 : Result → Sem Fin) (l1 l2 : List Value) (c1 c2 : Code) (p1 p2 q : Pos) :
  qGo qTb pw (w.withFollow "special-get-raises" false) 11 (some (.ref 6)) 1 120 (St (w.withFollow "special-get-raises" false) os 22) (Tl ⟨70, 12, 70, 24⟩ k1 k2 l1 l2 c1 c2 p1 p2 q) = some (St (w.withFollow "special-get-raises" false) os 23, Tl ⟨70, 12, 70, 24⟩ k1 k2 l1 l2 c1 c2 p1 p2 q) := by kernel_rfl
theorem it22t (w : World) (os : OsState) (k1 k2 : Result → Sem Fin) (l1 l2 : List Value) (c1 c2 : Code) (p1 p2 q : Pos) :
  qGo qTb pw (w.withFollow "special-get-raises" true) 11 (some (.ref 6)) 1 120 (St (w.withFollow "special-get-raises" true) os 22) (Tl ⟨70, 12, 70, 24⟩ k1 k2 l1 l2 c1 c2 p1 p2 q) = some (St (w.withFollow "special-get-raises" true) os 23, Tl ⟨70, 12, 70, 24⟩ k1 k2 l1 l2 c1 c2 p1 p2 q) := by kernel_rfl
theorem it23f (w : World) (os : OsState) (k1 k2 : Result → Sem Fin) (l1 l2 : List Value) (c1 c2 : Code) (p1 p2 q : Pos) :
  qGo qTb pw (w.withFollow "special-get-raises" false) 11 (some (.ref 6)) 1 120 (St (w.withFollow "special-get-raises" false) os 23) (Tl ⟨70, 12, 70, 24⟩ k1 k2 l1 l2 c1 c2 p1 p2 q) = some (St (w.withFollow "special-get-raises" false) os 24, Tl ⟨70, 12, 70, 24⟩ k1 k2 l1 l2 c1 c2 p1 p2 q) := by kernel_rfl
theorem it23t (w : World) (os : OsState) (k1 k2 : Result → Sem Fin) (l1 l2 : List Value) (c1 c2 : Code) (p1 p2 q : Pos) :
  qGo qTb pw (w.withFollow "special-get-raises" true) 11 (some (.ref 6)) 1 120 (St (w.withFollow "special-get-raises" true) os 23) (Tl ⟨70, 12, 70, 24⟩ k1 k2 l1 l2 c1 c2 p1 p2 q) = some (St (w.withFollow "special-get-raises" true) os 24, Tl ⟨70, 12, 70, 24⟩ k1 k2 l1 l2 c1 c2 p1 p2 q) := by kernel_rfl
theorem it24f (w : World) (os : OsState) (k1 k2 : Result → Sem Fin) (l1 l2 : List Value) (c1 c2 : Code) (p1 p2 q : Pos) :
  qGo qTb pw (w.withFollow "special-get-raises" false) 11 (some (.ref 6)) 1 120 (St (w.withFollow "special-get-raises" false) os 24) (Tl ⟨70, 12, 70, 24⟩ k1 k2 l1 l2 c1 c2 p1 p2 q) = some (St (w.withFollow "special-get-raises" false) os 25, Tl ⟨70, 12, 70, 24⟩ k1 k2 l1 l2 c1 c2 p1 p2 q) := by kernel_rfl
theorem it24t (w : World) (os : OsState) (k1 k2 : Result → Sem Fin) (l1 l2 : List Value) (c1 c2 : Code) (p1 p2 q : Pos) :
  qGo qTb pw (w.withFollow "special-get-raises" true) 11 (some (.ref 6)) 1 120 (St (w.withFollow "special-get-raises" true) os 24) (Tl ⟨70, 12, 70, 24⟩ k1 k2 l1 l2 c1 c2 p1 p2 q) = some (St (w.withFollow "special-get-raises" true) os 25, Tl ⟨70, 12, 70, 24⟩ k1 k2 l1 l2 c1 c2 p1 p2 q) := by kernel_rfl
theorem it25f (w : World) (os : OsState) (k1 k2 : Result → Sem Fin) (l1 l2 : List Value) (c1 c2 : Code) (p1 p2 q : Pos) :
  qGo qTb pw (w.withFollow "special-get-raises" false) 11 (some (.ref 6)) 1 120 (St (w.withFollow "special-get-raises" false) os 25) (Tl ⟨70, 12, 70, 24⟩ k1 k2 l1 l2 c1 c2 p1 p2 q) = some (St (w.withFollow "special-get-raises" false) os 26, Tl ⟨70, 12, 70, 24⟩ k1 k2 l1 l2 c1 c2 p1 p2 q) := by kernel_rfl
theorem it25t (w : World) (os : OsState) (k1 k2 : Result → Sem Fin) (l1 l2 : List Value) (c1 c2 : Code) (p1 p2 q : Pos) :
  qGo qTb pw (w.withFollow "special-get-raises" true) 11 (some (.ref 6)) 1 120 (St (w.withFollow "special-get-raises" true) os 25) (Tl ⟨70, 12, 70, 24⟩ k1 k2 l1 l2 c1 c2 p1 p2 q) = some (St (w.withFollow "special-get-raises" true) os 26, Tl ⟨70, 12, 70, 24⟩ k1 k2 l1 l2 c1 c2 p1 p2 q) := by kernel_rfl
theorem it26f (w : World) (os : OsState) (k1 k2 : Result → Sem Fin) (l1 l2 : List Value) (c1 c2 : Code) (p1 p2 q : Pos) :
  qGo qTb pw (w.withFollow "special-get-raises" false) 11 (some (.ref 6)) 1 120 (St (w.withFollow "special-get-raises" false) os 26) (Tl ⟨70, 12, 70, 24⟩ k1 k2 l1 l2 c1 c2 p1 p2 q) = some (St (w.withFollow "special-get-raises" false) os 27, Tl ⟨70, 12, 70, 24⟩ k1 k2 l1 l2 c1 c2 p1 p2 q) := by kernel_rfl
theorem it26t (w : World) (os : OsState) (k1 k2 : Result → Sem Fin) (l1 l2 : List Value) (c1 c2 : Code) (p1 p2 q : Pos) :
  qGo qTb pw (w.withFollow "special-get-raises" true) 11 (some (.ref 6)) 1 120 (St (w.withFollow "special-get-raises" true) os 26) (Tl ⟨70, 12, 70, 24⟩ k1 k2 l1 l2 c1 c2 p1 p2 q) = some (St (w.withFollow "special-get-raises" true) os 27, Tl ⟨70, 12, 70, 24⟩ k1 k2 l1 l2 c1 c2 p1 p2 q) := by kernel_rfl
theorem it27f (w : World) (os : OsState) (k1 k2 : Result → Sem Fin) (l1 l2 : List Value) (c1 c2 : Code) (p1 p2 q : Pos) :
  qGo qTb pw (w.withFollow "special-get-raises" false) 11 (some (.ref 6)) 1 120 (St (w.withFollow "special-get-raises" false) os 27) (Tl ⟨70, 12, 70, 24⟩ k1 k2 l1 l2 c1 c2 p1 p2 q) = some (St (w.withFollow "special-get-raises" false) os 28, Tl ⟨70, 12, 70, 24⟩ k1 k2 l1 l2 c1 c2 p1 p2 q) := by kernel_rfl
theorem it27t (w : World) (os : OsState) (k1 k2 : Result → Sem Fin) (l1 l2 : List Value) (c1 c2 : Code) (p1 p2 q : Pos) :
  qGo qTb pw (w.withFollow "special-get-raises" true) 11 (some (.ref 6)) 1 120 (St (w.withFollow "special-get-raises" true) os 27) (Tl ⟨70, 12, 70, 24⟩ k1 k2 l1 l2 c1 c2 p1 p2 q) = some (St (w.withFollow "special-get-raises" true) os 28, Tl ⟨70, 12, 70, 24⟩ k1 k2 l1 l2 c1 c2 p1 p2 q) := by kernel_rfl
theorem it28f (w : World) (os : OsState) (k1 k2 : Result → Sem Fin) (l1 l2 : List Value) (c1 c2 : Code) (p1 p2 q : Pos) :
  qGo qTb pw (w.withFollow "special-get-raises" false) 11 (some (.ref 6)) 1 120 (St (w.withFollow "special-get-raises" false) os 28) (Tl ⟨70, 12, 70, 24⟩ k1 k2 l1 l2 c1 c2 p1 p2 q) = some (St (w.withFollow "special-get-raises" false) os 29, Tl ⟨70, 12, 70, 24⟩ k1 k2 l1 l2 c1 c2 p1 p2 q) := by kernel_rfl
theorem it28t (w : World) (os : OsState) (k1 k2 : Result → Sem Fin) (l1 l2 : List Value) (c1 c2 : Code) (p1 p2 q : Pos) :
  qGo qTb pw (w.withFollow "special-get-raises" true) 11 (some (.ref 6)) 1 120 (St (w.withFollow "special-get-raises" true) os 28) (Tl ⟨70, 12, 70, 24⟩ k1 k2 l1 l2 c1 c2 p1 p2 q) = some (St (w.withFollow "special-get-raises" true) os 29, Tl ⟨70, 12, 70, 24⟩ k1 k2 l1 l2 c1 c2 p1 p2 q) := by kernel_rfl
theorem it29f (w : World) (os : OsState) (k1 k2 : Result → Sem Fin) (l1 l2 : List Value) (c1 c2 : Code) (p1 p2 q : Pos) :
  qGo qTb pw (w.withFollow "special-get-raises" false) 11 (some (.ref 6)) 1 120 (St (w.withFollow "special-get-raises" false) os 29) (Tl ⟨70, 12, 70, 24⟩ k1 k2 l1 l2 c1 c2 p1 p2 q) = some (St (w.withFollow "special-get-raises" false) os 30, Tl ⟨70, 12, 70, 24⟩ k1 k2 l1 l2 c1 c2 p1 p2 q) := by kernel_rfl
theorem it29t (w : World) (os : OsState) (k1 k2 : Result → Sem Fin) (l1 l2 : List Value) (c1 c2 : Code) (p1 p2 q : Pos) :
  qGo qTb pw (w.withFollow "special-get-raises" true) 11 (some (.ref 6)) 1 120 (St (w.withFollow "special-get-raises" true) os 29) (Tl ⟨70, 12, 70, 24⟩ k1 k2 l1 l2 c1 c2 p1 p2 q) = some (St (w.withFollow "special-get-raises" true) os 30, Tl ⟨70, 12, 70, 24⟩ k1 k2 l1 l2 c1 c2 p1 p2 q) := by kernel_rfl
theorem it30f (w : World) (os : OsState) (k1 k2 : Result → Sem Fin) (l1 l2 : List Value) (c1 c2 : Code) (p1 p2 q : Pos) :
  qGo qTb pw (w.withFollow "special-get-raises" false) 11 (some (.ref 6)) 1 120 (St (w.withFollow "special-get-raises" false) os 30) (Tl ⟨70, 12, 70, 24⟩ k1 k2 l1 l2 c1 c2 p1 p2 q) = some (St (w.withFollow "special-get-raises" false) os 31, Tl ⟨70, 12, 70, 24⟩ k1 k2 l1 l2 c1 c2 p1 p2 q) := by kernel_rfl
theorem it30t (w : World) (os : OsState) (k1 k2 : Result → Sem Fin) (l1 l2 : List Value) (c1 c2 : Code) (p1 p2 q : Pos) :
  qGo qTb pw (w.withFollow "special-get-raises" true) 11 (some (.ref 6)) 1 120 (St (w.withFollow "special-get-raises" true) os 30) (Tl ⟨70, 12, 70, 24⟩ k1 k2 l1 l2 c1 c2 p1 p2 q) = some (St (w.withFollow "special-get-raises" true) os 31, Tl ⟨70, 12, 70, 24⟩ k1 k2 l1 l2 c1 c2 p1 p2 q) := by kernel_rfl
theorem it31f (w : World) (os : OsState) (k1 k2 : Result → Sem Fin) (l1 l2 : List Value) (c1 c2 : Code) (p1 p2 q : Pos) :
  qGo qTb pw (w.withFollow "special-get-raises" false) 11 (some (.ref 6)) 1 120 (St (w.withFollow "special-get-raises" false) os 31) (Tl ⟨70, 12, 70, 24⟩ k1 k2 l1 l2 c1 c2 p1 p2 q) = some (St (w.withFollow "special-get-raises" false) os 32, Tl ⟨70, 12, 70, 24⟩ k1 k2 l1 l2 c1 c2 p1 p2 q) := by kernel_rfl
theorem it31t (w : World) (os : OsState) (k1 k2 : Result → Sem Fin) (l1 l2 : List Value) (c1 c2 : Code) (p1 p2 q : Pos) :
  qGo qTb pw (w.withFollow "special-get-raises" true) 11 (some (.ref 6)) 1 120 (St (w.withFollow "special-get-raises" true) os 31) (Tl ⟨70, 12, 70, 24⟩ k1 k2 l1 l2 c1 c2 p1 p2 q) = some (St (w.withFollow "special-get-raises" true) os 32, Tl ⟨70, 12, 70, 24⟩ k1 k2 l1 l2 c1 c2 p1 p2 q) := by kernel_rfl
theorem it32f (w : World) (os : OsState) (k1 k2 : Result → Sem Fin) (l1 l2 : List Value) (c1 c2 : Code) (p1 p2 q : Pos) :
  qGo qTb pw (w.withFollow "special-get-raises" false) 11 (some (.ref 6)) 1 120 (St (w.withFollow "special-get-raises" false) os 32) (Tl ⟨70, 12, 70, 24⟩ k1 k2 l1 l2 c1 c2 p1 p2 q) = some (St (w.withFollow "special-get-raises" false) os 33, Tl ⟨70, 12, 70, 24⟩ k1 k2 l1 l2 c1 c2 p1 p2 q) := by kernel_rfl
theorem it32t (w : World) (os : OsState) (k1 k2 : Result → Sem Fin) (l1 l2 : List Value) (c1 c2 : Code) (p1 p2 q : Pos) :
  qGo qTb pw (w.withFollow "special-get-raises" true) 11 (some (.ref 6)) 1 120 (St (w.withFollow "special-get-raises" true) os 32) (Tl ⟨70, 12, 70, 24⟩ k1 k2 l1 l2 c1 c2 p1 p2 q) = some (St (w.withFollow "special-get-raises" true) os 33, Tl ⟨70, 12, 70, 24⟩ k1 k2 l1 l2 c1 c2 p1 p2 q) := by kernel_rfl
theorem it33f (w : World) (os : OsState) (k1 k2 : Result → Sem Fin) (l1 l2 : List Value) (c1 c2 : Code) (p1 p2 q : Pos) :
  qGo qTb pw (w.withFollow "special-get-raises" false) 11 (some (.ref 6)) 1 120 (St (w.withFollow "special-get-raises" false) os 33) (Tl ⟨70, 12, 70, 24⟩ k1 k2 l1 l2 c1 c2 p1 p2 q) = some (St (w.withFollow "special-get-raises" false) os 34, Tl ⟨70, 12, 70, 24⟩ k1 k2 l1 l2 c1 c2 p1 p2 q) := by kernel_rfl
theorem it33t (w : World) (os : OsState) (k1 k2 : Result → Sem Fin) (l1 l2 : List Value) (c1 c2 : Code) (p1 p2 q : Pos) :
  qGo qTb pw (w.withFollow "special-get-raises" true) 11 (some (.ref 6)) 1 120 (St (w.withFollow "special-get-raises" true) os 33) (Tl ⟨70, 12, 70, 24⟩ k1 k2 l1 l2 c1 c2 p1 p2 q) = some (St (w.withFollow "special-get-raises" true) os 34, Tl ⟨70, 12, 70, 24⟩ k1 k2 l1 l2 c1 c2 p1 p2 q) := by kernel_rfl
theorem it34f (w : World) (os : OsState) (k1 k2 : Result → Sem Fin) (l1 l2 : List Value) (c1 c2 : Code) (p1 p2 q : Pos) :
  qGo qTb pw (w.withFollow "special-get-raises" false) 11 (some (.ref 6)) 1 120 (St (w.withFollow "special-get-raises" false) os 34) (Tl ⟨70, 12, 70, 24⟩ k1 k2 l1 l2 c1 c2 p1 p2 q) = some (St (w.withFollow "special-get-raises" false) os 35, Tl ⟨70, 12, 70, 24⟩ k1 k2 l1 l2 c1 c2 p1 p2 q) := by kernel_rfl
theorem it34t (w : World) (os : OsState) (k1 k2 : Result → Sem Fin) (l1 l2 : List Value) (c1 c2 : Code) (p1 p2 q : Pos) :
  qGo qTb pw (w.withFollow "special-get-raises" true) 11 (some (.ref 6)) 1 120 (St (w.withFollow "special-get-raises" true) os 34) (Tl ⟨70, 12, 70, 24⟩ k1 k2 l1 l2 c1 c2 p1 p2 q) = some (St (w.withFollow "special-get-raises" true) os 35, Tl ⟨70, 12, 70, 24⟩ k1 k2 l1 l2 c1 c2 p1 p2 q) := by kernel_rfl
theorem it35f (w : World) (os : OsState) (k1 k2 : Result → Sem Fin) (l1 l2 : List Value) (c1 c2 : Code) (p1 p2 q : Pos) :
  qGo qTb pw (w.withFollow "special-get-raises" false) 11 (some (.ref 6)) 1 120 (St (w.withFollow "special-get-raises" false) os 35) (Tl ⟨70, 12, 70, 24⟩ k1 k2 l1 l2 c1 c2 p1 p2 q) = some (St (w.withFollow "special-get-raises" false) os 36, Tl ⟨70, 12, 70, 24⟩ k1 k2 l1 l2 c1 c2 p1 p2 q) := by kernel_rfl
theorem it35t (w : World) (os : OsState) (k1 k2 : Result → Sem Fin) (l1 l2 : List Value) (c1 c2 : Code) (p1 p2 q : Pos) :
  qGo qTb pw (w.withFollow "special-get-raises" true) 11 (some (.ref 6)) 1 120 (St (w.withFollow "special-get-raises" true) os 35) (Tl ⟨70, 12, 70, 24⟩ k1 k2 l1 l2 c1 c2 p1 p2 q) = some (St (w.withFollow "special-get-raises" true) os 36, Tl ⟨70, 12, 70, 24⟩ k1 k2 l1 l2 c1 c2 p1 p2 q) := by kernel_rfl
theorem it36f (w : World) (os : OsState) (k1 k2 : Result → Sem Fin) (l1 l2 : List Value) (c1 c2 : Code) (p1 p2 q : Pos) :
  qGo qTb pw (w.withFollow "special-get-raises" false) 11 (some (.ref 6)) 1 120 (St (w.withFollow "special-get-raises" false) os 36) (Tl ⟨70, 12, 70, 24⟩ k1 k2 l1 l2 c1 c2 p1 p2 q) = some (St (w.withFollow "special-get-raises" false) os 37, Tl ⟨70, 12, 70, 24⟩ k1 k2 l1 l2 c1 c2 p1 p2 q) := by kernel_rfl
theorem it36t (w : World) (os : OsState) (k1 k2 : Result → Sem Fin) (l1 l2 : List Value) (c1 c2 : Code) (p1 p2 q : Pos) :
  qGo qTb pw (w.withFollow "special-get-raises" true) 11 (some (.ref 6)) 1 120 (St (w.withFollow "special-get-raises" true) os 36) (Tl ⟨70, 12, 70, 24⟩ k1 k2 l1 l2 c1 c2 p1 p2 q) = some (St (w.withFollow "special-get-raises" true) os 37, Tl ⟨70, 12, 70, 24⟩ k1 k2 l1 l2 c1 c2 p1 p2 q) := by kernel_rfl
theorem it37f (w : World) (os : OsState) (k1 k2 : Result → Sem Fin) (l1 l2 : List Value) (c1 c2 : Code) (p1 p2 q : Pos) :
  qGo qTb pw (w.withFollow "special-get-raises" false) 11 (some (.ref 6)) 1 120 (St (w.withFollow "special-get-raises" false) os 37) (Tl ⟨70, 12, 70, 24⟩ k1 k2 l1 l2 c1 c2 p1 p2 q) = some (St (w.withFollow "special-get-raises" false) os 38, Tl ⟨70, 12, 70, 24⟩ k1 k2 l1 l2 c1 c2 p1 p2 q) := by kernel_rfl
theorem it37t (w : World) (os : OsState) (k1 k2 : Result → Sem Fin) (l1 l2 : List Value) (c1 c2 : Code) (p1 p2 q : Pos) :
  qGo qTb pw (w.withFollow "special-get-raises" true) 11 (some (.ref 6)) 1 120 (St (w.withFollow "special-get-raises" true) os 37) (Tl ⟨70, 12, 70, 24⟩ k1 k2 l1 l2 c1 c2 p1 p2 q) = some (St (w.withFollow "special-get-raises" true) os 38, Tl ⟨70, 12, 70, 24⟩ k1 k2 l1 l2 c1 c2 p1 p2 q) := by kernel_rfl
theorem it38f (w : World) (os : OsState) (k1 k2 : Result → Sem Fin) (l1 l2 : List Value) (c1 c2 : Code) (p1 p2 q : Pos) :
  qGo qTb pw (w.withFollow "special-get-raises" false) 11 (some (.ref 6)) 1 120 (St (w.withFollow "special-get-raises" false) os 38) (Tl ⟨70, 12, 70, 24⟩ k1 k2 l1 l2 c1 c2 p1 p2 q) = some (St (w.withFollow "special-get-raises" false) os 39, Tl ⟨70, 12, 70, 24⟩ k1 k2 l1 l2 c1 c2 p1 p2 q) := by kernel_rfl
theorem it38t (w : World) (os : OsState) (k1 k2 : Result → Sem Fin) (l1 l2 : List Value) (c1 c2 : Code) (p1 p2 q : Pos) :
  qGo qTb pw (w.withFollow "special-get-raises" true) 11 (some (.ref 6)) 1 120 (St (w.withFollow "special-get-raises" true) os 38) (Tl ⟨70, 12, 70, 24⟩ k1 k2 l1 l2 c1 c2 p1 p2 q) = some (St (w.withFollow "special-get-raises" true) os 39, Tl ⟨70, 12, 70, 24⟩ k1 k2 l1 l2 c1 c2 p1 p2 q) := by kernel_rfl
theorem it39f (w : World) (os : OsState) (k1 k2 : Result → Sem Fin) (l1 l2 : List Value) (c1 c2 : Code) (p1 p2 q : Pos) :
  qGo qTb pw (w.withFollow "special-get-raises" false) 11 (some (.ref 6)) 1 120 (St (w.withFollow "special-get-raises" false) os 39) (Tl ⟨70, 12, 70, 24⟩ k1 k2 l1 l2 c1 c2 p1 p2 q) = some (St (w.withFollow "special-get-raises" false) os 40, Tl ⟨70, 12, 70, 24⟩ k1 k2 l1 l2 c1 c2 p1 p2 q) := by kernel_rfl
theorem it39t (w : World) (os : OsState) (k1 k2 : Result → Sem Fin) (l1 l2 : List Value) (c1 c2 : Code) (p1 p2 q : Pos) :
  qGo qTb pw (w.withFollow "special-get-raises" true) 11 (some (.ref 6)) 1 120 (St (w.withFollow "special-get-raises" true) os 39) (Tl ⟨70, 12, 70, 24⟩ k1 k2 l1 l2 c1 c2 p1 p2 q) = some (St (w.withFollow "special-get-raises" true) os 40, Tl ⟨70, 12, 70, 24⟩ k1 k2 l1 l2 c1 c2 p1 p2 q) := by kernel_rfl
theorem it40f (w : World) (os : OsState) (k1 k2 : Result → Sem Fin) (l1 l2 : List Value) (c1 c2 : Code) (p1 p2 q : Pos) :
  qGo qTb pw (w.withFollow "special-get-raises" false) 11 (some (.ref 6)) 1 120 (St (w.withFollow "special-get-raises" false) os 40) (Tl ⟨70, 12, 70, 24⟩ k1 k2 l1 l2 c1 c2 p1 p2 q) = some (St (w.withFollow "special-get-raises" false) os 41, Tl ⟨70, 12, 70, 24⟩ k1 k2 l1 l2 c1 c2 p1 p2 q) := by kernel_rfl
theorem it40t (w : World) (os : OsState) (k1 k2 : Result → Sem Fin) (l1 l2 : List Value) (c1 c2 : Code) (p1 p2 q : Pos) :
  qGo qTb pw (w.withFollow "special-get-raises" true) 11 (some (.ref 6)) 1 120 (St (w.withFollow "special-get-raises" true) os 40) (Tl ⟨70, 12, 70, 24⟩ k1 k2 l1 l2 c1 c2 p1 p2 q) = some (St (w.withFollow "special-get-raises" true) os 41, Tl ⟨70, 12, 70, 24⟩ k1 k2 l1 l2 c1 c2 p1 p2 q) := by kernel_rfl
theorem it41f (w : World) (os : OsState) (k1 k2 : Result → Sem Fin) (l1 l2 : List Value) (c1 c2 : Code) (p1 p2 q : Pos) :
  qGo qTb pw (w.withFollow "special-get-raises" false) 11 (some (.ref 6)) 1 120 (St (w.withFollow "special-get-raises" false) os 41) (Tl ⟨70, 12, 70, 24⟩ k1 k2 l1 l2 c1 c2 p1 p2 q) = some (St (w.withFollow "special-get-raises" false) os 42, Tl ⟨70, 12, 70, 24⟩ k1 k2 l1 l2 c1 c2 p1 p2 q) := by kernel_rfl
theorem it41t (w : World) (os : OsState) (k1 k2 : Result → Sem Fin) (l1 l2 : List Value) (c1 c2 : Code) (p1 p2 q : Pos) :
  qGo qTb pw (w.withFollow "special-get-raises" true) 11 (some (.ref 6)) 1 120 (St (w.withFollow "special-get-raises" true) os 41) (Tl ⟨70, 12, 70, 24⟩ k1 k2 l1 l2 c1 c2 p1 p2 q) = some (St (w.withFollow "special-get-raises" true) os 42, Tl ⟨70, 12, 70, 24⟩ k1 k2 l1 l2 c1 c2 p1 p2 q) := by kernel_rfl
theorem it42f (w : World) (os : OsState) (k1 k2 : Result → Sem Fin) (l1 l2 : List Value) (c1 c2 : Code) (p1 p2 q : Pos) :
  qGo qTb pw (w.withFollow "special-get-raises" false) 11 (some (.ref 6)) 1 120 (St (w.withFollow "special-get-raises" false) os 42) (Tl ⟨70, 12, 70, 24⟩ k1 k2 l1 l2 c1 c2 p1 p2 q) = some (St (w.withFollow "special-get-raises" false) os 43, Tl ⟨70, 12, 70, 24⟩ k1 k2 l1 l2 c1 c2 p1 p2 q) := by kernel_rfl
theorem it42t (w : World) (os : OsState) (k1 k2 : Result → Sem Fin) (l1 l2 : List Value) (c1 c2 : Code) (p1 p2 q : Pos) :
  qGo qTb pw (w.withFollow "special-get-raises" true) 11 (some (.ref 6)) 1 120 (St (w.withFollow "special-get-raises" true) os 42) (Tl ⟨70, 12, 70, 24⟩ k1 k2 l1 l2 c1 c2 p1 p2 q) = some (St (w.withFollow "special-get-raises" true) os 43, Tl ⟨70, 12, 70, 24⟩ k1 k2 l1 l2 c1 c2 p1 p2 q) := by kernel_rfl
theorem it43f (w : World) (os : OsState) (k1 k2 : Result → Sem Fin) (l1 l2 : List Value) (c1 c2 : Code) (p1 p2 q : Pos) :
  qGo qTb pw (w.withFollow "special-get-raises" false) 11 (some (.ref 6)) 1 120 (St (w.withFollow "special-get-raises" false) os 43) (Tl ⟨70, 12, 70, 24⟩ k1 k2 l1 l2 c1 c2 p1 p2 q) = some (St (w.withFollow "special-get-raises" false) os 44, Tl ⟨70, 12, 70, 24⟩ k1 k2 l1 l2 c1 c2 p1 p2 q) := by kernel_rfl
theorem it43t (w : World) (os : OsState) (k1 k2 : Result → Sem Fin) (l1 l2 : List Value) (c1 c2 : Code) (p1 p2 q : Pos) :
  qGo qTb pw (w.withFollow "special-get-raises" true) 11 (some (.ref 6)) 1 120 (St (w.withFollow "special-get-raises" true) os 43) (Tl ⟨70, 12, 70, 24⟩ k1 k2 l1 l2 c1 c2 p1 p2 q) = some (St (w.withFollow "special-get-raises" true) os 44, Tl ⟨70, 12, 70, 24⟩ k1 k2 l1 l2 c1 c2 p1 p2 q) := by kernel_rfl
theorem it44f (w : World) (os : OsState) (k1 k2 : Result → Sem Fin) (l1 l2 : List Value) (c1 c2 : Code) (p1 p2 q : Pos) :
  qGo qTb pw (w.withFollow "special-get-raises" false) 11 (some (.ref 6)) 1 120 (St (w.withFollow "special-get-raises" false) os 44) (Tl ⟨70, 12, 70, 24⟩ k1 k2 l1 l2 c1 c2 p1 p2 q) = some (St (w.withFollow "special-get-raises" false) os 45, Tl ⟨70, 12, 70, 24⟩ k1 k2 l1 l2 c1 c2 p1 p2 q) := by kernel_rfl
theorem it44t (w : World) (os : OsState) (k1 k2 : Result → Sem Fin) (l1 l2 : List Value) (c1 c2 : Code) (p1 p2 q : Pos) :
  qGo qTb pw (w.withFollow "special-get-raises" true) 11 (some (.ref 6)) 1 120 (St (w.withFollow "special-get-raises" true) os 44) (Tl ⟨70, 12, 70, 24⟩ k1 k2 l1 l2 c1 c2 p1 p2 q) = some (St (w.withFollow "special-get-raises" true) os 45, Tl ⟨70, 12, 70, 24⟩ k1 k2 l1 l2 c1 c2 p1 p2 q) := by kernel_rfl
theorem it45f (w : World) (os : OsState) (k1 k2 : Result → Sem Fin) (l1 l2 : List Value) (c1 c2 : Code) (p1 p2 q : Pos) :
  qGo qTb pw (w.withFollow "special-get-raises" false) 11 (some (.ref 6)) 1 120 (St (w.withFollow "special-get-raises" false) os 45) (Tl ⟨70, 12, 70, 24⟩ k1 k2 l1 l2 c1 c2 p1 p2 q) = some (St (w.withFollow "special-get-raises" false) os 46, Tl ⟨70, 12, 70, 24⟩ k1 k2 l1 l2 c1 c2 p1 p2 q) := by kernel_rfl
theorem it45t (w : World) (os : OsState) (k1 k2 : Result → Sem Fin) (l1 l2 : List Value) (c1 c2 : Code) (p1 p2 q : Pos) :
  qGo qTb pw (w.withFollow "special-get-raises" true) 11 (some (.ref 6)) 1 120 (St (w.withFollow "special-get-raises" true) os 45) (Tl ⟨70, 12, 70, 24⟩ k1 k2 l1 l2 c1 c2 p1 p2 q) = some (St (w.withFollow "special-get-raises" true) os 46, Tl ⟨70, 12, 70, 24⟩ k1 k2 l1 l2 c1 c2 p1 p2 q) := by kernel_rfl
theorem it46f (w : World) (os : OsState) (k1 k2 : Result → Sem Fin) (l1 l2 : List Value) (c1 c2 : Code) (p1 p2 q : Pos) :
  qGo qTb pw (w.withFollow "special-get-raises" false) 11 (some (.ref 6)) 1 120 (St (w.withFollow "special-get-raises" false) os 46) (Tl ⟨70, 12, 70, 24⟩ k1 k2 l1 l2 c1 c2 p1 p2 q) = some (St (w.withFollow "special-get-raises" false) os 47, Tl ⟨70, 12, 70, 24⟩ k1 k2 l1 l2 c1 c2 p1 p2 q) := by kernel_rfl
theorem it46t (w : World) (os : OsState) (k1 k2 : Result → Sem Fin) (l1 l2 : List Value) (c1 c2 : Code) (p1 p2 q : Pos) :
  qGo qTb pw (w.withFollow "special-get-raises" true) 11 (some (.ref 6)) 1 120 (St (w.withFollow "special-get-raises" true) os 46) (Tl ⟨70, 12, 70, 24⟩ k1 k2 l1 l2 c1 c2 p1 p2 q) = some (St (w.withFollow "special-get-raises" true) os 47, Tl ⟨70, 12, 70, 24⟩ k1 k2 l1 l2 c1 c2 p1 p2 q) := by kernel_rfl
theorem it47f (w : World) (os : OsState) (k1 k2 : Result → Sem Fin) (l1 l2 : List Value) (c1 c2 : Code) (p1 p2 q : Pos) :
  qGo qTb pw (w.withFollow "special-get-raises" false) 11 (some (.ref 6)) 1 120 (St (w.withFollow "special-get-raises" false) os 47) (Tl ⟨70, 12, 70, 24⟩ k1 k2 l1 l2 c1 c2 p1 p2 q) = some (St (w.withFollow "special-get-raises" false) os 48, Tl ⟨70, 12, 70, 24⟩ k1 k2 l1 l2 c1 c2 p1 p2 q) := by kernel_rfl
theorem it47t (w : World) (os : OsState) (k1 k2 : Result → Sem Fin) (l1 l2 : List Value) (c1 c2 : Code) (p1 p2 q : Pos) :
  qGo qTb pw (w.withFollow "special-get-raises" true) 11 (some (.ref 6)) 1 120 (St (w.withFollow "special-get-raises" true) os 47) (Tl ⟨70, 12, 70, 24⟩ k1 k2 l1 l2 c1 c2 p1 p2 q) = some (St (w.withFollow "special-get-raises" true) os 48, Tl ⟨70, 12, 70, 24⟩ k1 k2 l1 l2 c1 c2 p1 p2 q) := by kernel_rfl
end Mine
end
section
open PySem PySem.W PyProof.Rows
set_option maxHeartbeats 0
namespace Mine
noncomputable def stsF : List Stmt := [stm 20, stm 21, stm 22, stm 23, stm 24, stm 25, stm 26, stm 27, stm 28, stm 29, stm 30, stm 31, stm 32, stm 33, stm 34, stm 35, stm 36]
theorem tail_ (w : World) (os : OsState) (b : List Stmt) :
  qRun qTb pw w 11 (some (.ref 6)) 1 560 (S20T w os) (qPieces stsF env1 (cdB b) ⟨71, 0, 71, 13⟩ [topFrame q0]) = some (.next, SFT w os, cdB b, ⟨204, 0, 213, 27⟩) := by
  kernel_rfl
end Mine
end
section
open PySem PySem.W PyProof.Rows
set_option maxHeartbeats 0
namespace Mine
theorem go_of {tb : String → Option Builtin} {p : Program} {w : World} {n₀ : Nat} {ann : Option Value} {b n : Nat} {s s' : SharedT} {t t' : Thread}
    (h : qGo tb p w n₀ ann b n s t = some (s', t')) : segGo tb p w n₀ ann b n s.abs t = some (s'.abs, t') := segGo_of (by rw [Fast.te10295753902157049106]; exact h)
theorem run_of {tb : String → Option Builtin} {p : Program} {w : World} {n₀ : Nat} {ann : Option Value} {b n : Nat} {s s' : SharedT} {t : Thread} {f : Flow} {c : Code} {q : Pos}
    (h : qRun tb p w n₀ ann b n s t = some (f, s', c, q)) : segRun tb p w n₀ ann b n s.abs t = some (f, s'.abs, c, q) := segRun_of (by rw [Fast.te10110043849684766642]; exact h)
theorem loop_f (w : World) (os : OsState) (k1 k2 : Result → Sem Fin) (l1 l2 : List Value) (c1 c2 : Code) (p1 p2 q : Pos) (N : Nat) (r : Flow × Shared × Code × Pos) (h : segRun qTb pw (w.withFollow "special-get-raises" false) 11 (some (.ref 6)) 1 N (St (w.withFollow "special-get-raises" false) os 48).abs (Tl ⟨70, 12, 70, 24⟩ k1 k2 l1 l2 c1 c2 p1 p2 q) = some r) :
    segRun qTb pw (w.withFollow "special-get-raises" false) 11 (some (.ref 6)) 1 (5760 + N) (St (w.withFollow "special-get-raises" false) os 0).abs (Tl ⟨70, 42, 70, 62⟩ k1 k2 l1 l2 c1 c2 p1 p2 q) = some r := by
  replace h := seg_go (go_of (it47f w os k1 k2 l1 l2 c1 c2 p1 p2 q)) h
  replace h := seg_go (go_of (it46f w os k1 k2 l1 l2 c1 c2 p1 p2 q)) h
  replace h := seg_go (go_of (it45f w os k1 k2 l1 l2 c1 c2 p1 p2 q)) h
  replace h := seg_go (go_of (it44f w os k1 k2 l1 l2 c1 c2 p1 p2 q)) h
  replace h := seg_go (go_of (it43f w os k1 k2 l1 l2 c1 c2 p1 p2 q)) h
  replace h := seg_go (go_of (it42f w os k1 k2 l1 l2 c1 c2 p1 p2 q)) h
  replace h := seg_go (go_of (it41f w os k1 k2 l1 l2 c1 c2 p1 p2 q)) h
  replace h := seg_go (go_of (it40f w os k1 k2 l1 l2 c1 c2 p1 p2 q)) h
  replace h := seg_go (go_of (it39f w os k1 k2 l1 l2 c1 c2 p1 p2 q)) h
  replace h := seg_go (go_of (it38f w os k1 k2 l1 l2 c1 c2 p1 p2 q)) h
  replace h := seg_go (go_of (it37f w os k1 k2 l1 l2 c1 c2 p1 p2 q)) h
  replace h := seg_go (go_of (it36f w os k1 k2 l1 l2 c1 c2 p1 p2 q)) h
  replace h := seg_go (go_of (it35f w os k1 k2 l1 l2 c1 c2 p1 p2 q)) h
  replace h := seg_go (go_of (it34f w os k1 k2 l1 l2 c1 c2 p1 p2 q)) h
  replace h := seg_go (go_of (it33f w os k1 k2 l1 l2 c1 c2 p1 p2 q)) h
  replace h := seg_go (go_of (it32f w os k1 k2 l1 l2 c1 c2 p1 p2 q)) h
  replace h := seg_go (go_of (it31f w os k1 k2 l1 l2 c1 c2 p1 p2 q)) h
  replace h := seg_go (go_of (it30f w os k1 k2 l1 l2 c1 c2 p1 p2 q)) h
  replace h := seg_go (go_of (it29f w os k1 k2 l1 l2 c1 c2 p1 p2 q)) h
  replace h := seg_go (go_of (it28f w os k1 k2 l1 l2 c1 c2 p1 p2 q)) h
  replace h := seg_go (go_of (it27f w os k1 k2 l1 l2 c1 c2 p1 p2 q)) h
  replace h := seg_go (go_of (it26f w os k1 k2 l1 l2 c1 c2 p1 p2 q)) h
  replace h := seg_go (go_of (it25f w os k1 k2 l1 l2 c1 c2 p1 p2 q)) h
  replace h := seg_go (go_of (it24f w os k1 k2 l1 l2 c1 c2 p1 p2 q)) h
  replace h := seg_go (go_of (it23f w os k1 k2 l1 l2 c1 c2 p1 p2 q)) h
  replace h := seg_go (go_of (it22f w os k1 k2 l1 l2 c1 c2 p1 p2 q)) h
  replace h := seg_go (go_of (it21f w os k1 k2 l1 l2 c1 c2 p1 p2 q)) h
  replace h := seg_go (go_of (it20f w os k1 k2 l1 l2 c1 c2 p1 p2 q)) h
  replace h := seg_go (go_of (it19f w os k1 k2 l1 l2 c1 c2 p1 p2 q)) h
  replace h := seg_go (go_of (it18f w os k1 k2 l1 l2 c1 c2 p1 p2 q)) h
  replace h := seg_go (go_of (it17f w os k1 k2 l1 l2 c1 c2 p1 p2 q)) h
  replace h := seg_go (go_of (it16f w os k1 k2 l1 l2 c1 c2 p1 p2 q)) h
  replace h := seg_go (go_of (it15f w os k1 k2 l1 l2 c1 c2 p1 p2 q)) h
  replace h := seg_go (go_of (it14f w os k1 k2 l1 l2 c1 c2 p1 p2 q)) h
  replace h := seg_go (go_of (it13f w os k1 k2 l1 l2 c1 c2 p1 p2 q)) h
  replace h := seg_go (go_of (it12f w os k1 k2 l1 l2 c1 c2 p1 p2 q)) h
  replace h := seg_go (go_of (it11f w os k1 k2 l1 l2 c1 c2 p1 p2 q)) h
  replace h := seg_go (go_of (it10f w os k1 k2 l1 l2 c1 c2 p1 p2 q)) h
  replace h := seg_go (go_of (it9f w os k1 k2 l1 l2 c1 c2 p1 p2 q)) h
  replace h := seg_go (go_of (it8f w os k1 k2 l1 l2 c1 c2 p1 p2 q)) h
  replace h := seg_go (go_of (it7f w os k1 k2 l1 l2 c1 c2 p1 p2 q)) h
  replace h := seg_go (go_of (it6f w os k1 k2 l1 l2 c1 c2 p1 p2 q)) h
  replace h := seg_go (go_of (it5f w os k1 k2 l1 l2 c1 c2 p1 p2 q)) h
  replace h := seg_go (go_of (it4f w os k1 k2 l1 l2 c1 c2 p1 p2 q)) h
  replace h := seg_go (go_of (it3f w os k1 k2 l1 l2 c1 c2 p1 p2 q)) h
  replace h := seg_go (go_of (it2f w os k1 k2 l1 l2 c1 c2 p1 p2 q)) h
  replace h := seg_go (go_of (it1f w os k1 k2 l1 l2 c1 c2 p1 p2 q)) h
  replace h := seg_go (go_of (it0f w os k1 k2 l1 l2 c1 c2 p1 p2 q)) h
  have e : 5760 + N = 120 + (120 + (120 + (120 + (120 + (120 + (120 + (120 + (120 + (120 + (120 + (120 + (120 + (120 + (120 + (120 + (120 + (120 + (120 + (120 + (120 + (120 + (120 + (120 + (120 + (120 + (120 + (120 + (120 + (120 + (120 + (120 + (120 + (120 + (120 + (120 + (120 + (120 + (120 + (120 + (120 + (120 + (120 + (120 + (120 + (120 + (120 + (120 + N))))))))))))))))))))))))))))))))))))))))))))))) := by omega
  rw [e]
  exact h
theorem loop_t (w : World) (os : OsState) (k1 k2 : Result → Sem Fin) (l1 l2 : List Value) (c1 c2 : Code) (p1 p2 q : Pos) (N : Nat) (r : Flow × Shared × Code × Pos) (h : segRun qTb pw (w.withFollow "special-get-raises" true) 11 (some (.ref 6)) 1 N (St (w.withFollow "special-get-raises" true) os 48).abs (Tl ⟨70, 12, 70, 24⟩ k1 k2 l1 l2 c1 c2 p1 p2 q) = some r) :
    segRun qTb pw (w.withFollow "special-get-raises" true) 11 (some (.ref 6)) 1 (5760 + N) (St (w.withFollow "special-get-raises" true) os 0).abs (Tl ⟨70, 42, 70, 62⟩ k1 k2 l1 l2 c1 c2 p1 p2 q) = some r := by
  replace h := seg_go (go_of (it47t w os k1 k2 l1 l2 c1 c2 p1 p2 q)) h
  replace h := seg_go (go_of (it46t w os k1 k2 l1 l2 c1 c2 p1 p2 q)) h
  replace h := seg_go (go_of (it45t w os k1 k2 l1 l2 c1 c2 p1 p2 q)) h
  replace h := seg_go (go_of (it44t w os k1 k2 l1 l2 c1 c2 p1 p2 q)) h
  replace h := seg_go (go_of (it43t w os k1 k2 l1 l2 c1 c2 p1 p2 q)) h
  replace h := seg_go (go_of (it42t w os k1 k2 l1 l2 c1 c2 p1 p2 q)) h
  replace h := seg_go (go_of (it41t w os k1 k2 l1 l2 c1 c2 p1 p2 q)) h
  replace h := seg_go (go_of (it40t w os k1 k2 l1 l2 c1 c2 p1 p2 q)) h
  replace h := seg_go (go_of (it39t w os k1 k2 l1 l2 c1 c2 p1 p2 q)) h
  replace h := seg_go (go_of (it38t w os k1 k2 l1 l2 c1 c2 p1 p2 q)) h
  replace h := seg_go (go_of (it37t w os k1 k2 l1 l2 c1 c2 p1 p2 q)) h
  replace h := seg_go (go_of (it36t w os k1 k2 l1 l2 c1 c2 p1 p2 q)) h
  replace h := seg_go (go_of (it35t w os k1 k2 l1 l2 c1 c2 p1 p2 q)) h
  replace h := seg_go (go_of (it34t w os k1 k2 l1 l2 c1 c2 p1 p2 q)) h
  replace h := seg_go (go_of (it33t w os k1 k2 l1 l2 c1 c2 p1 p2 q)) h
  replace h := seg_go (go_of (it32t w os k1 k2 l1 l2 c1 c2 p1 p2 q)) h
  replace h := seg_go (go_of (it31t w os k1 k2 l1 l2 c1 c2 p1 p2 q)) h
  replace h := seg_go (go_of (it30t w os k1 k2 l1 l2 c1 c2 p1 p2 q)) h
  replace h := seg_go (go_of (it29t w os k1 k2 l1 l2 c1 c2 p1 p2 q)) h
  replace h := seg_go (go_of (it28t w os k1 k2 l1 l2 c1 c2 p1 p2 q)) h
  replace h := seg_go (go_of (it27t w os k1 k2 l1 l2 c1 c2 p1 p2 q)) h
  replace h := seg_go (go_of (it26t w os k1 k2 l1 l2 c1 c2 p1 p2 q)) h
  replace h := seg_go (go_of (it25t w os k1 k2 l1 l2 c1 c2 p1 p2 q)) h
  replace h := seg_go (go_of (it24t w os k1 k2 l1 l2 c1 c2 p1 p2 q)) h
  replace h := seg_go (go_of (it23t w os k1 k2 l1 l2 c1 c2 p1 p2 q)) h
  replace h := seg_go (go_of (it22t w os k1 k2 l1 l2 c1 c2 p1 p2 q)) h
  replace h := seg_go (go_of (it21t w os k1 k2 l1 l2 c1 c2 p1 p2 q)) h
  replace h := seg_go (go_of (it20t w os k1 k2 l1 l2 c1 c2 p1 p2 q)) h
  replace h := seg_go (go_of (it19t w os k1 k2 l1 l2 c1 c2 p1 p2 q)) h
  replace h := seg_go (go_of (it18t w os k1 k2 l1 l2 c1 c2 p1 p2 q)) h
  replace h := seg_go (go_of (it17t w os k1 k2 l1 l2 c1 c2 p1 p2 q)) h
  replace h := seg_go (go_of (it16t w os k1 k2 l1 l2 c1 c2 p1 p2 q)) h
  replace h := seg_go (go_of (it15t w os k1 k2 l1 l2 c1 c2 p1 p2 q)) h
  replace h := seg_go (go_of (it14t w os k1 k2 l1 l2 c1 c2 p1 p2 q)) h
  replace h := seg_go (go_of (it13t w os k1 k2 l1 l2 c1 c2 p1 p2 q)) h
  replace h := seg_go (go_of (it12t w os k1 k2 l1 l2 c1 c2 p1 p2 q)) h
  replace h := seg_go (go_of (it11t w os k1 k2 l1 l2 c1 c2 p1 p2 q)) h
  replace h := seg_go (go_of (it10t w os k1 k2 l1 l2 c1 c2 p1 p2 q)) h
  replace h := seg_go (go_of (it9t w os k1 k2 l1 l2 c1 c2 p1 p2 q)) h
  replace h := seg_go (go_of (it8t w os k1 k2 l1 l2 c1 c2 p1 p2 q)) h
  replace h := seg_go (go_of (it7t w os k1 k2 l1 l2 c1 c2 p1 p2 q)) h
  replace h := seg_go (go_of (it6t w os k1 k2 l1 l2 c1 c2 p1 p2 q)) h
  replace h := seg_go (go_of (it5t w os k1 k2 l1 l2 c1 c2 p1 p2 q)) h
  replace h := seg_go (go_of (it4t w os k1 k2 l1 l2 c1 c2 p1 p2 q)) h
  replace h := seg_go (go_of (it3t w os k1 k2 l1 l2 c1 c2 p1 p2 q)) h
  replace h := seg_go (go_of (it2t w os k1 k2 l1 l2 c1 c2 p1 p2 q)) h
  replace h := seg_go (go_of (it1t w os k1 k2 l1 l2 c1 c2 p1 p2 q)) h
  replace h := seg_go (go_of (it0t w os k1 k2 l1 l2 c1 c2 p1 p2 q)) h
  have e : 5760 + N = 120 + (120 + (120 + (120 + (120 + (120 + (120 + (120 + (120 + (120 + (120 + (120 + (120 + (120 + (120 + (120 + (120 + (120 + (120 + (120 + (120 + (120 + (120 + (120 + (120 + (120 + (120 + (120 + (120 + (120 + (120 + (120 + (120 + (120 + (120 + (120 + (120 + (120 + (120 + (120 + (120 + (120 + (120 + (120 + (120 + (120 + (120 + (120 + N))))))))))))))))))))))))))))))))))))))))))))))) := by omega
  rw [e]
  exact h

theorem p19_tt (w : World) (os : OsState) (b : List Stmt) : segRun qTb pw (wr true true w) 11 (some (.ref 6)) 1 5868 (S18T (wr true true w) os).abs (qPieces [stm 19] env1 (cdB b) ⟨69, 0, 70, 63⟩ [topFrame q0]) = some (.next, (S20T (wr true true w) os).abs, cdB b, ⟨71, 0, 71, 13⟩) :=
  seg_go (n := 48) (N := 5820) (go_of (first_tt w os b)) (loop_t (w.withFollow "comprehension-iter-twice" true) os _ _ _ _ _ _ _ _ _ 60 _ (run_of (last_tt w os b)))
theorem p19_tf (w : World) (os : OsState) (b : List Stmt) : segRun qTb pw (wr true false w) 11 (some (.ref 6)) 1 5868 (S18T (wr true false w) os).abs (qPieces [stm 19] env1 (cdB b) ⟨69, 0, 70, 63⟩ [topFrame q0]) = some (.next, (S20T (wr true false w) os).abs, cdB b, ⟨71, 0, 71, 13⟩) :=
  seg_go (n := 48) (N := 5820) (go_of (first_tf w os b)) (loop_f (w.withFollow "comprehension-iter-twice" true) os _ _ _ _ _ _ _ _ _ 60 _ (run_of (last_tf w os b)))
theorem p19_ft (w : World) (os : OsState) (b : List Stmt) : segRun qTb pw (wr false true w) 11 (some (.ref 6)) 1 5868 (S18T (wr false true w) os).abs (qPieces [stm 19] env1 (cdB b) ⟨69, 0, 70, 63⟩ [topFrame q0]) = some (.next, (S20T (wr false true w) os).abs, cdB b, ⟨71, 0, 71, 13⟩) :=
  seg_go (n := 58) (N := 5810) (go_of (first_ft w os b)) (loop_t (w.withFollow "comprehension-iter-twice" false) os _ _ _ _ _ _ _ _ _ 50 _ (run_of (last_ft w os b)))
theorem p19_ff (w : World) (os : OsState) (b : List Stmt) : segRun qTb pw (wr false false w) 11 (some (.ref 6)) 1 5868 (S18T (wr false false w) os).abs (qPieces [stm 19] env1 (cdB b) ⟨69, 0, 70, 63⟩ [topFrame q0]) = some (.next, (S20T (wr false false w) os).abs, cdB b, ⟨71, 0, 71, 13⟩) :=
  seg_go (n := 58) (N := 5810) (go_of (first_ff w os b)) (loop_f (w.withFollow "comprehension-iter-twice" false) os _ _ _ _ _ _ _ _ _ 50 _ (run_of (last_ff w os b)))
theorem p19 (w : World) : ∀ (os : OsState) (b : List Stmt), segRun qTb pw w 11 (some (.ref 6)) 1 5868 (S18T w os).abs (qPieces [stm 19] env1 (cdB b) ⟨69, 0, 70, 63⟩ [topFrame q0]) = some (.next, (S20T w os).abs, cdB b, ⟨71, 0, 71, 13⟩) :=
  byRow2 (P := fun w => ∀ (os : OsState) (b : List Stmt), segRun qTb pw w 11 (some (.ref 6)) 1 5868 (S18T w os).abs (qPieces [stm 19] env1 (cdB b) ⟨69, 0, 70, 63⟩ [topFrame q0]) = some (.next, (S20T w os).abs, cdB b, ⟨71, 0, 71, 13⟩)) "special-get-raises"
    (fun w => byRow2 (P := fun w => ∀ (os : OsState) (b : List Stmt), segRun qTb pw (w.withFollow "special-get-raises" false) 11 (some (.ref 6)) 1 5868 (S18T (w.withFollow "special-get-raises" false) os).abs (qPieces [stm 19] env1 (cdB b) ⟨69, 0, 70, 63⟩ [topFrame q0]) = some (.next, (S20T (w.withFollow "special-get-raises" false) os).abs, cdB b, ⟨71, 0, 71, 13⟩)) "comprehension-iter-twice" (fun w => p19_ff w) (fun w => p19_tf w) w)
    (fun w => byRow2 (P := fun w => ∀ (os : OsState) (b : List Stmt), segRun qTb pw (w.withFollow "special-get-raises" true) 11 (some (.ref 6)) 1 5868 (S18T (w.withFollow "special-get-raises" true) os).abs (qPieces [stm 19] env1 (cdB b) ⟨69, 0, 70, 63⟩ [topFrame q0]) = some (.next, (S20T (w.withFollow "special-get-raises" true) os).abs, cdB b, ⟨71, 0, 71, 13⟩)) "comprehension-iter-twice" (fun w => p19_ft w) (fun w => p19_tt w) w) w
theorem p19o (w : World) (os : OsState) (b : List Stmt) : segRun treeTable pw w 11 (some (.ref 6)) 1 5868 (S18T w os).abs (piecesOf [stm 19] env1 (cdB b) ⟨69, 0, 70, 63⟩ [topFrame q0]) = some (.next, (S20T w os).abs, cdB b, ⟨71, 0, 71, 13⟩) := by
  have h := p19 w os b
  unfold qPieces qTb qExecs at h
  rw [← Fast.te14364793385576792824, ← Fast.te12563942051412417395] at h
  exact h
theorem tailo (w : World) (os : OsState) (b : List Stmt) : segRun treeTable pw w 11 (some (.ref 6)) 1 560 (S20T w os).abs (piecesOf stsF env1 (cdB b) ⟨71, 0, 71, 13⟩ [topFrame q0]) = some (.next, (SFT w os).abs, cdB b, ⟨204, 0, 213, 27⟩) := by
  have h := run_of (tail_ w os b)
  unfold qPieces qTb qExecs at h
  rw [← Fast.te14364793385576792824, ← Fast.te12563942051412417395] at h
  exact h
end Mine
end
section
open PySem PySem.W PyProof.Rows
set_option maxHeartbeats 0
namespace Mine
noncomputable def S0 (w : World) (os : OsState) : Shared := ⟨boot_heap w.params, Array.mk [], boot_drawn, boot_toks, os⟩
noncomputable def bdy : List Stmt := behindTheImports pw
theorem bdy_eq : bdy = stsA ++ ([stm 19] ++ (stsF ++ [])) := by kernel_rfl
theorem preA (w : World) : ∀ (os : OsState) (b : List Stmt), qRun qTb pw w 11 (some (.ref 6)) 1 1944 (S15T w os) (qPieces stsA env1 (cdB b) q0 [topFrame q0]) = some (.next, S18T w os, cdB b, ⟨69, 0, 70, 63⟩) :=
  byRow2 (P := fun w => ∀ (os : OsState) (b : List Stmt), qRun qTb pw w 11 (some (.ref 6)) 1 1944 (S15T w os) (qPieces stsA env1 (cdB b) q0 [topFrame q0]) = some (.next, S18T w os, cdB b, ⟨69, 0, 70, 63⟩)) "special-get-raises" (fun w => preA_f w) (fun w => preA_t w) w
theorem preo (w : World) (os : OsState) (b : List Stmt) : segRun treeTable pw w 11 (some (.ref 6)) 1 1944 (S15T w os).abs (piecesOf stsA env1 (cdB b) q0 [topFrame q0]) = some (.next, (S18T w os).abs, cdB b, ⟨69, 0, 70, 63⟩) := by
  have h := run_of (preA w os b)
  unfold qPieces qTb qExecs at h
  rw [← Fast.te14364793385576792824, ← Fast.te12563942051412417395] at h
  exact h
theorem pre_ (w : World) (os : OsState) : topGo treeTable pw w 11 (some (.ref 6)) 12 (S0 w os) (topStub pw) = some ((S15T w os).abs, ⟨denote treeTable (cdB bdy), cdB bdy, ⟨0, 0, 0, 0⟩, [topFrame q0]⟩) := by kernel_rfl
theorem block_ (w : World) (os : OsState) : segRun treeTable pw w 11 (some (.ref 6)) 1 1 (S15T w os).abs (blockOf bdy env1 (cdB bdy) ⟨0, 0, 0, 0⟩ [topFrame q0]) = some (.next, (S15T w os).abs, cdB bdy, ⟨0, 0, 0, 0⟩) := by kernel_rfl
theorem fin_ (w : World) (os : OsState) : topRun treeTable pw w 11 (some (.ref 6)) 2 (SFT w os).abs ⟨doneF .next, cdB bdy, ⟨204, 0, 213, 27⟩, [topFrame q0]⟩ = some (SFT w os).abs := by kernel_rfl
theorem run_ (w : World) (os : OsState) : topRun treeTable pw w 11 (some (.ref 6)) (12 + (1 + (312 + (1075 + (401 + (156 + (5868 + (560 + 2)))))))) (S0 w os) (topStub pw) = some (SFT w os).abs := by
  rw [show 12 + (1 + (312 + (1075 + (401 + (156 + (5868 + (560 + 2))))))) = 12 + (1 + (1944 + (5868 + (560 + 2)))) from rfl]
  refine go_top (pre_ w os) (piece_block (block_ w os) ?_)
  have h := piece_app (preo w os bdy) (piece_app (p19o w os bdy) (piece_app (tailo w os bdy) (piece_nil (fin_ w os))))
  rw [← bdy_eq] at h
  exact h
end Mine
end
section
open PySem PySem.W PyProof.Rows
set_option maxHeartbeats 0
namespace Mine
noncomputable def vq : Program := { pw with main := { pw.main with body := [stm 1, stm 3, stm 4, stm 5, stm 6, stm 7, stm 8, stm 9, stm 10, stm 11, stm 12, stm 13, stm 14, stm 15, stm 16, stm 17, stm 18, stm 19, stm 20, stm 21, stm 23, stm 24, stm 25, stm 26, stm 27, stm 28, stm 29, stm 30, stm 31, stm 32, stm 33, stm 34, stm 35, stm 36] } }
def loose : List PySem.Str := ["INSTRUCTIONS", "PLACES", "BOUNDS", "NAMES_BY_BASE"]
noncomputable def K (P : Params) : Frag := Prod.mk (nat_lit 2) (o2 P) :: Prod.mk (nat_lit 3) (o3 P) :: Prod.mk (nat_lit 15) (o15 P) :: Prod.mk (nat_lit 22) (o22 P) :: Prod.mk (nat_lit 24) (o24 P) :: Prod.mk (nat_lit 25) (o25 P) :: Prod.mk (nat_lit 27) (o27 P) :: Prod.mk (nat_lit 28) (o28 P) :: Prod.mk (nat_lit 29) (o29 P) :: Prod.mk (nat_lit 30) (o30 P) :: Prod.mk (nat_lit 31) (o31 P) :: Prod.mk (nat_lit 32) (o32 P) :: Prod.mk (nat_lit 35) (o35 P) :: Prod.mk (nat_lit 36) (o36 P) :: Prod.mk (nat_lit 37) (o37 P) :: Prod.mk (nat_lit 38) (o38 P) :: Prod.mk (nat_lit 39) (o39 P) :: Prod.mk (nat_lit 40) (o40 P) :: Prod.mk (nat_lit 41) (o41 P) :: Prod.mk (nat_lit 42) (o42 P) :: Prod.mk (nat_lit 43) (o43 P) :: Prod.mk (nat_lit 44) (o44 P) :: Prod.mk (nat_lit 45) (o45 P) :: Prod.mk (nat_lit 46) (o46 P) :: Prod.mk (nat_lit 47) (o47 P) :: Prod.mk (nat_lit 48) (o48 P) :: Prod.mk (nat_lit 49) (o49 P) :: Prod.mk (nat_lit 50) (o50 P) :: Prod.mk (nat_lit 51) (o51 P) :: Prod.mk (nat_lit 52) (o52 P) :: Prod.mk (nat_lit 54) (o54 P) :: Prod.mk (nat_lit 55) (o55 P) :: Prod.mk (nat_lit 56) (o56 P) :: Prod.mk (nat_lit 57) (o57 P) :: Prod.mk (nat_lit 58) (o58 P) :: Prod.mk (nat_lit 59) (o59 P) :: Prod.mk (nat_lit 60) (o60 P) :: Prod.mk (nat_lit 61) (o61 P) :: Prod.mk (nat_lit 62) (o62 P) :: Prod.mk (nat_lit 63) (o63 P) :: Prod.mk (nat_lit 64) (o64 P) :: Prod.mk (nat_lit 65) (o65 P) :: Prod.mk (nat_lit 66) (o66 P) :: Prod.mk (nat_lit 67) (o67 P) :: Prod.mk (nat_lit 68) (o68 P) :: Prod.mk (nat_lit 69) (o69 P) :: Prod.mk (nat_lit 70) (o70 P) :: Prod.mk (nat_lit 72) (o72 P) :: Prod.mk (nat_lit 73) (o73 P) :: Prod.mk (nat_lit 74) (o74 P) :: Prod.mk (nat_lit 75) (o75 P) :: Prod.mk (nat_lit 76) (o76 P) :: Prod.mk (nat_lit 77) (o77 P) :: Prod.mk (nat_lit 78) (o78 P) :: Prod.mk (nat_lit 79) (o79 P) :: Prod.mk (nat_lit 80) (o80 P) :: Prod.mk (nat_lit 81) (o81 P) :: Prod.mk (nat_lit 82) (o82 P) :: Prod.mk (nat_lit 83) (o83 P) :: Prod.mk (nat_lit 84) (o84 P) :: Prod.mk (nat_lit 85) (o85 P) :: Prod.mk (nat_lit 86) (o86 P) :: Prod.mk (nat_lit 87) (o87 P) :: Prod.mk (nat_lit 88) (o88 P) :: Prod.mk (nat_lit 89) (o89 P) :: Prod.mk (nat_lit 90) (o90 P) :: Prod.mk (nat_lit 91) (o91 P) :: Prod.mk (nat_lit 92) (o92 P) :: Prod.mk (nat_lit 93) (o93 P) :: Prod.mk (nat_lit 94) (o94 P) :: Prod.mk (nat_lit 95) (o95 P) :: Prod.mk (nat_lit 96) (o96 P) :: Prod.mk (nat_lit 97) (o97 P) :: Prod.mk (nat_lit 98) (o98 P) :: Prod.mk (nat_lit 99) (o99 P) :: Prod.mk (nat_lit 100) (o100 P) :: Prod.mk (nat_lit 101) (o101 P) :: Prod.mk (nat_lit 102) (o102 P) :: Prod.mk (nat_lit 103) (o103 P) :: Prod.mk (nat_lit 104) (o104 P) :: Prod.mk (nat_lit 105) (o105 P) :: Prod.mk (nat_lit 106) (o106 P) :: Prod.mk (nat_lit 107) (o107 P) :: Prod.mk (nat_lit 108) (o108 P) :: Prod.mk (nat_lit 109) (o109 P) :: Prod.mk (nat_lit 110) (o110 P) :: Prod.mk (nat_lit 111) (o111 P) :: Prod.mk (nat_lit 112) (o112 P) :: Prod.mk (nat_lit 113) (o113 P) :: Prod.mk (nat_lit 114) (o114 P) :: Prod.mk (nat_lit 115) (o115 P) :: Prod.mk (nat_lit 116) (o116 P) :: Prod.mk (nat_lit 117) (o117 P) :: Prod.mk (nat_lit 119) (o119 P) :: Prod.mk (nat_lit 120) (o120 P) :: Prod.mk (nat_lit 122) (o122 P) :: Prod.mk (nat_lit 123) (o123 P) :: Prod.mk (nat_lit 124) (o124 P) :: Prod.mk (nat_lit 126) (o126 P) :: Prod.mk (nat_lit 127) (o127 P) :: Prod.mk (nat_lit 129) (o129 P) :: Prod.mk (nat_lit 130) (o130 P) :: Prod.mk (nat_lit 131) (o131 P) :: Prod.mk (nat_lit 133) (o133 P) :: Prod.mk (nat_lit 134) (o134 P) :: Prod.mk (nat_lit 136) (o136 P) :: Prod.mk (nat_lit 137) (o137 P) :: Prod.mk (nat_lit 138) (o138 P) :: Prod.mk (nat_lit 140) (o140 P) :: Prod.mk (nat_lit 141) (o141 P) :: Prod.mk (nat_lit 143) (o143 P) :: Prod.mk (nat_lit 144) (o144 P) :: Prod.mk (nat_lit 145) (o145 P) :: Prod.mk (nat_lit 147) (o147 P) :: Prod.mk (nat_lit 148) (o148 P) :: Prod.mk (nat_lit 150) (o150 P) :: Prod.mk (nat_lit 151) (o151 P) :: Prod.mk (nat_lit 160) (o160 P) :: Prod.mk (nat_lit 356) (o356 P) :: Prod.mk (nat_lit 358) (o358 P) :: Prod.mk (nat_lit 359) (o359 P) :: Prod.mk (nat_lit 361) (o361 P) :: Prod.mk (nat_lit 362) (o362 P) :: Prod.mk (nat_lit 363) (o363 P) :: Prod.mk (nat_lit 365) (o365 P) :: Prod.mk (nat_lit 366) (o366 P) :: Prod.mk (nat_lit 368) (o368 P) :: Prod.mk (nat_lit 369) (o369 P) :: Prod.mk (nat_lit 370) (o370 P) :: Prod.mk (nat_lit 373) (o373 P) :: Prod.mk (nat_lit 374) (o374 P) :: Prod.mk (nat_lit 375) (o375 P) :: Prod.mk (nat_lit 377) (o377 P) :: Prod.mk (nat_lit 378) (o378 P) :: Prod.mk (nat_lit 380) (o380 P) :: Prod.mk (nat_lit 381) (o381 P) :: Prod.mk (nat_lit 382) (o382 P) :: Prod.mk (nat_lit 384) (o384 P) :: Prod.mk (nat_lit 385) (o385 P) :: Prod.mk (nat_lit 387) (o387 P) :: Prod.mk (nat_lit 388) (o388 P) :: Prod.mk (nat_lit 389) (o389 P) :: Prod.mk (nat_lit 392) (o392 P) :: Prod.mk (nat_lit 393) (o393 P) :: Prod.mk (nat_lit 394) (o394 P) :: Prod.mk (nat_lit 396) (o396 P) :: Prod.mk (nat_lit 397) (o397 P) :: Prod.mk (nat_lit 399) (o399 P) :: Prod.mk (nat_lit 400) (o400 P) :: Prod.mk (nat_lit 401) (o401 P) :: Prod.mk (nat_lit 403) (o403 P) :: Prod.mk (nat_lit 404) (o404 P) :: Prod.mk (nat_lit 406) (o406 P) :: Prod.mk (nat_lit 407) (o407 P) :: Prod.mk (nat_lit 408) (o408 P) :: Prod.mk (nat_lit 410) (o410 P) :: Prod.mk (nat_lit 411) (o411 P) :: Prod.mk (nat_lit 413) (o413 P) :: Prod.mk (nat_lit 414) (o414 P) :: Prod.mk (nat_lit 415) (o415 P) :: Prod.mk (nat_lit 417) (o417 P) :: Prod.mk (nat_lit 418) (o418 P) :: Prod.mk (nat_lit 420) (o420 P) :: Prod.mk (nat_lit 421) (o421 P) :: Prod.mk (nat_lit 422) (o422 P) :: Prod.mk (nat_lit 424) (o424 P) :: Prod.mk (nat_lit 425) (o425 P) :: Prod.mk (nat_lit 427) (o427 P) :: Prod.mk (nat_lit 428) (o428 P) :: Prod.mk (nat_lit 429) (o429 P) :: Prod.mk (nat_lit 431) (o431 P) :: Prod.mk (nat_lit 432) (o432 P) :: Prod.mk (nat_lit 434) (o434 P) :: Prod.mk (nat_lit 435) (o435 P) :: Prod.mk (nat_lit 436) (o436 P) :: Prod.mk (nat_lit 438) (o438 P) :: Prod.mk (nat_lit 439) (o439 P) :: Prod.mk (nat_lit 441) (o441 P) :: Prod.mk (nat_lit 442) (o442 P) :: Prod.mk (nat_lit 443) (o443 P) :: Prod.mk (nat_lit 446) (o446 P) :: Prod.mk (nat_lit 447) (o447 P) :: Prod.mk (nat_lit 448) (o448 P) :: Prod.mk (nat_lit 451) (o451 P) :: Prod.mk (nat_lit 452) (o452 P) :: Prod.mk (nat_lit 453) (o453 P) :: Prod.mk (nat_lit 456) (o456 P) :: Prod.mk (nat_lit 457) (o457 P) :: []
def Kas : List Addr := [2, 3, 15, 22, 24, 25, 27, 28, 29, 30, 31, 32, 35, 36, 37, 38, 39, 40, 41, 42, 43, 44, 45, 46, 47, 48, 49, 50, 51, 52, 54, 55, 56, 57, 58, 59, 60, 61, 62, 63, 64, 65, 66, 67, 68, 69, 70, 72, 73, 74, 75, 76, 77, 78, 79, 80, 81, 82, 83, 84, 85, 86, 87, 88, 89, 90, 91, 92, 93, 94, 95, 96, 97, 98, 99, 100, 101, 102, 103, 104, 105, 106, 107, 108, 109, 110, 111, 112, 113, 114, 115, 116, 117, 119, 120, 122, 123, 124, 126, 127, 129, 130, 131, 133, 134, 136, 137, 138, 140, 141, 143, 144, 145, 147, 148, 150, 151, 160, 356, 358, 359, 361, 362, 363, 365, 366, 368, 369, 370, 373, 374, 375, 377, 378, 380, 381, 382, 384, 385, 387, 388, 389, 392, 393, 394, 396, 397, 399, 400, 401, 403, 404, 406, 407, 408, 410, 411, 413, 414, 415, 417, 418, 420, 421, 422, 424, 425, 427, 428, 429, 431, 432, 434, 435, 436, 438, 439, 441, 442, 443, 446, 447, 448, 451, 452, 453, 456, 457]
theorem Kas_eq (P : Params) : Kas = (K P).map (·.1) := by kernel_rfl
noncomputable abbrev rwR : RowW := PySem.Challenge.rw_nm0007_01.row.toRowW
noncomputable abbrev Xt (s : Shared) : Bool := xlAt vq [] s && recOk (RowW.records rwR) s
noncomputable abbrev H1 (P : Params) : Heap := absHeap (treeF P) 458 {}
noncomputable abbrev gs1 : Array GenState := { toList := [] }
noncomputable abbrev SF (w : World) (os : OsState) : Shared := ⟨H1 w.params, gs1, {}, 925, os⟩
theorem open_ : ∀ w : World, (fencedOpening treeTable pw w 16738).map (fun s => (s.heap, s.gens, s.drawn, s.toks)) = some (boot_heap w.params, Array.mk [], boot_drawn, boot_toks) :=
  boot_open (by kernel_rfl) (by rfl) (fun s => by kernel_rfl)
theorem size_ : ∀ w : World, ((boot_heap w.params).isNs mainGlobals && (Array.mk [] : Array GenState).size == 0, (boot_heap w.params).objs.size, (boot_heap w.params).nsMap mainGlobals "__annotations__") = (true, 11, some (.ref 6)) := fun w => by kernel_rfl
theorem l1 (w : World) (os : OsState) : (staticsOk (importedModules pw.main.body) (boot_heap w.params) (H1 w.params) && namesBound pw (H1 w.params) && gensDone (SF w os) && laidKept (boot_heap w.params) (H1 w.params)) = true := by kernel_rfl
theorem l2 (w : World) (os : OsState) : seen ((recsOf vq).map (·.name)) (ownsOf vq) [] { SF w os with gens := #[] } = expectedOf vq := by kernel_rfl
theorem l3 (w : World) (os : OsState) : (SF w os).heap.bltView = bltViewBooted := by kernel_rfl
theorem l4 (w : World) (os : OsState) : ((SF w os).heap.keysOk (looseW vq loose) ((recsOf vq).map (·.name)) ((litsOf vq).map (·.1)) ((clssOf vq (looseW vq loose)).map (·.name)) && (SF w os).heap.accountedOkI (importedModules pw.main.body) && (SF w os).heap.isNs mainGlobals && (SF w os).heap.isNs builtinsNs && tablesOk vq (SF w os).heap && Xt (SF w os) && (if true then (SF w os).gens.size == 0 else !leftWithCleanup (SF w os).gens)) = true := by kernel_rfl
theorem l5 (w : World) (os : OsState) : tabsOk vq (SF w os) = true := by kernel_rfl
theorem l6 (w : World) (os : OsState) : pinSeenD vq (drecsOf vq) (SF w os) = pinGoodD (drecsOf vq) := by kernel_rfl
theorem l7 (w : World) (os : OsState) : plainSeenE vq (looseW vq loose) (SF w os) = plainGoodE vq (looseW vq loose) := by kernel_rfl
theorem l8 (w : World) (os : OsState) : plainSeenD vq loose (SF w os) = plainGoodD vq loose := by kernel_rfl
theorem l9 (w : World) (os : OsState) : wideSeen vq (SF w os) = wideGood vq := by kernel_rfl
theorem l10 (w : World) (os : OsState) : clsSeenW vq loose (SF w os) = clsGoodW vq loose := by kernel_rfl
theorem l11 (w : World) (os : OsState) : Kas.map (SF w os).heap.get? = (K w.params).map fun p => some p.2 := by kernel_rfl
end Mine
end
section
open PySem PySem.W PyProof.Rows
set_option maxHeartbeats 0
namespace Mine
noncomputable abbrev HK : Hook := kHook K Kas Kas_eq
theorem looks_ (w : World) (os : OsState) : openSeen vq loose (importedModules pw.main.body) Xt true (SF w os) = openGood vq loose := by
  unfold openSeen openGood
  exact looks_pair (l2 w os) (looks_pair (l3 w os) (looks_pair (l4 w os) (looks_pair (l5 w os) (looks_pair (l6 w os) (looks_pair (l7 w os) (looks_pair (l8 w os) (looks_pair (l9 w os) (l10 w os))))))))
theorem left_ : LeftO pw vq loose Xt (Hook.obs HK) (Hook.val HK) 16738 := by
  refine LeftO.of_pieces (H₀ := boot_heap) (H₁ := H1) (gs₀ := Array.mk []) (gs₁ := gs1) (d₀ := boot_drawn) (d₁ := {}) (k₀ := boot_toks) (k₁ := 925) (m₀ := 11) (ann := some (.ref 6)) (M := 12 + (1 + (312 + (1075 + (401 + (156 + (5868 + (560 + 2)))))))) open_ size_ (fun w os => run_ w os) (by rfl) fun w => ?_
  exact funext fun os => looks_pair (l1 w os) (looks_pair (looks_ w os) (l11 w os))
end Mine
end
section
open PySem PySem.W PyProof.Rows PySem.Spec PySem.Calls
set_option maxHeartbeats 8000000
namespace Mine
noncomputable abbrev pr : Program := PySem.Challenge.rw_nm0007_01.prog
noncomputable abbrev lo : List PySem.Str := looseW vq loose
/-- the fill: the written part of the heap is made known to the walk -/
theorem fill_ : PySem.Challenge.rw_nm0007_01.name = PySem.Challenge.rw_nm0007_01.name ∧ K = K := by
  k_fill
  exact ⟨rfl, rfl⟩
section
variable {w : World} {mean : ExcName → Option Value} {mg mb : PySem.Str → Option Value} {dp un : Nat} {gd : Option (List Code)} {cn : PySem.Str} {cs : Scope} {a : Addr} {ccd : Value} {cl : List (PySem.Str × Addr)} {outer : List Env} {A₀ : Around} {base h₀ : Heap} {L : Addr} {m : PySem.Str → Option Value} {s : Shared} {Q E : Value → Shared → Prop} {news : List (Addr × Obj)}
/-- into a def: the arguments' names as they are written, the count of tokens a letter -/
theorem enterD {A A₁ : Around} {env : Env} {R : Result → Shared → Prop} {name qual : PySem.Str} {params : Arguments} {body : List Stmt} {scope : Scope} {dV kV doc pm cdv ct oc : Value} {an od : Option Addr} {osl : Array (Option Value)} {f : Addr} {args : Args} {kF : Frag} {p : Program} {lo' : List PySem.Str} (binds : List (PySem.Str × Value))
    (B : Below A₁ base outer h₀) (F : Fr h₀ L s.heap m) (X₀ : kF.In h₀) (N : News h₀ L s.heap news) (T : Top p lo' mean mg mb h₀) (hA : A.frames = some (env :: outer)) (hf : env.frame = some L) (hke : env.scope.kind = .function)
    (ho : kF.lookup f = some ⟨oc, od, .func (fnOf name qual params body scope dV kV doc pm an cdv ct), osl⟩) (hcd : codeIn kF cdv qual = true) (hroom : A.depth < recursionLimit)
    (hbind : BindsTo s (fnOf name qual params body scope dV kV doc pm an cdv ct) args binds) (hloc : ∀ y ∈ binds, scope.names.lookup y.1 = some .local)
    (h : ∀ g L' h₁ tk, Fr h₀ L g m → Fr g L' h₁ (fun y => binds.reverse.lookup y) → News g L' h₁ news → Below A base (env :: outer) g → kF.In g → Top p lo' mean mg mb g →
      wpAny (model pr w) (A.deeper (envOf qual scope L' f cdv)) (execs body (envOf qual scope L' f cdv))
        (fun fl s' => LeaveK h₀ L m g R (match fl with | .ret v => v | _ => .none) s')
        (fun e s' => wpAny (model pr w) (A.deeper (envOf qual scope L' f cdv)) («leaving» (envOf qual scope L' f cdv) e) (fun _ s'' => R (.error e) s'') (fun e' s'' => R (.error e') s'') s')
        { s with heap := h₁, toks := tk })
    (hco : scope.isCoroutine = false) (hgen : scope.isGenerator = false) (hk : scope.kind = .function)
    (hcell : ∀ x ∈ scope.names, x.2 ≠ .cell) : codeAny (model pr w) A (.call (.ref f) args) R s :=
  code_def B F X₀ N T hA hf hke ho hcd hroom hbind hloc (fun g L' h₁ a b c d e f => h g L' h₁ _ a b c d e f) hco hgen hk hcell
end
end Mine
end
section
open PySem PySem.W PyProof.Rows PySem.Spec PySem.Calls
set_option maxHeartbeats 8000000
namespace Mine
/-- a turn's end: the loop's iterator as it stands, the word at the new place -/
def TurnEnd (h₀ : Heap) (L it : Addr) (ito : Obj) (J : (PySem.Str → Option Value) → List (Addr × Obj) → Prop) (s₁ : Shared) (f : Flow) (s₂ : Shared) : Prop :=
  f = .next ∧ ∃ h' tk m' news', s₂ = { s₁ with heap := h', toks := tk } ∧ Fr h₀ L h' m' ∧ News h₀ L h' ((it, ito) :: news') ∧ (∀ p ∈ news', p.1 ≠ it) ∧ J m' news'
section
variable {prog : Program} {w : World} {A : Around} {E : Value → Shared → Prop} {s : Shared} {env : Env} {h₀ : Heap} {target : PySem.Expr} {body : List Stmt} {Q : Flow → Shared → Prop}
/-- over a list of the ledger, by a word over the place, the names and the ledger -/
theorem iterL {l : Addr} {vs : List Value} {nn : Nat} {m₀ : PySem.Str → Option Value} {news : List (Addr × Obj)} (J : Nat → (PySem.Str → Option Value) → List (Addr × Obj) → Prop)
    (hh : A.handled = none) (hl : (l, listOf vs.toArray nn) ∈ news) (F : Fr h₀ env.locals s.heap m₀) (N : News h₀ env.locals s.heap news) (hj : J 0 m₀ news)
    (turn : ∀ i v m₁ news₁ (s₁ : Shared) it ito, vs[i]? = some v → (∃ fs, ito.data = .fields fs) → (∀ p ∈ news₁, p.1 ≠ it) → (l, listOf vs.toArray nn) ∈ news₁ → J i m₁ news₁ → Fr h₀ env.locals s₁.heap m₁ → News h₀ env.locals s₁.heap ((it, ito) :: news₁) →
      wpAny (model prog w) A (assign target env v) (fun _ s₃ => wpAny (model prog w) A (execs body env) (TurnEnd h₀ env.locals it ito (fun m' nx => (l, listOf vs.toArray nn) ∈ nx ∧ J (i + 1) m' nx) s₁) E s₃) E s₁)
    (done : ∀ m₁ news₁ h tk, J vs.length m₁ news₁ → Fr h₀ env.locals h m₁ → News h₀ env.locals h news₁ → Q .next { s with heap := h, toks := tk }) :
    wpAny (model prog w) A (pyIter (.ref l)) (fun it s₂ => LoopAtT prog w A h₀ env target body Q E it s₂) E s := by
  have hol : s.heap.get? l = some (listOf vs.toArray nn) := (N _ hl).1
  have hls : s.heap.IsList l vs.toArray := ⟨_, hol, rfl, nn, rfl⟩
  have hne : l ≠ s.heap.objs.size := Nat.ne_of_lt (Heap.lt_size hol)
  refine wpAny_pyIter_list hls ?_
  have W := Walks.list (prog := prog) (w := w) hh s.heap.objs.size l hne vs.toArray
  have hlen : vs.toArray.size = vs.length := by simp
  rw [hlen] at W
  refine ⟨_, _, _, vs.length, _, _, m₀, news, (fun i m nx => (l, listOf vs.toArray nn) ∈ nx ∧ J i m nx), rfl, W, ?_, ?_, ?_, ⟨⟨_, Heap.get?_push_size _ rfl, rfl, rfl⟩, hls.at fun o e => Heap.get?_push_of_some _ e⟩, F.push _, (fun p hp => ⟨Heap.get?_push_of_some _ (N p hp).1, (N p hp).2⟩), ?_, ⟨hl, hj⟩, ?_, ?_⟩
  · intro hm
    rcases List.mem_cons.mp hm with e | hm
    · exact absurd F.ns.lt (e ▸ Nat.lt_irrefl _)
    · exact (N _ hl).2.1 ((List.mem_singleton.mp hm).symm)
  · intro b hb
    rw [List.mem_singleton.mp hb]
    exact next_is_new F
  · intro p hp hI
    exact absurd (Heap.lt_size (N p hp).1) ((List.mem_singleton.mp hI) ▸ Nat.lt_irrefl _)
  · intro i s' v Q' st q
    exact letGo_listiter st.1 q
  · rintro i v m₁ news₁ s₁ own hin hP ⟨hl₁, hJ⟩ hoff hown hget hfp hst F₁ N₁
    have hP' : vs[i]? = some v := by simpa using hP
    have hI0 : h₀.get? s.heap.objs.size = none := next_is_new F
    obtain ⟨⟨oI, hoI, _, hdI⟩, _⟩ := id hst
    have hIown : (s.heap.objs.size, oI) ∈ own := hfp _ (List.mem_cons.mpr (.inl rfl)) hI0 _ hoI
    have hsep : ∀ p ∈ news₁, p.1 ≠ s.heap.objs.size := fun p hp e => hoff p hp (List.mem_singleton.mpr e)
    have N₂ : News h₀ env.locals s₁.heap ((s.heap.objs.size, oI) :: news₁) := fun p hp => (List.mem_cons.mp hp).elim (fun e => N₁ p (List.mem_append_left _ (e ▸ hIown))) fun e => N₁ p (List.mem_append_right _ e)
    refine wpAny_mono (turn i v m₁ news₁ s₁ s.heap.objs.size oI hP' ⟨_, hdI⟩ hsep hl₁ hJ F₁ N₂) (fun _ s₃ k => wpAny_mono k (fun f s₂ e => ?_) fun _ _ e => e) fun _ _ e => e
    obtain ⟨rfl, h', tk, m', news', rfl, F', N', hne', hl', hJ'⟩ := e
    refine ⟨rfl, h', tk, m', news', rfl, F', fun p hp => ?_, fun p hp hq => hne' p hp (List.mem_singleton.mp hq), hl', hJ'⟩
    rcases List.mem_append.mp hp with h | h
    · rcases List.mem_cons.mp (hown p h) with h2 | h2
      · have h3 : s₁.heap.get? p.1 = some p.2 := hget p h
        rw [h2, hoI] at h3
        have : p = (s.heap.objs.size, oI) := Prod.ext h2 (Option.some.inj h3).symm
        exact N' p (this ▸ List.mem_cons.mpr (.inl rfl))
      · have h3 : s₁.heap.get? p.1 = some p.2 := hget p h
        have h4 := (N₁ _ (List.mem_append_right _ hl₁)).1
        rw [List.mem_singleton.mp h2, h4] at h3
        have : p = (l, listOf vs.toArray nn) := Prod.ext (List.mem_singleton.mp h2) (Option.some.inj h3).symm
        exact N' p (this ▸ List.mem_cons.mpr (.inr hl'))
    · exact N' p (List.mem_cons.mpr (.inr h))
  · rintro h' tk m' news' F' N' _ ⟨_, hJ⟩
    exact done m' news' h' tk hJ F' N'
/-- over a tuple that stood before the call -/
theorem iterT {l : Addr} {vs : List Value} {m₀ : PySem.Str → Option Value} {news : List (Addr × Obj)} (J : Nat → (PySem.Str → Option Value) → List (Addr × Obj) → Prop)
    (hh : A.handled = none) (hl : IsTup h₀ l vs.toArray) (F : Fr h₀ env.locals s.heap m₀) (N : News h₀ env.locals s.heap news) (hj : J 0 m₀ news)
    (turn : ∀ i v m₁ news₁ (s₁ : Shared) it ito, vs[i]? = some v → (∃ fs, ito.data = .fields fs) → (∀ p ∈ news₁, p.1 ≠ it) → J i m₁ news₁ → Fr h₀ env.locals s₁.heap m₁ → News h₀ env.locals s₁.heap ((it, ito) :: news₁) →
      wpAny (model prog w) A (assign target env v) (fun _ s₃ => wpAny (model prog w) A (execs body env) (TurnEnd h₀ env.locals it ito (J (i + 1)) s₁) E s₃) E s₁)
    (done : ∀ m₁ news₁ h tk, J vs.length m₁ news₁ → Fr h₀ env.locals h m₁ → News h₀ env.locals h news₁ → Q .next { s with heap := h, toks := tk }) :
    wpAny (model prog w) A (pyIter (.ref l)) (fun it s₂ => LoopAtT prog w A h₀ env target body Q E it s₂) E s := by
  have hls : s.heap.IsTuple l vs.toArray := Heap.IsTuple.at hl fun o e => F.keep l o e
  obtain ⟨ol, hol, _⟩ := id hl
  have hlt : l < h₀.objs.size := Heap.lt_size hol
  have hne : l ≠ s.heap.objs.size := Nat.ne_of_lt (Nat.lt_trans (Nat.lt_of_lt_of_le hlt F.above) F.ns.lt)
  refine wpAny_pyIter_tuple hls ?_
  have W := Walks.tuple (prog := prog) (w := w) hh s.heap.objs.size l hne vs.toArray
  have hlen : vs.toArray.size = vs.length := by simp
  rw [hlen] at W
  refine ⟨_, _, _, vs.length, _, _, m₀, news, J, rfl, W, ?_, ?_, ?_, ⟨⟨_, Heap.get?_push_size _ rfl, rfl, rfl⟩, hls.at fun o e => Heap.get?_push_of_some _ e⟩, F.push _, (fun p hp => ⟨Heap.get?_push_of_some _ (N p hp).1, (N p hp).2⟩), ?_, hj, ?_, ?_⟩
  · intro hm
    rcases List.mem_cons.mp hm with e | hm
    · exact absurd F.ns.lt (e ▸ Nat.lt_irrefl _)
    · exact absurd (Nat.lt_of_lt_of_le hlt F.above) ((List.mem_singleton.mp hm) ▸ Nat.lt_irrefl _)
  · intro b hb
    rw [List.mem_singleton.mp hb]
    exact next_is_new F
  · intro p hp hI
    exact absurd (Heap.lt_size (N p hp).1) ((List.mem_singleton.mp hI) ▸ Nat.lt_irrefl _)
  · intro i s' v Q' st q
    exact letGo_tupleiter st.1 q
  · rintro i v m₁ news₁ s₁ own hin hP hJ hoff hown hget hfp hst F₁ N₁
    have hP' : vs[i]? = some v := by simpa using hP
    have hI0 : h₀.get? s.heap.objs.size = none := next_is_new F
    obtain ⟨⟨oI, hoI, _, hdI⟩, _⟩ := id hst
    have hIown : (s.heap.objs.size, oI) ∈ own := hfp _ (List.mem_cons.mpr (.inl rfl)) hI0 _ hoI
    have hsep : ∀ p ∈ news₁, p.1 ≠ s.heap.objs.size := fun p hp e => hoff p hp (List.mem_singleton.mpr e)
    have N₂ : News h₀ env.locals s₁.heap ((s.heap.objs.size, oI) :: news₁) := fun p hp => (List.mem_cons.mp hp).elim (fun e => N₁ p (List.mem_append_left _ (e ▸ hIown))) fun e => N₁ p (List.mem_append_right _ e)
    refine wpAny_mono (turn i v m₁ news₁ s₁ s.heap.objs.size oI hP' ⟨_, hdI⟩ hsep hJ F₁ N₂) (fun _ s₃ k => wpAny_mono k (fun f s₂ e => ?_) fun _ _ e => e) fun _ _ e => e
    obtain ⟨rfl, h', tk, m', news', rfl, F', N', hne', hJ'⟩ := e
    refine ⟨rfl, h', tk, m', news', rfl, F', fun p hp => ?_, fun p hp hq => hne' p hp (List.mem_singleton.mp hq), hJ'⟩
    rcases List.mem_append.mp hp with h | h
    · rcases List.mem_cons.mp (hown p h) with h2 | h2
      · have h3 : s₁.heap.get? p.1 = some p.2 := hget p h
        rw [h2, hoI] at h3
        have : p = (s.heap.objs.size, oI) := Prod.ext h2 (Option.some.inj h3).symm
        exact N' p (this ▸ List.mem_cons.mpr (.inl rfl))
      · exfalso
        have h3 := (N₁ p (List.mem_append_left _ h)).2.2
        rw [List.mem_singleton.mp h2, hol] at h3
        cases h3
    · exact N' p (List.mem_cons.mpr (.inr h))
  · rintro h' tk m' news' F' N' _ hJ
    exact done m' news' h' tk hJ F' N'
end
end Mine
end
local macro_rules | `(tactic| walk_at $s:str) => `(tactic| k_extra $s)
local macro_rules | `(tactic| k_all) => `(tactic| assumption)
local macro_rules | `(tactic| k_mem) => `(tactic| assumption)
section
open PySem PySem.W PyProof.Rows PySem.Spec PySem.Calls
set_option maxHeartbeats 400000
namespace Mine
set_option profiler true
set_option profiler.threshold 200
section
variable {w : World} {mean : ExcName → Option Value} {mg mb : PySem.Str → Option Value} {dp un : Nat} {gd : Option (List Code)} {cn : PySem.Str} {cs : Scope} {a : Addr} {ccd : Value} {cl : List (PySem.Str × Addr)} {outer : List Env} {A₀ : Around} {base h₀ : Heap} {L : Addr} {m : PySem.Str → Option Value} {s : Shared} {Q E : Value → Shared → Prop} {news : List (Addr × Obj)}

theorem draw_0 (k p x : Int) (tk tp tx : Tok) (wl cw : Addr) (vs : List Value) (cells : List Int) (nw nc : Nat) (rest : List (Addr × Obj)) (B : Below A₀ base outer h₀) (F : Fr h₀ L s.heap m) (X : (K w.params).In h₀) (T : Top vq lo mean mg mb h₀) (hk : cs.kind = .function) (hd : dp + 20 < recursionLimit) (hu : un + 400 < cLine)
    (N : News h₀ L s.heap ((wl, listOf [.ref cw, .int p tp, .int x tx].toArray nw) :: (cw, listOf vs.toArray nc) :: rest)) (hcw : cw ≠ wl) (hr : ∀ q ∈ rest, q.1 ≠ wl)
    (hi : IntsAre vs cells) (hcl : cells.length ≤ 64) (hcb : ∀ c ∈ cells, 0 ≤ c ∧ c < 2 ^ 31) (hp0 : 0 ≤ p) (hp1 : p < 2 ^ 31) (hx0 : 0 ≤ x) (hx1 : x < 2 ^ 31) (hk0 : 0 < k) (hk1 : k < 2 ^ 31)
    (ret : ∀ r x' t tp' tx' nw' h' tk', 0 ≤ r → r < k → 0 ≤ x' → x' < 2 ^ 31 → Fr h₀ L h' m → News h₀ L h' ((wl, listOf [.ref cw, .int (p + 1) tp', .int x' tx'].toArray nw') :: (cw, listOf vs.toArray nc) :: rest) → Q (.int r t) { s with heap := h', toks := tk' }) :
    wpAny (model pr w) (ktrTop dp un gd cn cs L a ccd cl outer) (call (.ref 381) [.ref wl, .int k tk]) Q E s := by
  refine wpAny_call ?_
  k_dflt (refine' enterD [("well", .ref wl), ("size", .int k tk)] ?k1 ?k2 ?k3 ?k4 ?k5 ?kA ?kF ?kK ?k6 ?k7 ?k8 ?k9 ?kB ?_ ?c2 ?c3 ?c4 ?c5; (case kA => exact rfl); (case kF => exact rfl); (case kK => assumption); (case k1 => k_asm); (case k2 => k_asm); (case k3 => k_asm); (case k4 => k_asm); (case k5 => k_asm); (case k6 => k_is); (case k7 => k_is); (case k8 => ktr_room); (case k9 => exact BindsTo.of_eq rfl); (case c5 => decide); (case kB => exact locs rfl); (case c2 => exact rfl); (case c3 => exact rfl); (case c4 => exact rfl); k_whole; intro g' L' h' tk' FG' F' N' B' X' T'; (try dsimp only); (try k_fold))
  k_steps
  all_goals refine ret _ _ _ _ _ _ _ _ ?_ ?_ ?_ ?_ (by assumption) (by assumption)
  all_goals first | exact Int.fmod_nonneg_of_pos _ (by omega) | exact Int.fmod_lt_of_pos _ (by omega) | exact Int.lt_trans (Int.fmod_lt_of_pos _ (by omega)) (by decide)
/-- what is known of a well: its cells, its place, its seed -/
structure WellAt (wl cw : Addr) (W : Obj) (news : List (Addr × Obj)) (B : Int) : Prop where
  out : ∃ vs cells nw nc p x tp tx, W = listOf [.ref cw, .int p tp, .int x tx].toArray nw ∧ (cw, listOf vs.toArray nc) ∈ news ∧ cw ≠ wl ∧ IntsAre vs cells ∧ cells.length ≤ 64 ∧ (∀ c ∈ cells, 0 ≤ c ∧ c < 2 ^ 31) ∧ 0 ≤ p ∧ p ≤ B ∧ 0 ≤ x ∧ x < 2 ^ 31
theorem WellAt.mono {cw : Addr} {wl : Addr} {W : Obj} {news news' : List (Addr × Obj)} {B B' : Int} (h : WellAt wl cw W news B) (hs : ∀ p ∈ news, p ∈ news') (hB : B ≤ B') : WellAt wl cw W news' B' := by
  obtain ⟨vs, cells, nw, nc, p, x, tp, tx, h1, h2, h3, h4, h5, h6, h7, h8, h9, h10⟩ := h.out
  exact ⟨⟨vs, cells, nw, nc, p, x, tp, tx, h1, hs _ h2, h3, h4, h5, h6, h7, Int.le_trans h8 hB, h9, h10⟩⟩
theorem updF_mem {d : Addr} {o : Obj} {l : List (Addr × Obj)} {g : Obj → List (Addr × Obj)} (U : UpdF d o l g) (o' : Obj) : (d, o') ∈ g o' := by
  induction U with
  | head _ => exact .head _
  | tail _ _ ih => exact .tail _ ih
theorem updF_other {d : Addr} {o : Obj} {l : List (Addr × Obj)} {g : Obj → List (Addr × Obj)} (U : UpdF d o l g) (o' : Obj) {p : Addr × Obj} (hp : p ∈ l) (hne : p.1 ≠ d) : p ∈ g o' := by
  induction U with
  | head _ => cases hp with
    | head => exact absurd rfl hne
    | tail _ h => exact .tail _ h
  | tail _ _ ih => cases hp with
    | head => exact .head _
    | tail _ h => exact .tail _ (ih h)
theorem updF_back {d : Addr} {o o' : Obj} {l : List (Addr × Obj)} {g : Obj → List (Addr × Obj)} (U : UpdF d o l g) {p : Addr × Obj} (hp : p ∈ g o') (hne : p.1 ≠ d) : p ∈ l := by
  induction U with
  | head _ => cases hp with
    | head => exact absurd rfl hne
    | tail _ h => exact .tail _ h
  | tail _ _ ih => cases hp with
    | head => exact .head _
    | tail _ h => exact .tail _ (ih h)
theorem updF_here {d : Addr} {o : Obj} {l : List (Addr × Obj)} {g : Obj → List (Addr × Obj)} (U : UpdF d o l g) : (d, o) ∈ l := by
  induction U with
  | head _ => exact .head _
  | tail _ _ ih => exact .tail _ ih
theorem updF_only {d : Addr} {o o' : Obj} {l : List (Addr × Obj)} {g : Obj → List (Addr × Obj)} (U : UpdF d o l g) {q : Obj} (hp : (d, q) ∈ g o') : q = o' := by
  induction U with
  | head h => cases hp with
    | head => rfl
    | tail _ hp => exact absurd rfl (h _ hp)
  | tail hne _ ih => cases hp with
    | head => exact absurd rfl hne
    | tail _ h => exact ih h
/-- a draw: a number of 0 .. k - 1; the well goes on -/
theorem draw_c {cw : Addr} (k : Int) (tk : Tok) (wl : Addr) (W : Obj) (P : Int) (g : Obj → List (Addr × Obj)) (B : Below A₀ base outer h₀) (F : Fr h₀ L s.heap m) (X : (K w.params).In h₀) (T : Top vq lo mean mg mb h₀) (hk : cs.kind = .function) (hd : dp + 20 < recursionLimit) (hu : un + 400 < cLine)
    (N : News h₀ L s.heap news) (U : UpdF wl W news g) (hW : WellAt wl cw W news P) (hP : P < 2 ^ 30) (hk0 : 0 < k) (hk1 : k < 2 ^ 31)
    (ret : ∀ r t W' h' tk', 0 ≤ r → r < k → WellAt wl cw W' (g W') (P + 1) → Fr h₀ L h' m → News h₀ L h' (g W') → Q (.int r t) { s with heap := h', toks := tk' }) :
    wpAny (model pr w) (ktrTop dp un gd cn cs L a ccd cl outer) (call (.ref 381) [.ref wl, .int k tk]) Q E s := by
  obtain ⟨vs, cells, nw, nc, p, x, tp, tx, rfl, h2, h3, h4, h5, h6, h7, h8, h9, h10⟩ := hW.out
  refine draw_0 k p x tk tp tx wl cw vs cells nw nc (news.filter fun q => decide (q.1 ≠ wl)) B F X T hk hd hu (fun q hq => ?_) h3 (fun q hq => by simpa using (List.mem_filter.mp hq).2) h4 h5 h6 h7 (by omega) h9 h10 hk0 hk1 (fun r x' t tp' tx' nw' h' tk' a b c d F' N' => ?_)
  · cases hq with
    | head => exact N _ (updF_here U)
    | tail _ hq => cases hq with
      | head => exact N _ h2
      | tail _ hq => exact N _ (List.mem_filter.mp hq).1
  · refine ret r t _ h' tk' a b ⟨⟨vs, cells, nw', nc, p + 1, x', tp', tx', rfl, updF_other U _ h2 h3, h3, h4, h5, h6, by omega, by omega, c, d⟩⟩ F' fun q hq => ?_
    by_cases e : q.1 = wl
    · obtain ⟨qa, qo⟩ := q
      cases e
      rw [updF_only U hq]
      exact N' _ (.head _)
    · exact N' _ (.tail _ (.tail _ (List.mem_filter.mpr ⟨updF_back U hq e, by simpa using e⟩)))
end
end Mine
end
section
open PySem PySem.W PyProof.Rows PySem.Spec PySem.Calls
set_option maxHeartbeats 400000
namespace Mine
inductive Fm | R | I | H | S | B | U | J | F | E
  deriving DecidableEq
def Fm.str : Fm → PySem.Str
  | .R => "R" | .I => "I" | .H => "H" | .S => "S" | .B => "B" | .U => "U" | .J => "J" | .F => "F" | .E => "E"
abbrev tupO (vs : List Value) : Obj := { cls := .type "tuple", data := .seq vs.toArray }
/-- the ledger bears these values as tuples of two ints -/
inductive PA (news : List (Addr × Obj)) : List Value → List (Int × Int) → Prop
  | nil : PA news [] []
  | cons {D : Addr} {x y : Int} {t u : Tok} {vs : List Value} {ps : List (Int × Int)} : (D, tupO [.int x t, .int y u]) ∈ news → PA news vs ps → PA news (.ref D :: vs) ((x, y) :: ps)
theorem PA.mono {news news' : List (Addr × Obj)} {vs : List Value} {ps : List (Int × Int)} (h : PA news vs ps) (hs : ∀ p ∈ news, p ∈ news') : PA news' vs ps := by
  induction h with
  | nil => exact .nil
  | cons hm _ ih => exact .cons (hs _ hm) ih
theorem PA.append {news : List (Addr × Obj)} {vs ws : List Value} {ps qs : List (Int × Int)} (h : PA news vs ps) (k : PA news ws qs) : PA news (vs ++ ws) (ps ++ qs) := by
  induction h with
  | nil => exact k
  | cons hm _ ih => exact .cons hm ih
theorem PA.length {news : List (Addr × Obj)} {vs : List Value} {ps : List (Int × Int)} (h : PA news vs ps) : vs.length = ps.length := by
  induction h with
  | nil => rfl
  | cons _ _ ih => simp [ih]
theorem PA.get {news : List (Addr × Obj)} {vs : List Value} {ps : List (Int × Int)} (h : PA news vs ps) : ∀ {i : Nat} {v : Value}, vs[i]? = some v → ∃ D x y t u, v = .ref D ∧ (D, tupO [.int x t, .int y u]) ∈ news ∧ ps[i]? = some (x, y) := by
  induction h with
  | nil => intro i v hv; simp at hv
  | cons hm _ ih =>
    intro i v hv
    cases i with
    | zero => simp at hv; subst hv; exact ⟨_, _, _, _, _, rfl, hm, rfl⟩
    | succ i => simp at hv; obtain ⟨D, x, y, t, u, h1, h2, h3⟩ := ih hv; exact ⟨D, x, y, t, u, h1, h2, by simpa using h3⟩
noncomputable def scP : Scope := match fdB (stm 26) with
  | .If _ [.Return (some (.ListComp _ _ sc _)) _] _ _ :: _ => sc
  | _ => default
section
variable {w : World} {mean : ExcName → Option Value} {mg mb : PySem.Str → Option Value} {dp un : Nat} {gd : Option (List Code)} {cn : PySem.Str} {cs : Scope} {a : Addr} {ccd : Value} {cl : List (PySem.Str × Addr)} {outer : List Env} {A₀ : Around} {base h₀ : Heap} {L : Addr} {m : PySem.Str → Option Value} {s : Shared} {Q E : Value → Shared → Prop} {news : List (Addr × Obj)}

theorem elt_plus {A : Around} (v c : Int) (t : Tok) (p1 p2 p3 p4 p6 : Pos) (n3 n5 : Nat) (L' : Addr) (m₂ : PySem.Str → Option Value) (C : Addr) (oC : Obj) (cl' : List (PySem.Str × Addr)) (hv0 : 0 ≤ v) (hv1 : v < 2 ^ 20) (hc0 : 0 ≤ c) (hc1 : c < 2 ^ 20)
    (F : Fr h₀ L s.heap m) (X : (K w.params).In h₀) (T : Top vq lo mean mg mb h₀) (N : News h₀ L s.heap news) (hC : (C, oC) ∈ news) (hN : LCg.NsObj oC m₂) (hm : m₂ "k" = some (.int v t))
    (ret : ∀ D u h' tk', Fr h₀ L h' m → News h₀ L h' ((D, tupO [.int v t, .int (v + c) u]) :: news) → AllLt D news → Q (.ref D) { s with heap := h', toks := tk' }) :
    wpAny (model pr w) A (eval (.Tuple [.Name "k" p1, .BinOp (.Name "k" p2) .Add (.Constant (.int c) n3 p3) p4] n5 p6) (compEnvC scP cl' C (envOf "_law_places" (fdS (stm 26)) L' 393 (.ref 392)))) Q E s := by
  k_steps
  all_goals exact ret _ _ _ _ (by assumption) (by assumption) (by first | assumption | exact allLt_of (by assumption))
theorem elt_same {A : Around} (v : Int) (t : Tok) (p1 p2 p6 : Pos) (n5 : Nat) (L' : Addr) (m₂ : PySem.Str → Option Value) (C : Addr) (oC : Obj) (cl' : List (PySem.Str × Addr))
    (F : Fr h₀ L s.heap m) (X : (K w.params).In h₀) (T : Top vq lo mean mg mb h₀) (N : News h₀ L s.heap news) (hC : (C, oC) ∈ news) (hN : LCg.NsObj oC m₂) (hm : m₂ "k" = some (.int v t))
    (ret : ∀ D u h' tk', Fr h₀ L h' m → News h₀ L h' ((D, tupO [.int v t, .int v u]) :: news) → AllLt D news → Q (.ref D) { s with heap := h', toks := tk' }) :
    wpAny (model pr w) A (eval (.Tuple [.Name "k" p1, .Name "k" p2] n5 p6) (compEnvC scP cl' C (envOf "_law_places" (fdS (stm 26)) L' 393 (.ref 392)))) Q E s := by
  k_steps
  all_goals exact ret _ _ _ _ (by assumption) (by assumption) (by first | assumption | exact allLt_of (by assumption))
theorem off3_cons {I C D D' : Addr} {o : Obj} {oI oC oD : Obj} {news : List (Addr × Obj)} (h : AllLt D' ((I, oI) :: (C, oC) :: (D, oD) :: news)) (k : LCg.Off3 I C D news) : LCg.Off3 I C D ((D', o) :: news) :=
  ⟨⟨Nat.ne_of_gt h.1, Nat.ne_of_gt h.2.1, Nat.ne_of_gt h.2.2.1⟩, k⟩
/-- the turns of «[(k, k + c) for k in ..]» -/
theorem rest_plus {A : Around} (a₀ c : Int) (n : Nat) (p1 p2 p3 p4 p6 : Pos) (n3 n5 : Nat) (L' : Addr) (cl' : List (PySem.Str × Addr)) (ha0 : 0 ≤ a₀) (ha1 : a₀ + n < 2 ^ 20) (hc0 : 0 ≤ c) (hc1 : c < 2 ^ 20)
    (X : (K w.params).In h₀) (T : Top vq lo mean mg mb h₀) (Fin : List Value → List (Addr × Obj) → Prop) (nw : List (Addr × Obj))
    (fin : ∀ ys news', PA news' ys ((List.range n).map fun (i : Nat) => (a₀ + i, a₀ + i + c)) → (∀ p ∈ nw, p ∈ news') → Fin ys news') :
    LCg.CompRest pr w A h₀ L m (envOf "_law_places" (fdS (stm 26)) L' 393 (.ref 392)) (.Tuple [.Name "k" p1, .BinOp (.Name "k" p2) .Add (.Constant (.int c) n3 p3) p4] n5 p6) "k" scP cl' s (fun _ => True) (fun i v => ∃ t, v = .int (a₀ + (i : Int)) t) Fin n 0 [] nw := by
  have main : ∀ (k i : Nat) (ys : List Value) (news : List (Addr × Obj)), i + k = n → PA news ys ((List.range i).map fun (i : Nat) => (a₀ + i, a₀ + i + c)) → (∀ p ∈ nw, p ∈ news) →
      LCg.CompRest pr w A h₀ L m (envOf "_law_places" (fdS (stm 26)) L' 393 (.ref 392)) (.Tuple [.Name "k" p1, .BinOp (.Name "k" p2) .Add (.Constant (.int c) n3 p3) p4] n5 p6) "k" scP cl' s (fun _ => True) (fun i v => ∃ t, v = .int (a₀ + (i : Int)) t) Fin k i ys news := by
    intro k
    induction k with
    | zero => intro i ys news hi hp hs; exact .zero (fin ys news (by rw [← hi]; exact hp) hs)
    | succ k ih =>
      intro i ys news hi hp hs
      refine .succ ?_
      rintro v I oI C oC D m₂ h tk E' ⟨t, rfl⟩ hC hx F N off ne
      refine elt_plus (mg := mg) (mb := mb) (mean := mean) (a₀ + i) c t p1 p2 p3 p4 p6 n3 n5 L' m₂ C oC cl' (by omega) (by omega) hc0 hc1 F X T N (.tail _ (.head _)) hC hx (fun D' u h' tk' F' N' lt => ?_)
      refine LCg.CompEnd.intro F' N' ((D', tupO [.int (a₀ + i) t, .int (a₀ + i + c) u]) :: news) (fun q hq => ?_) (off3_cons lt off) trivial ?_
      · rcases List.mem_cons.mp hq with rfl | hq
        · exact .tail _ (.head _)
        · rcases List.mem_cons.mp hq with rfl | hq
          · exact .tail _ (.tail _ (.head _))
          · rcases List.mem_cons.mp hq with rfl | hq
            · exact .tail _ (.tail _ (.tail _ (.head _)))
            · rcases List.mem_cons.mp hq with rfl | hq
              · exact .head _
              · exact .tail _ (.tail _ (.tail _ (.tail _ hq)))
      · refine ih (i + 1) _ _ (by omega) ?_ (fun p hp => .tail _ (hs p hp))
        rw [List.range_succ, List.map_append]
        exact (hp.mono fun p hp => .tail _ hp).append (.cons (.head _) .nil)
  exact main n 0 [] nw (by omega) .nil fun p hp => hp
theorem rest_same {A : Around} (a₀ : Int) (n : Nat) (p1 p2 p6 : Pos) (n5 : Nat) (L' : Addr) (cl' : List (PySem.Str × Addr))
    (X : (K w.params).In h₀) (T : Top vq lo mean mg mb h₀) (Fin : List Value → List (Addr × Obj) → Prop) (nw : List (Addr × Obj))
    (fin : ∀ ys news', PA news' ys ((List.range n).map fun (i : Nat) => (a₀ + i, a₀ + i)) → (∀ p ∈ nw, p ∈ news') → Fin ys news') :
    LCg.CompRest pr w A h₀ L m (envOf "_law_places" (fdS (stm 26)) L' 393 (.ref 392)) (.Tuple [.Name "k" p1, .Name "k" p2] n5 p6) "k" scP cl' s (fun _ => True) (fun i v => ∃ t, v = .int (a₀ + (i : Int)) t) Fin n 0 [] nw := by
  have main : ∀ (k i : Nat) (ys : List Value) (news : List (Addr × Obj)), i + k = n → PA news ys ((List.range i).map fun (i : Nat) => (a₀ + i, a₀ + i)) → (∀ p ∈ nw, p ∈ news) →
      LCg.CompRest pr w A h₀ L m (envOf "_law_places" (fdS (stm 26)) L' 393 (.ref 392)) (.Tuple [.Name "k" p1, .Name "k" p2] n5 p6) "k" scP cl' s (fun _ => True) (fun i v => ∃ t, v = .int (a₀ + (i : Int)) t) Fin k i ys news := by
    intro k
    induction k with
    | zero => intro i ys news hi hp hs; exact .zero (fin ys news (by rw [← hi]; exact hp) hs)
    | succ k ih =>
      intro i ys news hi hp hs
      refine .succ ?_
      rintro v I oI C oC D m₂ h tk E' ⟨t, rfl⟩ hC hx F N off ne
      refine elt_same (mg := mg) (mb := mb) (mean := mean) (a₀ + i) t p1 p2 p6 n5 L' m₂ C oC cl' F X T N (.tail _ (.head _)) hC hx (fun D' u h' tk' F' N' lt => ?_)
      refine LCg.CompEnd.intro F' N' ((D', tupO [.int (a₀ + i) t, .int (a₀ + i) u]) :: news) (fun q hq => ?_) (off3_cons lt off) trivial ?_
      · rcases List.mem_cons.mp hq with rfl | hq
        · exact .tail _ (.head _)
        · rcases List.mem_cons.mp hq with rfl | hq
          · exact .tail _ (.tail _ (.head _))
          · rcases List.mem_cons.mp hq with rfl | hq
            · exact .tail _ (.tail _ (.tail _ (.head _)))
            · rcases List.mem_cons.mp hq with rfl | hq
              · exact .head _
              · exact .tail _ (.tail _ (.tail _ (.tail _ hq)))
      · refine ih (i + 1) _ _ (by omega) ?_ (fun p hp => .tail _ (hs p hp))
        rw [List.range_succ, List.map_append]
        exact (hp.mono fun p hp => .tail _ hp).append (.cons (.head _) .nil)
  exact main n 0 [] nw (by omega) .nil fun p hp => hp
end
end Mine
end
section
open PySem PySem.W PyProof.Rows PySem.Spec PySem.Calls
set_option maxHeartbeats 400000
namespace Mine
/-- the places of a number's bits, form by form, as the law lays them -/
def pl (a c : Int) (n : Nat) : List (Int × Int) := (List.range n).map fun (i : Nat) => (a + i, a + i + c)
def pl0 (a : Int) (n : Nat) : List (Int × Int) := (List.range n).map fun (i : Nat) => (a + i, a + i)
def psOf : Fm → List (Int × Int)
  | .I => pl 0 20 12
  | .H => pl 0 20 5
  | .S => pl 0 7 5 ++ pl 5 20 7
  | .B => pl 1 7 4 ++ pl 5 20 6 ++ [(11, 7), (12, 31)]
  | .U => pl 0 12 20
  | .J => pl 1 20 10 ++ [(11, 20)] ++ pl0 12 8 ++ [(20, 31)]
  | .F => pl 0 20 8
  | _ => []
theorem fm_of {f g : Fm} (h : (f.str == g.str) = true) : f = g := by
  revert h
  cases f <;> cases g <;> first | (intro _; rfl) | (intro h; exact absurd h (by decide))
theorem psOf_none {f : Fm} (h1 : (f.str == "I") = false) (h2 : (f.str == "H") = false) (h3 : (f.str == "S") = false) (h4 : (f.str == "B") = false) (h5 : (f.str == "U") = false) (h6 : (f.str == "J") = false) (h7 : (f.str == "F") = false) : psOf f = [] := by
  cases f <;> first | rfl | (exfalso; revert h1 h2 h3 h4 h5 h6 h7; decide)
section
variable {w : World} {mean : ExcName → Option Value} {mg mb : PySem.Str → Option Value} {dp un : Nat} {gd : Option (List Code)} {cn : PySem.Str} {cs : Scope} {a : Addr} {ccd : Value} {cl : List (PySem.Str × Addr)} {outer : List Env} {A₀ : Around} {base h₀ : Heap} {L : Addr} {m : PySem.Str → Option Value} {s : Shared} {Q E : Value → Shared → Prop} {news : List (Addr × Obj)}

theorem kw_W4_1 : True := by
  k_with_none
  k_with "eval ListComp" => (k_here; k_dflt (refine LCg.ListComp_U (F₀ := by k_asm) (by rfl) (by decide) (by rfl) (by decide) (by rfl) ?_))
  k_with "CompSrc" => (k_here; k_dflt (refine LCg.CompSrc.range (by rfl) (by k_asm) (by k_asm) (by assumption) (by first | decide | rfl) (by first | rfl | decide) (by first | size_fits | exact Nat.le_of_ble_eq_true rfl) ?_); intro _)
  k_with "CompRest" => (k_dflt (first | refine rest_plus (mg := mg) (mb := mb) (mean := mean) _ _ _ _ _ _ _ _ _ _ _ _ (by decide) (by decide) (by decide) (by decide) (by k_asm) (by k_asm) _ _ ?_ | refine rest_same (mg := mg) (mb := mb) (mean := mean) _ _ _ _ _ _ _ _ (by k_asm) (by k_asm) _ _ ?_); (unfold LCg.FinE); intro ys9 nw9 pa9 sub9 D9 h9 tk9 F9 N9 o9; (first | (have sn9 : ∀ p ∈ news, p ∈ nw9 := sub9) | (have sn9 : ∀ p ∈ news, p ∈ nw9 := fun p hp => sub9 p (List.Mem.tail _ ((show ∀ p ∈ news, p ∈ _ by assumption) p hp))) | (have sn9 : ∀ p ∈ news, p ∈ nw9 := fun p hp => sub9 p (List.Mem.tail _ (List.Mem.tail _ ((show ∀ p ∈ news, p ∈ _ by assumption) p hp)))) | (have sn9 : ∀ p ∈ news, p ∈ nw9 := fun p hp => sub9 p (List.Mem.tail _ (List.Mem.tail _ (List.Mem.tail _ ((show ∀ p ∈ news, p ∈ _ by assumption) p hp))))) | (have sn9 : ∀ p ∈ news, p ∈ nw9 := fun p hp => sub9 p (List.Mem.tail _ (List.Mem.tail _ (List.Mem.tail _ (List.Mem.tail _ ((show ∀ p ∈ news, p ∈ _ by assumption) p hp)))))) | (have sn9 : ∀ p ∈ news, p ∈ nw9 := fun p hp => sub9 p (List.Mem.tail _ (List.Mem.tail _ (List.Mem.tail _ (List.Mem.tail _ (List.Mem.tail _ ((show ∀ p ∈ news, p ∈ _ by assumption) p hp))))))) | skip); (try (have m9 := sub9 _ (List.Mem.head _))); (try (have pb9 := PA.mono (by assumption) (fun p hp => sub9 p (List.Mem.tail _ hp)))); (try (have pc9 := PA.mono (by assumption) (fun p hp => sub9 p hp))); (try dsimp only))
  trivial
theorem add_PA {A : Around} {a b : Addr} {vs ws : List Value} {n k : Nat} {ps qs : List (Int × Int)} (F : Fr h₀ L s.heap m) (N : News h₀ L s.heap news) (ha : (a, listOf vs.toArray n) ∈ news) (hb : (b, listOf ws.toArray k) ∈ news) (pa : PA news vs ps) (pb : PA news ws qs)
    (hz : ps.length + qs.length ≤ 1000)
    (h : ∀ D h', Fr h₀ L h' m → News h₀ L h' ((D, listOf (vs ++ ws).toArray 0) :: news) → PA ((D, listOf (vs ++ ws).toArray 0) :: news) (vs ++ ws) (ps ++ qs) → Q (.ref D) { s with heap := h' }) :
    wpAny (model pr w) A (binaryOp .Add (.ref a) (.ref b)) Q E s :=
  kmk_add_lit F N (News.isList N ha) (News.isList N hb) rfl (fun D h' F' N' _ => h D h' F' N' ((pa.append pb).mono fun p hp => .tail _ hp)) (by
    have h1 := pa.length
    have h2 := pb.length
    simp only [sizeLine_eq]
    show vs.length + ws.length ≤ _
    omega)
theorem kw_W4_2 : True := by
  k_with "pa_at" => first | assumption | exact PA.mono (by assumption) (fun p hp => List.Mem.tail _ (hp)) | exact PA.mono (by assumption) (fun p hp => List.Mem.tail _ (List.Mem.tail _ (hp))) | exact PA.mono (by assumption) (fun p hp => List.Mem.tail _ (List.Mem.tail _ (List.Mem.tail _ (hp)))) | exact PA.mono (by assumption) (fun p hp => List.Mem.tail _ (List.Mem.tail _ (List.Mem.tail _ (List.Mem.tail _ (hp))))) | exact PA.mono (by assumption) (fun p hp => List.Mem.tail _ (List.Mem.tail _ (List.Mem.tail _ (List.Mem.tail _ (List.Mem.tail _ (hp)))))) | exact PA.cons (by k_mem) PA.nil | exact PA.cons (by k_mem) (PA.cons (by k_mem) PA.nil)
  k_with "binaryOp Add ref ref" => (k_here; k_dflt (refine' add_PA ?zF ?zN ?za ?zb ?zpa ?zpb ?zz ?_; (case zF => k_asm); (case zN => k_asm); (case za => k_mem); (case zb => k_mem); (case zpa => walk_at "pa_at"); (case zpb => walk_at "pa_at"); (case zz => decide)); intro _ _ _ _ _; (try k_sweep))
  k_with "subs" => first | exact fun p hp => List.Mem.tail _ ((show ∀ p ∈ news, p ∈ _ by assumption) p hp) | exact fun p hp => List.Mem.tail _ (List.Mem.tail _ ((show ∀ p ∈ news, p ∈ _ by assumption) p hp)) | exact fun p hp => List.Mem.tail _ (List.Mem.tail _ (List.Mem.tail _ ((show ∀ p ∈ news, p ∈ _ by assumption) p hp))) | exact fun p hp => List.Mem.tail _ (List.Mem.tail _ (List.Mem.tail _ (List.Mem.tail _ ((show ∀ p ∈ news, p ∈ _ by assumption) p hp)))) | exact fun p hp => List.Mem.tail _ (List.Mem.tail _ (List.Mem.tail _ (List.Mem.tail _ (List.Mem.tail _ ((show ∀ p ∈ news, p ∈ _ by assumption) p hp))))) | exact fun p hp => List.Mem.tail _ (List.Mem.tail _ (List.Mem.tail _ (List.Mem.tail _ (List.Mem.tail _ (List.Mem.tail _ ((show ∀ p ∈ news, p ∈ _ by assumption) p hp))))))
  trivial
theorem places_c (f : Fm) (x : PySem.Str) (hx : x = f.str) (tf : Tok) (B : Below A₀ base outer h₀) (F : Fr h₀ L s.heap m) (X : (K w.params).In h₀) (T : Top vq lo mean mg mb h₀) (hk : cs.kind = .function) (hd : dp + 20 < recursionLimit) (hu : un + 400 < cLine)
    (N : News h₀ L s.heap news) 
    (ret : ∀ l vs n news' h' tk', Fr h₀ L h' m → News h₀ L h' news' → (∀ p ∈ news, p ∈ news') → (l, listOf vs.toArray n) ∈ news' → PA news' vs (psOf f) → Q (.ref l) { s with heap := h', toks := tk' }) :
    wpAny (model pr w) (ktrTop dp un gd cn cs L a ccd cl outer) (call (.ref 393) [.str x tf]) Q E s := by
  refine wpAny_call ?_
  k_dflt (refine' enterD [("form", .str x tf)] ?k1 ?k2 ?k3 ?k4 ?k5 ?kA ?kF ?kK ?k6 ?k7 ?k8 ?k9 ?kB ?_ ?c2 ?c3 ?c4 ?c5; (case kA => exact rfl); (case kF => exact rfl); (case kK => assumption); (case k1 => k_asm); (case k2 => k_asm); (case k3 => k_asm); (case k4 => k_asm); (case k5 => k_asm); (case k6 => k_is); (case k7 => k_is); (case k8 => ktr_room); (case k9 => exact BindsTo.of_eq rfl); (case c5 => decide); (case kB => exact locs rfl); (case c2 => exact rfl); (case c3 => exact rfl); (case c4 => exact rfl); k_whole; intro g' L' h' tk' FG' F' N' B' X' T'; (try dsimp only); (try k_fold))
  k_steps
  all_goals subst hx
  all_goals first
    | (cases fm_of (f := f) (g := .I) (by assumption); (refine' ret _ _ _ _ _ _ ?y1 ?y2 ?y3 ?y4 ?y5; (case y1 => assumption); (case y2 => assumption); (case y4 => k_mem); (case y3 => walk_at "subs"); (case y5 => walk_at "pa_at")))
    | (cases fm_of (f := f) (g := .H) (by assumption); (refine' ret _ _ _ _ _ _ ?y1 ?y2 ?y3 ?y4 ?y5; (case y1 => assumption); (case y2 => assumption); (case y4 => k_mem); (case y3 => walk_at "subs"); (case y5 => walk_at "pa_at")))
    | (cases fm_of (f := f) (g := .S) (by assumption); (refine' ret _ _ _ _ _ _ ?y1 ?y2 ?y3 ?y4 ?y5; (case y1 => assumption); (case y2 => assumption); (case y4 => k_mem); (case y3 => walk_at "subs"); (case y5 => walk_at "pa_at")))
    | (cases fm_of (f := f) (g := .B) (by assumption); (refine' ret _ _ _ _ _ _ ?y1 ?y2 ?y3 ?y4 ?y5; (case y1 => assumption); (case y2 => assumption); (case y4 => k_mem); (case y3 => walk_at "subs"); (case y5 => walk_at "pa_at")))
    | (cases fm_of (f := f) (g := .U) (by assumption); (refine' ret _ _ _ _ _ _ ?y1 ?y2 ?y3 ?y4 ?y5; (case y1 => assumption); (case y2 => assumption); (case y4 => k_mem); (case y3 => walk_at "subs"); (case y5 => walk_at "pa_at")))
    | (cases fm_of (f := f) (g := .J) (by assumption); (refine' ret _ _ _ _ _ _ ?y1 ?y2 ?y3 ?y4 ?y5; (case y1 => assumption); (case y2 => assumption); (case y4 => k_mem); (case y3 => walk_at "subs"); (case y5 => walk_at "pa_at")))
    | (cases fm_of (f := f) (g := .F) (by assumption); (refine' ret _ _ _ _ _ _ ?y1 ?y2 ?y3 ?y4 ?y5; (case y1 => assumption); (case y2 => assumption); (case y4 => k_mem); (case y3 => walk_at "subs"); (case y5 => walk_at "pa_at")))
    | (refine' ret _ _ _ _ _ _ ?y1 ?y2 ?y3 ?y4 ?y5; (case y1 => assumption); (case y2 => assumption); (case y4 => k_mem); (case y3 => exact fun p hp => List.Mem.tail _ hp); rw [psOf_none (f := f) (by assumption) (by assumption) (by assumption) (by assumption) (by assumption) (by assumption) (by assumption)]; exact PA.nil)
    | skip
theorem kw_W4_3 : True := by
  k_with_none
  trivial
end
end Mine
end
section
open PySem PySem.W PyProof.Rows PySem.Spec PySem.Calls
set_option maxHeartbeats 400000
namespace Mine
/-- the registers' places, form by form -/
def rgOf : Fm → List (PySem.Str × Int)
  | .R => [("rd", 7), ("rs1", 15), ("rs2", 20)]
  | .I | .H => [("rd", 7), ("rs1", 15)]
  | .S | .B => [("rs1", 15), ("rs2", 20)]
  | .U | .J => [("rd", 7)]
  | _ => []
/-- the ledger bears these values as tuples of a text and an int -/
inductive RA (news : List (Addr × Obj)) : List Value → List (PySem.Str × Int) → Prop
  | nil : RA news [] []
  | cons {D : Addr} {x : PySem.Str} {y : Int} {t u : Tok} {vs : List Value} {ps : List (PySem.Str × Int)} : (D, tupO [.str x t, .int y u]) ∈ news → RA news vs ps → RA news (.ref D :: vs) ((x, y) :: ps)
theorem RA.mono {news news' : List (Addr × Obj)} {vs : List Value} {ps : List (PySem.Str × Int)} (h : RA news vs ps) (hs : ∀ p ∈ news, p ∈ news') : RA news' vs ps := by
  induction h with
  | nil => exact .nil
  | cons hm _ ih => exact .cons (hs _ hm) ih
theorem RA.length {news : List (Addr × Obj)} {vs : List Value} {ps : List (PySem.Str × Int)} (h : RA news vs ps) : vs.length = ps.length := by
  induction h with
  | nil => rfl
  | cons _ _ ih => simp [ih]
theorem RA.get {news : List (Addr × Obj)} {vs : List Value} {ps : List (PySem.Str × Int)} (h : RA news vs ps) : ∀ {i : Nat} {v : Value}, vs[i]? = some v → ∃ D x y t u, v = .ref D ∧ (D, tupO [.str x t, .int y u]) ∈ news ∧ ps[i]? = some (x, y) := by
  induction h with
  | nil => intro i v hv; simp at hv
  | cons hm _ ih =>
    intro i v hv
    cases i with
    | zero => simp at hv; subst hv; exact ⟨_, _, _, _, _, rfl, hm, rfl⟩
    | succ i => simp at hv; obtain ⟨D, x, y, t, u, h1, h2, h3⟩ := ih hv; exact ⟨D, x, y, t, u, h1, h2, by simpa using h3⟩
section
variable {w : World} {mean : ExcName → Option Value} {mg mb : PySem.Str → Option Value} {dp un : Nat} {gd : Option (List Code)} {cn : PySem.Str} {cs : Scope} {a : Addr} {ccd : Value} {cl : List (PySem.Str × Addr)} {outer : List Env} {A₀ : Around} {base h₀ : Heap} {L : Addr} {m : PySem.Str → Option Value} {s : Shared} {Q E : Value → Shared → Prop} {news : List (Addr × Obj)}

def inL (ks : List PySem.Str) (f : Fm) : Bool := ks.any fun y => y == f.str
theorem rg_SB {f : Fm} (h : ((["S", "B"] : List PySem.Str).any fun y => y == f.str) = true) : rgOf f = rgOf .S := by
  cases f <;> first | rfl | (exfalso; revert h; decide)
theorem rg_UJ {f : Fm} (h : ((["U", "J"] : List PySem.Str).any fun y => y == f.str) = true) : rgOf f = rgOf .U := by
  cases f <;> first | rfl | (exfalso; revert h; decide)
theorem rg_IH {f : Fm} (h : ((["I", "H"] : List PySem.Str).any fun y => y == f.str) = true) : rgOf f = rgOf .I := by
  cases f <;> first | rfl | (exfalso; revert h; decide)
theorem rg_R {f : Fm} (h : (f.str == "R") = true) : rgOf f = rgOf .R := by
  cases f <;> first | rfl | (exfalso; revert h; decide)
theorem rg_none {f : Fm} (h1 : ((["S", "B"] : List PySem.Str).any fun y => y == f.str) = false) (h2 : ((["U", "J"] : List PySem.Str).any fun y => y == f.str) = false) (h3 : ((["I", "H"] : List PySem.Str).any fun y => y == f.str) = false) (h4 : (f.str == "R") = false) : rgOf f = rgOf .E := by
  cases f <;> first | rfl | (exfalso; revert h1 h2 h3 h4; decide)
theorem kw_W5_1 : True := by
  k_with_none
  k_with "subs2" => first | exact fun p hp => List.Mem.tail _ (hp) | exact fun p hp => List.Mem.tail _ (List.Mem.tail _ (hp)) | exact fun p hp => List.Mem.tail _ (List.Mem.tail _ (List.Mem.tail _ (hp))) | exact fun p hp => List.Mem.tail _ (List.Mem.tail _ (List.Mem.tail _ (List.Mem.tail _ (hp)))) | exact fun p hp => List.Mem.tail _ (List.Mem.tail _ (List.Mem.tail _ (List.Mem.tail _ (List.Mem.tail _ (hp))))) | exact fun p hp => List.Mem.tail _ (List.Mem.tail _ (List.Mem.tail _ (List.Mem.tail _ (List.Mem.tail _ (List.Mem.tail _ (hp)))))) | exact fun p hp => List.Mem.tail _ (List.Mem.tail _ (List.Mem.tail _ (List.Mem.tail _ (List.Mem.tail _ (List.Mem.tail _ (List.Mem.tail _ (hp)))))))
  trivial
theorem regs_c (f : Fm) (x : PySem.Str) (hx : x = f.str) (tf : Tok) (B : Below A₀ base outer h₀) (F : Fr h₀ L s.heap m) (X : (K w.params).In h₀) (T : Top vq lo mean mg mb h₀) (hk : cs.kind = .function) (hd : dp + 20 < recursionLimit) (hu : un + 400 < cLine)
    (N : News h₀ L s.heap news) 
    (ret : ∀ l vs n news' h' tk', Fr h₀ L h' m → News h₀ L h' news' → (∀ p ∈ news, p ∈ news') → (l, listOf vs.toArray n) ∈ news' → RA news' vs (rgOf f) → Q (.ref l) { s with heap := h', toks := tk' }) :
    wpAny (model pr w) (ktrTop dp un gd cn cs L a ccd cl outer) (call (.ref 400) [.str x tf]) Q E s := by
  refine wpAny_call ?_
  k_dflt (refine' enterD [("form", .str x tf)] ?k1 ?k2 ?k3 ?k4 ?k5 ?kA ?kF ?kK ?k6 ?k7 ?k8 ?k9 ?kB ?_ ?c2 ?c3 ?c4 ?c5; (case kA => exact rfl); (case kF => exact rfl); (case kK => assumption); (case k1 => k_asm); (case k2 => k_asm); (case k3 => k_asm); (case k4 => k_asm); (case k5 => k_asm); (case k6 => k_is); (case k7 => k_is); (case k8 => ktr_room); (case k9 => exact BindsTo.of_eq rfl); (case c5 => decide); (case kB => exact locs rfl); (case c2 => exact rfl); (case c3 => exact rfl); (case c4 => exact rfl); k_whole; intro g' L' h' tk' FG' F' N' B' X' T'; (try dsimp only); (try k_fold))
  k_steps
  all_goals subst hx
  all_goals first
    | (refine' ret _ _ _ _ _ _ ?y1 ?y2 ?y3 ?y4 ?y5; (case y1 => assumption); (case y2 => assumption); (case y4 => k_mem); (case y3 => walk_at "subs2"); (case y5 => rw [rg_SB (by assumption)]; exact RA.cons (by k_mem) (RA.cons (by k_mem) (RA.nil))))
    | (refine' ret _ _ _ _ _ _ ?y1 ?y2 ?y3 ?y4 ?y5; (case y1 => assumption); (case y2 => assumption); (case y4 => k_mem); (case y3 => walk_at "subs2"); (case y5 => rw [rg_UJ (by assumption)]; exact RA.cons (by k_mem) (RA.nil)))
    | (refine' ret _ _ _ _ _ _ ?y1 ?y2 ?y3 ?y4 ?y5; (case y1 => assumption); (case y2 => assumption); (case y4 => k_mem); (case y3 => walk_at "subs2"); (case y5 => rw [rg_IH (by assumption)]; exact RA.cons (by k_mem) (RA.cons (by k_mem) (RA.nil))))
    | (refine' ret _ _ _ _ _ _ ?y1 ?y2 ?y3 ?y4 ?y5; (case y1 => assumption); (case y2 => assumption); (case y4 => k_mem); (case y3 => walk_at "subs2"); (case y5 => rw [rg_R (by assumption)]; exact RA.cons (by k_mem) (RA.cons (by k_mem) (RA.cons (by k_mem) (RA.nil)))))
    | (refine' ret _ _ _ _ _ _ ?y1 ?y2 ?y3 ?y4 ?y5; (case y1 => assumption); (case y2 => assumption); (case y4 => k_mem); (case y3 => walk_at "subs2"); (case y5 => rw [rg_none (by assumption) (by assumption) (by assumption) (by assumption)]; exact RA.nil))
theorem kw_W5_2 : True := by
  k_with_none
  trivial
end
end Mine
end
section
open PySem PySem.W PyProof.Rows PySem.Spec PySem.Calls
set_option maxHeartbeats 400000
namespace Mine
/-- least, most, pace of a form's number -/
def enOf : Fm → Int × Int × Int
  | .I | .S => (-2048, 2047, 1)
  | .H => (0, 31, 1)
  | .U => (0, 1048575, 1)
  | .F => (0, 255, 1)
  | .B => (-4096, 4094, 2)
  | .J => (-1048576, 1048574, 2)
  | _ => (0, 0, 1)
section
variable {w : World} {mean : ExcName → Option Value} {mg mb : PySem.Str → Option Value} {dp un : Nat} {gd : Option (List Code)} {cn : PySem.Str} {cs : Scope} {a : Addr} {ccd : Value} {cl : List (PySem.Str × Addr)} {outer : List Env} {A₀ : Around} {base h₀ : Heap} {L : Addr} {m : PySem.Str → Option Value} {s : Shared} {Q E : Value → Shared → Prop} {news : List (Addr × Obj)}

theorem kw_W6_1 : True := by
  k_with_none
  k_with "eval Dict" => (k_here; k_dflt (refine' kdn_str ?zq ?zF ?zN ?zb ?za ?zl ?ze ?zn ?_; (case zq => rfl); (case zF => k_asm); (case zN => k_asm); (case zb => exact Top.nolimit (by k_asm)); (case za => rfl); (case zl => rfl); (case ze => exact List.cons_ne_nil _ _); (case zn => exact Nat.le_of_ble_eq_true rfl)); intro d' h' o' F' N' l1 lo' hd'; (try k_lt l1))
  k_with "getMethod ref" => (k_here; k_dflt (refine kdg_method (knd := PySem.strKind _ _) (by k_asm) (by k_mem) (by k_asm) ?_))
  k_with "call builtin:dict.get" => (k_here; k_dflt (refine kdg_get2 (knd := PySem.strKind _ _) (by k_asm) (by k_mem) (by k_asm) (by k_asm) (strKind_is _ _ _ _) (valueAt _ _) (by rfl) ?_))
  trivial
theorem ends_c (f : Fm) (x : PySem.Str) (hx : x = f.str) (tf : Tok) (B : Below A₀ base outer h₀) (F : Fr h₀ L s.heap m) (X : (K w.params).In h₀) (T : Top vq lo mean mg mb h₀) (hk : cs.kind = .function) (hd : dp + 20 < recursionLimit) (hu : un + 400 < cLine)
    (N : News h₀ L s.heap news) 
    (ret : ∀ l ta tb tc news' h' tk', Fr h₀ L h' m → News h₀ L h' news' → (∀ p ∈ news, p ∈ news') → (l, tupO [.int (enOf f).1 ta, .int (enOf f).2.1 tb, .int (enOf f).2.2 tc]) ∈ news' → Q (.ref l) { s with heap := h', toks := tk' }) :
    wpAny (model pr w) (ktrTop dp un gd cn cs L a ccd cl outer) (call (.ref 407) [.str x tf]) Q E s := by
  refine wpAny_call ?_
  k_dflt (refine' enterD [("form", .str x tf)] ?k1 ?k2 ?k3 ?k4 ?k5 ?kA ?kF ?kK ?k6 ?k7 ?k8 ?k9 ?kB ?_ ?c2 ?c3 ?c4 ?c5; (case kA => exact rfl); (case kF => exact rfl); (case kK => assumption); (case k1 => k_asm); (case k2 => k_asm); (case k3 => k_asm); (case k4 => k_asm); (case k5 => k_asm); (case k6 => k_is); (case k7 => k_is); (case k8 => ktr_room); (case k9 => exact BindsTo.of_eq rfl); (case c5 => decide); (case kB => exact locs rfl); (case c2 => exact rfl); (case c3 => exact rfl); (case c4 => exact rfl); k_whole; intro g' L' h' tk' FG' F' N' B' X' T'; (try dsimp only); (try k_fold))
  k_steps
  all_goals subst hx
  all_goals cases f <;> (refine' ret _ _ _ _ _ _ _ ?y1 ?y2 ?y3 ?y4; (case y1 => assumption); (case y2 => assumption); (case y3 => exact fun p hp => List.Mem.tail _ (List.Mem.tail _ (List.Mem.tail _ (List.Mem.tail _ (List.Mem.tail _ (List.Mem.tail _ (List.Mem.tail _ (List.Mem.tail _ (List.Mem.tail _ (List.Mem.tail _ hp)))))))))); (case y4 => k_mem))
theorem kw_W6_2 : True := by
  k_with_none
  trivial
end
end Mine
end
section
open PySem PySem.W PyProof.Rows PySem.Spec PySem.Calls
set_option maxHeartbeats 400000
namespace Mine
/-- a mark at which the walk stops -/
structure Stop (P : Prop) : Prop where
  out : P
theorem news_inj {h₀ h : Heap} {L : Addr} {news : List (Addr × Obj)} (N : News h₀ L h news) {a : Addr} {o o' : Obj} (h1 : (a, o) ∈ news) (h2 : (a, o') ∈ news) : o = o' :=
  Option.some.inj ((N _ h1).1.symm.trans (N _ h2).1)
theorem news_sub {h₀ h : Heap} {L : Addr} {news news' : List (Addr × Obj)} (N : News h₀ L h news) (hs : ∀ p ∈ news', p ∈ news) : News h₀ L h news' := fun p hp => N p (hs p hp)
/-- the ledger without an address -/
def drop (d : Addr) (l : List (Addr × Obj)) : List (Addr × Obj) := l.filter fun q => decide (q.1 ≠ d)
theorem drop_mem {d : Addr} {l : List (Addr × Obj)} {p : Addr × Obj} (h : p ∈ l) (hn : p.1 ≠ d) : p ∈ drop d l := List.mem_filter.mpr ⟨h, by simpa using hn⟩
theorem drop_sub {d : Addr} {l : List (Addr × Obj)} {p : Addr × Obj} (h : p ∈ drop d l) : p ∈ l := (List.mem_filter.mp h).1
theorem drop_ne {d : Addr} {l : List (Addr × Obj)} {p : Addr × Obj} (h : p ∈ drop d l) : p.1 ≠ d := by simpa using (List.mem_filter.mp h).2
/-- all but one address is kept -/
def Kept (d : Addr) (news news' : List (Addr × Obj)) : Prop := ∀ p ∈ news, p.1 ≠ d → p ∈ news'
theorem news_set {h₀ h : Heap} {L : Addr} {news : List (Addr × Obj)} {d : Addr} {o : Obj} (N : News h₀ L h news) (hd : (d, o) ∈ news) : News h₀ L h ((d, o) :: drop d news) := fun p hp => by
  rcases List.mem_cons.mp hp with rfl | hp
  · exact N _ hd
  · exact N _ (drop_sub hp)
theorem upd_head {d : Addr} {o : Obj} {news : List (Addr × Obj)} : UpdF d o ((d, o) :: drop d news) (fun o' => (d, o') :: drop d news) := .head fun _ hp => drop_ne hp
theorem kept_head {d : Addr} {o : Obj} {news : List (Addr × Obj)} : Kept d news ((d, o) :: drop d news) := fun _ hp hn => .tail _ (drop_mem hp hn)
theorem TurnEnd.intro {h₀ h' : Heap} {L it : Addr} {ito : Obj} {J : (PySem.Str → Option Value) → List (Addr × Obj) → Prop} {s₁ : Shared} {tk : Tok} {m' : PySem.Str → Option Value} {nw : List (Addr × Obj)} (F : Fr h₀ L h' m') (N : News h₀ L h' nw) (hi : (it, ito) ∈ nw) (hj : J m' (drop it nw)) : TurnEnd h₀ L it ito J s₁ .next { s₁ with heap := h', toks := tk } :=
  ⟨rfl, h', tk, m', drop it nw, rfl, F, news_set N hi, fun _ hp => drop_ne hp, hj⟩
/-- text keys with int values -/
inductive FD : List (PySem.Str × Value) → List (PySem.Str × Int) → Prop
  | nil : FD [] []
  | cons {k : PySem.Str} {n : Int} {t : Tok} {kvs : List (PySem.Str × Value)} {ks : List (PySem.Str × Int)} : FD kvs ks → FD ((k, .int n t) :: kvs) ((k, n) :: ks)
theorem FD.append {a b : List (PySem.Str × Value)} {c d : List (PySem.Str × Int)} (h : FD a c) (k : FD b d) : FD (a ++ b) (c ++ d) := by
  induction h with
  | nil => exact k
  | cons _ ih => exact .cons ih
theorem FD.keys {a : List (PySem.Str × Value)} {c : List (PySem.Str × Int)} (h : FD a c) : a.map (·.1) = c.map (·.1) := by
  induction h with
  | nil => rfl
  | cons _ ih => simp [ih]
theorem FD.length {a : List (PySem.Str × Value)} {c : List (PySem.Str × Int)} (h : FD a c) : a.length = c.length := by
  induction h with
  | nil => rfl
  | cons _ ih => simp [ih]
/-- the number of a key -/
def fdAt : List (PySem.Str × Int) → PySem.Str → Option Int
  | [], _ => none
  | (k, n) :: r, x => if k = x then some n else fdAt r x
theorem FD.at {a : List (PySem.Str × Value)} {c : List (PySem.Str × Int)} (h : FD a c) (x : PySem.Str) : (fdAt c x = none ∧ valueAt a x = none) ∨ ∃ n t, fdAt c x = some n ∧ valueAt a x = some (.int n t) := by
  induction h with
  | nil => exact .inl ⟨rfl, rfl⟩
  | @cons k n t kvs ks _ ih =>
    by_cases e : k = x
    · subst e; exact .inr ⟨n, t, by simp [fdAt], by simp [valueAt]⟩
    · simpa [fdAt, valueAt, e] using ih
theorem stored_new {a : List (PySem.Str × Value)} {k : PySem.Str} {v : Value} (h : k ∉ a.map (·.1)) : stored a k v = a ++ [(k, v)] := by
  unfold stored
  rw [if_neg]
  intro e
  obtain ⟨kv, h1, h2⟩ := List.any_eq_true.mp e
  exact h (List.mem_map.mpr ⟨kv, h1, by simpa using h2⟩)
/-- the ledger bears a dict of these fields -/
def FdAt (w : World) (news : List (Addr × Obj)) (d : Addr) (ks : List (PySem.Str × Int)) : Prop :=
  ∃ o kvs, (d, o) ∈ news ∧ o.IsDictOf (PySem.strKind pr w) kvs ∧ FD kvs ks ∧ (d == sysModules) = false
theorem FdAt.kept {w : World} {news news' : List (Addr × Obj)} {d e : Addr} {ks : List (PySem.Str × Int)} (h : FdAt w news d ks) (k : Kept e news news') (hn : d ≠ e) : FdAt w news' d ks :=
  let ⟨o, kvs, a, b⟩ := h; ⟨o, kvs, k _ a hn, b⟩
theorem FdAt.mono {w : World} {news news' : List (Addr × Obj)} {d : Addr} {ks : List (PySem.Str × Int)} (h : FdAt w news d ks) (k : ∀ p ∈ news, p ∈ news') : FdAt w news' d ks :=
  let ⟨o, kvs, a, b⟩ := h; ⟨o, kvs, k _ a, b⟩
/-- a well of the ledger -/
def HasWell (news : List (Addr × Obj)) (wl cw : Addr) (B : Int) : Prop := ∃ W, (wl, W) ∈ news ∧ WellAt wl cw W news B
theorem HasWell.mono {cw : Addr} {news news' : List (Addr × Obj)} {wl : Addr} {B B' : Int} (h : HasWell news wl cw B) (k : ∀ p ∈ news, p ∈ news') (hB : B ≤ B') : HasWell news' wl cw B' :=
  let ⟨W, a, b⟩ := h; ⟨W, k _ a, b.mono k hB⟩
theorem HasWell.keptD {cw : Addr} {w : World} {h₀ h : Heap} {L : Addr} {news news' : List (Addr × Obj)} {wl d : Addr} {B : Int} {ks : List (PySem.Str × Int)} (hw : HasWell news wl cw B) (N : News h₀ L h news) (hd : FdAt w news d ks) (k : Kept d news news') : HasWell news' wl cw B := by
  obtain ⟨W, hW, hA⟩ := hw
  obtain ⟨o, kvs, hm, ⟨es, ep, _, hdat, _⟩, _⟩ := hd
  obtain ⟨vs, cells, nw, nc, p, x, tp, tx, rfl, h2, h3⟩ := hA.out
  have n1 : wl ≠ d := by
    rintro rfl
    have e := news_inj N hW hm
    rw [← e] at hdat
    exact nomatch hdat
  have n2 : cw ≠ d := by
    rintro rfl
    have e := news_inj N h2 hm
    rw [← e] at hdat
    exact nomatch hdat
  exact ⟨_, k _ hW n1, ⟨⟨vs, cells, nw, nc, p, x, tp, tx, rfl, k _ h2 n2, h3⟩⟩⟩
section
variable {w : World} {mean : ExcName → Option Value} {mg mb : PySem.Str → Option Value} {dp un : Nat} {gd : Option (List Code)} {cn : PySem.Str} {cs : Scope} {a : Addr} {ccd : Value} {cl : List (PySem.Str × Addr)} {outer : List Env} {A₀ : Around} {base h₀ : Heap} {L : Addr} {m : PySem.Str → Option Value} {s : Shared} {Q E : Value → Shared → Prop} {news : List (Addr × Obj)}

/-- a draw from a well of the ledger -/
theorem draw_k {cw : Addr} (k : Int) (tk : Tok) (wl : Addr) (P : Int) (B : Below A₀ base outer h₀) (F : Fr h₀ L s.heap m) (X : (K w.params).In h₀) (T : Top vq lo mean mg mb h₀) (hk : cs.kind = .function) (hd : dp + 20 < recursionLimit) (hu : un + 400 < cLine)
    (N : News h₀ L s.heap news) (hW : HasWell news wl cw P) (hP : P < 2 ^ 30) (hk0 : 0 < k) (hk1 : k < 2 ^ 31)
    (ret : ∀ r t news' h' tk', 0 ≤ r → r < k → HasWell news' wl cw (P + 1) → Kept wl news news' → Fr h₀ L h' m → News h₀ L h' news' → Q (.int r t) { s with heap := h', toks := tk' }) :
    wpAny (model pr w) (ktrTop dp un gd cn cs L a ccd cl outer) (call (.ref 381) [.ref wl, .int k tk]) Q E s := by
  obtain ⟨W, hm, hA⟩ := hW
  have hA' : WellAt wl cw W ((wl, W) :: drop wl news) P := by
    obtain ⟨vs, cells, nw, nc, p, x, tp, tx, h1, h2, h3, h4⟩ := hA.out
    exact ⟨⟨vs, cells, nw, nc, p, x, tp, tx, h1, .tail _ (drop_mem h2 h3), h3, h4⟩⟩
  refine draw_c k tk wl W P _ B F X T hk hd hu (news_set N hm) upd_head hA' hP hk0 hk1 (fun r t W' h' tk' a b c F' N' => ?_)
  exact ret r t _ h' tk' a b ⟨W', .head _, c⟩ kept_head F' N'
/-- a new key of the fields -/
theorem fd_set {A : Around} {Q : Unit → Shared → Prop} {d : Addr} {ks : List (PySem.Str × Int)} {k : PySem.Str} {tk tn : Tok} {n : Int} (F : Fr h₀ L s.heap m) (N : News h₀ L s.heap news) (hd : FdAt w news d ks) (hk : k ∉ ks.map (·.1)) (hl : ks.length ≤ 100)
    (ret : ∀ news' h', FdAt w news' d (ks ++ [(k, n)]) → Kept d news news' → Fr h₀ L h' m → News h₀ L h' news' → Q () { s with heap := h', toks := s.toks + 1 }) :
    wpAny (model pr w) A (setItem (.ref d) (.str k tk) (.int n tn)) Q E s := by
  obtain ⟨o, kvs, hm, hdo, hf, hs⟩ := hd
  refine kda_set F (news_set N hm) upd_head hdo (strKind_is _ _ _ _) (by have e := hf.length; rw [sizeLine_eq]; omega) (fun h' o' F' N' hd' => ?_)
  rw [stored_new (by rw [hf.keys]; exact hk)] at hd'
  exact ret _ h' ⟨o', _, .head _, hd', hf.append (.cons .nil), hs⟩ kept_head F' N'
theorem fd_item {A : Around} {value slice : PySem.Expr} {d : Addr} {ks : List (PySem.Str × Int)} {k : PySem.Str} {tk : Tok} {n : Int} (N : News h₀ L s.heap news) (hd : FdAt w news d ks) (hk : fdAt ks k = some n)
    (ret : ∀ t, Q (.int n t) { s with toks := s.toks + 1 })
    (hs : subscripted slice false (.ref d) (.str k tk) = operate [.ref d, .str k tk] (getItem (.ref d) (.str k tk)) := by with_unfolding_all rfl) (hg : ∀ r, letTemporaryGo value (.ref d) r = pure () := by intro _; with_unfolding_all rfl) :
    wpAny (model pr w) A (subscriptTail value slice (.ref d) (.str k tk)) Q E s := by
  obtain ⟨o, kvs, hm, hdo, hf, _⟩ := hd
  rcases hf.at k with ⟨h1, _⟩ | ⟨n', t, h1, h2⟩
  · rw [hk] at h1; cases h1
  · rw [hk] at h1; cases h1
    exact kda_item N hm hdo (strKind_is _ _ _ _) h2 (ret t) hs hg
end
end Mine
end
section
open PySem PySem.W PyProof.Rows PySem.Spec PySem.Calls
set_option maxHeartbeats 400000
namespace Mine
def hasImm : Fm → Bool
  | .R | .E => false
  | _ => true
theorem PA.reads {h₀ h : Heap} {L : Addr} {news : List (Addr × Obj)} (N : News h₀ L h news) {vs : List Value} {ps : List (Int × Int)} (pa : PA news vs ps) : ReadsAll h vs (ps.map fun q => .tuple [.int q.1, .int q.2]) [] := by
  induction pa with
  | nil => exact .nil
  | cons hm _ ih => exact .cons (as := []) (.tuple (N _ hm).1 rfl rfl (.cons (as := []) (.int _ _) (.cons (as := []) (.int _ _) .nil))) ih
theorem take_fresh {α β : Type} (g : α → β) : ∀ (l : List α) (i : Nat) (x : α), (l.map g).Nodup → l[i]? = some x → g x ∉ (l.take i).map g
  | [], i, x, _, h => by simp at h
  | y :: l, 0, x, _, _ => by simp
  | y :: l, i + 1, x, hn, h => by
    have h' : l[i]? = some x := by simpa using h
    obtain ⟨h1, h2⟩ := List.nodup_cons.mp hn
    intro hx
    rcases List.mem_cons.mp hx with e | hx
    · exact h1 (e ▸ List.mem_map.mpr ⟨x, List.mem_of_getElem? h', rfl⟩)
    · exact take_fresh g l i x h2 h' hx
theorem rg_len (f : Fm) : (rgOf f).length ≤ 3 := by cases f <;> decide
theorem rg_nodup (f : Fm) : ((rgOf f).map (·.1)).Nodup := by cases f <;> decide
theorem ne_of_obj {h₀ h : Heap} {L : Addr} {news : List (Addr × Obj)} (N : News h₀ L h news) {a b : Addr} {o o' : Obj} (h1 : (a, o) ∈ news) (h2 : (b, o') ∈ news) (hn : o ≠ o') : a ≠ b := by
  rintro rfl
  exact hn (news_inj N h1 h2)
theorem tup_ne_list {xs ys : List Value} {n : Nat} : tupO xs ≠ listOf ys.toArray n := by
  intro h
  injection h with h _
  injection h with h
  exact absurd h (by decide)
theorem HasWell.drop {cw : Addr} {h₀ h : Heap} {L : Addr} {news : List (Addr × Obj)} {wl it : Addr} {ito : Obj} {B : Int} {fs : Array Value} (hw : HasWell news wl cw B) (N : News h₀ L h news) (hi : (it, ito) ∈ news) (hf : ito.data = .fields fs) : HasWell (drop it news) wl cw B := by
  obtain ⟨W, hW, hA⟩ := hw
  obtain ⟨vs, cells, nw, nc, p, x, tp, tx, rfl, h2, h3⟩ := hA.out
  have n1 : wl ≠ it := ne_of_obj N hW hi (by rintro rfl; exact nomatch hf)
  have n2 : cw ≠ it := ne_of_obj N h2 hi (by rintro rfl; exact nomatch hf)
  exact ⟨_, drop_mem hW n1, ⟨⟨vs, cells, nw, nc, p, x, tp, tx, rfl, drop_mem h2 n2, h3⟩⟩⟩
theorem FdAt.drop {w : World} {h₀ h : Heap} {L : Addr} {news : List (Addr × Obj)} {d it : Addr} {ito : Obj} {ks : List (PySem.Str × Int)} {fs : Array Value} (hd : FdAt w news d ks) (N : News h₀ L h news) (hi : (it, ito) ∈ news) (hf : ito.data = .fields fs) : FdAt w (drop it news) d ks := by
  obtain ⟨o, kvs, hm, ⟨es, ep, hx, hdat, hr⟩, hq⟩ := hd
  have n1 : d ≠ it := ne_of_obj N hm hi (by rintro rfl; rw [hdat] at hf; exact nomatch hf)
  exact ⟨o, kvs, drop_mem hm n1, ⟨es, ep, hx, hdat, hr⟩, hq⟩
theorem RA.monoT {news news' : List (Addr × Obj)} {vs : List Value} {ps : List (PySem.Str × Int)} (h : RA news vs ps) (hs : ∀ D x, (D, tupO x) ∈ news → (D, tupO x) ∈ news') : RA news' vs ps := by
  induction h with
  | nil => exact .nil
  | cons hm _ ih => exact .cons (hs _ _ hm) ih
theorem PA.monoT {news news' : List (Addr × Obj)} {vs : List Value} {ps : List (Int × Int)} (h : PA news vs ps) (hs : ∀ D x, (D, tupO x) ∈ news → (D, tupO x) ∈ news') : PA news' vs ps := by
  induction h with
  | nil => exact .nil
  | cons hm _ ih => exact .cons (hs _ _ hm) ih
theorem RA.refs {news : List (Addr × Obj)} {vs : List Value} {ps : List (PySem.Str × Int)} (h : RA news vs ps) : ∀ v ∈ vs, ∃ D, v = .ref D := by
  induction h with
  | nil => exact fun _ h => nomatch h
  | cons _ _ ih => intro v hv; rcases List.mem_cons.mp hv with rfl | hv; exact ⟨_, rfl⟩; exact ih v hv
theorem PA.refs {news : List (Addr × Obj)} {vs : List Value} {ps : List (Int × Int)} (h : PA news vs ps) : ∀ v ∈ vs, ∃ D, v = .ref D := by
  induction h with
  | nil => exact fun _ h => nomatch h
  | cons _ _ ih => intro v hv; rcases List.mem_cons.mp hv with rfl | hv; exact ⟨_, rfl⟩; exact ih v hv
theorem HasWell.ne_tup {cw : Addr} {h₀ h : Heap} {L : Addr} {news : List (Addr × Obj)} {wl D : Addr} {B : Int} {xs : List Value} (hw : HasWell news wl cw B) (N : News h₀ L h news) (hD : (D, tupO xs) ∈ news) : D ≠ wl := by
  obtain ⟨W, hW, hA⟩ := hw
  obtain ⟨vs, cells, nw, nc, p, x, tp, tx, rfl, h2, h3⟩ := hA.out
  exact ne_of_obj N hD hW tup_ne_list
theorem HasWell.ne_list {cw : Addr} {h₀ h : Heap} {L : Addr} {news : List (Addr × Obj)} {wl l : Addr} {B : Int} {vs : List Value} {n : Nat} (hw : HasWell news wl cw B) (N : News h₀ L h news) (hl : (l, listOf vs.toArray n) ∈ news) (hr : ∀ v ∈ vs, ∃ D, v = .ref D) : l ≠ wl := by
  obtain ⟨W, hW, hA⟩ := hw
  obtain ⟨vs', cells, nw, nc, p, x, tp, tx, rfl, h2, h3⟩ := hA.out
  refine ne_of_obj N hl hW fun e => ?_
  have e2 := congrArg Obj.data e
  injection e2 with e3
  have e' := congrArg Array.toList e3
  simp only [List.toList_toArray] at e'
  obtain ⟨D, hD⟩ := hr (.int p tp) (by rw [e']; exact .tail _ (.head _))
  exact nomatch hD
theorem HasWell.ne_fields {cw : Addr} {h₀ h : Heap} {L : Addr} {news : List (Addr × Obj)} {wl it : Addr} {ito : Obj} {B : Int} {fs : Array Value} (hw : HasWell news wl cw B) (N : News h₀ L h news) (hi : (it, ito) ∈ news) (hf : ito.data = .fields fs) : it ≠ wl := by
  obtain ⟨W, hW, hA⟩ := hw
  obtain ⟨vs, cells, nw, nc, p, x, tp, tx, rfl, h2, h3⟩ := hA.out
  exact ne_of_obj N hi hW (by rintro rfl; exact nomatch hf)
theorem FdAt.ne_fields {w : World} {h₀ h : Heap} {L : Addr} {news : List (Addr × Obj)} {d it : Addr} {ito : Obj} {ks : List (PySem.Str × Int)} {fs : Array Value} (hd : FdAt w news d ks) (N : News h₀ L h news) (hi : (it, ito) ∈ news) (hf : ito.data = .fields fs) : it ≠ d := by
  obtain ⟨o, kvs, hm, ⟨es, ep, hx, hdat, hr⟩, hq⟩ := hd
  exact ne_of_obj N hi hm (by rintro rfl; rw [hdat] at hf; exact nomatch hf)
theorem FdAt.ne_tup {w : World} {h₀ h : Heap} {L : Addr} {news : List (Addr × Obj)} {d D : Addr} {ks : List (PySem.Str × Int)} {xs : List Value} (hd : FdAt w news d ks) (N : News h₀ L h news) (hD : (D, tupO xs) ∈ news) : D ≠ d := by
  obtain ⟨o, kvs, hm, ⟨es, ep, hx, hdat, hr⟩, hq⟩ := hd
  exact ne_of_obj N hD hm (by rintro rfl; exact nomatch hdat)
theorem FdAt.ne_list {w : World} {h₀ h : Heap} {L : Addr} {news : List (Addr × Obj)} {d D : Addr} {ks : List (PySem.Str × Int)} {xs : List Value} {n : Nat} (hd : FdAt w news d ks) (N : News h₀ L h news) (hD : (D, listOf xs.toArray n) ∈ news) : D ≠ d := by
  obtain ⟨o, kvs, hm, ⟨es, ep, hx, hdat, hr⟩, hq⟩ := hd
  exact ne_of_obj N hD hm (by rintro rfl; exact nomatch hdat)
theorem HasWell.lt {cw : Addr} {news : List (Addr × Obj)} {wl D : Addr} {B : Int} (h : ∀ p ∈ news, p.1 < D) (hw : HasWell news wl cw B) : D ≠ wl := by
  obtain ⟨W, hW, hA⟩ := hw
  exact fun e => absurd (h _ hW) (by rw [e]; exact Nat.lt_irrefl _)
theorem Kept.mono {d : Addr} {a b c : List (Addr × Obj)} (h : Kept d a b) (k : ∀ p ∈ b, p ∈ c) : Kept d a c := fun p hp hn => k p (h p hp hn)
theorem Kept.trans {d : Addr} {a b c : List (Addr × Obj)} (k : Kept d b c) (h : Kept d a b) : Kept d a c := fun p hp hn => k p (h p hp hn) hn
theorem Kept.set {d e : Addr} {a b c : List (Addr × Obj)} (k : Kept e b c) (h : Kept d a b) (hl : ∀ p ∈ a, p.1 < e) : Kept d a c := fun p hp hn => k p (h p hp hn) (Nat.ne_of_lt (hl p hp))
/-- the fields that a row may have -/
def Fl (f : Fm) (ks : List (PySem.Str × Int)) : Prop :=
  ∃ rs : List (PySem.Str × Int), rs.map (·.1) = (rgOf f).map (·.1) ∧ (∀ q ∈ rs, 0 ≤ q.2 ∧ q.2 < 32) ∧ ((hasImm f = false ∧ ks = rs) ∨ (hasImm f = true ∧ ∃ v a b c, enOf f = (a, b, c) ∧ a ≤ v ∧ v ≤ b ∧ v % c = 0 ∧ ks = rs ++ [(("imm" : PySem.Str), v)]))
theorem imm_ok {f : Fm} {a b c r v : Int} (en : enOf f = (a, b, c)) (h0 : 0 ≤ r) (h1 : r < (b - a).fdiv c + 1) (hc : 1 ≤ c) (hv : v = a ∨ v = b ∨ v = 0 ∨ v = a + c * r) : a ≤ v ∧ v ≤ b ∧ v % c = 0 := by
  rw [Int.fdiv_eq_ediv_of_nonneg _ (by omega)] at h1
  cases f <;> (simp only [enOf, Prod.mk.injEq] at en; obtain ⟨rfl, rfl, rfl⟩ := en; omega)
section
variable {w : World} {mean : ExcName → Option Value} {mg mb : PySem.Str → Option Value} {dp un : Nat} {gd : Option (List Code)} {cn : PySem.Str} {cs : Scope} {a : Addr} {ccd : Value} {cl : List (PySem.Str × Addr)} {outer : List Env} {A₀ : Around} {base h₀ : Heap} {L : Addr} {m : PySem.Str → Option Value} {s : Shared} {Q E : Value → Shared → Prop} {news : List (Addr × Obj)}

theorem menu_c {A : Around} {value slice : PySem.Expr} {l : Addr} {a b e r : Int} {ta tb tz t3 t4 t5 t6 tr : Tok} {n : Nat} (N : News h₀ L s.heap news) (hm : (l, listOf [.int a ta, .int b tb, .int 0 tz, .int e t3, .int e t4, .int e t5, .int e t6].toArray n) ∈ news) (h0 : 0 ≤ r) (h1 : r < 7)
    (h : ∀ v t, v = a ∨ v = b ∨ v = 0 ∨ v = e → Q (.int v t) s)
    (hs : subscripted slice false (.ref l) (.int r tr) = operate [.ref l, .int r tr] (getItem (.ref l) (.int r tr)) := by with_unfolding_all rfl) (hg : ∀ r, letTemporaryGo value (.ref l) r = pure () := by intro _; with_unfolding_all rfl) :
    wpAny (model pr w) A (subscriptTail value slice (.ref l) (.int r tr)) Q E s := by
  have hx : ∃ v t, ([.int a ta, .int b tb, .int 0 tz, .int e t3, .int e t4, .int e t5, .int e t6] : List Value)[r.toNat]? = some (.int v t) ∧ (v = a ∨ v = b ∨ v = 0 ∨ v = e) := by
    have : r.toNat < 7 := by omega
    rcases hr : r.toNat with _ | _ | _ | _ | _ | _ | _ | k
    · exact ⟨_, _, rfl, .inl rfl⟩
    · exact ⟨_, _, rfl, .inr (.inl rfl)⟩
    · exact ⟨_, _, rfl, .inr (.inr (.inl rfl))⟩
    · exact ⟨_, _, rfl, .inr (.inr (.inr rfl))⟩
    · exact ⟨_, _, rfl, .inr (.inr (.inr rfl))⟩
    · exact ⟨_, _, rfl, .inr (.inr (.inr rfl))⟩
    · exact ⟨_, _, rfl, .inr (.inr (.inr rfl))⟩
    · omega
  obtain ⟨v, t, hx, hv⟩ := hx
  exact kim_list N hm rfl rfl h0 (by omega) hx (h v t hv) hs hg
/-- the ends as numbers of their own, with what the walk needs of them -/
theorem ends_k (f : Fm) (x : PySem.Str) (hx : x = f.str) (tf : Tok) (B : Below A₀ base outer h₀) (F : Fr h₀ L s.heap m) (X : (K w.params).In h₀) (T : Top vq lo mean mg mb h₀) (hk : cs.kind = .function) (hd : dp + 20 < recursionLimit) (hu : un + 400 < cLine)
    (N : News h₀ L s.heap news) 
    (ret : ∀ a b c l ta tb tc news' h' tk', enOf f = (a, b, c) → -1048576 ≤ a → a ≤ 0 → 0 ≤ b → b ≤ 1048575 → 1 ≤ c → c ≤ 2 → 0 < (b - a).fdiv c + 1 → (b - a).fdiv c + 1 ≤ 1048576 → Fr h₀ L h' m → News h₀ L h' news' → (∀ p ∈ news, p ∈ news') → (l, tupO [.int a ta, .int b tb, .int c tc]) ∈ news' → Q (.ref l) { s with heap := h', toks := tk' }) :
    wpAny (model pr w) (ktrTop dp un gd cn cs L a ccd cl outer) (call (.ref 407) [.str x tf]) Q E s :=
  ends_c f x hx tf B F X T hk hd hu N fun l ta tb tc news' h' tk' => ret _ _ _ l ta tb tc news' h' tk' rfl (by cases f <;> decide) (by cases f <;> decide) (by cases f <;> decide) (by cases f <;> decide) (by cases f <;> decide) (by cases f <;> decide) (by cases f <;> decide) (by cases f <;> decide)
theorem ne_nil_c {A : Around} {l l0 : Addr} {vs : List Value} {n n0 : Nat} {f : Fm} (N : News h₀ L s.heap news) (hl : (l, listOf vs.toArray n) ∈ news) (h0 : (l0, listOf ([] : List Value).toArray n0) ∈ news) (pa : PA news vs (psOf f)) (hu : A.units + 64 < cLine) (h : Q (.bool (hasImm f)) s) :
    wpAny (model pr w) A (compareOp .NotEq (.ref l) (.ref l0)) Q E s := by
  have r1 : Reads s.heap (.ref l) (.list ((psOf f).map fun q => .tuple [.int q.1, .int q.2])) [l] := .list (N _ hl).1 rfl rfl (PA.reads N pa)
  have r0 : Reads s.heap (.ref l0) (.list []) [l0] := .list (N _ h0).1 rfl rfl .nil
  refine ne_dataH r1 r0 (by cases f <;> decide) (by decide) hu ?_
  have e : (!PyData.eqv (.list ((psOf f).map fun q => .tuple [.int q.1, .int q.2])) (.list [])) = hasImm f := by cases f <;> decide
  rw [e]; exact h
theorem kw_W8_1 : True := by
  k_with_none
  k_with "pa_at" => first | assumption | exact PA.mono (by assumption) (fun p hp => List.Mem.tail _ (hp)) | exact PA.mono (by assumption) (fun p hp => List.Mem.tail _ (List.Mem.tail _ (hp))) | exact PA.mono (by assumption) (fun p hp => List.Mem.tail _ (List.Mem.tail _ (List.Mem.tail _ (hp)))) | exact PA.mono (by assumption) (fun p hp => List.Mem.tail _ (List.Mem.tail _ (List.Mem.tail _ (List.Mem.tail _ (hp))))) | exact PA.mono (by assumption) (fun p hp => List.Mem.tail _ (List.Mem.tail _ (List.Mem.tail _ (List.Mem.tail _ (List.Mem.tail _ (hp)))))) | exact PA.cons (by k_mem) PA.nil | exact PA.cons (by k_mem) (PA.cons (by k_mem) PA.nil)
  k_with "pyIter ref" => (k_here; refine Stop.out ?_)
  k_with "exec For" => (k_here; refine For_invTF (by k_asm) ?_ (fun _ => by rfl))
  k_with "eval Name" => (k_here; k_dflt (refine' nameX_L ?zF ?zv ?_ ?za ?zb; (case zF => k_asm); (case za => rfl); (case zb => rfl); (case zv => first | rfl | assumption); k_whole))
  k_with "setItem ref str" => (k_here; k_dflt (refine' fd_set ?zF ?zN ?zd ?zk ?zl ?_; (case zF => k_asm); (case zN => k_asm); (case zd => assumption); (case zk => assumption); (case zl => assumption); intro nw8 h8 fd8 kp8 F8 N8; have hw8 := HasWell.keptD (by assumption) (show News _ _ _ _ by assumption) (by assumption) kp8; have kw8 := Kept.set kp8 (by assumption) (by assumption)))
  k_with "subscriptTail" => (k_here; k_dflt (refine' menu_c ?zN ?zm ?z0 ?z1 ?_; (case zN => k_asm); (case zm => k_mem); (case z0 => assumption); (case z1 => assumption); intro _ _ _))
  k_with "compareOp NotEq ref ref" => (k_here; k_dflt (refine' ne_nil_c ?zN ?zl ?z0 ?zp ?zu ?_; (case zN => k_asm); (case zl => k_mem); (case z0 => k_mem); (case zp => walk_at "pa_at"); (case zu => ktr_units)))
  k_with "call ref" => (k_here; k_dflt (first | (refine' regs_c _ _ ?zx _ ?zB ?zF ?zX ?zT ?zk ?zd ?zu ?zN ?_; (case zx => assumption); (case zB => k_asm); (case zF => k_asm); (case zX => k_asm); (case zT => k_asm); (case zk => exact rfl); (case zd => ktr_room); (case zu => ktr_units); (case zN => k_asm); intro _ _ _ _ _ _ _ _ _ _ _) | (refine' places_c _ _ ?zx _ ?zB ?zF ?zX ?zT ?zk ?zd ?zu ?zN ?_; (case zx => assumption); (case zB => k_asm); (case zF => k_asm); (case zX => k_asm); (case zT => k_asm); (case zk => exact rfl); (case zd => ktr_room); (case zu => ktr_units); (case zN => k_asm); intro l7 vs7 n7 nw7 h7 tk7 F7 N7 sub7 mem7 pa7; (try have fd7 := FdAt.mono (by assumption) sub7); (try have hw7 := HasWell.mono (by assumption) sub7 (Int.le_refl _)); (try have kw7 := Kept.mono (by assumption) sub7)) | (refine' ends_k _ _ ?zx _ ?zB ?zF ?zX ?zT ?zk ?zd ?zu ?zN ?_; (case zx => assumption); (case zB => k_asm); (case zF => k_asm); (case zX => k_asm); (case zT => k_asm); (case zk => exact rfl); (case zd => ktr_room); (case zu => ktr_units); (case zN => k_asm); intro a6 b6 c6 l6 ta6 tb6 tc6 nw6 h6 tk6 en6 ba6 bb6 bc6 bd6 be6 bf6 bg6 bh6 F6 N6 sub6 mem6; (try have fd6 := FdAt.mono (by assumption) (fun p hp => sub6 p (List.Mem.tail _ hp))); (try have hw6 := HasWell.mono (by assumption) (fun p hp => sub6 p (List.Mem.tail _ hp)) (Int.le_refl _)); (try have kw6 := Kept.mono (by assumption) (fun p hp => sub6 p (List.Mem.tail _ hp)))) | (refine' draw_k _ _ _ _ ?zB ?zF ?zX ?zT ?zk ?zd ?zu ?zN ?zW ?zP ?z0 ?z1 ?_; (case zB => k_asm); (case zF => k_asm); (case zX => k_asm); (case zT => k_asm); (case zk => exact rfl); (case zd => ktr_room); (case zu => ktr_units); (case zN => k_asm); (case zW => first | assumption | exact HasWell.mono (by assumption) (fun p hp => List.Mem.tail _ hp) (Int.le_refl _)); (case zP => omega); (case z0 => omega); (case z1 => omega); intro r9 t9 nw9 h9 tk9 lo9 hi9 hw9 kp9 F9 N9; (try have fd9 := FdAt.kept (by first | assumption | exact FdAt.mono (by assumption) (fun p hp => List.Mem.tail _ hp)) kp9 (by assumption)); (try have kw9 := Kept.trans kp9 (by first | assumption | exact Kept.mono (by assumption) (fun p hp => List.Mem.tail _ hp))); (try have mm9 := kp9 _ (List.Mem.head _) (HasWell.lt (by assumption) (by assumption))))))
  trivial
theorem fields_c {cw : Addr} (f : Fm) (x : PySem.Str) (hx : x = f.str) (tf : Tok) (wl : Addr) (P : Int) (B : Below A₀ base outer h₀) (F : Fr h₀ L s.heap m) (X : (K w.params).In h₀) (T : Top vq lo mean mg mb h₀) (hk : cs.kind = .function) (hd : dp + 30 < recursionLimit) (hu : un + 420 < cLine)
    (N : News h₀ L s.heap news) (hW : HasWell news wl cw P) (hP : P < 2 ^ 29)
    (ret : ∀ d ks news' h' tk', Fl f ks → FdAt w news' d ks → HasWell news' wl cw (P + 5) → Kept wl news news' → Fr h₀ L h' m → News h₀ L h' news' → Q (.ref d) { s with heap := h', toks := tk' }) :
    wpAny (model pr w) (ktrTop dp un gd cn cs L a ccd cl outer) (call (.ref 414) [.ref wl, .str x tf]) Q E s := by
  refine wpAny_call ?_
  k_dflt (refine' enterD [("well", .ref wl), ("form", .str x tf)] ?k1 ?k2 ?k3 ?k4 ?k5 ?kA ?kF ?kK ?k6 ?k7 ?k8 ?k9 ?kB ?_ ?c2 ?c3 ?c4 ?c5; (case kA => exact rfl); (case kF => exact rfl); (case kK => assumption); (case k1 => k_asm); (case k2 => k_asm); (case k3 => k_asm); (case k4 => k_asm); (case k5 => k_asm); (case k6 => k_is); (case k7 => k_is); (case k8 => ktr_room); (case k9 => exact BindsTo.of_eq rfl); (case c5 => decide); (case kB => exact locs rfl); (case c2 => exact rfl); (case c3 => exact rfl); (case c4 => exact rfl); k_whole; intro g' L' h' tk' FG' F' N' B' X' T'; (try dsimp only); (try k_fold))
  k_steps
  rename_i d hA o ld los hs fs hi fi hB FB NB l vs nn nw h tk F9 N9 sub mem ra
  obtain ⟨W, hW1, hW2⟩ := hW
  have hdw : d ≠ wl := fun e => absurd (ld _ hW1) (by rw [e]; exact Nat.lt_irrefl _)
  have fd0 : FdAt w nw d [] := ⟨o, [], sub _ (.head _), hs, .nil, los⟩
  refine ⟨?_⟩
  refine iterL (fun i m₁ nw' => (m₁ "found" = some (.ref d) ∧ m₁ "well" = some (.ref wl) ∧ m₁ "form" = some (.str x tf)) ∧ RA nw' vs (rgOf f) ∧ HasWell nw' wl cw (P + i) ∧ Kept wl news nw' ∧ ∃ ks, FdAt w nw' d ks ∧ ks.map (·.1) = ((rgOf f).take i).map (·.1) ∧ ∀ q ∈ ks, 0 ≤ q.2 ∧ q.2 < 32) rfl mem F9 N9 ?j0 ?turn ?done
  case j0 => exact ⟨⟨rfl, rfl, rfl⟩, ra, ⟨W, sub _ (.tail _ hW1), (hW2.mono (fun p hp => sub _ (.tail _ hp)) (by omega))⟩, fun p hp _ => sub _ (.tail _ hp), [], fd0, rfl, fun _ h => nomatch h⟩
  case turn =>
    rintro i v m₁ nw₁ s₁ it ito hv ⟨fs9, hfs⟩ hit hl ⟨⟨n1, n2, n3⟩, ra₁, hw₁, kp₁, ks, fd, hks, hb⟩ F₁ N₁
    obtain ⟨D, key, y, t, u, rfl, hD, hi⟩ := ra₁.get hv
    have hnk := take_fresh (·.1) _ i _ (rg_nodup f) hi
    rw [← hks] at hnk
    have hnk' : key ∉ ks.map (·.1) := hnk
    have hl3 : i < 3 := Nat.lt_of_lt_of_le (List.getElem?_eq_some_iff.mp hi).1 (rg_len f)
    have hl4 : ks.length ≤ 100 := by have e := congrArg List.length hks; simp at e; omega
    have hw₂ := hw₁.mono (news' := (it, ito) :: nw₁) (fun p hp => .tail _ hp) (Int.le_refl _)
    have fd₂ := fd.mono (news' := (it, ito) :: nw₁) (fun p hp => .tail _ hp)
    clear hw₁ fd hnk
    k_steps
    have F9' := F9
    have N9' := N9
    have hF1x : ∃ h, News g' L' h ((it, ito) :: nw₁) := ⟨_, by assumption⟩
    obtain ⟨_, hF1⟩ := hF1x
    have K3 : ∀ p ∈ (it, ito) :: nw₁, p.1 ≠ wl → p.1 ≠ d → p ∈ nw8 := fun p hp a b => kp8 p (kp9 p hp a) b
    have hit8 : (it, ito) ∈ nw8 := K3 _ (.head _) (hw₂.ne_fields hF1 (.head _) hfs) (fd₂.ne_fields hF1 (.head _) hfs)
    refine TurnEnd.intro F8 N8 hit8 ⟨?_, ⟨n1, n2, n3⟩, ?_, ?_, ?_, ks ++ [(key, r9)], fd8.drop N8 hit8 hfs, ?_, ?_⟩
    · exact drop_mem (K3 _ (.tail _ hl) (hw₂.ne_list hF1 (.tail _ hl) ra₁.refs) (fd₂.ne_list hF1 (.tail _ hl))) (hit _ hl)
    · exact ra₁.monoT fun D x hD => drop_mem (K3 _ (.tail _ hD) (hw₂.ne_tup hF1 (.tail _ hD)) (fd₂.ne_tup hF1 (.tail _ hD))) (hit _ hD)
    · exact ((hw9.keptD N9' fd9 kp8).drop N8 hit8 hfs).mono (fun _ h => h) (by omega)
    · exact fun p hp hn => drop_mem (K3 _ (.tail _ (kp₁ p hp hn)) hn (Nat.ne_of_lt (ld p hp))) (hit _ (kp₁ p hp hn))
    · rw [List.map_append, hks, List.take_succ, hi]; simp
    · intro q hq
      rcases List.mem_append.mp hq with hq | hq
      · exact hb q hq
      · rw [List.mem_singleton.mp hq]; exact ⟨lo9, hi9⟩
  case done =>
    rintro m₁ nw₁ h₁ tk₁ ⟨⟨n1, n2, n3⟩, ra₁, hw₁, kp₁, ks, fd, hks, hb⟩ F₁ N₁
    rw [ra₁.length, List.take_length] at hks
    have hvl : vs.length ≤ 3 := by rw [ra₁.length]; exact rg_len f
    have him : (("imm" : PySem.Str)) ∉ ks.map (·.1) := by rw [hks]; cases f <;> decide
    have hl4 : ks.length ≤ 100 := by have e := congrArg List.length hks; have e2 := rg_len f; simp at e; omega
    k_steps
    · rename hasImm f = true => hI
      rename enOf f = _ => en
      rename _ ∨ _ => hv
      refine' ret _ _ _ _ _ ?y1 ?y2 ?y3 ?y4 ?y5 ?y6
      case y5 => assumption
      case y6 => assumption
      case y2 => assumption
      case y3 => exact HasWell.mono (by assumption) (fun _ h => h) (by omega)
      case y4 => assumption
      case y1 => exact ⟨ks, hks, hb, .inr ⟨hI, _, _, _, _, en, (imm_ok en (by assumption) (by assumption) (by assumption) hv).1, (imm_ok en (by assumption) (by assumption) (by assumption) hv).2.1, (imm_ok en (by assumption) (by assumption) (by assumption) hv).2.2, rfl⟩⟩
    · rename hasImm f = false => hI
      refine' ret _ _ _ _ _ ?y1 ?y2 ?y3 ?y4 ?y5 ?y6
      case y5 => assumption
      case y6 => assumption
      case y2 => exact FdAt.mono (by assumption) (fun p hp => List.Mem.tail _ hp)
      case y3 => exact HasWell.mono (by assumption) (fun p hp => List.Mem.tail _ hp) (by omega)
      case y4 => exact Kept.mono (by assumption) (fun p hp => List.Mem.tail _ hp)
      case y1 => exact ⟨ks, hks, hb, .inl ⟨hI, rfl⟩⟩
theorem kw_W8_2 : True := by
  k_with_none
  trivial
end
end Mine
end
section
open PySem PySem.W PyProof.Rows PySem.Spec PySem.Calls
set_option maxHeartbeats 400000
namespace Mine
/-- a row of the law's table -/
structure Row where
  nm : PySem.Str
  f : Fm
  op : Int
  low : Int
  high : Int
/-- the ledger bears this row -/
def RowAt (news : List (Addr × Obj)) (D : Addr) (r : Row) : Prop := ∃ t1 t2 t3 t4 t5, (D, tupO [.str r.nm t1, .str r.f.str t2, .int r.op t3, .int r.low t4, .int r.high t5]) ∈ news
theorem TurnEnd.same {h₀ h' : Heap} {L it : Addr} {ito : Obj} {J : (PySem.Str → Option Value) → List (Addr × Obj) → Prop} {s₁ : Shared} {tk : Tok} {m' : PySem.Str → Option Value} {nw : List (Addr × Obj)} (F : Fr h₀ L h' m') (N : News h₀ L h' ((it, ito) :: nw)) (hi : ∀ p ∈ nw, p.1 ≠ it) (hj : J m' nw) : TurnEnd h₀ L it ito J s₁ .next { s₁ with heap := h', toks := tk } :=
  ⟨rfl, h', tk, m', nw, rfl, F, N, hi, hj⟩
theorem rg_place {f : Fm} {q : PySem.Str × Int} (h : q ∈ rgOf f) : 0 ≤ q.2 ∧ q.2 ≤ 31 := by
  have e : ∀ f : Fm, ∀ q ∈ rgOf f, 0 ≤ q.2 ∧ q.2 ≤ 31 := by intro f; cases f <;> decide
  exact e f q h
theorem ps_place {f : Fm} {q : Int × Int} (h : q ∈ psOf f) : (0 ≤ q.1 ∧ q.1 ≤ 31) ∧ 0 ≤ q.2 ∧ q.2 ≤ 31 := by
  have e : ∀ f : Fm, ∀ q ∈ psOf f, (0 ≤ q.1 ∧ q.1 ≤ 31) ∧ 0 ≤ q.2 ∧ q.2 ≤ 31 := by intro f; cases f <;> decide
  exact e f q h
theorem ps_imm {f : Fm} {q : Int × Int} (h : q ∈ psOf f) : hasImm f = true := by
  cases f <;> first | rfl | exact absurd h (by decide +revert) | exact nomatch h
def bitSum (v : Int) (l : List (Int × Int)) : Int := (l.map fun q => v / 2 ^ q.1.toNat % 2 * 2 ^ q.2.toNat).sum
/-- the number of a key, nought where there is none -/
def num (ks : List (PySem.Str × Int)) (k : PySem.Str) : Int := (fdAt ks k).getD 0
def regSum (ks : List (PySem.Str × Int)) (l : List (PySem.Str × Int)) : Int := (l.map fun q => num ks q.1 * 2 ^ q.2.toNat).sum
def eHigh (x : PySem.Str) : Int := if (x == "E") = true then 1048576 else 33554432
def laidOf (r : Row) (ks : List (PySem.Str × Int)) : Int := r.op + r.low * 4096 + r.high * eHigh r.f.str + regSum ks (rgOf r.f) + bitSum (num ks "imm") (psOf r.f)
section
variable {w : World} {mean : ExcName → Option Value} {mg mb : PySem.Str → Option Value} {dp un : Nat} {gd : Option (List Code)} {cn : PySem.Str} {cs : Scope} {a : Addr} {ccd : Value} {cl : List (PySem.Str × Addr)} {outer : List Env} {A₀ : Around} {base h₀ : Heap} {L : Addr} {m : PySem.Str → Option Value} {s : Shared} {Q E : Value → Shared → Prop} {news : List (Addr × Obj)}

theorem kw_W9_1 : True := by
  k_with_none
  k_with "pyIter ref" => (k_here; refine Stop.out ?_)
  k_with "exec For" => (k_here; refine For_invTF (by k_asm) ?_ (fun _ => by rfl))
  k_with "eval Name" => (k_here; k_dflt (refine' nameX_L ?zF ?zv ?_ ?za ?zb; (case zF => k_asm); (case za => rfl); (case zb => rfl); (case zv => first | rfl | assumption); k_whole))
  trivial
theorem and1_c {A : Around} {y : Int} {t u : Tok} (ret : ∀ z t, z = y % 2 → 0 ≤ z → z ≤ 1 → Q (.int z t) { s with toks := s.toks + 1 }) : wpAny (model pr w) A (binaryOp .BitAnd (.int y t) (.int 1 u)) Q E s := by
  refine PyProof.Rows.and_int ?_
  rw [bitAnd_m1]
  exact ret _ _ rfl (by omega) (by omega)
theorem ifE_c {A : Around} {L' : Addr} {x : PySem.Str} {t2 : Tok} (p1 p2 p3 p4 p5 p6 : Pos) (n2 n4 n5 : Nat) (F : Fr h₀ L' s.heap m) (X : (K w.params).In h₀) (T : Top vq lo mean mg mb h₀) (hm : m "form" = some (.str x t2))
    (ret : ∀ e t tk', e = eHigh x → 0 ≤ e → e ≤ 33554432 → Q (.int e t) { s with toks := tk' }) :
    wpAny (model pr w) A (eval (.IfExp (.Compare (.Name "form" p1) [.Eq] [.Constant (.str "E") n2 p2] p3) (.Constant (.int 1048576) n4 p4) (.Constant (.int 33554432) n5 p5) p6) (envOf "_law_laid" (fdS (stm 30)) L' 421 (.ref 420))) Q E s := by
  k_steps
  · exact ret _ _ _ (if_pos (by assumption)).symm (by decide) (by decide)
  · have hq : (x == ("E" : PySem.Str)) = false := by assumption
    exact ret _ _ _ (if_neg (by rw [hq]; decide)).symm (by decide) (by decide)
theorem shl_c {A : Around} {y : Int} {t u : Tok} (h0 : 0 ≤ y) (h1 : y ≤ 31) (ret : ∀ z t, z = 2 ^ y.toNat → 1 ≤ z → z ≤ 2147483648 → Q (.int z t) { s with toks := s.toks + 1 }) : wpAny (model pr w) A (binaryOp .LShift (.int 1 t) (.int y u)) Q E s := by
  refine lshift_int_small h0 (by omega) (by decide) ?_
  have e : (1 : Int) * 2 ^ y.toNat = 2 ^ y.toNat := Int.one_mul _
  rw [e]
  obtain ⟨n, rfl⟩ : ∃ n : Nat, y = n := ⟨y.toNat, by omega⟩
  have hn : n ≤ 31 := by omega
  rw [Int.toNat_natCast] at *
  have h2 : (2 : Int) ^ n = ((2 ^ n : Nat) : Int) := (Int.natCast_pow 2 n).symm
  refine ret _ _ rfl ?_ ?_
  · rw [h2]; have := Nat.one_le_two_pow (n := n); omega
  · rw [h2]
    have h3 : 2 ^ n ≤ 2 ^ 31 := Nat.pow_le_pow_right (by decide) hn
    have h4 : (2 : Nat) ^ 31 = 2147483648 := by decide
    omega
theorem kw_W9_2 : True := by
  k_with "call ref" => (k_here; k_dflt (first | (refine' regs_c _ _ ?zx _ ?zB ?zF ?zX ?zT ?zk ?zd ?zu ?zN ?_; (case zx => assumption); (case zB => k_asm); (case zF => k_asm); (case zX => k_asm); (case zT => k_asm); (case zk => exact rfl); (case zd => ktr_room); (case zu => ktr_units); (case zN => k_asm); intro _ _ _ _ _ _ _ _ _ _ _) | (refine' places_c _ _ ?zx _ ?zB ?zF ?zX ?zT ?zk ?zd ?zu ?zN ?_; (case zx => assumption); (case zB => k_asm); (case zF => k_asm); (case zX => k_asm); (case zT => k_asm); (case zk => exact rfl); (case zd => ktr_room); (case zu => ktr_units); (case zN => k_asm); intro _ _ _ _ _ _ _ _ _ _ _)))
  k_with "eval IfExp" => (k_here; k_dflt (refine' ifE_c _ _ _ _ _ _ _ _ _ ?zF ?zX ?zT ?zm ?_; (case zF => k_asm); (case zX => k_asm); (case zT => k_asm); (case zm => rfl); intro _ _ _ _ _ _))
  k_with "binaryOp LShift int int" => (k_here; k_dflt (refine' shl_c ?z0 ?z1 ?_; (case z0 => assumption); (case z1 => assumption); intro _ _ _ _ _))
  k_with "binaryOp BitAnd int int" => (k_here; k_dflt (refine' and1_c ?_; intro _ _ _ _ _))
  k_with "subscriptTail" => (k_here; k_dflt (refine' fd_item ?zN ?zd ?zk ?_; (case zN => k_asm); (case zd => assumption); (case zk => assumption); intro _))
  trivial
theorem laid_c (r : Row) (x : PySem.Str) (hx : x = r.f.str) (D d : Addr) (ks : List (PySem.Str × Int)) (B : Below A₀ base outer h₀) (F : Fr h₀ L s.heap m) (X : (K w.params).In h₀) (T : Top vq lo mean mg mb h₀) (hk : cs.kind = .function) (hd : dp + 30 < recursionLimit) (hu : un + 420 < cLine)
    (t1 t2 t3 t4 t5 : Tok) (hr : (D, tupO [.str r.nm t1, .str x t2, .int r.op t3, .int r.low t4, .int r.high t5]) ∈ news)
    (N : News h₀ L s.heap news) (hlo0 : 0 ≤ r.low) (hlo1 : r.low < 8) (hhi0 : 0 ≤ r.high) (hhi1 : r.high < 128) (hop0 : 0 ≤ r.op) (hop1 : r.op < 128) (hfd : FdAt w news d ks) (hkey : ∀ q ∈ rgOf r.f, ∃ n, fdAt ks q.1 = some n ∧ 0 ≤ n ∧ n < 32) (himm : hasImm r.f = true → ∃ v, fdAt ks "imm" = some v ∧ -1048576 ≤ v ∧ v < 1048576) 
    (ret : ∀ t news' h' tk', (∀ p ∈ news, p ∈ news') → Fr h₀ L h' m → News h₀ L h' news' → Q (.int (laidOf r ks) t) { s with heap := h', toks := tk' }) :
    wpAny (model pr w) (ktrTop dp un gd cn cs L a ccd cl outer) (call (.ref 421) [.ref D, .ref d]) Q E s := by
  refine wpAny_call ?_
  k_dflt (refine' enterD [("row", .ref D), ("fields", .ref d)] ?k1 ?k2 ?k3 ?k4 ?k5 ?kA ?kF ?kK ?k6 ?k7 ?k8 ?k9 ?kB ?_ ?c2 ?c3 ?c4 ?c5; (case kA => exact rfl); (case kF => exact rfl); (case kK => assumption); (case k1 => k_asm); (case k2 => k_asm); (case k3 => k_asm); (case k4 => k_asm); (case k5 => k_asm); (case k6 => k_is); (case k7 => k_is); (case k8 => ktr_room); (case k9 => exact BindsTo.of_eq rfl); (case c5 => decide); (case kB => exact locs rfl); (case c2 => exact rfl); (case c3 => exact rfl); (case c4 => exact rfl); k_whole; intro g' L' h' tk' FG' F' N' B' X' T'; (try dsimp only); (try k_fold))
  k_steps
  rename_i l vs nn nw h tk F9 N9 sub mem ra
  rename _ = eHigh x => ee
  subst ee
  have fd0 := hfd.mono sub
  refine ⟨?_⟩
  refine iterL (fun i m₁ nw' => (m₁ "fields" = some (.ref d) ∧ m₁ "form" = some (.str x t2)) ∧ RA nw' vs (rgOf r.f) ∧ (∀ p ∈ news, p ∈ nw') ∧ FdAt w nw' d ks ∧ ∃ t, m₁ "found" = some (.int (r.op + r.low * 4096 + r.high * eHigh x + regSum ks ((rgOf r.f).take i)) t)) rfl mem F9 N9 ?j0 ?turn ?done
  case j0 => exact ⟨⟨rfl, rfl⟩, ra, sub, fd0, _, by simp [regSum]; rfl⟩
  case turn =>
    rintro i v m₁ nw₁ s₁ it ito hv ⟨fs9, hfs⟩ hit hl ⟨⟨n1, n2⟩, ra₁, sub₁, fd, tf, n3⟩ F₁ N₁
    obtain ⟨D', key, y, t, u, rfl, hD, hi⟩ := ra₁.get hv
    obtain ⟨n, hn, hb0, hb1⟩ := hkey _ (List.mem_of_getElem? hi)
    have hn' : fdAt ks key = some n := hn
    have hy := rg_place (List.mem_of_getElem? hi)
    have hy0 : 0 ≤ y := hy.1
    have hy1 : y ≤ 31 := hy.2
    have fd₂ := fd.mono (news' := (it, ito) :: nw₁) (fun p hp => .tail _ hp)
    k_steps
    rename _ = 2 ^ y.toNat => ez
    refine' TurnEnd.same ?zF ?zN hit ?zJ
    case zF => assumption
    case zN => assumption
    case zJ =>
    refine ⟨hl, ⟨n1, n2⟩, ra₁, sub₁, fd, ?_⟩
    have e : regSum ks ((rgOf r.f).take (i + 1)) = regSum ks ((rgOf r.f).take i) + n * 2 ^ y.toNat := by
      unfold regSum
      rw [List.take_add_one, hi, List.map_append, List.sum_append]
      simp [num, hn']
    rw [e, ← ez, ← Int.add_assoc]
    exact ⟨_, rfl⟩
  case done =>
    rintro m₁ nw₁ h₁ tk₁ ⟨⟨n1, n2⟩, ra₁, sub₁, fd, tf, n3⟩ F₁ N₁
    rw [ra₁.length, List.take_length] at n3
    k_steps
    rename_i l7 vs7 nn7 nw7 h7 tk7 F7 N7 sub7 mem7 pa7
    refine ⟨?_⟩
    refine iterL (fun i m₁ nw' => m₁ "fields" = some (.ref d) ∧ PA nw' vs7 (psOf r.f) ∧ (∀ p ∈ news, p ∈ nw') ∧ FdAt w nw' d ks ∧ ∃ t, m₁ "found" = some (.int (r.op + r.low * 4096 + r.high * eHigh x + regSum ks (rgOf r.f) + bitSum (num ks "imm") ((psOf r.f).take i)) t)) rfl mem7 F7 N7 ?j1 ?turn1 ?done1
    case j1 => exact ⟨n1, pa7, fun p hp => sub7 p (sub₁ p hp), fd.mono sub7, _, by rw [n3]; simp [bitSum]; rfl⟩
    case turn1 =>
      clear n1 n2 n3
      rintro i v m₁ nw₁ s₁ it ito hv ⟨fs9, hfs⟩ hit hl ⟨n1, pa₁, sub₂, fd₁, tf, n3⟩ F₁ N₁
      obtain ⟨D', bx, y, t, u, rfl, hD, hi⟩ := pa₁.get hv
      have hm := List.mem_of_getElem? hi
      obtain ⟨iv, hn, hb0, hb1⟩ := himm (ps_imm hm)
      have hy0 : 0 ≤ y := (ps_place hm).2.1
      have hy1 : y ≤ 31 := (ps_place hm).2.2
      have hx0 : 0 ≤ bx := (ps_place hm).1.1
      have hx1 : bx ≤ 31 := (ps_place hm).1.2
      have fd₂ := fd₁.mono (news' := (it, ito) :: nw₁) (fun p hp => .tail _ hp)
      k_steps
      rename _ = 2 ^ y.toNat => ez
      rename _ = _ % 2 => em
      refine' TurnEnd.same ?zF ?zN hit ?zJ
      case zF => assumption
      case zN => assumption
      case zJ =>
      refine ⟨hl, n1, pa₁, sub₂, fd₁, ?_⟩
      have e : bitSum (num ks "imm") ((psOf r.f).take (i + 1)) = bitSum (num ks "imm") ((psOf r.f).take i) + iv / 2 ^ bx.toNat % 2 * 2 ^ y.toNat := by
        unfold bitSum
        rw [List.take_add_one, hi, List.map_append, List.sum_append]
        simp [num, hn]
      rw [Int.fdiv_eq_ediv_of_nonneg _ (Int.le_of_lt (Int.pow_pos (by decide)))] at em
      rw [e, ← em, ← ez, ← Int.add_assoc]
      exact ⟨_, rfl⟩
    case done1 =>
      rintro m₂ nw₂ h₂ tk₂ ⟨k1, pa₂, sub₂, fd₂, tf2, k3⟩ F₂ N₂
      rw [pa₂.length, List.take_length] at k3
      k_steps
      subst hx
      refine' ret _ _ _ _ ?y1 ?y2 ?y3
      case y2 => assumption
      case y3 => assumption
      case y1 => exact sub₂
theorem kw_W9_3 : True := by
  k_with_none
  trivial
end
end Mine
end
section
open PySem PySem.W PyProof.Rows PySem.Spec PySem.Calls
set_option maxHeartbeats 400000
namespace Mine
/-- whether a number is this row's, as the law says it -/
def isOneS (x : PySem.Str) (op low high n : Int) : Bool :=
  if (x == "E") = true then n == op + high * 1048576 else
  if n.fmod 128 ≠ op then false else
  if (x == "F") = true then (if (n.fdiv 128).fmod 8192 ≠ 0 then ((n.fdiv 128).fmod 8192 == 0) else n.fdiv 268435456 == 0) else
  if (([("U" : PySem.Str), "J"]).any fun y => y == x) = false ∧ (n.fdiv 4096).fmod 8 ≠ low then false else
  if (([("R" : PySem.Str), "H"]).any fun y => y == x) = true then n.fdiv 33554432 == high else !(([("R" : PySem.Str), "H"]).any fun y => y == x)
section
variable {x : PySem.Str} {op low high n : Int}
theorem one1 (h : (x == "E") = true) : (n == op + high * 1048576) = isOneS x op low high n := by unfold isOneS; rw [if_pos h]
theorem one2 (h : (x == "E") = false) (h2 : n.fmod 128 ≠ op) : false = isOneS x op low high n := by unfold isOneS; rw [if_neg (by rw [h]; decide), if_pos h2]
theorem one3 (h : (x == "E") = false) (h2 : n.fmod 128 = op) (h3 : (x == "F") = true) (h4 : (n.fdiv 128).fmod 8192 = 0) : (n.fdiv 268435456 == 0) = isOneS x op low high n := by
  unfold isOneS; rw [if_neg (by rw [h]; decide), if_neg (fun e => e h2), if_pos h3, if_neg (fun e => e h4)]
theorem one4 (h : (x == "E") = false) (h2 : n.fmod 128 = op) (h3 : (x == "F") = true) (h4 : (n.fdiv 128).fmod 8192 ≠ 0) : ((n.fdiv 128).fmod 8192 == 0) = isOneS x op low high n := by
  unfold isOneS; rw [if_neg (by rw [h]; decide), if_neg (fun e => e h2), if_pos h3, if_pos h4]
theorem one5 (h : (x == "E") = false) (h2 : n.fmod 128 = op) (h3 : (x == "F") = false) (h4 : (([("U" : PySem.Str), "J"]).any fun y => y == x) = true) (h5 : (([("R" : PySem.Str), "H"]).any fun y => y == x) = true) : (n.fdiv 33554432 == high) = isOneS x op low high n := by
  unfold isOneS; rw [if_neg (by rw [h]; decide), if_neg (fun e => e h2), if_neg (by rw [h3]; decide), if_neg (fun e => by rw [h4] at e; exact absurd e.1 (by decide)), if_pos h5]
theorem one6 (h : (x == "E") = false) (h2 : n.fmod 128 = op) (h3 : (x == "F") = false) (h4 : (([("U" : PySem.Str), "J"]).any fun y => y == x) = true) (h5 : (([("R" : PySem.Str), "H"]).any fun y => y == x) = false) : (!(([("R" : PySem.Str), "H"]).any fun y => y == x)) = isOneS x op low high n := by
  unfold isOneS; rw [if_neg (by rw [h]; decide), if_neg (fun e => e h2), if_neg (by rw [h3]; decide), if_neg (fun e => by rw [h4] at e; exact absurd e.1 (by decide)), if_neg (by rw [h5]; decide)]
theorem one7 (h : (x == "E") = false) (h2 : n.fmod 128 = op) (h3 : (x == "F") = false) (h4 : (([("U" : PySem.Str), "J"]).any fun y => y == x) = false) (h5 : (n.fdiv 4096).fmod 8 ≠ low) : false = isOneS x op low high n := by
  unfold isOneS; rw [if_neg (by rw [h]; decide), if_neg (fun e => e h2), if_neg (by rw [h3]; decide), if_pos ⟨h4, h5⟩]
theorem one8 (h : (x == "E") = false) (h2 : n.fmod 128 = op) (h3 : (x == "F") = false) (h4 : (n.fdiv 4096).fmod 8 = low) (h5 : (([("R" : PySem.Str), "H"]).any fun y => y == x) = true) : (n.fdiv 33554432 == high) = isOneS x op low high n := by
  unfold isOneS; rw [if_neg (by rw [h]; decide), if_neg (fun e => e h2), if_neg (by rw [h3]; decide), if_neg (fun e => e.2 h4), if_pos h5]
theorem one9 (h : (x == "E") = false) (h2 : n.fmod 128 = op) (h3 : (x == "F") = false) (h4 : (n.fdiv 4096).fmod 8 = low) (h5 : (([("R" : PySem.Str), "H"]).any fun y => y == x) = false) : (!(([("R" : PySem.Str), "H"]).any fun y => y == x)) = isOneS x op low high n := by
  unfold isOneS; rw [if_neg (by rw [h]; decide), if_neg (fun e => e h2), if_neg (by rw [h3]; decide), if_neg (fun e => e.2 h4), if_neg (by rw [h5]; decide)]
end
section
variable {w : World} {mean : ExcName → Option Value} {mg mb : PySem.Str → Option Value} {dp un : Nat} {gd : Option (List Code)} {cn : PySem.Str} {cs : Scope} {a : Addr} {ccd : Value} {cl : List (PySem.Str × Addr)} {outer : List Env} {A₀ : Around} {base h₀ : Heap} {L : Addr} {m : PySem.Str → Option Value} {s : Shared} {Q E : Value → Shared → Prop} {news : List (Addr × Obj)}

theorem kw_W10_1 : True := by
  k_with_none
  k_with "subs2" => first | exact fun p hp => List.Mem.tail _ (hp) | exact fun p hp => List.Mem.tail _ (List.Mem.tail _ (hp)) | exact fun p hp => List.Mem.tail _ (List.Mem.tail _ (List.Mem.tail _ (hp))) | exact fun p hp => List.Mem.tail _ (List.Mem.tail _ (List.Mem.tail _ (List.Mem.tail _ (hp)))) | exact fun p hp => List.Mem.tail _ (List.Mem.tail _ (List.Mem.tail _ (List.Mem.tail _ (List.Mem.tail _ (hp))))) | exact fun p hp => List.Mem.tail _ (List.Mem.tail _ (List.Mem.tail _ (List.Mem.tail _ (List.Mem.tail _ (List.Mem.tail _ (hp)))))) | exact fun p hp => List.Mem.tail _ (List.Mem.tail _ (List.Mem.tail _ (List.Mem.tail _ (List.Mem.tail _ (List.Mem.tail _ (List.Mem.tail _ (hp)))))))
  trivial
theorem is_one_c (r : Row) (x : PySem.Str) (hx : x = r.f.str) (D : Addr) (n : Int) (tn : Tok) (B : Below A₀ base outer h₀) (F : Fr h₀ L s.heap m) (X : (K w.params).In h₀) (T : Top vq lo mean mg mb h₀) (hk : cs.kind = .function) (hd : dp + 20 < recursionLimit) (hu : un + 400 < cLine)
    (t1 t2 t3 t4 t5 : Tok) (hr : (D, tupO [.str r.nm t1, .str x t2, .int r.op t3, .int r.low t4, .int r.high t5]) ∈ news)
    (N : News h₀ L s.heap news) (hlo0 : 0 ≤ r.low) (hlo1 : r.low < 8) (hhi0 : 0 ≤ r.high) (hhi1 : r.high < 128) (hop0 : 0 ≤ r.op) (hop1 : r.op < 128) (hn0 : 0 ≤ n) (hn1 : n < 4294967296)
    (ret : ∀ b news' h' tk', b = isOneS x r.op r.low r.high n → (∀ p ∈ news, p ∈ news') → Fr h₀ L h' m → News h₀ L h' news' → Q (.bool b) { s with heap := h', toks := tk' }) :
    wpAny (model pr w) (ktrTop dp un gd cn cs L a ccd cl outer) (call (.ref 428) [.ref D, .int n tn]) Q E s := by
  refine wpAny_call ?_
  k_dflt (refine' enterD [("row", .ref D), ("number", .int n tn)] ?k1 ?k2 ?k3 ?k4 ?k5 ?kA ?kF ?kK ?k6 ?k7 ?k8 ?k9 ?kB ?_ ?c2 ?c3 ?c4 ?c5; (case kA => exact rfl); (case kF => exact rfl); (case kK => assumption); (case k1 => k_asm); (case k2 => k_asm); (case k3 => k_asm); (case k4 => k_asm); (case k5 => k_asm); (case k6 => k_is); (case k7 => k_is); (case k8 => ktr_room); (case k9 => exact BindsTo.of_eq rfl); (case c5 => decide); (case kB => exact locs rfl); (case c2 => exact rfl); (case c3 => exact rfl); (case c4 => exact rfl); k_whole; intro g' L' h' tk' FG' F' N' B' X' T'; (try dsimp only); (try k_fold))
  k_steps
  all_goals first
    | (refine' ret _ _ _ _ ?y0 ?y1 ?y2 ?y3; (case y2 => assumption); (case y3 => assumption); (case y1 => first | exact fun p hp => hp | walk_at "subs2"); (case y0 => exact one1 (by assumption)))
    | (refine' ret _ _ _ _ ?y0 ?y1 ?y2 ?y3; (case y2 => assumption); (case y3 => assumption); (case y1 => first | exact fun p hp => hp | walk_at "subs2"); (case y0 => exact one2 (by assumption) (by assumption)))
    | (refine' ret _ _ _ _ ?y0 ?y1 ?y2 ?y3; (case y2 => assumption); (case y3 => assumption); (case y1 => first | exact fun p hp => hp | walk_at "subs2"); (case y0 => exact one3 (by assumption) (by assumption) (by assumption) (by assumption)))
    | (refine' ret _ _ _ _ ?y0 ?y1 ?y2 ?y3; (case y2 => assumption); (case y3 => assumption); (case y1 => first | exact fun p hp => hp | walk_at "subs2"); (case y0 => exact one4 (by assumption) (by assumption) (by assumption) (by assumption)))
    | (refine' ret _ _ _ _ ?y0 ?y1 ?y2 ?y3; (case y2 => assumption); (case y3 => assumption); (case y1 => first | exact fun p hp => hp | walk_at "subs2"); (case y0 => exact one5 (by assumption) (by assumption) (by assumption) (by assumption) (by assumption)))
    | (refine' ret _ _ _ _ ?y0 ?y1 ?y2 ?y3; (case y2 => assumption); (case y3 => assumption); (case y1 => first | exact fun p hp => hp | walk_at "subs2"); (case y0 => exact one6 (by assumption) (by assumption) (by assumption) (by assumption) (by assumption)))
    | (refine' ret _ _ _ _ ?y0 ?y1 ?y2 ?y3; (case y2 => assumption); (case y3 => assumption); (case y1 => first | exact fun p hp => hp | walk_at "subs2"); (case y0 => exact one7 (by assumption) (by assumption) (by assumption) (by assumption) (by assumption)))
    | (refine' ret _ _ _ _ ?y0 ?y1 ?y2 ?y3; (case y2 => assumption); (case y3 => assumption); (case y1 => first | exact fun p hp => hp | walk_at "subs2"); (case y0 => exact one8 (by assumption) (by assumption) (by assumption) (by assumption) (by assumption)))
    | (refine' ret _ _ _ _ ?y0 ?y1 ?y2 ?y3; (case y2 => assumption); (case y3 => assumption); (case y1 => first | exact fun p hp => hp | walk_at "subs2"); (case y0 => exact one9 (by assumption) (by assumption) (by assumption) (by assumption) (by assumption)))
theorem kw_W10_2 : True := by
  k_with_none
  trivial
end
end Mine
end
section
open PySem PySem.W PyProof.Rows PySem.Spec PySem.Calls
set_option maxHeartbeats 400000
namespace Mine
section
variable {prog : Program} {w : World} {A : Around} {E : Value → Shared → Prop} {s : Shared}
open AutoSeq1 (wpAny_loadPart') in
theorem tup2_eq {l b : Addr} {a1 a2 b1 b2 : Value} {Q : Value → Shared → Prop} (hl : IsTup s.heap l #[a1, a2]) (hb : IsTup s.heap b #[b1, b2]) (hu : A.units < cLine)
    (h1 : ∀ (E : Value → Shared → Prop) (Q : Bool → Shared → Prop), Q true s → wpAny (model prog w) A.in1 (eqBool a1 b1) Q E s)
    (h2 : ∀ (E : Value → Shared → Prop) (Q : Bool → Shared → Prop), Q true s → wpAny (model prog w) A.in1 (eqBool a2 b2) Q E s)
    (h : Q (.bool true) s) : wpAny (model prog w) A (richCompare .Eq (.ref l) (.ref b)) Q E s := by
  obtain ⟨⟨cls, dd, data, sl⟩, ho, hc, n, hd⟩ := id hl
  obtain ⟨⟨cls2, dd2, data2, sl2⟩, ho2, hc2, n2, hd2⟩ := id hb
  simp only at hc hd hc2 hd2
  subst hc hd hc2 hd2
  have ta : s.TypeIs (.ref l) "tuple" := ⟨_, ho, rfl⟩
  have tb : s.TypeIs (.ref b) "tuple" := ⟨_, ho2, rfl⟩
  refine wpAny_richCompare_same_room (op := .Eq) ta tb PySem.F.slot_tuple_eq (wpAny_call_entry PySem.F.slot_tuple_eq ta PySem.F.entry_tuple_eq ?_ (PySem.F.args_tuple_eq_2 _ _)) hu
  obtain ⟨hp, g, d, tk, os⟩ := s
  have f2 := AutoSeq1.sub_tuple_tuple
  show wpAny _ _ (Builtin.«tuple.__eq__» ⟨[.ref l, .ref b], []⟩) _ _ _
  wp_walk using wpAny_loadPart' ho, wpAny_loadPart' ho2, h1 _ _, h2 _ _
  exact ⟨_, rfl, (fun x => nomatch x), h⟩
open AutoSeq1 (wpAny_loadPart') in
theorem tup2_ne {l b : Addr} {a1 a2 b1 b2 : Value} {Q : Value → Shared → Prop} (hl : IsTup s.heap l #[a1, a2]) (hb : IsTup s.heap b #[b1, b2]) (hu : A.units < cLine)
    (h1 : ∀ (E : Value → Shared → Prop) (Q : Bool → Shared → Prop), Q true s → wpAny (model prog w) A.in1 (eqBool a1 b1) Q E s)
    (h2 : ∀ (E : Value → Shared → Prop) (Q : Bool → Shared → Prop), Q true s → wpAny (model prog w) A.in1 (eqBool a2 b2) Q E s)
    (h : Q (.bool false) s) : wpAny (model prog w) A (richCompare .NotEq (.ref l) (.ref b)) Q E s := by
  obtain ⟨⟨cls, dd, data, sl⟩, ho, hc, n, hd⟩ := id hl
  obtain ⟨⟨cls2, dd2, data2, sl2⟩, ho2, hc2, n2, hd2⟩ := id hb
  simp only at hc hd hc2 hd2
  subst hc hd hc2 hd2
  have ta : s.TypeIs (.ref l) "tuple" := ⟨_, ho, rfl⟩
  have tb : s.TypeIs (.ref b) "tuple" := ⟨_, ho2, rfl⟩
  refine wpAny_richCompare_same_room (op := .NotEq) ta tb PySem.F.slot_tuple_ne (wpAny_call_entry PySem.F.slot_tuple_ne ta PySem.F.entry_tuple_ne ?_ (PySem.F.args_tuple_ne_2 _ _)) hu
  obtain ⟨hp, g, d, tk, os⟩ := s
  have f2 := AutoSeq1.sub_tuple_tuple
  show wpAny _ _ (Builtin.«tuple.__ne__» ⟨[.ref l, .ref b], []⟩) _ _ _
  wp_walk using wpAny_loadPart' ho, wpAny_loadPart' ho2, h1 _ _, h2 _ _
  exact ⟨_, rfl, (fun x => nomatch x), h⟩
end
theorem fd_value {kb : List (PySem.Str × Value)} {ks : List (PySem.Str × Int)} (h : FD kb ks) : ∀ {k : PySem.Str} {n : Int}, (ks.map (·.1)).Nodup → (k, n) ∈ ks → ∃ t, valueAt kb k = some (.int n t) := by
  induction h with
  | nil => intro k n _ hm; exact nomatch hm
  | @cons k' n' t kvs ks _ ih =>
    intro k n hn hm
    obtain ⟨h1, h2⟩ := List.nodup_cons.mp hn
    rcases List.mem_cons.mp hm with e | hm
    · injection e with e1 e2
      subst e1 e2
      exact ⟨t, by simp [valueAt]⟩
    · obtain ⟨t', ht⟩ := ih h2 hm
      have hne : k' ≠ k := by rintro rfl; exact h1 (List.mem_map.mpr ⟨_, hm, rfl⟩)
      exact ⟨t', by simpa [valueAt, hne] using ht⟩
theorem fd_hits {A : Around} {s : Shared} {kb : List (PySem.Str × Value)} : ∀ {ka : List (PySem.Str × Value)} {ks : List (PySem.Str × Int)}, FD ka ks → (∀ k n, (k, n) ∈ ks → ∃ t, valueAt kb k = some (.int n t)) → KeqHits A s kb ka true := by
  intro ka ks h
  induction h with
  | nil => intro _; exact .nil
  | @cons k n t kvs ks _ ih =>
    intro hv
    obtain ⟨t', ht⟩ := hv k n (.head _)
    have e := KeqHits.hit ht (SeqAt.EqAt.int_int n t n t') (ih fun k n hm => hv k n (.tail _ hm))
    rw [beq_self_eq_true, Bool.true_and] at e
    exact e
section
variable {w : World} {mean : ExcName → Option Value} {mg mb : PySem.Str → Option Value} {dp un : Nat} {gd : Option (List Code)} {cn : PySem.Str} {cs : Scope} {a : Addr} {ccd : Value} {cl : List (PySem.Str × Addr)} {outer : List Env} {A₀ : Around} {base h₀ : Heap} {L : Addr} {m : PySem.Str → Option Value} {s : Shared} {Q E : Value → Shared → Prop} {news : List (Addr × Obj)}

theorem fd_eq {A : Around} {d1 d2 : Addr} {ks : List (PySem.Str × Int)} (N : News h₀ L s.heap news) (f1 : FdAt w news d1 ks) (f2 : FdAt w news d2 ks) (hu : A.units < cLine) {Q : Bool → Shared → Prop} (hq : Q true s) : wpAny (model pr w) A (eqBool (.ref d1) (.ref d2)) Q E s := by
  by_cases hd : d1 = d2
  · subst hd
    exact SeqAt.EqAt.same _ _ _ _ _ hq
  · obtain ⟨o1, k1, m1, i1, q1, l1⟩ := f1
    obtain ⟨o2, k2, m2, i2, q2, l2⟩ := f2
    unfold eqBool
    refine wpAny_holding ?_
    refine wpAny_ite_split (fun hab => absurd (by have := eq_of_beq hab; injection this) hd) (fun _ => ?_)
    have hn : (ks.map (·.1)).Nodup := by
      have := i2.choose_spec.choose_spec.2.2.2.2
      rw [q2.keys] at this
      exact this
    have e : k1.length = k2.length := q1.length.trans q2.length.symm
    refine wpAny_bind (keq_pairs N m1 m2 i1 i2 l1 l2 e hu (fd_hits q1 fun k n hm => fd_value q2 hn hm) (wpAny_truthy_bool hq))
theorem str_eq {A : Around} {x : PySem.Str} {t u : Tok} {Q : Bool → Shared → Prop} (hq : Q true s) : wpAny (model pr w) A (eqBool (.str x t) (.str x u)) Q E s := by
  have e := SeqAt.EqAt.str_str (A := A) (s := s) x t x u
  rw [beq_self_eq_true] at e
  exact e _ _ _ _ hq
/-- two answers of a decoder -/
theorem pair_eq {A : Around} {D T d1 d2 : Addr} {x : PySem.Str} {t u : Tok} {ks : List (PySem.Str × Int)} (N : News h₀ L s.heap news) (h1 : (D, tupO [.str x t, .ref d1]) ∈ news) (h2 : (T, tupO [.str x u, .ref d2]) ∈ news) (f1 : FdAt w news d1 ks) (f2 : FdAt w news d2 ks) (hu : A.units + 8 < cLine) (h : Q (.bool true) s) : wpAny (model pr w) A (compareOp .Eq (.ref D) (.ref T)) Q E s :=
  tup2_eq ⟨_, (N _ h1).1, rfl, _, rfl⟩ ⟨_, (N _ h2).1, rfl, _, rfl⟩ (by omega) (fun E Q hq => str_eq hq) (fun E Q hq => fd_eq N f1 f2 (by simp only [units_in1]; omega) hq) h
theorem pair_ne {A : Around} {D T d1 d2 : Addr} {x : PySem.Str} {t u : Tok} {ks : List (PySem.Str × Int)} (N : News h₀ L s.heap news) (h1 : (D, tupO [.str x t, .ref d1]) ∈ news) (h2 : (T, tupO [.str x u, .ref d2]) ∈ news) (f1 : FdAt w news d1 ks) (f2 : FdAt w news d2 ks) (hu : A.units + 8 < cLine) (h : Q (.bool false) s) : wpAny (model pr w) A (compareOp .NotEq (.ref D) (.ref T)) Q E s :=
  tup2_ne ⟨_, (N _ h1).1, rfl, _, rfl⟩ ⟨_, (N _ h2).1, rfl, _, rfl⟩ (by omega) (fun E Q hq => str_eq hq) (fun E Q hq => fd_eq N f1 f2 (by simp only [units_in1]; omega) hq) h
end
end Mine
end
section
open PySem PySem.W PyProof.Rows PySem.Spec PySem.Calls
set_option maxHeartbeats 400000
namespace Mine
/-- what stands in the heap below all frames -/
structure BaseOk (w : World) (mean : ExcName → Option Value) (mg mb : PySem.Str → Option Value) (base : Heap) : Prop where
  x : (K w.params).In base
  t : Top vq lo mean mg mb base
abbrev excO (t : Addr) (dd : Option Addr) : Obj := { cls := .ref 31, dict := dd, data := .fields #[.ref t, .none, .none, .none, .bool false, .none] }
theorem ns_some_of {K : Frag} {h : Heap} {N : Addr} {mg : PySem.Str → Option Value} {n : PySem.Str} {v : Value} (X : K.In h) (G : h.Ns N mg) (e : nsIn K N n = some (some v)) : mg n = some v := by
  obtain ⟨o, es, ep, ho, hd, _, hf⟩ := G
  unfold nsIn at e
  split at e
  · rename_i c d es' n' sl q
    have := X _ _ q
    rw [ho] at this
    cases this
    cases hd
    split at e
    · rename_i en he
      cases e
      rw [← hf]
      unfold nsFind findBy
      rw [← Array.find?_toList, he]
      rfl
    · split at e <;> cases e
  · cases e
theorem cls31 {P : Params} {h : Heap} (X : (K P).In h) : h.get? 31 = some (excClassObj "AssemblyFault" "AssemblyFault" 31 30 [.type "Exception"] [.type "Exception", .type "BaseException", .type "object"] true [] [] false none none (some (.ref 15)) none (some (.str "AssemblyFault" 189)) (some (.str "AssemblyFault" 197)) (some (.bool true)) "Exception.__new__") := X 31 _ rfl
theorem ns30 {P : Params} {h : Heap} (X : (K P).In h) : h.Ns 30 (h.nsMap 30) := .of_isNs (isNs_of_in X (by unfold nsOkIn; rw [show (K P).lookup 30 = some (o30 P) from rfl]; first | (simp [o30]; done) | kernel_rfl))
theorem fn28 {P : Params} {h : Heap} (X : (K P).In h) : ∃ o, h.get? 28 = some o ∧ o.cls = .type "function" := ⟨_, X 28 _ rfl, rfl⟩
theorem ns30_init {P : Params} {h : Heap} (X : (K P).In h) : h.nsMap 30 "__init__" = some (.ref 28) := ns_some_of X (ns30 X) (by k_is)
theorem ns30_none {P : Params} {h : Heap} {n : PySem.Str} (X : (K P).In h) (e : nsIn (K P) 30 n = some none) : h.nsMap 30 n = none := ns_none_of X (ns30 X) e
section
variable {w : World} {mean : ExcName → Option Value} {mg mb : PySem.Str → Option Value} {dp un : Nat} {gd : Option (List Code)} {cn : PySem.Str} {cs : Scope} {a : Addr} {ccd : Value} {cl : List (PySem.Str × Addr)} {outer : List Env} {A₀ : Around} {base h₀ : Heap} {L : Addr} {m : PySem.Str → Option Value} {s : Shared} {Q E : Value → Shared → Prop} {news : List (Addr × Obj)}

theorem getm_exc {A : Around} {pl : Sem Bool} {Q : Value × List Value → Shared → Prop} (F : Fr h₀ L s.heap m) (X : (K w.params).In h₀) (h : Q (.builtin "Exception.__init__", []) { s with toks := s.toks + 1 }) : wpAny (model pr w) A (getMethod (.type "Exception") "__init__" pl) Q E s :=
  method_type F X (by first | rfl | kernel_rfl) (by decide +kernel) (by rfl) (by rfl) h
theorem exc_init0 {A : Around} {e t : Addr} {v : Value} (F : Fr h₀ L s.heap m) (X : (K w.params).In h₀) (N : News h₀ L s.heap ((e, excO t none) :: news)) (off : ∀ p ∈ news, p.1 ≠ e)
    (ret : ∀ t' h' tk', Fr h₀ L h' m → News h₀ L h' ((e, excO t' none) :: news) → Q .none { s with heap := h', toks := tk' }) :
    wpAny (model pr w) A (call (.builtin "Exception.__init__") [.ref e, v]) Q E s := by
  have FF := PySem.F.excBase_Exception
  have X' := X.keeps F.keep
  have hC := cls31 X'
  have he := N.get (.head _)
  obtain ⟨h, g, d, tk, os⟩ := s
  refine wpAny_call (codeAny_call_builtin FF.init.plain FF.initEntry (wpAny_check_init_sub FF hC he rfl ?_))
  wp_walk
  have hx : (h.push { cls := .type "tuple", data := .seq #[v] }).get? e = some (excO t none) := Heap.get?_push_of_some _ he
  have hne : ∀ b o, b ≠ e → h.get? b = some o → ((h.push { cls := .type "tuple", data := .seq #[v] }).update e (Obj.mapFields fun x => x.setIfInBounds 0 (.ref h.objs.size))).get? b = some o := fun b o hb ho => by
    rw [Heap.get?_update_other _ _ (Ne.symm hb)]
    exact Heap.get?_push_of_some _ ho
  have N1 := N _ (.head _)
  refine ret h.objs.size _ _ (LCg.fr_but F (fun b o hb ho => hne b o (by simpa using hb) ho) (Ne.symm N1.2.1) N1.2.2) fun p hp => ?_
  rcases List.mem_cons.mp hp with rfl | hp
  · exact ⟨Heap.get?_update_self _ hx rfl, N1.2⟩
  · exact ⟨hne _ _ (off p hp) (N p (.tail _ hp)).1, (N p (.tail _ hp)).2⟩
/-- the first name kept in an exception: its dict is made -/
theorem store_first {A : Around} {h : Heap} {g : Array GenState} {d : Drawn} {t : Nat} {os : OsState} {x t0 : Addr} {name : PySem.Str} {v : Value} {tk : Tok} {Q : Fin → Shared → Prop} (X : (K w.params).In h) (hna : nsIn (K w.params) 30 name = some none) (hB : typeLookup (.type "Exception") name = pure none) (hx : h.get? x = some (excO t0 none))
    (hq : ∀ h' tk', h'.get? x = some (excO t0 (some h.objs.size)) → h'.Ns1 h.objs.size (fun y => if y = name then some v else none) → (∀ b o, b ≠ x → h.get? b = some o → h'.get? b = some o) → Q (.done (.ret .none)) ⟨h', g, d, tk', os⟩) :
    wpAny (model pr w) A (Builtin.«object.__setattr__» ⟨[.ref x, .str name tk, v], []⟩) Q E ⟨h, g, d, t, os⟩ := by
  have SF := PySem.F.store_Exception
  have hC := cls31 X
  have hn := ns30 X
  have hna' := ns30_none X hna
  have hpass := SF.passes (.ref x)
  obtain ⟨o, ho, hc, hdn, hdd, hsl⟩ : ∃ o, h.get? x = some o ∧ o.cls = .ref 31 ∧ o.dict = none ∧ o.data = .fields #[.ref t0, .none, .none, .none, .bool false, .none] ∧ o.slots = #[] := ⟨_, hx, rfl, rfl, rfl, rfl⟩
  clear hx
  unfold Builtin.«object.__setattr__»
  repeat (first | rw [refuse_eq] | (rw [refuseLoop_ref, hpass]) | (with_reducible refine wpAny_loadPart_at ho ?_; rw [hc]) | with_reducible refine wpAny_mroOf_exc hC ?_ | (with_reducible refine wpAny_typeLookup_exc hC hn SF.mro hB ?_; rw [hna']) | wp_step)
  rw [hdn, if_neg (by simp [typeHasDict])]
  have hx₁ : (h.push { cls := .type "dict", data := .dict #[] }).get? x = some o := Heap.get?_push_of_some _ ho
  have hxs : x ≠ h.objs.size := Nat.ne_of_lt (Heap.lt_size ho)
  split
  · rename_i hcd
    cases hcd
  split
  · rename_i c hcd
    rw [hdd] at hcd
    cases hcd
  refine wpAny_bind (wpAny_alloc' ?_)
  refine wpAny_bind (wpAny_update' hx₁ ?_)
  refine wpAny_pure ?_
  have hgd : ((h.push { cls := .type "dict", data := .dict #[] }).update x fun o => { cls := o.cls, dict := some h.objs.size, data := o.data, slots := o.slots }).get? h.objs.size = some { cls := .type "dict", data := .dict #[] } :=
    (Heap.get?_update_ne _ _ _ _ hxs.symm).trans (Heap.get?_push_at rfl rfl)
  have hnd : ((h.push { cls := .type "dict", data := .dict #[] }).update x fun o => { cls := o.cls, dict := some h.objs.size, data := o.data, slots := o.slots }).Ns h.objs.size (fun _ => none) :=
    ⟨_, #[], _, hgd, rfl, fun e he => absurd he (by simp), fun _ => rfl⟩
  show wpAny _ _ (PySem.Builtin.ObjectAttr.storeInDict h.objs.size (.str name tk) name v) _ _ _
  unfold PySem.Builtin.ObjectAttr.storeInDict PySem.Builtin.ObjectAttr.newKeyGuard
  refine wpAny_bind (wpAny_pure (wpAny_bind (wpAny_nsSet1 (Heap.Ns1.of_empty hnd) fun h' hn' hs => ?_)))
  obtain ⟨oD, esD, epD, hoD, hdD, hcD⟩ := hn'.count (Within.cons name v Within.nil)
  refine wpAny_bind (wpAny_lookBehind hoD (by rw [hdD]; exact pastItsLine_dict (Nat.le_trans hcD (by rw [List.length_cons, List.length_nil, sizeLine_eq]; omega))) ?_)
  wp_walk
  refine hq h' _ ?_ hn' fun b ob hbx hb => ?_
  · refine (hs.2 x hxs).trans ((Heap.get?_update_self _ hx₁ ?_).trans ?_)
    · obtain ⟨oc, od, odt, osl⟩ := o
      dsimp only at hdd
      subst hdd
      rfl
    · obtain ⟨oc, od, odt, osl⟩ := o
      dsimp only at hdd hc hdn hsl
      subst hdd hc hdn hsl
      rfl
  · exact (hs.2 b (Nat.ne_of_lt (Heap.lt_size hb))).trans ((Heap.get?_update_ne _ _ _ _ hbx).trans (Heap.get?_push_of_some _ hb))
theorem store_call0 {A : Around} {R : Result → Shared → Prop} {h : Heap} {g : Array GenState} {d : Drawn} {t : Nat} {os : OsState} {x C N : Addr} {nameV v : Value} {o : Obj} {nm q : PySem.Str} {bs bm sub : List Value} {sn : List PySem.Str} {ab : Bool} {col : Option Bool} {dd : Option Addr} {k0 k1 k2 k3 k5 : Option Value} {B newId sa owner : String} (SF : StoreFacts B bm sa owner)
    (hC : h.get? C = some (excClassObj nm q C N bs bm true sn sub ab col dd k0 k1 k2 k3 k5 newId)) (hx : h.get? x = some o) (hc : o.cls = .ref C)
    (hs : wpAny (model pr w) A.in1 (Builtin.«object.__setattr__» ⟨[.ref x, nameV, v], []⟩) (fun fin s' => match fin with | .done f => R (.ok f) s' | .again c' => c'.quiet = true ∧ codeAny (model pr w) A c' R s') (fun e s' => R (.error e) s') ⟨h, g, d, t, os⟩) :
    codeAny (model pr w) A (.call (.builtin sa) ⟨[.ref x, nameV, v], []⟩) R ⟨h, g, d, t, os⟩ :=
  codeAny_call_builtin SF.slot.plain SF.entry (wpAny_check_sa SF hC hx hc hs)
theorem store_call1 {A : Around} {R : Result → Shared → Prop} {h : Heap} {g : Array GenState} {d : Drawn} {t : Nat} {os : OsState} {x t0 : Addr} {name : PySem.Str} {v : Value} {tk : Tok} (X : (K w.params).In h) (hna : nsIn (K w.params) 30 name = some none) (hB : typeLookup (.type "Exception") name = pure none) (hx : h.get? x = some (excO t0 none))
    (hq : ∀ h' tk', h'.get? x = some (excO t0 (some h.objs.size)) → h'.Ns1 h.objs.size (fun y => if y = name then some v else none) → (∀ b o, b ≠ x → h.get? b = some o → h'.get? b = some o) → R (.ok (.ret .none)) ⟨h', g, d, tk', os⟩) :
    codeAny (model pr w) A (.call (.builtin "object.__setattr__") ⟨[.ref x, .str name tk, v], []⟩) R ⟨h, g, d, t, os⟩ := by
  have hC := cls31 X
  have hs := store_first (A := A.in1) (E := fun e s' => R (.error e) s') (g := g) (d := d) (t := t) (os := os) (tk := tk) (v := v) (Q := fun fin s' => match fin with | .done f => R (.ok f) s' | .again c' => c'.quiet = true ∧ codeAny (model pr w) A c' R s') X hna hB hx hq
  exact store_call0 PySem.F.store_Exception hC hx rfl hs
theorem ns30_set {P : Params} {h : Heap} (X : (K P).In h) : h.nsMap 30 "__setattr__" = none := ns30_none X (by k_is)
theorem set_first {A : Around} {e t : Addr} {name : PySem.Str} {v : Value} {Q : Unit → Shared → Prop} (F : Fr h₀ L s.heap m) (X : (K w.params).In h₀) (N : News h₀ L s.heap ((e, excO t none) :: news)) (off : ∀ p ∈ news, p.1 ≠ e) (hna : nsIn (K w.params) 30 name = some none) (hB : typeLookup (.type "Exception") name = pure none)
    (ret : ∀ dx h' tk', h'.Ns1 dx (fun y => if y = name then some v else none) → dx ≠ e → h₀.get? dx = none → dx ≠ L → (∀ p ∈ news, p.1 ≠ dx) → Fr h₀ L h' m → News h₀ L h' ((e, excO t (some dx)) :: news) → Q () { s with heap := h', toks := tk' }) :
    wpAny (model pr w) A (setAttr (.ref e) name v) Q E s := by
  have SF := PySem.F.store_Exception
  have X' := X.keeps F.keep
  have hC := cls31 X'
  have hn := ns30 X'
  have hns := ns30_set X'
  have hx := (N _ (.head _)).1
  have N1 := N _ (.head _)
  obtain ⟨h, g, d, tk, os⟩ := s
  refine set_plain (s := ⟨h, g, d, tk, os⟩) (od := none) X' ⟨hx, rfl, rfl, trivial⟩ (by k_is) ?_
  have hx' : h.get? e = some (excO t none) := hx
  refine store_call1 (h := h) X' hna hB hx' (fun h' tk' i1 i2 i3 => ?_)
  have fresh : ∀ b o, h.get? b = some o → b ≠ h.objs.size := fun b o hb => Nat.ne_of_lt (Heap.lt_size hb)
  refine ret _ h' tk' i2 (Ne.symm (fresh _ _ hx)) ?_ ?_ (fun p hp => fresh _ _ (N p (.tail _ hp)).1) ?_ fun p hp => ?_
  · cases q : h₀.get? h.objs.size with
    | none => rfl
    | some o' => exact absurd rfl (fresh _ _ (F.keep _ _ q))
  · exact Ne.symm (Nat.ne_of_lt F.ns.lt)
  · exact LCg.fr_but F (fun b o hb ho => i3 b o (by simpa using hb) ho) (Ne.symm N1.2.1) N1.2.2
  · rcases List.mem_cons.mp hp with rfl | hp
    · exact ⟨i1, N1.2⟩
    · exact ⟨i3 _ _ (off p hp) (N p (.tail _ hp)).1, (N p (.tail _ hp)).2⟩
theorem set_next {A : Around} {e t dx : Addr} {name : PySem.Str} {v : Value} {mA : PySem.Str → Option Value} {ns : List PySem.Str} {Q : Unit → Shared → Prop} (F : Fr h₀ L s.heap m) (X : (K w.params).In h₀) (N : News h₀ L s.heap ((e, excO t (some dx)) :: news)) (off : ∀ p ∈ news, p.1 ≠ e)
    (hd : s.heap.Ns1 dx mA) (hde : dx ≠ e) (hd0 : h₀.get? dx = none) (hdL : dx ≠ L) (hdn : ∀ p ∈ news, p.1 ≠ dx) (hna : nsIn (K w.params) 30 name = some none) (hB : typeLookup (.type "Exception") name = pure none) (hw : Within mA ns) (hsz : ns.length ≤ sizeLine)
    (ret : ∀ h' tk', Fr h₀ L h' m → News h₀ L h' ((e, excO t (some dx)) :: news) → Q () { s with heap := h', toks := tk' }) :
    wpAny (model pr w) A (setAttr (.ref e) name v) Q E s := by
  have SF := PySem.F.store_Exception
  have X' := X.keeps F.keep
  have hx := (N _ (.head _)).1
  have N1 := N _ (.head _)
  obtain ⟨h, g, d, tk, os⟩ := s
  refine store_attr SF (cls31 X') (ns30 X') (ns30_set X') (ns30_none X' hna) hB (fun q => ?_) (show Heap.Inst h e 31 mA from ⟨excO t (some dx), hx, rfl, (fun c q => by cases q), Or.inr ⟨dx, rfl, hde, hd⟩⟩) (fun h' tk' i1 i2 i3 => ?_) hw hsz
  · rw [q] at N1
    have := (X 31 _ rfl)
    rw [N1.2.2] at this
    cases this
  · have kp : ∀ b o, b ≠ e → b ≠ dx → h.get? b = some o → h'.get? b = some o := fun b o hb hb2 ho => i2 b o hb (fun o₀ dy e1 e2 => by rw [hx] at e1; cases e1; cases e2; exact hb2) ho
    obtain ⟨o1, j1, j2, j3, j4, j5⟩ := i3 _ hx
    refine ret h' tk' ⟨F.ns.at' fun o ho => kp _ _ (Ne.symm N1.2.1) (Ne.symm hdL) ho, fun b o ho => kp b o (fun q => by rw [q, N1.2.2] at ho; cases ho) (fun q => by rw [q, hd0] at ho; cases ho) (F.keep _ _ ho), F.above⟩ fun p hp => ?_
    rcases List.mem_cons.mp hp with rfl | hp
    · refine ⟨j1.trans ?_, N1.2⟩
      obtain ⟨a1, a2, a3, a4⟩ := o1
      have j6 := j5 dx rfl
      dsimp only at j2 j3 j4 j6
      subst j2 j3 j4 j6
      rfl
    · exact ⟨kp _ _ (off p hp) (hdn p hp) (N p (.tail _ hp)).1, (N p (.tail _ hp)).2⟩
end
end Mine
end
section
open PySem PySem.W PyProof.Rows PySem.Spec PySem.Calls
set_option maxHeartbeats 400000
namespace Mine
section
variable {w : World} {mean : ExcName → Option Value} {mg mb : PySem.Str → Option Value} {dp un : Nat} {gd : Option (List Code)} {cn : PySem.Str} {cs : Scope} {a : Addr} {ccd : Value} {cl : List (PySem.Str × Addr)} {outer : List Env} {A₀ : Around} {base h₀ : Heap} {L : Addr} {m : PySem.Str → Option Value} {s : Shared} {Q E : Value → Shared → Prop} {news : List (Addr × Obj)}

theorem kw_E2_1 : True := by
  k_with_none
  k_with "getMethod type" => (k_here; k_dflt (refine' getm_exc ?zF ?zX ?_; (case zF => k_asm); (case zX => k_asm)))
  k_with "getMethod type:Exception" => (k_here; k_dflt (refine' getm_exc ?zF ?zX ?_; (case zF => k_asm); (case zX => k_asm)))
  k_with "call builtin:Exception.__init__" => (k_here; k_dflt (refine' exc_init0 ?zF ?zX ?zN ?zo ?_; (case zF => k_asm); (case zX => k_asm); (case zN => k_asm); (case zo => assumption); intro _ _ _ _ _))
  k_with "setAttr ref" => (k_here; k_dflt (first | (refine' set_first ?zF ?zX ?zN ?zo ?zs ?zb ?_; (case zF => k_asm); (case zX => k_asm); (case zN => k_asm); (case zo => assumption); (case zs => k_is); (case zb => (rw [typeLookup_type, builtinLookup_eq_fast]; kernel_rfl)); intro _ _ _ _ _ _ _ _ _ _) | (refine' set_next ?zF ?zX ?zN ?zo ?y1 ?y2 ?y3 ?y4 ?y5 ?zs ?zb ?zw ?zz ?_; (case zF => k_asm); (case zX => k_asm); (case zN => k_asm); (case zo => assumption); (case y1 => assumption); (case y2 => assumption); (case y3 => assumption); (case y4 => assumption); (case y5 => assumption); (case zs => k_is); (case zb => (rw [typeLookup_type, builtinLookup_eq_fast]; kernel_rfl)); (case zw => exact Within.cons _ _ Within.nil); (case zz => exact Nat.le_of_ble_eq_true rfl); intro _ _ _ _)))
  trivial
set_option maxHeartbeats 4000000 in
theorem init_c (e t : Addr) (x : PySem.Str) (tx t0 : Tok) (B : Below A₀ base outer h₀) (F : Fr h₀ L s.heap m) (X : (K w.params).In h₀) (T : Top vq lo mean mg mb h₀) (hk : cs.kind = .function) (hd : dp + 20 < recursionLimit) (hu : un + 400 < cLine)
    (N : News h₀ L s.heap ((e, excO t none) :: news)) (off : ∀ p ∈ news, p.1 ≠ e)
    (ret : ∀ t' dx h' tk', Fr h₀ L h' m → News h₀ L h' ((e, excO t' (some dx)) :: news) → Q .none { s with heap := h', toks := tk' }) :
    wpAny (model pr w) ((ktrTop dp un gd cn cs L a ccd cl outer).under (.builtin "type.__call__" ⟨.ref 31 :: [.str x tx, .int 0 t0], []⟩)) (call (.ref 28) [.ref e, .str x tx, .int 0 t0]) Q E s := by
  refine wpAny_call ?_
  k_dflt (refine' enterD [("self", .ref e), ("word", .str x tx), ("line", .int 0 t0)] ?k1 ?k2 ?k3 ?k4 ?k5 ?kA ?kF ?kK ?k6 ?k7 ?k8 ?k9 ?kB ?_ ?c2 ?c3 ?c4 ?c5; (case kA => exact rfl); (case kF => exact rfl); (case kK => assumption); (case k1 => k_asm); (case k2 => k_asm); (case k3 => k_asm); (case k4 => k_asm); (case k5 => k_asm); (case k6 => k_is); (case k7 => k_is); (case k8 => ktr_room); (case k9 => exact BindsTo.of_eq rfl); (case c5 => decide); (case kB => exact locs rfl); (case c2 => exact rfl); (case c3 => exact rfl); (case c4 => exact rfl); k_whole; intro g' L' h' tk' FG' F' N' B' X' T'; (try dsimp only); (try k_fold))
  k_steps
  exact ret _ _ _ _ (by assumption) (by assumption)
theorem call_exc_c (x : PySem.Str) (tx t0 : Tok) (B : Below A₀ base outer h₀) (F : Fr h₀ L s.heap m) (X : (K w.params).In h₀) (T : Top vq lo mean mg mb h₀) (hk : cs.kind = .function) (hd : dp + 20 < recursionLimit) (hu : un + 400 < cLine)
    (N : News h₀ L s.heap news)
    (ret : ∀ e t' dx h' tk', (∀ p ∈ news, p.1 ≠ e) → Fr h₀ L h' m → News h₀ L h' ((e, excO t' (some dx)) :: news) → Q (.ref e) { s with heap := h', toks := tk' }) :
    wpAny (model pr w) (ktrTop dp un gd cn cs L a ccd cl outer) (call (.ref 31) [.str x tx, .int 0 t0]) Q E s := by
  have X' := X.keeps F.keep
  obtain ⟨o28, h28, c28⟩ := fn28 X'
  obtain ⟨h, g, d, tk, os⟩ := s
  refine wpAny_call_exc_init PySem.F.excBase_Exception (cls31 X') (ns30 X') (ns30_init X') h28 c28 fun h' e hm => ?_
  obtain ⟨t, he, hte, ht⟩ := hm.there
  have off : ∀ p ∈ news, p.1 ≠ e := fun p hp q => by
    have := (N p hp).1
    rw [q, hm.new] at this
    cases this
  have hL : e ≠ L := fun q => by
    obtain ⟨o, es, ep, ho, _⟩ := F.ns
    rw [q] at hm
    have := hm.new
    rw [ho] at this
    cases this
  have h0 : h₀.get? e = none := by
    cases q : h₀.get? e with
    | none => rfl
    | some o' =>
      have := F.keep _ _ q
      rw [hm.new] at this
      cases this
  refine init_c e t x tx t0 B (F.keeps hm.keeps) X T hk hd hu (fun p hp => ?_) off fun t' dx h2 tk2 F2 N2 => ⟨rfl, ret e t' dx h2 tk2 off F2 N2⟩
  rcases List.mem_cons.mp hp with rfl | hp
  · exact ⟨he, hL, h0⟩
  · exact ⟨hm.keeps _ _ (N p hp).1, (N p hp).2⟩
/-- what may be raised of the program's own class -/
def RaisableO (E : Value → Shared → Prop) (v : Value) (s₁ : Shared) : Prop := ∃ e t dd, v = .ref e ∧ (∃ P, (K P).In s₁.heap) ∧ s₁.heap.get? e = some (excO t dd) ∧ E (.ref e) s₁
theorem Raise_o {M : Model} {A : Around} {env : Env} {x : PySem.Expr} {pos : Pos} {Q : Flow → Shared → Prop} (hh : A.handled = none) (h : wpAny M A (eval x env) (RaisableO E) E s) : wpAny M A (exec (.Raise (some x) none pos) env) Q E s := by
  show wpAny M A (do standAt pos; raiseStmt env (some (do let v ← eval x env; standAt pos; pure v)) none) Q E s
  refine wpAny_bind (wpAny_standAt ?_)
  unfold raiseStmt
  dsimp only
  refine wpAny_bind (wpAny_bind (wpAny_mono h (fun v s₁ h₁ => wpAny_bind (wpAny_standAt (wpAny_pure ?_))) fun _ _ x => x))
  obtain ⟨e, t, dd, rfl, ⟨P, X⟩, he, hE⟩ := h₁
  have hC := cls31 X
  have hcB : (Value.ref 31 :: [.type "Exception", .type "BaseException", .type "object"]).contains (.type "BaseException") = true := by decide
  obtain ⟨hp, g, d, tk, os⟩ := s₁
  repeat (first | with_reducible refine wpAny_loadPart_at he ?_ | with_reducible refine wpAny_loadPart_at hC ?_ | (with_reducible refine wpAny_isSubtype_exc hC ?_; rw [hcB]) | wp_step)
  exact wpAny_raiseNew_none hh hE
/-- out of a function with the program's own exception -/
theorem leave_own {M : Model} {A : Around} {g : Heap} {L e a t : Addr} {dd : Option Addr} {s' : Shared} {name : PySem.Str} {scope : Scope} {cd : Value} {Q : Unit → Shared → Prop} {l : List Env} (B : Below A base l g) (F : Fr g L s'.heap m) {cur : List (Addr × Obj)} (N : News g L s'.heap ((e, excO t dd) :: cur)) (off : ∀ p ∈ cur, p.1 ≠ e) (sub : ∀ p ∈ news, p ∈ cur) (hk : scope.kind = .function)
    (hQ : ∀ h', RaisedSN base g l e (.ref 31) news h' → g.UpToSlots h' → Q () { s' with heap := h' }) :
    wpAny M (A.deeper (envOf name scope L a cd)) («leaving» (envOf name scope L a cd) (.ref e)) Q E s' := by
  have K' := B.push (name := name) (a := a) (cd := cd) F hk
  have N1 := N _ (.head _)
  have heb : base.get? e = none := fresh_of_stays B.stays N1.2.2
  have ne : e ∉ (envOf name scope L a cd :: l).filterMap (·.frame) := fun hm => by
    obtain ⟨_, o, ho, hnf⟩ := K'.frames.mem hm
    rw [N1.1] at ho
    cases ho
    exact hnf _ rfl
  have hin : ∀ env ∈ (envOf name scope L a cd :: l), ∀ b, env.frame = some b → b ∈ e :: (envOf name scope L a cd :: l).filterMap (·.frame) := fun env he b hb => .tail _ (List.mem_filterMap.mpr ⟨env, he, hb⟩)
  have st : base.StaysIn (hideAll s'.heap (e :: (envOf name scope L a cd :: l).filterMap (·.frame))) := fun b o q => hideAll_get _ (K'.stays b o q) fun hm => by
    rcases List.mem_cons.mp hm with rfl | hm
    · rw [heb] at q; cases q
    · rw [(K'.frames.mem hm).1] at q; cases q
  have sg : ∀ b o, g.get? b = some o → b ∉ l.filterMap (·.frame) → (hideAll s'.heap (e :: (envOf name scope L a cd :: l).filterMap (·.frame))).get? b = some o := fun b o q nm => hideAll_get _ (F.keep b o q) fun hm => by
    rcases List.mem_cons.mp hm with rfl | hm
    · rw [N1.2.2] at q; cases q
    · rcases kts_mem hm with z | z
      · rw [z, kts_self F] at q; cases q
      · exact nm z
  have lg : ∀ q ∈ news, (hideAll s'.heap (e :: (envOf name scope L a cd :: l).filterMap (·.frame))).get? q.1 = some q.2 ∧ g.get? q.1 = none ∧ base.get? q.1 = none := fun q hq => by
    have hq2 := sub q hq
    have hN := N q (.tail _ hq2)
    refine ⟨hideAll_get _ hN.1 fun hm => ?_, hN.2.2, fresh_of_stays B.stays hN.2.2⟩
    rcases List.mem_cons.mp hm with hm | hm
    · exact off q hq2 hm
    · rcases kts_mem hm with z | z
      · exact hN.2.1 z
      · obtain ⟨_, o, ho, _⟩ := B.frames.mem z
        rw [hN.2.2] at ho
        cases ho
  refine wpAny_leaving_firstW (a0 := .ref t) K'.stack (funFrames_hide K'.frames hin) rfl N1.1 (fun b o hb => of_hideAll _ hb) (hideAll_none _ (.head _)) rfl rfl rfl fun h' hL => ?_
  obtain ⟨k1, ⟨_, _, k2⟩, k3, k4⟩ := hL
  exact hQ h' ⟨_, _, st, sg, lg, k1, hideAll_none _ (.head _), k2, k3⟩ ((Heap.UpToSlots.of_keeps F.keep).trans k4)
theorem raise_fin {M : Model} {A : Around} {g : Heap} {L e a t : Addr} {dd : Option Addr} {s' : Shared} {name : PySem.Str} {scope : Scope} {cd : Value} {l : List Env} {P : Params} {m : PySem.Str → Option Value} {E : Value → Shared → Prop} (B : Below A base l g) (F : Fr g L s'.heap m) {cur : List (Addr × Obj)} (N : News g L s'.heap ((e, excO t dd) :: cur)) (off : ∀ p ∈ cur, p.1 ≠ e) (sub : ∀ p ∈ news, p ∈ cur) (X : (K P).In g) (hk : scope.kind = .function)
    (hQ : ∀ h', RaisedSN base g l e (.ref 31) news h' → g.UpToSlots h' → E (.ref e) { s' with heap := h' }) :
    RaisableO (fun e s' => wpAny M (A.deeper (envOf name scope L a cd)) («leaving» (envOf name scope L a cd) e) (fun _ s'' => E e s'') (fun e' s'' => E e' s'') s') (.ref e) s' :=
  ⟨_, _, _, rfl, ⟨_, X.keeps F.keep⟩, (N _ (.head _)).1, leave_own B F N off sub hk hQ⟩
theorem kw_E2_2 : True := by
  k_with_none
  trivial
end
end Mine
end
section
open PySem PySem.W PyProof.Rows PySem.Spec PySem.Calls
set_option maxHeartbeats 400000
namespace Mine
section
variable {prog : Program} {w : World} {A : Around} {E : Value → Shared → Prop} {s : Shared} {env : Env} {h₀ : Heap} {target iter : PySem.Expr} {body : List Stmt} {Q : Flow → Shared → Prop}
/-- a loop over a tuple that stood before, its turns told whole: they may raise -/
def LoopTup (prog : Program) (w : World) (A : Around) (h₀ : Heap) (env : Env) (target : PySem.Expr) (body : List Stmt) (Q : Flow → Shared → Prop) (E : Value → Shared → Prop) (xv : Value) (s : Shared) : Prop :=
  ∃ (l : Addr) (vs : List Value) (m₀ : PySem.Str → Option Value) (news : List (Addr × Obj)) (J : Nat → (PySem.Str → Option Value) → List (Addr × Obj) → Prop), xv = .ref l ∧ A.handled = none ∧ IsTup h₀ l vs.toArray ∧ Fr h₀ env.locals s.heap m₀ ∧ News h₀ env.locals s.heap news ∧ J 0 m₀ news ∧
    (∀ i v m₁ news₁ h tk it ito, vs[i]? = some v → (∃ fs, ito.data = .fields fs) → (∀ p ∈ news₁, p.1 ≠ it) → J i m₁ news₁ → Fr h₀ env.locals h m₁ → News h₀ env.locals h ((it, ito) :: news₁) →
      wpAny (model prog w) A (assign target env v) (fun _ s₃ => wpAny (model prog w) A (execs body env) (TurnEnd h₀ env.locals it ito (J (i + 1)) { s with heap := h, toks := tk }) E s₃) E { s with heap := h, toks := tk }) ∧
    (∀ m₁ news₁ h tk, J vs.length m₁ news₁ → Fr h₀ env.locals h m₁ → News h₀ env.locals h news₁ → Q .next { s with heap := h, toks := tk })
theorem For_tup {pos : Pos} {m : PySem.Str → Option Value} (_F : Fr h₀ env.locals s.heap m) (h : wpAny (model prog w) A (eval iter env) (LoopTup prog w A h₀ env target body Q E) E s) (hs : ∀ x, foldedSetIterable iter env x = pure x)
    (hE : PassesOwn (model prog w) A env E := by passes_own) : wpAny (model prog w) A (exec (.For target iter body [] pos) env) Q E s := by
  refine wpAny_For (wpAny_mono h (fun xv s₁ h₁ => ?_) fun _ _ e => e) hs
  obtain ⟨l, vs, m₀, news, J, rfl, hh, hl, F, N, hj, turn, done⟩ := h₁
  have hls : s₁.heap.IsTuple l vs.toArray := Heap.IsTuple.at hl fun o e => F.keep l o e
  obtain ⟨ol, hol, _⟩ := id hl
  have hlt : l < h₀.objs.size := Heap.lt_size hol
  have hne : l ≠ s₁.heap.objs.size := Nat.ne_of_lt (Nat.lt_trans (Nat.lt_of_lt_of_le hlt F.above) F.ns.lt)
  have hI0 : h₀.get? s₁.heap.objs.size = none := next_is_new F
  have hLI : env.locals ≠ s₁.heap.objs.size := Nat.ne_of_lt F.ns.lt
  refine wpAny_pyIter_tuple hls ?_
  have W := Walks.tuple (prog := prog) (w := w) hh s₁.heap.objs.size l hne vs.toArray
  have hlen : vs.toArray.size = vs.length := by simp
  rw [hlen] at W
  refine codeAny_forLoop_any (fun k s' => ∃ h' tk m' news' i, s' = { s₁ with heap := h', toks := tk } ∧ (h'.IsTupleIter s₁.heap.objs.size l i ∧ h'.IsTuple l vs.toArray) ∧ Fr h₀ env.locals h' m' ∧ News h₀ env.locals h' news' ∧ (∀ p ∈ news', p.1 ≠ s₁.heap.objs.size) ∧ J i m' news' ∧ i ≤ vs.length ∧ k = vs.length + 1 - i) ?_ (vs.length + 1)
    ⟨_, s₁.toks, m₀, news, 0, rfl, ⟨⟨_, Heap.get?_push_size _ rfl, rfl, rfl⟩, hls.at fun o e => Heap.get?_push_of_some _ e⟩, F.push _, (fun p hp => ⟨Heap.get?_push_of_some _ (N p hp).1, (N p hp).2⟩), (fun p hp => Nat.ne_of_lt (Heap.lt_size (N p hp).1)), hj, Nat.zero_le _, rfl⟩
  rintro k s' ⟨h', tk, m', news', i, rfl, st, F', N', off, hJ, hi, rfl⟩
  have next : ∀ h₁ : Heap, (∀ b o, b ∉ [s₁.heap.objs.size] → h'.get? b = some o → h₁.get? b = some o) → Fr h₀ env.locals h₁ m' ∧ News h₀ env.locals h₁ news' := fun h₁ hk₁ =>
    ⟨LCg.fr_but F' hk₁ hLI hI0, LCg.news_but N' hk₁ off⟩
  by_cases hlt : i < vs.length
  · refine W.item i _ _ _ hlt st fun v h₁ tk₁ hP st₁ hk₁ => ?_
    obtain ⟨F₁, N₁⟩ := next h₁ hk₁
    obtain ⟨oI, hoI, _, hdI⟩ := id st₁.1
    refine letGo_tupleiter (s' := { s₁ with heap := h₁, toks := tk₁ }) st₁.1 ?_
    have N₂ : News h₀ env.locals h₁ ((s₁.heap.objs.size, oI) :: news') := fun p hp => (List.mem_cons.mp hp).elim (fun e => e ▸ ⟨hoI, Ne.symm hLI, hI0⟩) fun e => N₁ p e
    refine wpAny_mono (wpAny_passesOwn hE (turn i v m' news' h₁ tk₁ s₁.heap.objs.size oI (by simpa using hP) ⟨_, hdI⟩ off hJ F₁ N₂)) (fun _ s₂ h₂ => wpAny_mono (wpAny_passesOwn hE h₂) (fun f s₃ h₃ => ?_) fun _ _ e => e) fun _ _ e => e
    obtain ⟨rfl, h₃', tk₃, m₂, news₂, rfl, F₃, N₃, ha₃, hJ₃⟩ := h₃
    refine ⟨vs.length + 1 - (i + 1), by omega, h₃', tk₃, m₂, news₂, i + 1, rfl, ?_, F₃, (fun p hp => N₃ p (.tail _ hp)), ha₃, hJ₃, hlt, rfl⟩
    refine W.frame _ _ _ st₁ fun b hb o e => ?_
    rcases List.mem_cons.mp hb with rfl | hb
    · rw [hoI] at e
      cases e
      exact (N₃ _ (.head _)).1
    · obtain rfl := List.mem_singleton.mp hb
      have := F₁.keep _ _ hol
      rw [e] at this
      cases this
      exact F₃.keep _ _ hol
  · have hin : i = vs.length := by omega
    subst hin
    refine W.done _ _ _ st fun h₁ tk₁ hk₁ => wpAny_execs_nil ?_
    obtain ⟨F₁, N₁⟩ := next h₁ hk₁
    exact done m' news' h₁ tk₁ hJ F₁ N₁
end
end Mine
end
section
open PySem PySem.W PyProof.Rows PySem.Spec PySem.Calls
set_option maxHeartbeats 400000
namespace Mine
/-- the fields that the law reads -/
def regRead (n : Int) (l : List (PySem.Str × Int)) : List (PySem.Str × Int) := l.map fun q => (q.1, n / 2 ^ q.2.toNat % 32)
def valSum (n : Int) (l : List (Int × Int)) : Int := (l.map fun q => n / 2 ^ q.2.toNat % 2 * 2 ^ q.1.toNat).sum
def topOf (l : List (Int × Int)) : Int := l.foldl (fun a q => if q.1 > a then q.1 else a) 0
def isSgn (x : PySem.Str) : Bool := ([("I" : PySem.Str), "S", "B", "J"]).any fun y => y == x
def immRead (f : Fm) (n : Int) : Int := if isSgn f.str = true ∧ 2 ^ (topOf (psOf f)).toNat ≤ valSum n (psOf f) then valSum n (psOf f) - 2 * 2 ^ (topOf (psOf f)).toNat else valSum n (psOf f)
def readOf (f : Fm) (n : Int) : List (PySem.Str × Int) := regRead n (rgOf f) ++ if hasImm f = true then [(("imm" : PySem.Str), immRead f n)] else []
theorem topOf_le : ∀ (l : List (Int × Int)) (a : Int), 0 ≤ a → a ≤ 31 → (∀ q ∈ l, q.1 ≤ 31) → 0 ≤ l.foldl (fun a q => if q.1 > a then q.1 else a) a ∧ l.foldl (fun a q => if q.1 > a then q.1 else a) a ≤ 31
  | [], a, h0, h1, _ => ⟨h0, h1⟩
  | q :: l, a, h0, h1, h => by
    have := h q (.head _)
    exact topOf_le l (if q.1 > a then q.1 else a) (by split <;> omega) (by split <;> omega) fun q hq => h q (.tail _ hq)
theorem topOf_take (f : Fm) (i : Nat) : 0 ≤ topOf ((psOf f).take i) ∧ topOf ((psOf f).take i) ≤ 31 :=
  topOf_le _ 0 (by decide) (by decide) fun q hq => (ps_place (List.mem_of_mem_take hq)).1.2
theorem topOf_succ {l : List (Int × Int)} {i : Nat} {q : Int × Int} (h : l[i]? = some q) : topOf (l.take (i + 1)) = if q.1 > topOf (l.take i) then q.1 else topOf (l.take i) := by
  unfold topOf
  rw [List.take_add_one, h, List.foldl_append]; rfl
theorem valSum_succ {n : Int} {l : List (Int × Int)} {i : Nat} {q : Int × Int} (h : l[i]? = some q) : valSum n (l.take (i + 1)) = valSum n (l.take i) + n / 2 ^ q.2.toNat % 2 * 2 ^ q.1.toNat := by
  unfold valSum
  rw [List.take_add_one, h, List.map_append, List.sum_append]; simp
theorem regRead_succ {n : Int} {l : List (PySem.Str × Int)} {i : Nat} {q : PySem.Str × Int} (h : l[i]? = some q) : regRead n (l.take (i + 1)) = regRead n (l.take i) ++ [(q.1, n / 2 ^ q.2.toNat % 32)] := by
  unfold regRead
  rw [List.take_add_one, h, List.map_append]; rfl
theorem regRead_keys (n : Int) (l : List (PySem.Str × Int)) : (regRead n l).map (·.1) = l.map (·.1) := by unfold regRead; rw [List.map_map]; rfl
theorem imm_a {f : Fm} {n z z5 : Int} (h1 : isSgn f.str = true) (h2 : z = 2 ^ (topOf (psOf f)).toNat) (h3 : z ≤ valSum n (psOf f)) (h5 : z5 = 2 * 2 ^ (topOf (psOf f)).toNat) : valSum n (psOf f) - z5 = immRead f n := by
  unfold immRead; rw [if_pos ⟨h1, h2 ▸ h3⟩, h5]
theorem imm_b {f : Fm} {n z : Int} (h2 : z = 2 ^ (topOf (psOf f)).toNat) (h3 : ¬ z ≤ valSum n (psOf f)) : valSum n (psOf f) = immRead f n := by
  unfold immRead; rw [if_neg (fun e => h3 (h2 ▸ e.2))]
theorem imm_c {f : Fm} {n : Int} (h1 : isSgn f.str = false) : valSum n (psOf f) = immRead f n := by
  unfold immRead; rw [if_neg (fun e => by rw [h1] at e; exact absurd e.1 (by decide))]
theorem read_a {f : Fm} {n v : Int} (h1 : hasImm f = true) (h2 : v = immRead f n) : regRead n (rgOf f) ++ [(("imm" : PySem.Str), v)] = readOf f n := by
  unfold readOf; rw [if_pos h1, h2]
theorem read_b {f : Fm} {n : Int} (h1 : hasImm f = false) : regRead n (rgOf f) = readOf f n := by
  unfold readOf; rw [if_neg (by rw [h1]; decide), List.append_nil]
theorem FdAt.cons {w : World} {news : List (Addr × Obj)} {q : Addr × Obj} {d : Addr} {ks : List (PySem.Str × Int)} (h : FdAt w news d ks) : FdAt w (q :: news) d ks := h.mono fun _ hp => .tail _ hp
section
variable {w : World} {mean : ExcName → Option Value} {mg mb : PySem.Str → Option Value} {dp un : Nat} {gd : Option (List Code)} {cn : PySem.Str} {cs : Scope} {a : Addr} {ccd : Value} {cl : List (PySem.Str × Addr)} {outer : List Env} {A₀ : Around} {base h₀ : Heap} {L : Addr} {m : PySem.Str → Option Value} {s : Shared} {Q E : Value → Shared → Prop} {news : List (Addr × Obj)}

theorem fdiv_c {A : Around} {n z : Int} {t u : Tok} (h0 : 1 ≤ z) (h1 : z ≤ 2147483648) (hn : 0 ≤ n) (ret : ∀ q t, q = n / z → 0 ≤ q → Q (.int q t) { s with toks := s.toks + 1 }) : wpAny (model pr w) A (binaryOp .FloorDiv (.int n t) (.int z u)) Q E s := by
  refine floordiv_int (by omega) ?_ (Or.inl (PyProof.noPylong_of_log2 ?_))
  · exact ret _ _ (Int.fdiv_eq_ediv_of_nonneg _ (by omega)) (by rw [Int.fdiv_eq_ediv_of_nonneg _ (by omega)]; exact Int.ediv_nonneg hn (by omega))
  · refine Nat.lt_of_lt_of_le ((Nat.log2_lt (by omega)).mpr (show z.natAbs < 2 ^ 32 by omega)) (by decide)
theorem shl2_c {A : Around} {y : Int} {t u : Tok} (h0 : 0 ≤ y) (h1 : y ≤ 31) (ret : ∀ z t, z = 2 * 2 ^ y.toNat → Q (.int z t) { s with toks := s.toks + 1 }) : wpAny (model pr w) A (binaryOp .LShift (.int 2 t) (.int y u)) Q E s :=
  lshift_int_small h0 (by omega) (by decide) (ret _ _ rfl)
theorem kw_W11_1 : True := by
  k_with_none
  k_with "subs2" => first | assumption | exact fun p hp => List.Mem.tail _ (hp) | exact fun p hp => List.Mem.tail _ (List.Mem.tail _ (hp)) | exact fun p hp => List.Mem.tail _ (List.Mem.tail _ (List.Mem.tail _ (hp))) | exact fun p hp => List.Mem.tail _ (List.Mem.tail _ (List.Mem.tail _ (List.Mem.tail _ (hp))))
  k_with "pa_at" => first | assumption | exact PA.mono (by assumption) (fun p hp => List.Mem.tail _ (hp)) | exact PA.mono (by assumption) (fun p hp => List.Mem.tail _ (List.Mem.tail _ (hp))) | exact PA.mono (by assumption) (fun p hp => List.Mem.tail _ (List.Mem.tail _ (List.Mem.tail _ (hp)))) | exact PA.mono (by assumption) (fun p hp => List.Mem.tail _ (List.Mem.tail _ (List.Mem.tail _ (List.Mem.tail _ (hp))))) | exact PA.mono (by assumption) (fun p hp => List.Mem.tail _ (List.Mem.tail _ (List.Mem.tail _ (List.Mem.tail _ (List.Mem.tail _ (hp)))))) | exact PA.cons (by k_mem) PA.nil | exact PA.cons (by k_mem) (PA.cons (by k_mem) PA.nil)
  k_with "pyIter ref" => (k_here; refine Stop.out ?_)
  k_with "exec For" => (k_here; refine For_invTF (by k_asm) ?_ (fun _ => by rfl))
  k_with "eval Name" => (k_here; k_dflt (refine' nameX_L ?zF ?zv ?_ ?za ?zb; (case zF => k_asm); (case za => rfl); (case zb => rfl); (case zv => first | rfl | assumption); k_whole))
  k_with "compareOp NotEq ref ref" => (k_here; k_dflt (refine' ne_nil_c ?zN ?zl ?z0 ?zp ?zu ?_; (case zN => k_asm); (case zl => k_mem); (case z0 => k_mem); (case zp => walk_at "pa_at"); (case zu => ktr_units)))
  k_with "binaryOp BitAnd int int" => (k_here; k_dflt (refine' and1_c ?_; intro _ _ _ _ _))
  k_with "binaryOp LShift int int" => (k_here; k_dflt (first | (with_reducible refine' shl_c ?z0 ?z1 ?_; (case z0 => assumption); (case z1 => assumption); intro _ _ _ _ _) | (with_reducible refine' shl2_c ?z0 ?z1 ?_; (case z0 => assumption); (case z1 => assumption); intro _ _ _)))
  k_with "binaryOp FloorDiv int int" => (k_here; k_dflt (refine' fdiv_c ?z0 ?z1 ?z2 ?_; (case z0 => assumption); (case z1 => assumption); (case z2 => assumption); intro _ _ _ _))
  k_with "setItem ref str" => (k_here; k_dflt (refine' fd_set ?zF ?zN ?zd ?zk ?zl ?_; (case zF => k_asm); (case zN => k_asm); (case zd => first | assumption | exact FdAt.mono (by assumption) (by walk_at "subs2")); (case zk => assumption); (case zl => assumption); intro _ _ _ _ _ _))
  k_with "call ref" => (k_here; k_dflt (first | (refine' regs_c _ _ ?zx _ ?zB ?zF ?zX ?zT ?zk ?zd ?zu ?zN ?_; (case zx => assumption); (case zB => k_asm); (case zF => k_asm); (case zX => k_asm); (case zT => k_asm); (case zk => exact rfl); (case zd => ktr_room); (case zu => ktr_units); (case zN => k_asm); intro _ _ _ _ _ _ _ _ _ _ _) | (refine' places_c _ _ ?zx _ ?zB ?zF ?zX ?zT ?zk ?zd ?zu ?zN ?_; (case zx => assumption); (case zB => k_asm); (case zF => k_asm); (case zX => k_asm); (case zT => k_asm); (case zk => exact rfl); (case zd => ktr_room); (case zu => ktr_units); (case zN => k_asm); intro l7 vs7 nn7 nw7 h7 tk7 F7 N7 sub7 mem7 pa7; (first | have fd7 := FdAt.mono (by assumption) sub7 | have fd7 := FdAt.mono (FdAt.mono (by assumption) (fun p hp => List.Mem.tail _ hp)) sub7))))
  trivial
theorem read_c (r : Row) (x : PySem.Str) (hx : x = r.f.str) (D : Addr) (n : Int) (tn : Tok) (B : Below A₀ base outer h₀) (F : Fr h₀ L s.heap m) (X : (K w.params).In h₀) (T : Top vq lo mean mg mb h₀) (hk : cs.kind = .function) (hd : dp + 30 < recursionLimit) (hu : un + 420 < cLine)
    (t1 t2 t3 t4 t5 : Tok) (hr : (D, tupO [.str r.nm t1, .str x t2, .int r.op t3, .int r.low t4, .int r.high t5]) ∈ news)
    (N : News h₀ L s.heap news) (hn0 : 0 ≤ n) (hn1 : n < 4294967296)
    (ret : ∀ d ks news' h' tk', ks = readOf r.f n → FdAt w news' d ks → (∀ p ∈ news, p.1 < d) → (∀ p ∈ news, p ∈ news') → Fr h₀ L h' m → News h₀ L h' news' → Q (.ref d) { s with heap := h', toks := tk' }) :
    wpAny (model pr w) (ktrTop dp un gd cn cs L a ccd cl outer) (call (.ref 435) [.ref D, .int n tn]) Q E s := by
  refine wpAny_call ?_
  k_dflt (refine' enterD [("row", .ref D), ("number", .int n tn)] ?k1 ?k2 ?k3 ?k4 ?k5 ?kA ?kF ?kK ?k6 ?k7 ?k8 ?k9 ?kB ?_ ?c2 ?c3 ?c4 ?c5; (case kA => exact rfl); (case kF => exact rfl); (case kK => assumption); (case k1 => k_asm); (case k2 => k_asm); (case k3 => k_asm); (case k4 => k_asm); (case k5 => k_asm); (case k6 => k_is); (case k7 => k_is); (case k8 => ktr_room); (case k9 => exact BindsTo.of_eq rfl); (case c5 => decide); (case kB => exact locs rfl); (case c2 => exact rfl); (case c3 => exact rfl); (case c4 => exact rfl); k_whole; intro g' L' h' tk' FG' F' N' B' X' T'; (try dsimp only); (try k_fold))
  k_steps
  rename_i d hA o ld los hs fs hi fi DT hB l1T hC1 hC2 hC3 hC4 hC5 FB NB l vs nn nw h tk9 F9 N9 sub mem ra
  have fd0 : FdAt w nw d [] := ⟨o, [], sub _ (.tail _ (.head _)), hs, .nil, los⟩
  have sub0 : ∀ p ∈ news, p ∈ nw := fun p hp => sub _ (.tail _ (.tail _ hp))
  have ldn : ∀ p ∈ news, p.1 < d := ld
  refine ⟨?_⟩
  refine iterL (fun i m₁ nw' => (m₁ "found" = some (.ref d) ∧ m₁ "number" = some (.int n tn) ∧ m₁ "form" = some (.str x t2) ∧ (∃ t, m₁ "value" = some (.int 0 t)) ∧ ∃ t, m₁ "top" = some (.int 0 t)) ∧ RA nw' vs (rgOf r.f) ∧ (∀ p ∈ news, p ∈ nw') ∧ FdAt w nw' d (regRead n ((rgOf r.f).take i))) rfl mem F9 N9 ?j0 ?turn ?done
  case j0 => exact ⟨⟨rfl, rfl, rfl, ⟨_, rfl⟩, _, rfl⟩, ra, sub0, fd0⟩
  case turn =>
    rintro i v m₁ nw₁ s₁ it ito hv ⟨fs9, hfs⟩ hit hl ⟨⟨n1, n2, n3, n4, n5⟩, ra₁, sub₁, fd⟩ F₁ N₁
    obtain ⟨D', key, y, t, u, rfl, hD, hi⟩ := ra₁.get hv
    have hnk : key ∉ (regRead n ((rgOf r.f).take i)).map (·.1) := by rw [regRead_keys]; exact take_fresh (·.1) _ i _ (rg_nodup r.f) hi
    have hl4 : (regRead n ((rgOf r.f).take i)).length ≤ 100 := by unfold regRead; rw [List.length_map, List.length_take]; have e := rg_len r.f; omega
    have hy := rg_place (List.mem_of_getElem? hi)
    have hy0 : 0 ≤ y := hy.1
    have hy1 : y ≤ 31 := hy.2
    have fd₂ := fd.mono (news' := (it, ito) :: nw₁) (fun p hp => .tail _ hp)
    clear fd
    k_steps
    rename_i z4 t4 e4 b4 c4 z6 t6 e6 b6 nw8 h8 fd8 kp8 F8 N8
    have hF1x : ∃ h, News g' L' h ((it, ito) :: nw₁) := ⟨_, by assumption⟩
    obtain ⟨_, hF1⟩ := hF1x
    have hit8 : (it, ito) ∈ nw8 := kp8 _ (.head _) (fd₂.ne_fields hF1 (.head _) hfs)
    refine TurnEnd.intro F8 N8 hit8 ⟨?_, ⟨n1, n2, n3, n4, n5⟩, ?_, ?_, ?_⟩
    · exact drop_mem (kp8 _ (.tail _ hl) (fd₂.ne_list hF1 (.tail _ hl))) (hit _ hl)
    · exact ra₁.monoT fun D x hD => drop_mem (kp8 _ (.tail _ hD) (fd₂.ne_tup hF1 (.tail _ hD))) (hit _ hD)
    · exact fun p hp => drop_mem (kp8 _ (.tail _ (sub₁ p hp)) (Nat.ne_of_lt (ldn p hp))) (hit _ (sub₁ p hp))
    · have e : regRead n ((rgOf r.f).take (i + 1)) = regRead n ((rgOf r.f).take i) ++ [(key, z6.fmod 32)] := by
        rw [regRead_succ hi, Int.fmod_eq_emod_of_nonneg _ (by decide), e6, e4]
      rw [e]
      exact fd8.drop N8 hit8 hfs
  case done =>
    rintro m₁ nw₁ h₁ tk₁ ⟨⟨n1, n2, n3, ⟨tv0, n4⟩, tt0, n5⟩, ra₁, sub₁, fd⟩ F₁ N₁
    rw [ra₁.length, List.take_length] at fd
    have him : (("imm" : PySem.Str)) ∉ (regRead n (rgOf r.f)).map (·.1) := by rw [regRead_keys]; cases r.f <;> decide
    have hl4 : (regRead n (rgOf r.f)).length ≤ 100 := by unfold regRead; rw [List.length_map]; have e := rg_len r.f; omega
    k_steps
    refine ⟨?_⟩
    refine iterL (fun i m₁ nw' => (m₁ "found" = some (.ref d) ∧ m₁ "number" = some (.int n tn) ∧ m₁ "form" = some (.str x t2)) ∧ PA nw' vs7 (psOf r.f) ∧ (∀ p ∈ news, p ∈ nw') ∧ FdAt w nw' d (regRead n (rgOf r.f)) ∧ (∃ t, m₁ "value" = some (.int (valSum n ((psOf r.f).take i)) t)) ∧ ∃ t, m₁ "top" = some (.int (topOf ((psOf r.f).take i)) t)) rfl mem7 F7 N7 ?j1 ?turn1 ?done1
    case j1 => exact ⟨⟨n1, n2, n3⟩, pa7, fun p hp => sub7 p (sub₁ p hp), fd7, ⟨_, n4⟩, _, n5⟩
    case turn1 =>
      clear n1 n2 n3 n4 n5
      rintro i v m₁ nw₁ s₁ it ito hv ⟨fs9, hfs⟩ hit hl ⟨⟨n1, n2, n3⟩, pa₁, sub₂, fd₁, ⟨tf, n4⟩, tg, n5⟩ F₁ N₁
      obtain ⟨D', bx, y, t, u, rfl, hD, hi⟩ := pa₁.get hv
      have hm := List.mem_of_getElem? hi
      have hy0 : 0 ≤ y := (ps_place hm).2.1
      have hy1 : y ≤ 31 := (ps_place hm).2.2
      have hx0 : 0 ≤ bx := (ps_place hm).1.1
      have hx1 : bx ≤ 31 := (ps_place hm).1.2
      have fd₂ := fd₁.mono (news' := (it, ito) :: nw₁) (fun p hp => .tail _ hp)
      k_steps
      rename _ = 2 ^ bx.toNat => ez
      rename _ = _ % 2 => em
      refine' TurnEnd.same ?zF ?zN hit ?zJ
      case zF => assumption
      case zN => assumption
      case zJ =>
      refine ⟨hl, ⟨n1, n2, n3⟩, pa₁, sub₂, fd₁, ?_, ?_⟩
      · rw [Int.fdiv_eq_ediv_of_nonneg _ (Int.le_of_lt (Int.pow_pos (by decide)))] at em
        rw [valSum_succ hi, ← em, ← ez]
        exact ⟨_, rfl⟩
      · rw [topOf_succ hi]
        exact ⟨_, rfl⟩
    case done1 =>
      rintro m₂ nw₂ h₂ tk₂ ⟨⟨n1, n2, n3⟩, pa₂, sub₂, fd₂, ⟨tf2, n4⟩, tg2, n5⟩ F₂ N₂
      rw [pa₂.length, List.take_length] at n4 n5
      have ht := topOf_take r.f (psOf r.f).length
      rw [List.take_length] at ht
      have ht0 := ht.1
      have ht1 := ht.2
      clear fd fd7
      k_steps
      all_goals (rename ∀ p : Addr × Obj, p ∈ _ → p ∈ _ => sb)
      all_goals (rename FdAt _ _ _ _ => fdz)
      all_goals subst hx
      all_goals first
        | (have hI : hasImm r.f = true := by assumption
           rename Kept _ _ _ => kp
           refine' ret d _ _ _ _ ?y0 fdz ldn ?y2 ?y3 ?y4
           case y2 => exact fun p hp => kp p (.tail _ (sb p (.tail _ (sub₂ p hp)))) (Nat.ne_of_lt (ldn p hp))
           case y3 => assumption
           case y4 => assumption
           case y0 => first
             | exact read_a hI (imm_a (by assumption) (by assumption) (by assumption) (by assumption))
             | exact read_a hI (imm_c (by assumption))
             | exact read_a hI (imm_b (by assumption) (by assumption))
             | exact read_a hI (imm_b (by assumption) (Int.not_le_of_gt (by assumption))))
        | (have hI : hasImm r.f = false := by assumption
           refine' ret d _ _ _ _ ?y0 (FdAt.cons fdz) ldn ?y2 ?y3 ?y4
           case y3 => assumption
           case y4 => assumption
           case y2 => exact fun p hp => .tail _ (sb p (.tail _ (sub₂ p hp)))
           case y0 => exact read_b hI)
theorem kw_W11_2 : True := by
  k_with_none
  trivial
end
end Mine
end
section
open PySem PySem.W PyProof.Rows PySem.Spec PySem.Calls
set_option maxHeartbeats 400000
namespace Mine
/-- the rows of the law's table, in its order -/
def rowsL : List Row := [⟨"lui", .U, 55, 0, 0⟩, ⟨"auipc", .U, 23, 0, 0⟩, ⟨"jal", .J, 111, 0, 0⟩, ⟨"jalr", .I, 103, 0, 0⟩, ⟨"beq", .B, 99, 0, 0⟩, ⟨"bne", .B, 99, 1, 0⟩, ⟨"blt", .B, 99, 4, 0⟩, ⟨"bge", .B, 99, 5, 0⟩, ⟨"bltu", .B, 99, 6, 0⟩, ⟨"bgeu", .B, 99, 7, 0⟩, ⟨"lb", .I, 3, 0, 0⟩, ⟨"lh", .I, 3, 1, 0⟩, ⟨"lw", .I, 3, 2, 0⟩, ⟨"lbu", .I, 3, 4, 0⟩, ⟨"lhu", .I, 3, 5, 0⟩, ⟨"sb", .S, 35, 0, 0⟩, ⟨"sh", .S, 35, 1, 0⟩, ⟨"sw", .S, 35, 2, 0⟩, ⟨"addi", .I, 19, 0, 0⟩, ⟨"slti", .I, 19, 2, 0⟩, ⟨"sltiu", .I, 19, 3, 0⟩, ⟨"xori", .I, 19, 4, 0⟩, ⟨"ori", .I, 19, 6, 0⟩, ⟨"andi", .I, 19, 7, 0⟩, ⟨"slli", .H, 19, 1, 0⟩, ⟨"srli", .H, 19, 5, 0⟩, ⟨"srai", .H, 19, 5, 32⟩, ⟨"sub", .R, 51, 0, 32⟩, ⟨"sra", .R, 51, 5, 32⟩, ⟨"fence", .F, 15, 0, 0⟩, ⟨"ecall", .E, 115, 0, 0⟩, ⟨"ebreak", .E, 115, 0, 1⟩, ⟨"add", .R, 51, 0, 0⟩, ⟨"sll", .R, 51, 1, 0⟩, ⟨"slt", .R, 51, 2, 0⟩, ⟨"sltu", .R, 51, 3, 0⟩, ⟨"xor", .R, 51, 4, 0⟩, ⟨"srl", .R, 51, 5, 0⟩, ⟨"or", .R, 51, 6, 0⟩, ⟨"and", .R, 51, 7, 0⟩, ⟨"mul", .R, 51, 0, 1⟩, ⟨"mulh", .R, 51, 1, 1⟩, ⟨"mulhsu", .R, 51, 2, 1⟩, ⟨"mulhu", .R, 51, 3, 1⟩, ⟨"div", .R, 51, 4, 1⟩, ⟨"divu", .R, 51, 5, 1⟩, ⟨"rem", .R, 51, 6, 1⟩, ⟨"remu", .R, 51, 7, 1⟩]
def baseOf (r : Row) : Int := r.op + r.low * 4096 + r.high * eHigh r.f.str
def kvIns : List (PySem.Str × Value) := [(("lui" : PySem.Str), .ref 36), (("auipc" : PySem.Str), .ref 37), (("jal" : PySem.Str), .ref 38), (("jalr" : PySem.Str), .ref 39), (("beq" : PySem.Str), .ref 40), (("bne" : PySem.Str), .ref 41), (("blt" : PySem.Str), .ref 42), (("bge" : PySem.Str), .ref 43), (("bltu" : PySem.Str), .ref 44), (("bgeu" : PySem.Str), .ref 45), (("lb" : PySem.Str), .ref 46), (("lh" : PySem.Str), .ref 47), (("lw" : PySem.Str), .ref 48), (("lbu" : PySem.Str), .ref 49), (("lhu" : PySem.Str), .ref 50), (("sb" : PySem.Str), .ref 51), (("sh" : PySem.Str), .ref 52), (("sw" : PySem.Str), .ref 54), (("addi" : PySem.Str), .ref 55), (("slti" : PySem.Str), .ref 56), (("sltiu" : PySem.Str), .ref 57), (("xori" : PySem.Str), .ref 58), (("ori" : PySem.Str), .ref 59), (("andi" : PySem.Str), .ref 60), (("slli" : PySem.Str), .ref 61), (("srli" : PySem.Str), .ref 62), (("srai" : PySem.Str), .ref 63), (("add" : PySem.Str), .ref 64), (("sub" : PySem.Str), .ref 65), (("sll" : PySem.Str), .ref 66), (("slt" : PySem.Str), .ref 67), (("sltu" : PySem.Str), .ref 68), (("xor" : PySem.Str), .ref 69), (("srl" : PySem.Str), .ref 70), (("sra" : PySem.Str), .ref 72), (("or" : PySem.Str), .ref 73), (("and" : PySem.Str), .ref 74), (("mul" : PySem.Str), .ref 75), (("mulh" : PySem.Str), .ref 76), (("mulhsu" : PySem.Str), .ref 77), (("mulhu" : PySem.Str), .ref 78), (("div" : PySem.Str), .ref 79), (("divu" : PySem.Str), .ref 80), (("rem" : PySem.Str), .ref 81), (("remu" : PySem.Str), .ref 82), (("fence" : PySem.Str), .ref 83), (("ecall" : PySem.Str), .ref 84), (("ebreak" : PySem.Str), .ref 85)]
def kvPl : List (PySem.Str × Value) := [(("R" : PySem.Str), .ref 90), (("I" : PySem.Str), .ref 93), (("H" : PySem.Str), .ref 96), (("S" : PySem.Str), .ref 99), (("B" : PySem.Str), .ref 102), (("U" : PySem.Str), .ref 104), (("J" : PySem.Str), .ref 106), (("F" : PySem.Str), .ref 107), (("E" : PySem.Str), .ref 108)]
def kvBd : List (PySem.Str × Value) := [(("I" : PySem.Str), .ref 110), (("H" : PySem.Str), .ref 111), (("S" : PySem.Str), .ref 112), (("B" : PySem.Str), .ref 113), (("U" : PySem.Str), .ref 114), (("J" : PySem.Str), .ref 115), (("F" : PySem.Str), .ref 116)]
def kvNb : List (Int × Value) := [((55 : Int), .str "lui" 236), ((23 : Int), .str "auipc" 240), ((111 : Int), .str "jal" 244), ((103 : Int), .str "jalr" 248), ((99 : Int), .str "beq" 252), ((4195 : Int), .str "bne" 256), ((16483 : Int), .str "blt" 260), ((20579 : Int), .str "bge" 264), ((24675 : Int), .str "bltu" 268), ((28771 : Int), .str "bgeu" 272), ((3 : Int), .str "lb" 276), ((4099 : Int), .str "lh" 280), ((8195 : Int), .str "lw" 284), ((16387 : Int), .str "lbu" 288), ((20483 : Int), .str "lhu" 292), ((35 : Int), .str "sb" 296), ((4131 : Int), .str "sh" 300), ((8227 : Int), .str "sw" 304), ((19 : Int), .str "addi" 308), ((8211 : Int), .str "slti" 312), ((12307 : Int), .str "sltiu" 316), ((16403 : Int), .str "xori" 320), ((24595 : Int), .str "ori" 324), ((28691 : Int), .str "andi" 328), ((4115 : Int), .str "slli" 332), ((20499 : Int), .str "srli" 336), ((1073762323 : Int), .str "srai" 340), ((51 : Int), .str "add" 344), ((1073741875 : Int), .str "sub" 348), ((4147 : Int), .str "sll" 352), ((8243 : Int), .str "slt" 356), ((12339 : Int), .str "sltu" 360), ((16435 : Int), .str "xor" 364), ((20531 : Int), .str "srl" 368), ((1073762355 : Int), .str "sra" 372), ((24627 : Int), .str "or" 375), ((28723 : Int), .str "and" 378), ((33554483 : Int), .str "mul" 381), ((33558579 : Int), .str "mulh" 384), ((33562675 : Int), .str "mulhsu" 387), ((33566771 : Int), .str "mulhu" 390), ((33570867 : Int), .str "div" 393), ((33574963 : Int), .str "divu" 396), ((33579059 : Int), .str "rem" 399), ((33583155 : Int), .str "remu" 402), ((15 : Int), .str "fence" 405), ((115 : Int), .str "ecall" 408), ((1048691 : Int), .str "ebreak" 411)]
section
variable {prog : Program} {w : World} {A : Around} {E : Value → Shared → Prop} {s : Shared} {KK : Type} [DecidableEq KK] {knd : KeyKind prog w KK} {d : Addr} {kvs : List (KK × Value)} {k : KK} {key v : Value}
theorem sd_item {value slice : PySem.Expr} {Q : Value → Shared → Prop} (hD : s.heap.DictOf knd d kvs) (hkey : knd.is k key = true) (hl : valueAt kvs k = some v) (h : Q v { s with toks := s.toks + 1 })
    (hs : subscripted slice false (.ref d) key = operate [.ref d, key] (getItem (.ref d) key) := by with_unfolding_all rfl) (hg : ∀ r, letTemporaryGo value (.ref d) r = pure () := by intro _; with_unfolding_all rfl) :
    wpAny (model prog w) A (subscriptTail value slice (.ref d) key) Q E s :=
  subscriptTail_builtin hD.typeIs slot_dict_getitem.lookup (wpAny_getItem_of hkey hD.mapOf hl h) hs hg
theorem sd_in {Q : Value → Shared → Prop} (hD : s.heap.DictOf knd d kvs) (lo : (d == sysModules) = false) (hkey : knd.is k key = true) (b : Bool) (hb : (valueAt kvs k).isSome = b) (h : Q (.bool b) { s with toks := s.toks + 1 }) :
    wpAny (model prog w) A (compareOp .In key (.ref d)) Q E s := wpAny_in_of hkey lo hD.mapOf (by rw [hb]; exact h)
theorem sd_notin {Q : Value → Shared → Prop} (hD : s.heap.DictOf knd d kvs) (lo : (d == sysModules) = false) (hkey : knd.is k key = true) (b : Bool) (hb : (valueAt kvs k).isSome = b) (h : Q (.bool (!b)) { s with toks := s.toks + 1 }) :
    wpAny (model prog w) A (compareOp .NotIn key (.ref d)) Q E s := wpAny_notIn_of hkey lo hD.mapOf (by rw [hb]; exact h)
theorem sd_method {pl : Sem Bool} {Q : Value × List Value → Shared → Prop} (hD : s.heap.DictOf knd d kvs) (h : Q (.builtin "dict.get", [.ref d]) s) : wpAny (model prog w) A (getMethod (.ref d) "get" pl) Q E s :=
  getMethod_builtin hD.typeIs PySem.F.plainAttrs_dict PySem.F.slot_dict_get PySem.F.type_dict_get hD.mapOf.noDict h
theorem sd_get2 {dflt : Value} {Q : Value → Shared → Prop} (hD : s.heap.DictOf knd d kvs) (lo : (d == sysModules) = false) (hkey : knd.is k key = true) (x : Option Value) (hl : valueAt kvs k = x) (h : Q (x.getD dflt) { s with toks := s.toks + 1 }) :
    wpAny (model prog w) A (call (.builtin "dict.get") [.ref d, key, dflt]) Q E s :=
  call_meetsIn PySem.F.slot_dict_get hD.typeIs PySem.F.entry_dict_get (PySem.F.args_dict_get_3 _ _ _) (meets_dict_get_default knd d hkey lo dflt) ⟨_, hD.mapOf, by rw [hl]; exact h⟩
end
inductive Ents {prog : Program} {w : World} {KK : Type} [DecidableEq KK] (knd : KeyKind prog w KK) : List DictEntry → List (KK × Value) → Prop
  | nil : Ents knd [] []
  | cons {e : DictEntry} {kv : KK × Value} {es : List DictEntry} {kvs : List (KK × Value)} : knd.is kv.1 e.key = true → e.hash = knd.hash kv.1 → e.val = kv.2 → Ents knd es kvs → Ents knd (e :: es) (kv :: kvs)
theorem Ents.out {prog : Program} {w : World} {KK : Type} [DecidableEq KK] {knd : KeyKind prog w KK} {es : List DictEntry} {kvs : List (KK × Value)} (h : Ents knd es kvs) : (∀ e ∈ es, ∃ k, knd.is k e.key = true ∧ e.hash = knd.hash k) ∧ Pairs knd es kvs := by
  induction h with
  | nil => exact ⟨fun _ h => (nomatch h), .nil⟩
  | cons h1 h2 h3 _ ih =>
    refine ⟨fun e he => ?_, .cons h1 h3 ih.2⟩
    rcases List.mem_cons.mp he with rfl | he
    · exact ⟨_, h1, h2⟩
    · exact ih.1 e he
theorem dictOf_of {prog : Program} {w : World} {KK : Type} [DecidableEq KK] {knd : KeyKind prog w KK} {h : Heap} {d : Addr} {o : Obj} {es : List DictEntry} {ep : Nat} {kvs : List (KK × Value)} (ho : h.get? d = some o) (hc : o.ExactDict) (hd : o.data = .dict es.toArray ep) (he : Ents knd es kvs) (hn : (kvs.map (·.1)).Nodup) : h.DictOf knd d kvs :=
  ⟨o, es.toArray, ep, ho, hc, hd, fun e h => he.out.1 e (by simpa using h), by simpa using he.out.2, hn⟩

theorem ins_dict {w : World} {h₀ : Heap} (X : (K w.params).In h₀) : h₀.DictOf (PySem.strKind pr w) 35 kvIns := by
  refine dictOf_of (X 35 (o35 w.params) (by rfl)) ⟨rfl, rfl, rfl⟩ rfl ?_ (by decide +kernel)
  repeat first | exact .nil | refine .cons rfl rfl rfl ?_

theorem pl_dict {w : World} {h₀ : Heap} (X : (K w.params).In h₀) : h₀.DictOf (PySem.strKind pr w) 86 kvPl := by
  refine dictOf_of (X 86 (o86 w.params) (by rfl)) ⟨rfl, rfl, rfl⟩ rfl ?_ (by decide +kernel)
  repeat first | exact .nil | refine .cons rfl rfl rfl ?_

theorem bd_dict {w : World} {h₀ : Heap} (X : (K w.params).In h₀) : h₀.DictOf (PySem.strKind pr w) 109 kvBd := by
  refine dictOf_of (X 109 (o109 w.params) (by rfl)) ⟨rfl, rfl, rfl⟩ rfl ?_ (by decide +kernel)
  repeat first | exact .nil | refine .cons rfl rfl rfl ?_

theorem nb_dict {w : World} {h₀ : Heap} (X : (K w.params).In h₀) : h₀.DictOf (PySem.intKind pr w) 160 kvNb := by
  refine dictOf_of (X 160 (o160 w.params) (by rfl)) ⟨rfl, rfl, rfl⟩ rfl ?_ (by decide +kernel)
  repeat first | exact .nil | refine .cons rfl rfl rfl ?_
end Mine
end
section
open PySem PySem.W PyProof.Rows PySem.Spec PySem.Calls
set_option maxHeartbeats 400000
namespace Mine
/-- the name under a base, the empty text where there is none -/
def nbAt (z : Int) : PySem.Str := match valueAt kvNb z with
  | some (.str x _) => x
  | _ => ""
theorem nb_shape (z : Int) : valueAt kvNb z = none ∨ ∃ x t, valueAt kvNb z = some (.str x t) := by
  have h : ∀ (l : List (Int × Value)), (∀ p ∈ l, ∃ x t, p.2 = Value.str x t) → valueAt l z = none ∨ ∃ x t, valueAt l z = some (.str x t) := by
    intro l
    induction l with
    | nil => intro _; exact .inl rfl
    | cons p l ih =>
      intro hl
      by_cases e : p.1 = z
      · obtain ⟨x, t, hx⟩ := hl p (.head _)
        exact .inr ⟨x, t, by simp [valueAt, e, hx]⟩
      · simpa [valueAt, e] using ih fun q hq => hl q (.tail _ hq)
  exact h kvNb (by unfold kvNb; simp)
theorem nb_getD (z : Int) (t0 : Tok) : ∃ t, (valueAt kvNb z).getD (.str "" t0) = .str (nbAt z) t := by
  unfold nbAt
  rcases nb_shape z with h | ⟨x, t, h⟩ <;> rw [h]
  · exact ⟨_, rfl⟩
  · exact ⟨_, rfl⟩
/-- how the program names a number -/
inductive NameIs (n : Int) : PySem.Str → Prop
  | a {z : Int} : z = PySem.Builtin.bitAnd n 127 → (([55, 23, 111] : List Int).any fun y => y == z) = true → NameIs n (nbAt z)
  | b {z : Int} : z = PySem.Builtin.bitAnd n 127 → z = 115 → NameIs n (nbAt n)
  | c {z z3 : Int} : z = PySem.Builtin.bitAnd n 127 → z = 15 → z3 = PySem.Builtin.bitAnd n 4027580415 → z3 = 15 → NameIs n "fence"
  | d {z z3 : Int} : z = PySem.Builtin.bitAnd n 127 → z = 15 → z3 = PySem.Builtin.bitAnd n 4027580415 → z3 ≠ 15 → NameIs n ""
  | e {z z3 : Int} : z = PySem.Builtin.bitAnd n 127 → z = 51 → z3 = PySem.Builtin.bitAnd n 4261441663 → NameIs n (nbAt z3)
  | f {z z2 z3 : Int} : z = PySem.Builtin.bitAnd n 127 → z = 19 → z2 = PySem.Builtin.bitAnd (n.fdiv (2 ^ Int.toNat 12)) 7 → (([1, 5] : List Int).any fun y => y == z2) = true → z3 = PySem.Builtin.bitAnd n 4261441663 → NameIs n (nbAt z3)
  | g {z z2 z3 : Int} : z = PySem.Builtin.bitAnd n 127 → z = 19 → z2 = PySem.Builtin.bitAnd (n.fdiv (2 ^ Int.toNat 12)) 7 → (([1, 5] : List Int).any fun y => y == z2) = false → z3 = PySem.Builtin.bitAnd n 28799 → NameIs n (nbAt z3)
  | h {z z3 : Int} : z = PySem.Builtin.bitAnd n 127 → (([55, 23, 111] : List Int).any fun y => y == z) = false → z ≠ 115 → z ≠ 15 → z ≠ 51 → z ≠ 19 → z3 = PySem.Builtin.bitAnd n 28799 → NameIs n (nbAt z3)
section
variable {w : World} {mean : ExcName → Option Value} {mg mb : PySem.Str → Option Value} {dp un : Nat} {gd : Option (List Code)} {cn : PySem.Str} {cs : Scope} {a : Addr} {ccd : Value} {cl : List (PySem.Str × Addr)} {outer : List Env} {A₀ : Around} {base h₀ : Heap} {L : Addr} {m : PySem.Str → Option Value} {s : Shared} {Q E : Value → Shared → Prop} {news : List (Addr × Obj)}

theorem nb_get {A : Around} {z : Int} {t u : Tok} (F : Fr h₀ L s.heap m) (X : (K w.params).In h₀) (ret : ∀ t, Q (.str (nbAt z) t) { s with toks := s.toks + 1 }) :
    wpAny (model pr w) A (call (.builtin "dict.get") [.ref 160, .int z t, .str "" u]) Q E s := by
  refine sd_get2 ((nb_dict X).keep F.keep) rfl (intKind_is _ _ _ _) _ rfl ?_
  obtain ⟨t', e⟩ := nb_getD z u
  rw [e]
  exact ret t'
theorem nb_item {A : Around} {value slice : PySem.Expr} {z : Int} {t : Tok} (F : Fr h₀ L s.heap m) (X : (K w.params).In h₀) (hz : (([55, 23, 111] : List Int).any fun y => y == z) = true) (ret : ∀ t, Q (.str (nbAt z) t) { s with toks := s.toks + 1 })
    (hs : subscripted slice false (.ref 160) (.int z t) = operate [.ref 160, .int z t] (getItem (.ref 160) (.int z t)) := by with_unfolding_all rfl) (hg : ∀ r, letTemporaryGo value (.ref 160) r = pure () := by intro _; with_unfolding_all rfl) :
    wpAny (model pr w) A (subscriptTail value slice (.ref 160) (.int z t)) Q E s := by
  have hv : ∃ t, valueAt kvNb z = some (.str (nbAt z) t) := by
    simp only [List.any_cons, List.any_nil, Bool.or_false, Bool.or_eq_true, beq_iff_eq] at hz
    rcases hz with rfl | rfl | rfl <;> exact ⟨_, rfl⟩
  obtain ⟨t', e⟩ := hv
  exact sd_item ((nb_dict X).keep F.keep) (intKind_is _ _ _ _) e (ret t') hs hg
theorem nb_method {A : Around} {pl : Sem Bool} {Q : Value × List Value → Shared → Prop} (F : Fr h₀ L s.heap m) (X : (K w.params).In h₀) (h : Q (.builtin "dict.get", [.ref 160]) s) : wpAny (model pr w) A (getMethod (.ref 160) "get" pl) Q E s :=
  sd_method ((nb_dict X).keep F.keep) h
theorem and_c {A : Around} {a b : Int} {t u : Tok} (ret : ∀ z t, z = PySem.Builtin.bitAnd a b → Q (.int z t) { s with toks := s.toks + 1 }) : wpAny (model pr w) A (binaryOp .BitAnd (.int a t) (.int b u)) Q E s :=
  PyProof.Rows.and_int (ret _ _ rfl)
theorem kw_W13_1 : True := by
  k_with_none
  k_with "binaryOp BitAnd int int" => (k_here; k_dflt (refine' and_c ?_; intro _ _ _))
  k_with "subs2" => first | assumption | exact fun p hp => List.Mem.tail _ (hp) | exact fun p hp => List.Mem.tail _ (List.Mem.tail _ (hp)) | exact fun p hp => List.Mem.tail _ (List.Mem.tail _ (List.Mem.tail _ (hp))) | exact fun p hp => List.Mem.tail _ (List.Mem.tail _ (List.Mem.tail _ (List.Mem.tail _ (hp))))
  k_with "getMethod ref" => (k_here; k_dflt (refine' nb_method ?zF ?zX ?_; (case zF => k_asm); (case zX => k_asm)))
  k_with "call builtin:dict.get" => (k_here; k_dflt (refine' nb_get ?zF ?zX ?_; (case zF => k_asm); (case zX => k_asm); intro _))
  k_with "subscriptTail" => (k_here; k_dflt (refine' nb_item ?zF ?zX ?zh ?_; (case zF => k_asm); (case zX => k_asm); (case zh => assumption); intro _))
  trivial
set_option maxHeartbeats 1600000 in
theorem name_c (n : Int) (tn : Tok) (B : Below A₀ base outer h₀) (F : Fr h₀ L s.heap m) (X : (K w.params).In h₀) (T : Top vq lo mean mg mb h₀) (hk : cs.kind = .function) (hd : dp + 20 < recursionLimit) (hu : un + 400 < cLine)
    (N : News h₀ L s.heap news) (hn0 : 0 ≤ n) (hn1 : n < 4294967296)
    (ret : ∀ x t news' h' tk', NameIs n x → (∀ p ∈ news, p ∈ news') → Fr h₀ L h' m → News h₀ L h' news' → Q (.str x t) { s with heap := h', toks := tk' }) :
    wpAny (model pr w) (ktrTop dp un gd cn cs L a ccd cl outer) (call (.ref 362) [.int n tn]) Q E s := by
  refine wpAny_call ?_
  k_dflt (refine' enterD [("word", .int n tn)] ?k1 ?k2 ?k3 ?k4 ?k5 ?kA ?kF ?kK ?k6 ?k7 ?k8 ?k9 ?kB ?_ ?c2 ?c3 ?c4 ?c5; (case kA => exact rfl); (case kF => exact rfl); (case kK => assumption); (case k1 => k_asm); (case k2 => k_asm); (case k3 => k_asm); (case k4 => k_asm); (case k5 => k_asm); (case k6 => k_is); (case k7 => k_is); (case k8 => ktr_room); (case k9 => exact BindsTo.of_eq rfl); (case c5 => decide); (case kB => exact locs rfl); (case c2 => exact rfl); (case c3 => exact rfl); (case c4 => exact rfl); k_whole; intro g' L' h' tk' FG' F' N' B' X' T'; (try dsimp only); (try k_fold))
  k_steps
  · refine' ret _ _ _ _ _ ?y0 ?y1 ?y2 ?y3
    case y2 => assumption
    case y3 => assumption
    case y1 => first | exact fun p hp => hp | walk_at "subs2"
    case y0 => exact .a (by assumption) (by assumption)
  · refine' ret _ _ _ _ _ ?y0 ?y1 ?y2 ?y3
    case y2 => assumption
    case y3 => assumption
    case y1 => first | exact fun p hp => hp | walk_at "subs2"
    case y0 => exact .b (by assumption) (by assumption)
  · refine' ret _ _ _ _ _ ?y0 ?y1 ?y2 ?y3
    case y2 => assumption
    case y3 => assumption
    case y1 => first | exact fun p hp => hp | walk_at "subs2"
    case y0 => exact .c (by assumption) (by assumption) (by assumption) (by assumption)
  · refine' ret _ _ _ _ _ ?y0 ?y1 ?y2 ?y3
    case y2 => assumption
    case y3 => assumption
    case y1 => first | exact fun p hp => hp | walk_at "subs2"
    case y0 => exact .d (by assumption) (by assumption) (by assumption) (by assumption)
  · refine' ret _ _ _ _ _ ?y0 ?y1 ?y2 ?y3
    case y2 => assumption
    case y3 => assumption
    case y1 => first | exact fun p hp => hp | walk_at "subs2"
    case y0 => exact .e (by assumption) (by assumption) (by assumption)
  · refine' ret _ _ _ _ _ ?y0 ?y1 ?y2 ?y3
    case y2 => assumption
    case y3 => assumption
    case y1 => first | exact fun p hp => hp | walk_at "subs2"
    case y0 => exact .f (by assumption) (by assumption) (by assumption) (by assumption) (by assumption)
  · refine' ret _ _ _ _ _ ?y0 ?y1 ?y2 ?y3
    case y2 => assumption
    case y3 => assumption
    case y1 => first | exact fun p hp => hp | walk_at "subs2"
    case y0 => exact .g (by assumption) (by assumption) (by assumption) (by assumption) (by assumption)
  · refine' ret _ _ _ _ _ ?y0 ?y1 ?y2 ?y3
    case y2 => assumption
    case y3 => assumption
    case y1 => first | exact fun p hp => hp | walk_at "subs2"
    case y0 => exact .h (by assumption) (by assumption) (by assumption) (by assumption) (by assumption) (by assumption) (by assumption)
theorem kw_W13_2 : True := by
  k_with_none
  trivial
end
end Mine
end
section
open PySem PySem.W PyProof.Rows PySem.Spec PySem.Calls
set_option maxHeartbeats 400000
namespace Mine
/-- static tuples of a text and an int -/
inductive RS (h : Heap) : List Value → List (PySem.Str × Int) → Prop
  | nil : RS h [] []
  | cons {D : Addr} {k : PySem.Str} {y : Int} {t u : Tok} {vs : List Value} {ps : List (PySem.Str × Int)} : IsTup h D [.str k t, .int y u].toArray → RS h vs ps → RS h (.ref D :: vs) ((k, y) :: ps)
theorem RS.length {h : Heap} {vs : List Value} {ps : List (PySem.Str × Int)} (r : RS h vs ps) : vs.length = ps.length := by
  induction r with
  | nil => rfl
  | cons _ _ ih => simp [ih]
theorem RS.get {h : Heap} {vs : List Value} {ps : List (PySem.Str × Int)} (r : RS h vs ps) : ∀ {i : Nat} {v : Value}, vs[i]? = some v → ∃ D k y t u, v = .ref D ∧ IsTup h D [.str k t, .int y u].toArray ∧ ps[i]? = some (k, y) := by
  induction r with
  | nil => intro i v e; simp at e
  | cons hm _ ih =>
    intro i v e
    cases i with
    | zero => simp at e; subst e; exact ⟨_, _, _, _, _, rfl, hm, rfl⟩
    | succ i => simpa using ih (by simpa using e)
theorem tup_of {w : World} {h₀ : Heap} {a : Addr} {o : Obj} {vs : List Value} (X : (K w.params).In h₀) (e : (K w.params).lookup a = some o) (hc : o.cls = .type "tuple") (hd : ∃ n, o.data = .seq vs.toArray n) : IsTup h₀ a vs.toArray := ⟨o, X _ _ e, hc, hd⟩
theorem tup_keep {h h' : Heap} {a : Addr} {vs : Array Value} (ht : IsTup h a vs) (hk : ∀ b o, h.get? b = some o → h'.get? b = some o) : IsTup h' a vs := let ⟨o, ho, r⟩ := ht; ⟨o, hk _ _ ho, r⟩
theorem ins_row {w : World} {h₀ : Heap} (X : (K w.params).In h₀) {r : Row} (hr : r ∈ rowsL) : ∃ a t1 t2, valueAt kvIns r.nm = some (.ref a) ∧ IsTup h₀ a [.str r.f.str t1, .int (baseOf r) t2].toArray := by
  simp only [rowsL, List.mem_cons, List.not_mem_nil, or_false] at hr
  rcases hr with rfl | rfl | rfl | rfl | rfl | rfl | rfl | rfl | rfl | rfl | rfl | rfl | rfl | rfl | rfl | rfl | rfl | rfl | rfl | rfl | rfl | rfl | rfl | rfl | rfl | rfl | rfl | rfl | rfl | rfl | rfl | rfl | rfl | rfl | rfl | rfl | rfl | rfl | rfl | rfl | rfl | rfl | rfl | rfl | rfl | rfl | rfl | rfl <;>
    exact ⟨_, _, _, rfl, tup_of X rfl rfl ⟨_, rfl⟩⟩
theorem pl_row {w : World} {h₀ : Heap} (X : (K w.params).In h₀) (f : Fm) : ∃ a vs, valueAt kvPl f.str = some (.ref a) ∧ IsTup h₀ a vs.toArray ∧ RS h₀ vs (rgOf f) := by
  cases f
  case R => exact ⟨90, [.ref 87, .ref 88, .ref 89], rfl, tup_of X rfl rfl ⟨_, rfl⟩, .cons (tup_of X rfl rfl ⟨_, rfl⟩) (.cons (tup_of X rfl rfl ⟨_, rfl⟩) (.cons (tup_of X rfl rfl ⟨_, rfl⟩) .nil))⟩
  case I => exact ⟨93, [.ref 91, .ref 92], rfl, tup_of X rfl rfl ⟨_, rfl⟩, .cons (tup_of X rfl rfl ⟨_, rfl⟩) (.cons (tup_of X rfl rfl ⟨_, rfl⟩) .nil)⟩
  case H => exact ⟨96, [.ref 94, .ref 95], rfl, tup_of X rfl rfl ⟨_, rfl⟩, .cons (tup_of X rfl rfl ⟨_, rfl⟩) (.cons (tup_of X rfl rfl ⟨_, rfl⟩) .nil)⟩
  case S => exact ⟨99, [.ref 97, .ref 98], rfl, tup_of X rfl rfl ⟨_, rfl⟩, .cons (tup_of X rfl rfl ⟨_, rfl⟩) (.cons (tup_of X rfl rfl ⟨_, rfl⟩) .nil)⟩
  case B => exact ⟨102, [.ref 100, .ref 101], rfl, tup_of X rfl rfl ⟨_, rfl⟩, .cons (tup_of X rfl rfl ⟨_, rfl⟩) (.cons (tup_of X rfl rfl ⟨_, rfl⟩) .nil)⟩
  case U => exact ⟨104, [.ref 103], rfl, tup_of X rfl rfl ⟨_, rfl⟩, .cons (tup_of X rfl rfl ⟨_, rfl⟩) .nil⟩
  case J => exact ⟨106, [.ref 105], rfl, tup_of X rfl rfl ⟨_, rfl⟩, .cons (tup_of X rfl rfl ⟨_, rfl⟩) .nil⟩
  case F => exact ⟨107, [], rfl, tup_of X rfl rfl ⟨_, rfl⟩, .nil⟩
  case E => exact ⟨108, [], rfl, tup_of X rfl rfl ⟨_, rfl⟩, .nil⟩
theorem bd_row {w : World} {h₀ : Heap} (X : (K w.params).In h₀) (f : Fm) (hf : hasImm f = true) : ∃ a t1 t2 t3, valueAt kvBd f.str = some (.ref a) ∧ IsTup h₀ a [.int (enOf f).1 t1, .int (enOf f).2.1 t2, .int (enOf f).2.2 t3].toArray := by
  cases f <;> first | exact absurd hf (by decide) | exact ⟨_, _, _, _, rfl, tup_of X rfl rfl ⟨_, rfl⟩⟩
theorem bd_some (f : Fm) : (valueAt kvBd f.str).isSome = hasImm f := by cases f <;> rfl
section
variable {w : World} {mean : ExcName → Option Value} {mg mb : PySem.Str → Option Value} {dp un : Nat} {gd : Option (List Code)} {cn : PySem.Str} {cs : Scope} {a : Addr} {ccd : Value} {cl : List (PySem.Str × Addr)} {outer : List Env} {A₀ : Around} {base h₀ : Heap} {L : Addr} {m : PySem.Str → Option Value} {s : Shared} {Q E : Value → Shared → Prop} {news : List (Addr × Obj)}

theorem ins_item {A : Around} {value slice : PySem.Expr} {r : Row} {t : Tok} (F : Fr h₀ L s.heap m) (X : (K w.params).In h₀) (hr : r ∈ rowsL) (ret : ∀ a t1 t2, IsTup h₀ a [.str r.f.str t1, .int (baseOf r) t2].toArray → Q (.ref a) { s with toks := s.toks + 1 })
    (hs : subscripted slice false (.ref 35) (.str r.nm t) = operate [.ref 35, .str r.nm t] (getItem (.ref 35) (.str r.nm t)) := by with_unfolding_all rfl) (hg : ∀ r, letTemporaryGo value (.ref 35) r = pure () := by intro _; with_unfolding_all rfl) :
    wpAny (model pr w) A (subscriptTail value slice (.ref 35) (.str r.nm t)) Q E s := by
  obtain ⟨a, t1, t2, e, ht⟩ := ins_row X hr
  exact sd_item ((ins_dict X).keep F.keep) (strKind_is _ _ _ _) e (ret a t1 t2 ht) hs hg
theorem pl_item {A : Around} {value slice : PySem.Expr} {f : Fm} {t : Tok} (F : Fr h₀ L s.heap m) (X : (K w.params).In h₀) (ret : ∀ a vs, IsTup h₀ a vs.toArray → RS h₀ vs (rgOf f) → Q (.ref a) { s with toks := s.toks + 1 })
    (hs : subscripted slice false (.ref 86) (.str f.str t) = operate [.ref 86, .str f.str t] (getItem (.ref 86) (.str f.str t)) := by with_unfolding_all rfl) (hg : ∀ r, letTemporaryGo value (.ref 86) r = pure () := by intro _; with_unfolding_all rfl) :
    wpAny (model pr w) A (subscriptTail value slice (.ref 86) (.str f.str t)) Q E s := by
  obtain ⟨a, vs, e, ht, hv⟩ := pl_row X f
  exact sd_item ((pl_dict X).keep F.keep) (strKind_is _ _ _ _) e (ret a vs ht hv) hs hg
theorem bd_item {A : Around} {value slice : PySem.Expr} {f : Fm} {t : Tok} (F : Fr h₀ L s.heap m) (X : (K w.params).In h₀) (hf : hasImm f = true) (ret : ∀ a t1 t2 t3 x y z, enOf f = (x, y, z) → IsTup h₀ a [.int x t1, .int y t2, .int z t3].toArray → Q (.ref a) { s with toks := s.toks + 1 })
    (hs : subscripted slice false (.ref 109) (.str f.str t) = operate [.ref 109, .str f.str t] (getItem (.ref 109) (.str f.str t)) := by with_unfolding_all rfl) (hg : ∀ r, letTemporaryGo value (.ref 109) r = pure () := by intro _; with_unfolding_all rfl) :
    wpAny (model pr w) A (subscriptTail value slice (.ref 109) (.str f.str t)) Q E s := by
  obtain ⟨a, t1, t2, t3, e, ht⟩ := bd_row X f hf
  exact sd_item ((bd_dict X).keep F.keep) (strKind_is _ _ _ _) e (ret a t1 t2 t3 _ _ _ rfl ht) hs hg
theorem tup0_c {A : Around} {value slice : PySem.Expr} {a : Addr} {x : Value} {vs : List Value} {u : Tok} (F : Fr h₀ L s.heap m) (ht : IsTup h₀ a (x :: vs).toArray) (hl : vs.length ≤ 5) (ret : Q x s)
    (hs : subscripted slice false (.ref a) (.int 0 u) = operate [.ref a, .int 0 u] (getItem (.ref a) (.int 0 u)) := by with_unfolding_all rfl) (hg : ∀ r, letTemporaryGo value (.ref a) r = pure () := by intro _; with_unfolding_all rfl) :
    wpAny (model pr w) A (subscriptTail value slice (.ref a) (.int 0 u)) Q E s := by
  refine item_tupleL (j := 0) (tup_keep ht F.keep) (by decide) (by decide) ?_ rfl ret hs hg
  unfold seqIndex?
  simp
/-- a number of so many bits with its sign -/
def signS (v wd : Int) : Int := if (v % 2 ^ wd.toNat) / 2 ^ (wd - 1).toNat = 1 then v % 2 ^ wd.toNat - 2 ^ wd.toNat else v % 2 ^ wd.toNat
theorem and_b {A : Around} {a b : Int} {t u : Tok} (h0 : 0 ≤ b) (ret : ∀ z t, z = PySem.Builtin.bitAnd a b → 0 ≤ z → z ≤ b → Q (.int z t) { s with toks := s.toks + 1 }) : wpAny (model pr w) A (binaryOp .BitAnd (.int a t) (.int b u)) Q E s :=
  PyProof.Rows.and_int (ret _ _ rfl (bitAnd_range a h0).1 (bitAnd_range a h0).2)
theorem shr_c {A : Around} {a b : Int} {t u : Tok} (hb : 0 ≤ b) (ret : ∀ z t, z = a / 2 ^ b.toNat → Q (.int z t) { s with toks := s.toks + 1 }) : wpAny (model pr w) A (binaryOp .RShift (.int a t) (.int b u)) Q E s :=
  rshift_int hb (ret _ _ (Int.fdiv_eq_ediv_of_nonneg _ (Int.le_of_lt (Int.pow_pos (by decide)))))
theorem shl_a {A : Around} {a b : Int} {t u : Tok} (h0 : -1099511627776 ≤ a) (h1 : a ≤ 1099511627776) (hb0 : 0 ≤ b) (hb1 : b ≤ 31) (ret : ∀ z t, z = a * 2 ^ b.toNat → Q (.int z t) { s with toks := s.toks + 1 }) : wpAny (model pr w) A (binaryOp .LShift (.int a t) (.int b u)) Q E s :=
  lshift_int_small hb0 (by omega) (by omega) (ret _ _ rfl)
theorem kw_W14_1 : True := by
  k_with_none
  k_with "binaryOp BitAnd int int" => (k_here; k_dflt (refine' and_b ?z0 ?_; (case z0 => omega); intro _ _ _ _ _))
  k_with "binaryOp RShift int int" => (k_here; k_dflt (refine' shr_c ?z0 ?_; (case z0 => omega); intro _ _ _))
  k_with "binaryOp LShift int int" => (k_here; k_dflt (refine' shl_c ?z0 ?z1 ?_; (case z0 => assumption); (case z1 => assumption); intro _ _ _ _ _))
  trivial
theorem sign_a {v wd z low : Int} (e1 : z = 2 ^ wd.toNat) (e2 : low = PySem.Builtin.bitAnd v (z - 1)) : low = v % 2 ^ wd.toNat := by
  rw [e2, e1, kbt_mask]
theorem sign_p {v wd z low q z' : Int} (e2 : low = PySem.Builtin.bitAnd v (z - 1)) (e1 : z = 2 ^ wd.toNat) (e3 : q = low / 2 ^ (wd - 1).toNat) (h : q = 1) (e4 : z' = 2 ^ wd.toNat) : low - z' = signS v wd := by
  have e := sign_a e1 e2
  unfold signS
  rw [← e, if_pos (e3 ▸ h), e4]
theorem sign_n {v wd z low q : Int} (e2 : low = PySem.Builtin.bitAnd v (z - 1)) (e1 : z = 2 ^ wd.toNat) (e3 : q = low / 2 ^ (wd - 1).toNat) (h : q ≠ 1) : low = signS v wd := by
  have e := sign_a e1 e2
  unfold signS
  rw [← e, if_neg (e3 ▸ h)]
theorem sgn_c (v wd : Int) (tv tw : Tok) (B : Below A₀ base outer h₀) (F : Fr h₀ L s.heap m) (X : (K w.params).In h₀) (T : Top vq lo mean mg mb h₀) (hk : cs.kind = .function) (hd : dp + 20 < recursionLimit) (hu : un + 400 < cLine)
    (N : News h₀ L s.heap news) (hw0 : 1 ≤ wd) (hw1 : wd ≤ 30) (hw2 : 0 ≤ wd) (hw3 : wd ≤ 31)
    (ret : ∀ x t news' h' tk', x = signS v wd → (∀ p ∈ news, p ∈ news') → Fr h₀ L h' m → News h₀ L h' news' → Q (.int x t) { s with heap := h', toks := tk' }) :
    wpAny (model pr w) (ktrTop dp un gd cn cs L a ccd cl outer) (call (.ref 123) [.int v tv, .int wd tw]) Q E s := by
  refine wpAny_call ?_
  k_dflt (refine' enterD [("value", .int v tv), ("width", .int wd tw)] ?k1 ?k2 ?k3 ?k4 ?k5 ?kA ?kF ?kK ?k6 ?k7 ?k8 ?k9 ?kB ?_ ?c2 ?c3 ?c4 ?c5; (case kA => exact rfl); (case kF => exact rfl); (case kK => assumption); (case k1 => k_asm); (case k2 => k_asm); (case k3 => k_asm); (case k4 => k_asm); (case k5 => k_asm); (case k6 => k_is); (case k7 => k_is); (case k8 => ktr_room); (case k9 => exact BindsTo.of_eq rfl); (case c5 => decide); (case kB => exact locs rfl); (case c2 => exact rfl); (case c3 => exact rfl); (case c4 => exact rfl); k_whole; intro g' L' h' tk' FG' F' N' B' X' T'; (try dsimp only); (try k_fold))
  k_steps
  · refine' ret _ _ _ _ _ ?y0 ?y1 ?y2 ?y3
    case y2 => assumption
    case y3 => assumption
    case y1 => exact fun p hp => hp
    case y0 => exact sign_p (e2 := by assumption) (e1 := by assumption) (e3 := by assumption) (h := by assumption) (e4 := by assumption)
  · refine' ret _ _ _ _ _ ?y0 ?y1 ?y2 ?y3
    case y2 => assumption
    case y3 => assumption
    case y1 => exact fun p hp => hp
    case y0 => exact sign_n (by assumption) (by assumption) (by assumption) (by assumption)
theorem kw_W14_2 : True := by
  k_with_none
  trivial
end
end Mine
end
section
open PySem PySem.W PyProof.Rows PySem.Spec PySem.Calls
set_option maxHeartbeats 400000
namespace Mine
/-- the bits of an immediate, as the program makes them -/
inductive BitsIs (x : PySem.Str) (v : Int) : Int → Prop
  | I {a z : Int} : (x == "I") = true → z = a * 2 ^ Int.toNat 20 → a = PySem.Builtin.bitAnd v 4095 → BitsIs x v z
  | H {z : Int} : (x == "H") = true → z = v * 2 ^ Int.toNat 20 → BitsIs x v z
  | S {p a b c d z : Int} : (x == "S") = true → z = PySem.Builtin.bitOr b d → b = a * 2 ^ Int.toNat 25 → a = PySem.Builtin.bitAnd p 127 → p = v / 2 ^ Int.toNat 5 → d = c * 2 ^ Int.toNat 7 → c = PySem.Builtin.bitAnd v 31 → BitsIs x v z
  | B {p1 a1 b1 p2 a2 b2 p3 a3 b3 p4 a4 b4 o1 o2 z : Int} : (x == "B") = true → z = PySem.Builtin.bitOr o2 b4 → o2 = PySem.Builtin.bitOr o1 b3 → o1 = PySem.Builtin.bitOr b1 b2 → b1 = a1 * 2 ^ Int.toNat 31 → a1 = PySem.Builtin.bitAnd p1 1 → p1 = v / 2 ^ Int.toNat 12 → b2 = a2 * 2 ^ Int.toNat 25 → a2 = PySem.Builtin.bitAnd p2 63 → p2 = v / 2 ^ Int.toNat 5 → b3 = a3 * 2 ^ Int.toNat 8 → a3 = PySem.Builtin.bitAnd p3 15 → p3 = v / 2 ^ Int.toNat 1 → b4 = a4 * 2 ^ Int.toNat 7 → a4 = PySem.Builtin.bitAnd p4 1 → p4 = v / 2 ^ Int.toNat 11 → BitsIs x v z
  | U {z : Int} : (x == "U") = true → z = v * 2 ^ Int.toNat 12 → BitsIs x v z
  | J {p1 a1 b1 p2 a2 b2 p3 a3 b3 p4 a4 b4 o1 o2 z : Int} : (x == "J") = true → z = PySem.Builtin.bitOr o2 b4 → o2 = PySem.Builtin.bitOr o1 b3 → o1 = PySem.Builtin.bitOr b1 b2 → b1 = a1 * 2 ^ Int.toNat 31 → a1 = PySem.Builtin.bitAnd p1 1 → p1 = v / 2 ^ Int.toNat 20 → b2 = a2 * 2 ^ Int.toNat 21 → a2 = PySem.Builtin.bitAnd p2 1023 → p2 = v / 2 ^ Int.toNat 1 → b3 = a3 * 2 ^ Int.toNat 20 → a3 = PySem.Builtin.bitAnd p3 1 → p3 = v / 2 ^ Int.toNat 11 → b4 = a4 * 2 ^ Int.toNat 12 → a4 = PySem.Builtin.bitAnd p4 255 → p4 = v / 2 ^ Int.toNat 12 → BitsIs x v z
  | F {z : Int} : (x == "I") = false → (x == "H") = false → (x == "S") = false → (x == "B") = false → (x == "U") = false → (x == "J") = false → z = v * 2 ^ Int.toNat 20 → BitsIs x v z
/-- the immediate of a number, as the program reads it -/
inductive ImmIs (x : PySem.Str) (n : Int) : Int → Prop
  | I {p z : Int} : (x == "I") = true → z = signS p 12 → p = n / 2 ^ Int.toNat 20 → ImmIs x n z
  | H {p z : Int} : (x == "H") = true → z = PySem.Builtin.bitAnd p 31 → p = n / 2 ^ Int.toNat 20 → ImmIs x n z
  | S {p1 b1 p2 a2 o z : Int} : (x == "S") = true → z = signS o 12 → o = PySem.Builtin.bitOr b1 a2 → b1 = p1 * 2 ^ Int.toNat 5 → p1 = n / 2 ^ Int.toNat 25 → a2 = PySem.Builtin.bitAnd p2 31 → p2 = n / 2 ^ Int.toNat 7 → ImmIs x n z
  | B {p1 b1 p2 a2 b2 p3 a3 b3 p4 a4 b4 o1 o2 o3 z : Int} : (x == "B") = true → z = signS o3 13 → o3 = PySem.Builtin.bitOr o2 b4 → o2 = PySem.Builtin.bitOr o1 b3 → o1 = PySem.Builtin.bitOr b1 b2 → b1 = p1 * 2 ^ Int.toNat 12 → p1 = n / 2 ^ Int.toNat 31 → b2 = a2 * 2 ^ Int.toNat 11 → a2 = PySem.Builtin.bitAnd p2 1 → p2 = n / 2 ^ Int.toNat 7 → b3 = a3 * 2 ^ Int.toNat 5 → a3 = PySem.Builtin.bitAnd p3 63 → p3 = n / 2 ^ Int.toNat 25 → b4 = a4 * 2 ^ Int.toNat 1 → a4 = PySem.Builtin.bitAnd p4 15 → p4 = n / 2 ^ Int.toNat 8 → ImmIs x n z
  | U {z : Int} : (x == "U") = true → z = n / 2 ^ Int.toNat 12 → ImmIs x n z
  | J {p1 b1 p2 a2 b2 p3 a3 b3 p4 a4 b4 o1 o2 o3 z : Int} : (x == "J") = true → z = signS o3 21 → o3 = PySem.Builtin.bitOr o2 b4 → o2 = PySem.Builtin.bitOr o1 b3 → o1 = PySem.Builtin.bitOr b1 b2 → b1 = p1 * 2 ^ Int.toNat 20 → p1 = n / 2 ^ Int.toNat 31 → b2 = a2 * 2 ^ Int.toNat 12 → a2 = PySem.Builtin.bitAnd p2 255 → p2 = n / 2 ^ Int.toNat 12 → b3 = a3 * 2 ^ Int.toNat 11 → a3 = PySem.Builtin.bitAnd p3 1 → p3 = n / 2 ^ Int.toNat 20 → b4 = a4 * 2 ^ Int.toNat 1 → a4 = PySem.Builtin.bitAnd p4 1023 → p4 = n / 2 ^ Int.toNat 21 → ImmIs x n z
  | F {p z : Int} : (x == "I") = false → (x == "H") = false → (x == "S") = false → (x == "B") = false → (x == "U") = false → (x == "J") = false → z = PySem.Builtin.bitAnd p 255 → p = n / 2 ^ Int.toNat 20 → ImmIs x n z
section
variable {w : World} {mean : ExcName → Option Value} {mg mb : PySem.Str → Option Value} {dp un : Nat} {gd : Option (List Code)} {cn : PySem.Str} {cs : Scope} {a : Addr} {ccd : Value} {cl : List (PySem.Str × Addr)} {outer : List Env} {A₀ : Around} {base h₀ : Heap} {L : Addr} {m : PySem.Str → Option Value} {s : Shared} {Q E : Value → Shared → Prop} {news : List (Addr × Obj)}

theorem or_c {A : Around} {a b : Int} {t u : Tok} (ret : ∀ z t, z = PySem.Builtin.bitOr a b → Q (.int z t) { s with toks := s.toks + 1 }) : wpAny (model pr w) A (binaryOp .BitOr (.int a t) (.int b u)) Q E s :=
  PyProof.Rows.or_int (ret _ _ rfl)
theorem shr_p {A : Around} {a b : Int} {t u : Tok} (hb : 0 ≤ b) (ha : 0 ≤ a) (ret : ∀ z t, z = a / 2 ^ b.toNat → 0 ≤ z → z ≤ a → Q (.int z t) { s with toks := s.toks + 1 }) : wpAny (model pr w) A (binaryOp .RShift (.int a t) (.int b u)) Q E s :=
  shr_c hb fun z t e => ret z t e (e ▸ Int.ediv_nonneg ha (Int.le_of_lt (Int.pow_pos (by decide)))) (e ▸ Int.ediv_le_self _ ha)
theorem kw_W15_1 : True := by
  k_with_none
  k_with "binaryOp BitAnd int int" => (k_here; k_dflt (refine' and_b ?z0 ?_; (case z0 => decide); intro _ _ _ _ _))
  k_with "binaryOp BitOr int int" => (k_here; k_dflt (refine' or_c ?_; intro _ _ _))
  k_with "binaryOp RShift int int" => (k_here; k_dflt (first | (refine' shr_p ?z0 ?z1 ?_; (case z0 => decide); (case z1 => assumption); intro _ _ _ _ _) | (refine' shr_c ?z0 ?_; (case z0 => decide); intro _ _ _)))
  k_with "binaryOp LShift int int" => (k_here; k_dflt (refine' shl_a ?z0 ?z1 ?z2 ?z3 ?_; (case z0 => omega); (case z1 => omega); (case z2 => decide); (case z3 => decide); intro _ _ _))
  k_with "call ref" => (k_here; k_dflt (refine' sgn_c _ _ _ _ ?zB ?zF ?zX ?zT ?zk ?zd ?zu ?zN ?w0 ?w1 ?w2 ?w3 ?_; (case zB => k_asm); (case zF => k_asm); (case zX => k_asm); (case zT => k_asm); (case zk => exact rfl); (case zd => ktr_room); (case zu => ktr_units); (case zN => k_asm); (case w0 => decide); (case w1 => decide); (case w2 => decide); (case w3 => decide); intro _ _ _ _ _ _ _ _ _))
  k_with "eval Call" => (k_here; k_dflt (refine Call_ ?_))
  trivial
set_option maxHeartbeats 4000000 in
theorem bits_c (f : Fm) (x : PySem.Str) (hx : x = f.str) (v : Int) (tx tv : Tok) (B : Below A₀ base outer h₀) (F : Fr h₀ L s.heap m) (X : (K w.params).In h₀) (T : Top vq lo mean mg mb h₀) (hk : cs.kind = .function) (hd : dp + 20 < recursionLimit) (hu : un + 400 < cLine)
    (N : News h₀ L s.heap news) (hv0 : -1048576 ≤ v) (hv1 : v ≤ 1048575)
    (ret : ∀ b t news' h' tk', BitsIs x v b → (∀ p ∈ news, p ∈ news') → Fr h₀ L h' m → News h₀ L h' news' → Q (.int b t) { s with heap := h', toks := tk' }) :
    wpAny (model pr w) (ktrTop dp un gd cn cs L a ccd cl outer) (call (.ref 137) [.str x tx, .int v tv]) Q E s := by
  refine wpAny_call ?_
  k_dflt (refine' enterD [("form", .str x tx), ("imm", .int v tv)] ?k1 ?k2 ?k3 ?k4 ?k5 ?kA ?kF ?kK ?k6 ?k7 ?k8 ?k9 ?kB ?_ ?c2 ?c3 ?c4 ?c5; (case kA => exact rfl); (case kF => exact rfl); (case kK => assumption); (case k1 => k_asm); (case k2 => k_asm); (case k3 => k_asm); (case k4 => k_asm); (case k5 => k_asm); (case k6 => k_is); (case k7 => k_is); (case k8 => ktr_room); (case k9 => exact BindsTo.of_eq rfl); (case c5 => decide); (case kB => exact locs rfl); (case c2 => exact rfl); (case c3 => exact rfl); (case c4 => exact rfl); k_whole; intro g' L' h' tk' FG' F' N' B' X' T'; (try dsimp only); (try k_fold))
  k_steps
  · refine' ret _ _ _ _ _ ?y0 ?y1 ?y2 ?y3
    case y2 => assumption
    case y3 => assumption
    case y1 => first | exact fun p hp => hp | assumption
    case y0 => exact .I (by assumption) (by assumption) (by assumption)
  · refine' ret _ _ _ _ _ ?y0 ?y1 ?y2 ?y3
    case y2 => assumption
    case y3 => assumption
    case y1 => first | exact fun p hp => hp | assumption
    case y0 => exact .H (by assumption) (by assumption)
  · refine' ret _ _ _ _ _ ?y0 ?y1 ?y2 ?y3
    case y2 => assumption
    case y3 => assumption
    case y1 => first | exact fun p hp => hp | assumption
    case y0 => exact .S (by assumption) (by assumption) (by assumption) (by assumption) (by assumption) (by assumption) (by assumption)
  · refine' ret _ _ _ _ _ ?y0 ?y1 ?y2 ?y3
    case y2 => assumption
    case y3 => assumption
    case y1 => first | exact fun p hp => hp | assumption
    case y0 => exact .B (by assumption) (by assumption) (by assumption) (by assumption) (by assumption) (by assumption) (by assumption) (by assumption) (by assumption) (by assumption) (by assumption) (by assumption) (by assumption) (by assumption) (by assumption) (by assumption)
  · refine' ret _ _ _ _ _ ?y0 ?y1 ?y2 ?y3
    case y2 => assumption
    case y3 => assumption
    case y1 => first | exact fun p hp => hp | assumption
    case y0 => exact .U (by assumption) (by assumption)
  · refine' ret _ _ _ _ _ ?y0 ?y1 ?y2 ?y3
    case y2 => assumption
    case y3 => assumption
    case y1 => first | exact fun p hp => hp | assumption
    case y0 => exact .J (by assumption) (by assumption) (by assumption) (by assumption) (by assumption) (by assumption) (by assumption) (by assumption) (by assumption) (by assumption) (by assumption) (by assumption) (by assumption) (by assumption) (by assumption) (by assumption)
  · refine' ret _ _ _ _ _ ?y0 ?y1 ?y2 ?y3
    case y2 => assumption
    case y3 => assumption
    case y1 => first | exact fun p hp => hp | assumption
    case y0 => exact .F (by assumption) (by assumption) (by assumption) (by assumption) (by assumption) (by assumption) (by assumption)
set_option maxHeartbeats 4000000 in
theorem immof_c (f : Fm) (x : PySem.Str) (hx : x = f.str) (n : Int) (tx tv : Tok) (B : Below A₀ base outer h₀) (F : Fr h₀ L s.heap m) (X : (K w.params).In h₀) (T : Top vq lo mean mg mb h₀) (hk : cs.kind = .function) (hd : dp + 30 < recursionLimit) (hu : un + 420 < cLine)
    (N : News h₀ L s.heap news) (hn0 : 0 ≤ n) (hn1 : n < 4294967296)
    (ret : ∀ b t news' h' tk', ImmIs x n b → (∀ p ∈ news, p ∈ news') → Fr h₀ L h' m → News h₀ L h' news' → Q (.int b t) { s with heap := h', toks := tk' }) :
    wpAny (model pr w) (ktrTop dp un gd cn cs L a ccd cl outer) (call (.ref 144) [.str x tx, .int n tv]) Q E s := by
  refine wpAny_call ?_
  k_dflt (refine' enterD [("form", .str x tx), ("word", .int n tv)] ?k1 ?k2 ?k3 ?k4 ?k5 ?kA ?kF ?kK ?k6 ?k7 ?k8 ?k9 ?kB ?_ ?c2 ?c3 ?c4 ?c5; (case kA => exact rfl); (case kF => exact rfl); (case kK => assumption); (case k1 => k_asm); (case k2 => k_asm); (case k3 => k_asm); (case k4 => k_asm); (case k5 => k_asm); (case k6 => k_is); (case k7 => k_is); (case k8 => ktr_room); (case k9 => exact BindsTo.of_eq rfl); (case c5 => decide); (case kB => exact locs rfl); (case c2 => exact rfl); (case c3 => exact rfl); (case c4 => exact rfl); k_whole; intro g' L' h' tk' FG' F' N' B' X' T'; (try dsimp only); (try k_fold))
  k_steps
  · refine' ret _ _ _ _ _ ?y0 ?y1 ?y2 ?y3
    case y2 => assumption
    case y3 => assumption
    case y1 => first | exact fun p hp => hp | assumption
    case y0 => exact .I (by assumption) (by assumption) (by assumption)
  · refine' ret _ _ _ _ _ ?y0 ?y1 ?y2 ?y3
    case y2 => assumption
    case y3 => assumption
    case y1 => first | exact fun p hp => hp | assumption
    case y0 => exact .H (by assumption) (by assumption) (by assumption)
  · refine' ret _ _ _ _ _ ?y0 ?y1 ?y2 ?y3
    case y2 => assumption
    case y3 => assumption
    case y1 => first | exact fun p hp => hp | assumption
    case y0 => exact .S (by assumption) (by assumption) (by assumption) (by assumption) (by assumption) (by assumption) (by assumption)
  · refine' ret _ _ _ _ _ ?y0 ?y1 ?y2 ?y3
    case y2 => assumption
    case y3 => assumption
    case y1 => first | exact fun p hp => hp | assumption
    case y0 => exact .B (by assumption) (by assumption) (by assumption) (by assumption) (by assumption) (by assumption) (by assumption) (by assumption) (by assumption) (by assumption) (by assumption) (by assumption) (by assumption) (by assumption) (by assumption) (by assumption)
  · refine' ret _ _ _ _ _ ?y0 ?y1 ?y2 ?y3
    case y2 => assumption
    case y3 => assumption
    case y1 => first | exact fun p hp => hp | assumption
    case y0 => exact .U (by assumption) (by assumption)
  · refine' ret _ _ _ _ _ ?y0 ?y1 ?y2 ?y3
    case y2 => assumption
    case y3 => assumption
    case y1 => first | exact fun p hp => hp | assumption
    case y0 => exact .J (by assumption) (by assumption) (by assumption) (by assumption) (by assumption) (by assumption) (by assumption) (by assumption) (by assumption) (by assumption) (by assumption) (by assumption) (by assumption) (by assumption) (by assumption) (by assumption)
  · refine' ret _ _ _ _ _ ?y0 ?y1 ?y2 ?y3
    case y2 => assumption
    case y3 => assumption
    case y1 => first | exact fun p hp => hp | assumption
    case y0 => exact .F (by assumption) (by assumption) (by assumption) (by assumption) (by assumption) (by assumption) (by assumption) (by assumption)
theorem kw_W15_2 : True := by
  k_with_none
  trivial
end
end Mine
end
section
open PySem PySem.W PyProof.Rows PySem.Spec PySem.Calls
set_option maxHeartbeats 400000
namespace Mine
/-- what may stand in the immediate field -/
def FitS (f : Fm) (v : Int) : Prop := (enOf f).1 ≤ v ∧ v ≤ (enOf f).2.1 ∧ v % (enOf f).2.2 = 0
theorem fit_t {f : Fm} {a b c v : Int} (e : enOf f = (a, b, c)) (h1 : a ≤ v) (h2 : v ≤ b) (hc : 1 ≤ c) : (v.fmod c == 0) = true ↔ FitS f v := by
  unfold FitS
  rw [e, beq_iff_eq, Int.fmod_eq_emod_of_nonneg _ (by omega)]
  exact ⟨fun h => ⟨h1, h2, h⟩, fun h => h.2.2⟩
theorem fit_g {f : Fm} {a b c v : Int} (e : enOf f = (a, b, c)) (h : ¬ (a ≤ v)) : decide (a ≤ v) = true ↔ FitS f v := by
  unfold FitS
  rw [e, decide_eq_true_eq]
  exact ⟨fun k => absurd k h, fun k => k.1⟩
theorem fit_h {f : Fm} {a b c v : Int} (e : enOf f = (a, b, c)) (h : ¬ (v ≤ b)) : decide (v ≤ b) = true ↔ FitS f v := by
  unfold FitS
  rw [e, decide_eq_true_eq]
  exact ⟨fun k => absurd k h, fun k => k.2.1⟩
theorem en_pos {f : Fm} {a b c : Int} (e : enOf f = (a, b, c)) : 1 ≤ c := by
  have h : ∀ f : Fm, 1 ≤ (enOf f).2.2 := by intro f; cases f <;> decide
  have := h f
  rw [e] at this
  exact this
section
variable {w : World} {mean : ExcName → Option Value} {mg mb : PySem.Str → Option Value} {dp un : Nat} {gd : Option (List Code)} {cn : PySem.Str} {cs : Scope} {a : Addr} {ccd : Value} {cl : List (PySem.Str × Addr)} {outer : List Env} {A₀ : Around} {base h₀ : Heap} {L : Addr} {m : PySem.Str → Option Value} {s : Shared} {Q E : Value → Shared → Prop} {news : List (Addr × Obj)}

theorem modp_c {A : Around} {a b : Int} {t u : Tok} (hb : 1 ≤ b) (ret : ∀ t, Q (.int (a.fmod b) t) { s with toks := s.toks + 1 }) : wpAny (model pr w) A (binaryOp .Mod (.int a t) (.int b u)) Q E s :=
  PyProof.Rows.mod_int' (by omega) (ret _)
theorem kw_W16_1 : True := by
  k_with_none
  k_with "binaryOp Mod int int" => (k_here; k_dflt (refine' modp_c ?z0 ?_; (case z0 => assumption); intro _))
  k_with "subscriptTail" => (k_here; k_dflt (first | (refine' ins_item ?zF ?zX ?zr ?_; (case zF => k_asm); (case zX => k_asm); (case zr => assumption); intro _ _ _ _) | (refine' bd_item ?zF ?zX ?zr ?_; (case zF => k_asm); (case zX => k_asm); (case zr => assumption); intro a6 t6 u6 v6 x6 y6 z6 e6 i6; have p6 := en_pos e6) | (refine' tup0_c ?zF ?zt ?zl ?_; (case zF => k_asm); (case zt => assumption); (case zl => decide))))
  trivial
theorem fits_c (r : Row) (hr : r ∈ rowsL) (hI : hasImm r.f = true) (v : Int) (tx tv : Tok) (B : Below A₀ base outer h₀) (F : Fr h₀ L s.heap m) (X : (K w.params).In h₀) (T : Top vq lo mean mg mb h₀) (hk : cs.kind = .function) (hd : dp + 20 < recursionLimit) (hu : un + 400 < cLine)
    (N : News h₀ L s.heap news) (hv0 : -2147483648 ≤ v) (hv1 : v ≤ 2147483647)
    (ret : ∀ b news' h' tk', (b = true ↔ FitS r.f v) → (∀ p ∈ news, p ∈ news') → Fr h₀ L h' m → News h₀ L h' news' → Q (.bool b) { s with heap := h', toks := tk' }) :
    wpAny (model pr w) (ktrTop dp un gd cn cs L a ccd cl outer) (call (.ref 130) [.str r.nm tx, .int v tv]) Q E s := by
  refine wpAny_call ?_
  k_dflt (refine' enterD [("name", .str r.nm tx), ("imm", .int v tv)] ?k1 ?k2 ?k3 ?k4 ?k5 ?kA ?kF ?kK ?k6 ?k7 ?k8 ?k9 ?kB ?_ ?c2 ?c3 ?c4 ?c5; (case kA => exact rfl); (case kF => exact rfl); (case kK => assumption); (case k1 => k_asm); (case k2 => k_asm); (case k3 => k_asm); (case k4 => k_asm); (case k5 => k_asm); (case k6 => k_is); (case k7 => k_is); (case k8 => ktr_room); (case k9 => exact BindsTo.of_eq rfl); (case c5 => decide); (case kB => exact locs rfl); (case c2 => exact rfl); (case c3 => exact rfl); (case c4 => exact rfl); k_whole; intro g' L' h' tk' FG' F' N' B' X' T'; (try dsimp only); (try k_fold))
  k_steps
  · refine' ret _ _ _ _ ?y0 ?y1 ?y2 ?y3
    case y2 => assumption
    case y3 => assumption
    case y1 => first | exact fun p hp => hp | assumption
    case y0 => exact fit_t (by assumption) (by assumption) (by assumption) (by assumption)
  · refine' ret _ _ _ _ ?y0 ?y1 ?y2 ?y3
    case y2 => assumption
    case y3 => assumption
    case y1 => first | exact fun p hp => hp | assumption
    case y0 => exact fit_h (by assumption) (by assumption)
  · refine' ret _ _ _ _ ?y0 ?y1 ?y2 ?y3
    case y2 => assumption
    case y3 => assumption
    case y1 => first | exact fun p hp => hp | assumption
    case y0 => exact fit_g (by assumption) (by assumption)
theorem kw_W16_2 : True := by
  k_with_none
  trivial
end
end Mine
end
section
open PySem PySem.W PyProof.Rows PySem.Spec PySem.Calls
set_option maxHeartbeats 400000
namespace Mine
/-- the number of a base with its registers laid on it -/
def encFold (ks : List (PySem.Str × Int)) (l : List (PySem.Str × Int)) (base : Int) : Int := l.foldl (fun acc q => PySem.Builtin.bitOr acc ((fdAt ks q.1).getD (-1) * 2 ^ q.2.toNat)) base
theorem encFold_succ {ks l : List (PySem.Str × Int)} {base : Int} {i : Nat} {q : PySem.Str × Int} (h : l[i]? = some q) : encFold ks (l.take (i + 1)) base = PySem.Builtin.bitOr (encFold ks (l.take i) base) ((fdAt ks q.1).getD (-1) * 2 ^ q.2.toNat) := by
  unfold encFold
  rw [List.take_add_one, h, List.foldl_append]; rfl
/-- what the program's encoder answers -/
def EncIs (r : Row) (ks : List (PySem.Str × Int)) (z : Int) : Prop :=
  (hasImm r.f = false ∧ z = encFold ks (rgOf r.f) (baseOf r)) ∨ (hasImm r.f = true ∧ ∃ v b, fdAt ks "imm" = some v ∧ FitS r.f v ∧ BitsIs r.f.str v b ∧ z = PySem.Builtin.bitOr (encFold ks (rgOf r.f) (baseOf r)) b)
theorem fit_bnd {f : Fm} {v : Int} (h : FitS f v) : -1048576 ≤ v ∧ v ≤ 1048575 := by
  have e : ∀ f : Fm, -1048576 ≤ (enOf f).1 ∧ (enOf f).2.1 ≤ 1048575 := by intro f; cases f <;> decide
  have := e f
  unfold FitS at h
  omega
section
variable {w : World} {mean : ExcName → Option Value} {mg mb : PySem.Str → Option Value} {dp un : Nat} {gd : Option (List Code)} {cn : PySem.Str} {cs : Scope} {a : Addr} {ccd : Value} {cl : List (PySem.Str × Addr)} {outer : List Env} {A₀ : Around} {base h₀ : Heap} {L : Addr} {m : PySem.Str → Option Value} {s : Shared} {Q E : Value → Shared → Prop} {news : List (Addr × Obj)}

theorem fd_yes {A : Around} {d : Addr} {ks : List (PySem.Str × Int)} {k : PySem.Str} {tk : Tok} {v : Int} (N : News h₀ L s.heap news) (hd : FdAt w news d ks) (hk : fdAt ks k = some v) (ret : Q (.bool false) { s with toks := s.toks + 1 }) :
    wpAny (model pr w) A (compareOp .NotIn (.str k tk) (.ref d)) Q E s := by
  obtain ⟨o, kvs, hm, hdo, hf, hs⟩ := hd
  refine kdg_notin N hm hdo hs (strKind_is _ _ _ _) _ rfl ?_
  rcases hf.at k with ⟨h1, h2⟩ | ⟨n, t, h1, h2⟩
  · rw [hk] at h1; cases h1
  · rw [h2]; exact ret
theorem fd_get {A : Around} {d : Addr} {ks : List (PySem.Str × Int)} {k : PySem.Str} {tk : Tok} {n : Int} {df : Value} (N : News h₀ L s.heap news) (hd : FdAt w news d ks) (hk : fdAt ks k = some n) (ret : ∀ t, Q (.int n t) { s with toks := s.toks + 1 }) :
    wpAny (model pr w) A (call (.builtin "dict.get") [.ref d, .str k tk, df]) Q E s := by
  obtain ⟨o, kvs, hm, hdo, hf, hs⟩ := hd
  refine kdg_get2 N hm hdo hs (strKind_is _ _ _ _) _ rfl ?_
  rcases hf.at k with ⟨h1, h2⟩ | ⟨n, t, h1, h2⟩
  · rw [hk] at h1; cases h1
  · rw [hk] at h1; cases h1; rw [h2]; exact ret _
theorem fd_method {A : Around} {pl : Sem Bool} {d : Addr} {ks : List (PySem.Str × Int)} {Q : Value × List Value → Shared → Prop} (N : News h₀ L s.heap news) (hd : FdAt w news d ks) (h : Q (.builtin "dict.get", [.ref d]) s) : wpAny (model pr w) A (getMethod (.ref d) "get" pl) Q E s := by
  obtain ⟨o, kvs, hm, hdo, hf, hs⟩ := hd
  exact kdg_method N hm hdo h
theorem ins_notin {A : Around} {r : Row} {t : Tok} (F : Fr h₀ L s.heap m) (X : (K w.params).In h₀) (hr : r ∈ rowsL) (ret : Q (.bool false) { s with toks := s.toks + 1 }) : wpAny (model pr w) A (compareOp .NotIn (.str r.nm t) (.ref 35)) Q E s := by
  obtain ⟨a, t1, t2, e, ht⟩ := ins_row X hr
  exact sd_notin ((ins_dict X).keep F.keep) rfl (strKind_is _ _ _ _) true (by rw [e]; rfl) ret
theorem bd_notin {A : Around} {f : Fm} {t : Tok} (F : Fr h₀ L s.heap m) (X : (K w.params).In h₀) (ret : Q (.bool (!hasImm f)) { s with toks := s.toks + 1 }) : wpAny (model pr w) A (compareOp .NotIn (.str f.str t) (.ref 109)) Q E s :=
  sd_notin ((bd_dict X).keep F.keep) rfl (strKind_is _ _ _ _) _ (bd_some f) ret
theorem kw_W17_1 : True := by
  k_with_none
  k_with "pyIter ref" => (k_here; refine Stop.out ?_)
  k_with "exec For" => (k_here; refine For_invTF (by k_asm) ?_ (fun _ => by rfl))
  k_with "eval Name" => (k_here; k_dflt (refine' nameX_L ?zF ?zv ?_ ?za ?zb; (case zF => k_asm); (case za => rfl); (case zb => rfl); (case zv => first | rfl | assumption); k_whole))
  k_with "eval Call" => (k_here; k_dflt (refine Call_ ?_))
  k_with "getMethod ref" => (k_here; k_dflt (refine' fd_method ?zN ?zd ?_; (case zN => k_asm); (case zd => assumption)))
  k_with "call builtin:dict.get" => (k_here; k_dflt (refine' fd_get ?zN ?zd ?zk ?_; (case zN => k_asm); (case zd => assumption); (case zk => assumption); intro _))
  k_with "binaryOp BitOr int int" => (k_here; k_dflt (refine' or_c ?_; intro _ _ _))
  k_with "binaryOp LShift int int" => (k_here; k_dflt (refine' shl_a ?z0 ?z1 ?z2 ?z3 ?_; (case z0 => omega); (case z1 => omega); (case z2 => assumption); (case z3 => assumption); intro _ _ _))
  k_with "compareOp NotIn str ref" => (k_here; k_dflt (first | (refine' ins_notin ?zF ?zX ?zr ?_; (case zF => k_asm); (case zX => k_asm); (case zr => assumption)) | (refine' bd_notin ?zF ?zX ?_; (case zF => k_asm); (case zX => k_asm)) | (refine' fd_yes ?zN ?zd ?zk ?_; (case zN => k_asm); (case zd => assumption); (case zk => assumption))))
  k_with "subscriptTail" => (k_here; k_dflt (first | (refine' ins_item ?zF ?zX ?zr ?_; (case zF => k_asm); (case zX => k_asm); (case zr => assumption); intro _ _ _ _) | (refine' pl_item ?zF ?zX ?_; (case zF => k_asm); (case zX => k_asm); intro _ _ _ _) | (refine' fd_item ?zN ?zd ?zk ?_; (case zN => k_asm); (case zd => assumption); (case zk => assumption); intro _)))
  k_with "call ref" => (k_here; k_dflt (first | (refine' fits_c _ ?zr ?zI _ _ _ ?zB ?zF ?zX ?zT ?zk ?zd ?zu ?zN ?z0 ?z1 ?_; (case zr => assumption); (case zI => assumption); (case zB => k_asm); (case zF => k_asm); (case zX => k_asm); (case zT => k_asm); (case zk => exact rfl); (case zd => ktr_room); (case zu => ktr_units); (case zN => k_asm); (case z0 => assumption); (case z1 => assumption); intro b9 nw9 h9 tk9 fi9 sub9 F9 N9; (have fd9 := FdAt.mono (by assumption) sub9); (have ht9 := fi9.mpr (by assumption)); subst ht9) | (refine' bits_c _ _ rfl _ _ _ ?zB ?zF ?zX ?zT ?zk ?zd ?zu ?zN ?z0 ?z1 ?_; (case zB => k_asm); (case zF => k_asm); (case zX => k_asm); (case zT => k_asm); (case zk => exact rfl); (case zd => ktr_room); (case zu => ktr_units); (case zN => k_asm); (case z0 => assumption); (case z1 => assumption); intro _ _ _ _ _ _ _ _ _)))
  trivial
set_option maxHeartbeats 4000000 in
theorem encode_c (r : Row) (hr : r ∈ rowsL) (d : Addr) (ks : List (PySem.Str × Int)) (tx : Tok) (B : Below A₀ base outer h₀) (F : Fr h₀ L s.heap m) (X : (K w.params).In h₀) (T : Top vq lo mean mg mb h₀) (hk : cs.kind = .function) (hd : dp + 30 < recursionLimit) (hu : un + 420 < cLine)
    (N : News h₀ L s.heap news) (hfd : FdAt w news d ks) (hkey : ∀ q ∈ rgOf r.f, ∃ n, fdAt ks q.1 = some n ∧ 0 ≤ n ∧ n < 32) (himm : hasImm r.f = true → ∃ v, fdAt ks "imm" = some v ∧ FitS r.f v)
    (ret : ∀ z t news' h' tk', EncIs r ks z → (∀ p ∈ news, p ∈ news') → Fr h₀ L h' m → News h₀ L h' news' → Q (.int z t) { s with heap := h', toks := tk' }) :
    wpAny (model pr w) (ktrTop dp un gd cn cs L a ccd cl outer) (call (.ref 151) [.str r.nm tx, .ref d]) Q E s := by
  refine wpAny_call ?_
  k_dflt (refine' enterD [("name", .str r.nm tx), ("fields", .ref d)] ?k1 ?k2 ?k3 ?k4 ?k5 ?kA ?kF ?kK ?k6 ?k7 ?k8 ?k9 ?kB ?_ ?c2 ?c3 ?c4 ?c5; (case kA => exact rfl); (case kF => exact rfl); (case kK => assumption); (case k1 => k_asm); (case k2 => k_asm); (case k3 => k_asm); (case k4 => k_asm); (case k5 => k_asm); (case k6 => k_is); (case k7 => k_is); (case k8 => ktr_room); (case k9 => exact BindsTo.of_eq rfl); (case c5 => decide); (case kB => exact locs rfl); (case c2 => exact rfl); (case c3 => exact rfl); (case c4 => exact rfl); k_whole; intro g' L' h' tk' FG' F' N' B' X' T'; (try dsimp only); (try k_fold))
  k_steps
  rename RS _ _ _ => rs6
  rename_i a5 t5 u5 i5 hh5 hh6 hh7 F6 N6 a6 vs6 i6
  refine ⟨?_⟩
  refine iterT (fun i m₁ nw' => (m₁ "name" = some (.str r.nm tx) ∧ m₁ "fields" = some (.ref d) ∧ m₁ "form" = some (.str r.f.str t5)) ∧ FdAt w nw' d ks ∧ (∀ p ∈ news, p ∈ nw') ∧ ∃ t, m₁ "found" = some (.int (encFold ks ((rgOf r.f).take i) (baseOf r)) t)) rfl i6 F6 N6 ?j0 ?turn ?done
  case j0 => exact ⟨⟨rfl, rfl, rfl⟩, hfd, fun _ h => h, _, rfl⟩
  case turn =>
    rintro i v m₁ nw₁ s₁ it ito hv ⟨fs9, hfs⟩ hit ⟨⟨n1, n2, n3⟩, fd, sub₁, tf, n4⟩ F₁ N₁
    obtain ⟨D', key, y, t, u, rfl, hD, hi⟩ := rs6.get hv
    have hy := rg_place (List.mem_of_getElem? hi)
    obtain ⟨nv, hn, hb0, hb1⟩ := hkey _ (List.mem_of_getElem? hi)
    have hn' : fdAt ks key = some nv := hn
    have hy0 : 0 ≤ y := hy.1
    have hy1 : y ≤ 31 := hy.2
    have fd₂ := fd.mono (news' := (it, ito) :: nw₁) (fun p hp => .tail _ hp)
    k_steps
    rename _ = _ * _ => ez
    rename _ = PySem.Builtin.bitOr _ _ => eo
    refine' TurnEnd.same ?zF ?zN hit ?zJ
    case zF => assumption
    case zN => assumption
    case zJ =>
    refine ⟨⟨n1, n2, n3⟩, fd, sub₁, ?_⟩
    have e : encFold ks ((rgOf r.f).take (i + 1)) (baseOf r) = PySem.Builtin.bitOr (encFold ks ((rgOf r.f).take i) (baseOf r)) (nv * 2 ^ y.toNat) := by
      rw [encFold_succ hi, hn]; rfl
    rw [e, ← ez, ← eo]
    exact ⟨_, rfl⟩
  case done =>
    rintro m₁ nw₁ h₁ tk₁ ⟨⟨n1, n2, n3⟩, fd, sub₁, tf, n4⟩ F₁ N₁
    rw [rs6.length, List.take_length] at n4
    cases hI : hasImm r.f with
    | false =>
      k_steps
      refine' ret _ _ _ _ _ ?y0 ?y1 ?y2 ?y3
      case y2 => assumption
      case y3 => assumption
      case y1 => exact sub₁
      case y0 => exact .inl ⟨hI, rfl⟩
    | true =>
      obtain ⟨v, hV, hfit⟩ := himm hI
      have hv2 := (fit_bnd hfit).1
      have hv3 := (fit_bnd hfit).2
      have hv0 : -2147483648 ≤ v := by omega
      have hv1 : v ≤ 2147483647 := by omega
      k_steps
      rename BitsIs _ _ _ => hbi
      rename ∀ p : Addr × Obj, p ∈ _ → p ∈ _ => sb
      rename ∀ p : Addr × Obj, p ∈ nw₁ → p ∈ _ => sa
      rename _ = PySem.Builtin.bitOr _ _ => eo
      refine' ret _ _ _ _ _ ?y0 ?y1 ?y2 ?y3
      case y2 => assumption
      case y3 => assumption
      case y1 => exact fun p hp => sb p (sa p (sub₁ p hp))
      case y0 => exact .inr ⟨hI, v, _, hV, hfit, hbi, eo⟩
theorem kw_W17_2 : True := by
  k_with_none
  trivial
end
end Mine
end
section
open PySem PySem.W PyProof.Rows PySem.Spec PySem.Calls
set_option maxHeartbeats 400000
namespace Mine
/-- the fields that the program reads -/
def DecIs (f : Fm) (n : Int) (ks : List (PySem.Str × Int)) : Prop :=
  (hasImm f = false ∧ ks = regRead n (rgOf f)) ∨ (hasImm f = true ∧ ∃ v, ImmIs f.str n v ∧ ks = regRead n (rgOf f) ++ [(("imm" : PySem.Str), v)])
section
variable {w : World} {mean : ExcName → Option Value} {mg mb : PySem.Str → Option Value} {dp un : Nat} {gd : Option (List Code)} {cn : PySem.Str} {cs : Scope} {a : Addr} {ccd : Value} {cl : List (PySem.Str × Addr)} {outer : List Env} {A₀ : Around} {base h₀ : Heap} {L : Addr} {m : PySem.Str → Option Value} {s : Shared} {Q E : Value → Shared → Prop} {news : List (Addr × Obj)}

theorem and31_c {A : Around} {y : Int} {t u : Tok} (ret : ∀ z t, z = y % 32 → Q (.int z t) { s with toks := s.toks + 1 }) : wpAny (model pr w) A (binaryOp .BitAnd (.int y t) (.int 31 u)) Q E s := by
  refine PyProof.Rows.and_int ?_
  rw [bitAnd_m5]
  exact ret _ _ rfl
theorem eqs_c {A : Around} {x y : PySem.Str} {t u : Tok} {b : Bool} (hb : (x == y) = b) (ret : Q (.bool b) s) : wpAny (model pr w) A (compareOp .Eq (.str x t) (.str y u)) Q E s := by
  subst hb
  exact PyProof.Rows.eq_str ret
theorem bd_in {A : Around} {f : Fm} {t : Tok} {b : Bool} (hb : hasImm f = b) (F : Fr h₀ L s.heap m) (X : (K w.params).In h₀) (ret : Q (.bool b) { s with toks := s.toks + 1 }) : wpAny (model pr w) A (compareOp .In (.str f.str t) (.ref 109)) Q E s :=
  sd_in ((bd_dict X).keep F.keep) rfl (strKind_is _ _ _ _) _ ((bd_some f).trans hb) ret
theorem kw_W18_1 : True := by
  k_with_none
  k_with "subs2" => first | assumption | exact fun p hp => List.Mem.tail _ (hp) | exact fun p hp => List.Mem.tail _ (List.Mem.tail _ (hp)) | exact fun p hp => List.Mem.tail _ (List.Mem.tail _ (List.Mem.tail _ (hp))) | exact fun p hp => List.Mem.tail _ (List.Mem.tail _ (List.Mem.tail _ (List.Mem.tail _ (hp))))
  k_with "pyIter ref" => (k_here; refine Stop.out ?_)
  k_with "exec For" => (k_here; refine For_invTF (by k_asm) ?_ (fun _ => by rfl))
  k_with "eval Name" => (k_here; k_dflt (refine' nameX_L ?zF ?zv ?_ ?za ?zb; (case zF => k_asm); (case za => rfl); (case zb => rfl); (case zv => first | rfl | assumption); k_whole))
  k_with "eval Call" => (k_here; k_dflt (refine Call_ ?_))
  k_with "binaryOp BitAnd int int" => (k_here; k_dflt (refine' and31_c ?_; intro _ _ _))
  k_with "binaryOp RShift int int" => (k_here; k_dflt (refine' shr_c ?z0 ?_; (case z0 => assumption); intro _ _ _))
  k_with "compareOp Eq str str" => (k_here; k_dflt (refine' eqs_c ?z0 ?_; (case z0 => assumption)))
  k_with "compareOp In str ref" => (k_here; k_dflt (refine' bd_in ?zb ?zF ?zX ?_; (case zb => assumption); (case zF => k_asm); (case zX => k_asm)))
  k_with "setItem ref str" => (k_here; k_dflt (refine' fd_set ?zF ?zN ?zd ?zk ?zl ?_; (case zF => k_asm); (case zN => k_asm); (case zd => first | assumption | exact FdAt.mono (by assumption) (by walk_at "subs2")); (case zk => assumption); (case zl => assumption); intro _ _ _ _ _ _))
  k_with "subscriptTail" => (k_here; k_dflt (first | (refine' ins_item ?zF ?zX ?zr ?_; (case zF => k_asm); (case zX => k_asm); (case zr => assumption); intro _ _ _ _) | (refine' pl_item ?zF ?zX ?_; (case zF => k_asm); (case zX => k_asm); intro _ _ _ _) | (refine' tup0_c ?zF ?zt ?zl ?_; (case zF => k_asm); (case zt => assumption); (case zl => decide))))
  k_with "call ref" => (k_here; k_dflt (first | (refine' name_c _ _ ?zB ?zF ?zX ?zT ?zk ?zd ?zu ?zN ?z0 ?z1 ?_; (case zB => k_asm); (case zF => k_asm); (case zX => k_asm); (case zT => k_asm); (case zk => exact rfl); (case zd => ktr_room); (case zu => ktr_units); (case zN => k_asm); (case z0 => assumption); (case z1 => assumption); intro x9 t9 nw9 h9 tk9 nm9 sub9 F9 N9; (rename ∀ x, NameIs _ x → x = _ => hN9); (have ex9 := hN9 _ nm9); subst ex9) | (refine' immof_c _ _ rfl _ _ _ ?zB ?zF ?zX ?zT ?zk ?zd ?zu ?zN ?z0 ?z1 ?_; (case zB => k_asm); (case zF => k_asm); (case zX => k_asm); (case zT => k_asm); (case zk => exact rfl); (case zd => ktr_room); (case zu => ktr_units); (case zN => k_asm); (case z0 => assumption); (case z1 => assumption); intro b7 t7 nw7 h7 tk7 bi7 sub7 F7 N7; (have fd7 := FdAt.mono (by assumption) sub7))))
  trivial
theorem decode_none (n : Int) (tn : Tok) (B : Below A₀ base outer h₀) (F : Fr h₀ L s.heap m) (X : (K w.params).In h₀) (T : Top vq lo mean mg mb h₀) (hk : cs.kind = .function) (hd : dp + 35 < recursionLimit) (hu : un + 430 < cLine)
    (N : News h₀ L s.heap news) (hn0 : 0 ≤ n) (hn1 : n < 4294967296) (hN : ∀ x, NameIs n x → x = "")
    (ret : ∀ news' h' tk', (∀ p ∈ news, p ∈ news') → Fr h₀ L h' m → News h₀ L h' news' → Q .none { s with heap := h', toks := tk' }) :
    wpAny (model pr w) (ktrTop dp un gd cn cs L a ccd cl outer) (call (.ref 369) [.int n tn]) Q E s := by
  refine wpAny_call ?_
  k_dflt (refine' enterD [("word", .int n tn)] ?k1 ?k2 ?k3 ?k4 ?k5 ?kA ?kF ?kK ?k6 ?k7 ?k8 ?k9 ?kB ?_ ?c2 ?c3 ?c4 ?c5; (case kA => exact rfl); (case kF => exact rfl); (case kK => assumption); (case k1 => k_asm); (case k2 => k_asm); (case k3 => k_asm); (case k4 => k_asm); (case k5 => k_asm); (case k6 => k_is); (case k7 => k_is); (case k8 => ktr_room); (case k9 => exact BindsTo.of_eq rfl); (case c5 => decide); (case kB => exact locs rfl); (case c2 => exact rfl); (case c3 => exact rfl); (case c4 => exact rfl); k_whole; intro g' L' h' tk' FG' F' N' B' X' T'; (try dsimp only); (try k_fold))
  have hne : (("" : PySem.Str) == "") = true := by decide
  k_steps
  refine' ret _ _ _ ?y1 ?y2 ?y3
  case y2 => assumption
  case y3 => assumption
  case y1 => assumption
theorem nm_ne {r : Row} (h : r ∈ rowsL) : (r.nm == ("" : PySem.Str)) = false := by
  have e : ∀ r ∈ rowsL, (r.nm == ("" : PySem.Str)) = false := by decide +kernel
  exact e r h
set_option maxHeartbeats 4000000 in
theorem decode_c (r : Row) (hr : r ∈ rowsL) (n : Int) (tn : Tok) (B : Below A₀ base outer h₀) (F : Fr h₀ L s.heap m) (X : (K w.params).In h₀) (T : Top vq lo mean mg mb h₀) (hk : cs.kind = .function) (hd : dp + 35 < recursionLimit) (hu : un + 430 < cLine)
    (N : News h₀ L s.heap news) (hn0 : 0 ≤ n) (hn1 : n < 4294967296) (hN : ∀ x, NameIs n x → x = r.nm)
    (ret : ∀ D d t ks news' h' tk', DecIs r.f n ks → (D, tupO [.str r.nm t, .ref d]) ∈ news' → FdAt w news' d ks → (∀ p ∈ news, p ∈ news') → Fr h₀ L h' m → News h₀ L h' news' → Q (.ref D) { s with heap := h', toks := tk' }) :
    wpAny (model pr w) (ktrTop dp un gd cn cs L a ccd cl outer) (call (.ref 369) [.int n tn]) Q E s := by
  refine wpAny_call ?_
  k_dflt (refine' enterD [("word", .int n tn)] ?k1 ?k2 ?k3 ?k4 ?k5 ?kA ?kF ?kK ?k6 ?k7 ?k8 ?k9 ?kB ?_ ?c2 ?c3 ?c4 ?c5; (case kA => exact rfl); (case kF => exact rfl); (case kK => assumption); (case k1 => k_asm); (case k2 => k_asm); (case k3 => k_asm); (case k4 => k_asm); (case k5 => k_asm); (case k6 => k_is); (case k7 => k_is); (case k8 => ktr_room); (case k9 => exact BindsTo.of_eq rfl); (case c5 => decide); (case kB => exact locs rfl); (case c2 => exact rfl); (case c3 => exact rfl); (case c4 => exact rfl); k_whole; intro g' L' h' tk' FG' F' N' B' X' T'; (try dsimp only); (try k_fold))
  have hne := nm_ne hr
  k_steps
  rename_i hA tkA a5 t5 u5 i5 hB d hC o ld los hs fs hi fi hD F9 N9 a6 vs6 i6 rs6
  have fd0 : FdAt w ((d, o) :: nw9) d [] := ⟨o, [], .head _, hs, .nil, los⟩
  refine ⟨?_⟩
  refine iterT (fun i m₁ nw' => (m₁ "fields" = some (.ref d) ∧ m₁ "word" = some (.int n tn) ∧ m₁ "form" = some (.str r.f.str t5) ∧ ∃ t, m₁ "name" = some (.str r.nm t)) ∧ (∀ p ∈ news, p ∈ nw') ∧ FdAt w nw' d (regRead n ((rgOf r.f).take i))) rfl i6 F9 N9 ?j0 ?turn ?done
  case j0 => exact ⟨⟨rfl, rfl, rfl, _, rfl⟩, fun p hp => .tail _ (sub9 p hp), fd0⟩
  case turn =>
    rintro i v m₁ nw₁ s₁ it ito hv ⟨fs9, hfs⟩ hit ⟨⟨n1, n2, n3, n4⟩, sub₁, fd⟩ F₁ N₁
    obtain ⟨D', key, y, t, u, rfl, hD, hi⟩ := rs6.get hv
    have hnk : key ∉ (regRead n ((rgOf r.f).take i)).map (·.1) := by rw [regRead_keys]; exact take_fresh (·.1) _ i _ (rg_nodup r.f) hi
    have hl4 : (regRead n ((rgOf r.f).take i)).length ≤ 100 := by unfold regRead; rw [List.length_map, List.length_take]; have e := rg_len r.f; omega
    have hy := rg_place (List.mem_of_getElem? hi)
    have hy0 : 0 ≤ y := hy.1
    have fd₂ := fd.mono (news' := (it, ito) :: nw₁) (fun p hp => .tail _ hp)
    clear fd
    k_steps
    rename _ = _ / _ => e5
    rename _ = _ % _ => e3
    rename_i nw8 h8 fd8 kp8 F8 N8
    have hF1x : ∃ h, News g' L' h ((it, ito) :: nw₁) := ⟨_, by assumption⟩
    obtain ⟨_, hF1⟩ := hF1x
    have hit8 : (it, ito) ∈ nw8 := kp8 _ (.head _) (fd₂.ne_fields hF1 (.head _) hfs)
    refine TurnEnd.intro F8 N8 hit8 ⟨⟨n1, n2, n3, n4⟩, ?_, ?_⟩
    · exact fun p hp => drop_mem (kp8 _ (.tail _ (sub₁ p hp)) (Nat.ne_of_lt (ld p (sub9 p hp)))) (hit _ (sub₁ p hp))
    · rw [regRead_succ hi]
      rw [e3, e5] at fd8
      exact fd8.drop N8 hit8 hfs
  case done =>
    rintro m₁ nw₁ h₁ tk₁ ⟨⟨n1, n2, n3, tn4, n4⟩, sub₁, fd⟩ F₁ N₁
    rw [rs6.length, List.take_length] at fd
    have him : (("imm" : PySem.Str)) ∉ (regRead n (rgOf r.f)).map (·.1) := by rw [regRead_keys]; cases r.f <;> decide
    have hl4 : (regRead n (rgOf r.f)).length ≤ 100 := by unfold regRead; rw [List.length_map]; have e := rg_len r.f; omega
    cases hI : hasImm r.f with
    | false =>
      k_steps
      refine' ret _ d _ _ _ _ _ ?y4 ?y5 (FdAt.cons fd) ?y1 ?y2 ?y3
      case y2 => assumption
      case y3 => assumption
      case y5 => exact .head _
      case y4 => exact .inl ⟨hI, rfl⟩
      case y1 => exact fun p hp => .tail _ (sub₁ p hp)
    | true =>
      k_steps
      rename Kept _ _ _ => kp
      rename ImmIs _ _ _ => hi7
      rename ∀ p : Addr × Obj, p ∈ nw₁ → p ∈ _ => sb
      rename FdAt _ _ _ _ => fd8
      refine' ret _ d _ _ _ _ _ ?y4 ?y5 (FdAt.cons fd8) ?y1 ?y2 ?y3
      case y2 => assumption
      case y3 => assumption
      case y5 => exact .head _
      case y4 => exact .inr ⟨hI, _, hi7, rfl⟩
      case y1 => exact fun p hp => .tail _ (kp p (sb p (sub₁ p hp)) (Nat.ne_of_lt (ld p (sub9 p hp))))
theorem kw_W18_2 : True := by
  k_with_none
  trivial
end
end Mine
end
section
open PySem PySem.W PyProof.Rows PySem.Spec PySem.Calls
set_option maxHeartbeats 400000
namespace Mine
/-- the register is fit -/
def RegOk (ks : List (PySem.Str × Int)) (q : PySem.Str × Int) : Prop := 0 ≤ (fdAt ks q.1).getD (-1) ∧ (fdAt ks q.1).getD (-1) < 32
/-- what the encoder refuses -/
def EncBad (r : Row) (ks : List (PySem.Str × Int)) : Prop :=
  (∃ q ∈ rgOf r.f, ¬ RegOk ks q) ∨ (hasImm r.f = true ∧ (fdAt ks "imm" = none ∨ ∃ v, fdAt ks "imm" = some v ∧ ¬ FitS r.f v))
section
variable {w : World} {mean : ExcName → Option Value} {mg mb : PySem.Str → Option Value} {dp un : Nat} {gd : Option (List Code)} {cn : PySem.Str} {cs : Scope} {a : Addr} {ccd : Value} {cl : List (PySem.Str × Addr)} {outer : List Env} {A₀ : Around} {base h₀ : Heap} {L : Addr} {m : PySem.Str → Option Value} {s : Shared} {Q E : Value → Shared → Prop} {news : List (Addr × Obj)}

theorem fd_no {A : Around} {d : Addr} {ks : List (PySem.Str × Int)} {k : PySem.Str} {tk : Tok} (N : News h₀ L s.heap news) (hd : FdAt w news d ks) (hk : fdAt ks k = none) (ret : Q (.bool true) { s with toks := s.toks + 1 }) :
    wpAny (model pr w) A (compareOp .NotIn (.str k tk) (.ref d)) Q E s := by
  obtain ⟨o, kvs, hm, hdo, hf, hs⟩ := hd
  refine kdg_notin N hm hdo hs (strKind_is _ _ _ _) _ rfl ?_
  rcases hf.at k with ⟨h1, h2⟩ | ⟨n, t, h1, h2⟩
  · rw [h2]; exact ret
  · rw [hk] at h1; cases h1
theorem fdb_get {A : Around} {d : Addr} {ks : List (PySem.Str × Int)} {k : PySem.Str} {tk td : Tok} {df : Int} (N : News h₀ L s.heap news) (hd : FdAt w news d ks) (ret : ∀ n t, n = (fdAt ks k).getD df → Q (.int n t) { s with toks := s.toks + 1 }) :
    wpAny (model pr w) A (call (.builtin "dict.get") [.ref d, .str k tk, .int df td]) Q E s := by
  obtain ⟨o, kvs, hm, hdo, hf, hs⟩ := hd
  refine kdg_get2 N hm hdo hs (strKind_is _ _ _ _) _ rfl ?_
  rcases hf.at k with ⟨h1, h2⟩ | ⟨n, t, h1, h2⟩ <;> rw [h2] <;> exact ret _ _ (by rw [h1]; rfl)
theorem add1_c {A : Around} {x y : PySem.Str} {t u : Tok} (hx : x.length ≤ 40) (hy : y.length ≤ 40) (ret : ∀ z t' tk, z.length ≤ 80 → Q (.str z t') { s with toks := tk }) : wpAny (model pr w) A (binaryOp .Add (.str x t) (.str y u)) Q E s :=
  PyProof.Rows.add_str (fun t' tk => ret _ t' tk (by rw [PySem.Str.length_append]; omega)) (by rw [sizeLine_eq]; omega)
theorem add2_c {A : Around} {x y : PySem.Str} {t u : Tok} (hx : x.length ≤ 80) (hy : y.length ≤ 40) (ret : ∀ z t' tk, Q (.str z t') { s with toks := tk }) : wpAny (model pr w) A (binaryOp .Add (.str x t) (.str y u)) Q E s :=
  PyProof.Rows.add_str (fun t' tk => ret _ t' tk) (by rw [sizeLine_eq]; omega)
theorem rg_short {f : Fm} {q : PySem.Str × Int} (h : q ∈ rgOf f) : q.1.length ≤ 40 := by
  have e : ∀ f : Fm, ∀ q ∈ rgOf f, q.1.length ≤ 40 := by intro f; cases f <;> decide
  exact e f q h
theorem nm_short {r : Row} (h : r ∈ rowsL) : r.nm.length ≤ 40 := by
  have e : ∀ r ∈ rowsL, r.nm.length ≤ 40 := by decide +kernel
  exact e r h
theorem kw_E3_1 : True := by
  k_with_none
  k_with "exec For" => (k_here; refine For_tup (by k_asm) ?_ (fun _ => by rfl))
  k_with "exec Raise some none" => (k_here; k_dflt (refine Raise_o (by rfl) ?_))
  k_with "eval Name" => (k_here; k_dflt (refine' nameX_L ?zF ?zv ?_ ?za ?zb; (case zF => k_asm); (case za => rfl); (case zb => rfl); (case zv => first | rfl | assumption); k_whole))
  k_with "eval Call" => (k_here; k_dflt (refine Call_ ?_))
  k_with "getMethod ref" => (k_here; k_dflt (refine' fd_method ?zN ?zd ?_; (case zN => k_asm); (case zd => assumption)))
  k_with "call builtin:dict.get" => (k_here; k_dflt (refine' fdb_get ?zN ?zd ?_; (case zN => k_asm); (case zd => assumption); intro _ _ _))
  k_with "binaryOp BitOr int int" => (k_here; k_dflt (refine' or_c ?_; intro _ _ _))
  k_with "binaryOp LShift int int" => (k_here; k_dflt (refine' shl_a ?z0 ?z1 ?z2 ?z3 ?_; (case z0 => omega); (case z1 => omega); (case z2 => assumption); (case z3 => assumption); intro _ _ _))
  k_with "compareOp NotIn str ref" => (k_here; k_dflt (first | (refine' ins_notin ?zF ?zX ?zr ?_; (case zF => k_asm); (case zX => k_asm); (case zr => assumption)) | (refine' bd_notin ?zF ?zX ?_; (case zF => k_asm); (case zX => k_asm)) | (refine' fd_no ?zN ?zd ?zk ?_; (case zN => k_asm); (case zd => assumption); (case zk => assumption)) | (refine' fd_yes ?zN ?zd ?zk ?_; (case zN => k_asm); (case zd => assumption); (case zk => assumption))))
  k_with "binaryOp Add str str" => (k_here; k_dflt (first | (refine' add1_c ?z0 ?z1 ?_; (case z0 => first | assumption | decide); (case z1 => first | assumption | decide); intro _ _ _ _) | (refine' add2_c ?z0 ?z1 ?_; (case z0 => first | assumption | decide); (case z1 => first | assumption | decide); intro _ _ _)))
  k_with "subscriptTail" => (k_here; k_dflt (first | (refine' ins_item ?zF ?zX ?zr ?_; (case zF => k_asm); (case zX => k_asm); (case zr => assumption); intro _ _ _ _) | (refine' pl_item ?zF ?zX ?_; (case zF => k_asm); (case zX => k_asm); intro _ _ _ _) | (refine' fd_item ?zN ?zd ?zk ?_; (case zN => k_asm); (case zd => assumption); (case zk => assumption); intro _)))
  k_with "call ref" => (k_here; k_dflt (first | (refine' fits_c _ ?zr ?zI _ _ _ ?zB ?zF ?zX ?zT ?zk ?zd ?zu ?zN ?z0 ?z1 ?_; (case zr => assumption); (case zI => assumption); (case zB => k_asm); (case zF => k_asm); (case zX => k_asm); (case zT => k_asm); (case zk => exact rfl); (case zd => ktr_room); (case zu => ktr_units); (case zN => k_asm); (case z0 => assumption); (case z1 => assumption); intro b9 nw9 h9 tk9 fi9 sub9 F9 N9; (have ht9 : b9 = false := by cases b9 with | false => rfl | true => exact absurd (fi9.mp rfl) (by assumption)); subst ht9) | (refine' call_exc_c _ _ _ ?zB ?zF ?zX ?zT ?zk ?zd ?zu ?zN ?_; (case zB => k_asm); (case zF => k_asm); (case zX => k_asm); (case zT => k_asm); (case zk => exact rfl); (case zd => ktr_room); (case zu => ktr_units); (case zN => k_asm); intro _ _ _ _ _ _ _ _; refine Stop.out ?_)))
  trivial
set_option maxHeartbeats 4000000 in
theorem encode_b (r : Row) (hr : r ∈ rowsL) (d : Addr) (ks : List (PySem.Str × Int)) (tx : Tok) (B : Below A₀ base outer h₀) (F : Fr h₀ L s.heap m) (X : (K w.params).In h₀) (T : Top vq lo mean mg mb h₀) (hk : cs.kind = .function) (hd : dp + 35 < recursionLimit) (hu : un + 430 < cLine)
    (N : News h₀ L s.heap news) (hfd : FdAt w news d ks) (hb : ∀ v, fdAt ks "imm" = some v → -2147483648 ≤ v ∧ v ≤ 2147483647) (bad : EncBad r ks)
    (ret : ∀ e G h' tk', Fr h₀ L G m → RaisedSN base G (envX cn cs L a ccd cl :: outer) e (.ref 31) news h' → G.UpToSlots h' → E (.ref e) { s with heap := h', toks := tk' }) :
    wpAny (model pr w) (ktrTop dp un gd cn cs L a ccd cl outer) (call (.ref 151) [.str r.nm tx, .ref d]) Q E s := by
  refine wpAny_call ?_
  k_dflt (refine' enterD [("name", .str r.nm tx), ("fields", .ref d)] ?k1 ?k2 ?k3 ?k4 ?k5 ?kA ?kF ?kK ?k6 ?k7 ?k8 ?k9 ?kB ?_ ?c2 ?c3 ?c4 ?c5; (case kA => exact rfl); (case kF => exact rfl); (case kK => assumption); (case k1 => k_asm); (case k2 => k_asm); (case k3 => k_asm); (case k4 => k_asm); (case k5 => k_asm); (case k6 => k_is); (case k7 => k_is); (case k8 => ktr_room); (case k9 => exact BindsTo.of_eq rfl); (case c5 => decide); (case kB => exact locs rfl); (case c2 => exact rfl); (case c3 => exact rfl); (case c4 => exact rfl); k_whole; intro g' L' h' tk' FG' F' N' B' X' T'; (try dsimp only); (try k_fold))
  have hnl := nm_short hr
  k_steps
  rename RS _ _ _ => rs6
  rename_i a5 t5 u5 i5 hh5 hh6 hh7 F6 N6 a6 vs6 i6
  refine ⟨_, _, _, _, (fun i m₁ nw' => (m₁ "name" = some (.str r.nm tx) ∧ m₁ "fields" = some (.ref d) ∧ m₁ "form" = some (.str r.f.str t5)) ∧ FdAt w nw' d ks ∧ (∀ p ∈ news, p ∈ nw') ∧ (∀ q ∈ (rgOf r.f).take i, RegOk ks q) ∧ ∃ n t, m₁ "found" = some (.int n t)), rfl, rfl, i6, F6, N6, ?j0, ?turn, ?done⟩
  case j0 => exact ⟨⟨rfl, rfl, rfl⟩, hfd, fun _ h => h, fun _ h => (nomatch h), _, _, rfl⟩
  case turn =>
    rintro i v m₁ nw₁ h₁ tk₁ it ito hv ⟨fs9, hfs⟩ hit ⟨⟨n1, n2, n3⟩, fd, sub₁, ok, nf, tf, n4⟩ F₁ N₁
    obtain ⟨D', key, y, t, u, rfl, hD, hi⟩ := rs6.get hv
    have hy := rg_place (List.mem_of_getElem? hi)
    have hkl : key.length ≤ 40 := rg_short (List.mem_of_getElem? hi)
    have hy0 : 0 ≤ y := hy.1
    have hy1 : y ≤ 31 := hy.2
    have fd₂ := fd.mono (news' := (it, ito) :: nw₁) (fun p hp => .tail _ hp)
    k_steps
    all_goals first
      | (refine ⟨?_⟩
         refine raise_fin (news := news) B' (show Fr g' _ _ _ by assumption) (show News g' _ _ _ by assumption) (by assumption) ?_ X' rfl (fun h8 R8 U8 => ?_)
         · exact fun p hp => .tail _ (sub₁ p hp)
         · exact ret _ g' h8 _ FG' R8 U8)
      | (refine' TurnEnd.same ?zF ?zN hit ?zJ
         case zF => assumption
         case zN => assumption
         case zJ =>
         refine ⟨⟨n1, n2, n3⟩, fd, sub₁, ?_, _, _, rfl⟩
         intro q hq
         rw [List.take_add_one, hi, List.mem_append] at hq
         rcases hq with hq | hq
         · exact ok q hq
         · have hq' : q = (key, y) := by simpa using hq
           subst hq'
           show 0 ≤ (fdAt ks key).getD (-1) ∧ (fdAt ks key).getD (-1) < 32
           rename _ = (fdAt ks key).getD (-1) => e4
           rw [← e4]
           constructor <;> omega)
  case done =>
    rintro m₁ nw₁ h₁ tk₁ ⟨⟨n1, n2, n3⟩, fd, sub₁, ok, nf, tf, n4⟩ F₁ N₁
    rw [rs6.length, List.take_length] at ok
    have hbad : hasImm r.f = true ∧ (fdAt ks "imm" = none ∨ ∃ v, fdAt ks "imm" = some v ∧ ¬ FitS r.f v) := by
      rcases bad with ⟨q, hq, hn⟩ | h
      · exact absurd (ok q hq) hn
      · exact h
    obtain ⟨hI, hV | ⟨v, hV, hfit⟩⟩ := hbad
    · k_steps
      refine ⟨?_⟩
      refine raise_fin (news := news) B' (show Fr g' _ _ _ by assumption) (show News g' _ _ _ by assumption) (by assumption) ?_ X' rfl (fun h8 R8 U8 => ?_)
      · exact sub₁
      · exact ret _ g' h8 _ FG' R8 U8
    · have hv0 := (hb v hV).1
      have hv1 := (hb v hV).2
      k_steps
      refine ⟨?_⟩
      refine raise_fin (news := news) B' (show Fr g' _ _ _ by assumption) (show News g' _ _ _ by assumption) (by assumption) ?_ X' rfl (fun h8 R8 U8 => ?_)
      · exact fun p hp => (show ∀ p ∈ nw₁, p ∈ _ by assumption) p (sub₁ p hp)
      · exact ret _ g' h8 _ FG' R8 U8
theorem ins_in {A : Around} {x : PySem.Str} {t : Tok} (F : Fr h₀ L s.heap m) (X : (K w.params).In h₀) (hx : (valueAt kvIns x).isSome = false) (ret : Q (.bool true) { s with toks := s.toks + 1 }) : wpAny (model pr w) A (compareOp .NotIn (.str x t) (.ref 35)) Q E s :=
  sd_notin ((ins_dict X).keep F.keep) rfl (strKind_is _ _ _ _) false hx ret
theorem kw_E3_2 : True := by
  k_with "compareOp NotIn str ref" => (k_here; k_dflt (refine' ins_in ?zF ?zX ?zr ?_; (case zF => k_asm); (case zX => k_asm); (case zr => assumption)))
  trivial
theorem encode_n (x : PySem.Str) (hx : (valueAt kvIns x).isSome = false) (hnl : x.length ≤ 40) (d : Addr) (tx : Tok) (B : Below A₀ base outer h₀) (F : Fr h₀ L s.heap m) (X : (K w.params).In h₀) (T : Top vq lo mean mg mb h₀) (hk : cs.kind = .function) (hd : dp + 35 < recursionLimit) (hu : un + 430 < cLine)
    (N : News h₀ L s.heap news)
    (ret : ∀ e G h' tk', Fr h₀ L G m → RaisedSN base G (envX cn cs L a ccd cl :: outer) e (.ref 31) news h' → G.UpToSlots h' → E (.ref e) { s with heap := h', toks := tk' }) :
    wpAny (model pr w) (ktrTop dp un gd cn cs L a ccd cl outer) (call (.ref 151) [.str x tx, .ref d]) Q E s := by
  refine wpAny_call ?_
  k_dflt (refine' enterD [("name", .str x tx), ("fields", .ref d)] ?k1 ?k2 ?k3 ?k4 ?k5 ?kA ?kF ?kK ?k6 ?k7 ?k8 ?k9 ?kB ?_ ?c2 ?c3 ?c4 ?c5; (case kA => exact rfl); (case kF => exact rfl); (case kK => assumption); (case k1 => k_asm); (case k2 => k_asm); (case k3 => k_asm); (case k4 => k_asm); (case k5 => k_asm); (case k6 => k_is); (case k7 => k_is); (case k8 => ktr_room); (case k9 => exact BindsTo.of_eq rfl); (case c5 => decide); (case kB => exact locs rfl); (case c2 => exact rfl); (case c3 => exact rfl); (case c4 => exact rfl); k_whole; intro g' L' h' tk' FG' F' N' B' X' T'; (try dsimp only); (try k_fold))
  k_steps
  refine ⟨?_⟩
  refine raise_fin (news := news) B' (show Fr g' _ _ _ by assumption) (show News g' _ _ _ by assumption) (by assumption) ?_ X' rfl (fun h8 R8 U8 => ?_)
  · exact fun p hp => hp
  · exact ret _ g' h8 _ FG' R8 U8
theorem kw_E3_3 : True := by
  k_with_none
  trivial
end
end Mine
end
section
open PySem PySem.W PyProof.Rows PySem.Spec PySem.Calls
set_option maxHeartbeats 400000
namespace Mine
/-- a call that the encoder refuses -/
def BadCall (x : PySem.Str) (ks : List (PySem.Str × Int)) : Prop :=
  (∃ r ∈ rowsL, x = r.nm ∧ EncBad r ks ∧ ∀ v, fdAt ks "imm" = some v → -2147483648 ≤ v ∧ v ≤ 2147483647) ∨ ((valueAt kvIns x).isSome = false ∧ x.length ≤ 40)
section
variable {w : World} {mean : ExcName → Option Value} {mg mb : PySem.Str → Option Value} {dp un : Nat} {gd : Option (List Code)} {cn : PySem.Str} {cs : Scope} {a : Addr} {ccd : Value} {cl : List (PySem.Str × Addr)} {outer : List Env} {A₀ : Around} {base h₀ : Heap} {L : Addr} {m : PySem.Str → Option Value} {s : Shared} {Q E : Value → Shared → Prop} {news : List (Addr × Obj)}

theorem encode_bn (x : PySem.Str) (ks : List (PySem.Str × Int)) (bad : BadCall x ks) (d : Addr) (tx : Tok) (B : Below A₀ base outer h₀) (F : Fr h₀ L s.heap m) (X : (K w.params).In h₀) (T : Top vq lo mean mg mb h₀) (hk : cs.kind = .function) (hd : dp + 35 < recursionLimit) (hu : un + 430 < cLine)
    (N : News h₀ L s.heap news) (hfd : FdAt w news d ks)
    (ret : ∀ e G h' tk', Fr h₀ L G m → RaisedSN base G (envX cn cs L a ccd cl :: outer) e (.ref 31) news h' → G.UpToSlots h' → E (.ref e) { s with heap := h', toks := tk' }) :
    wpAny (model pr w) (ktrTop dp un gd cn cs L a ccd cl outer) (call (.ref 151) [.str x tx, .ref d]) Q E s := by
  rcases bad with ⟨r, hr, rfl, eb, hb⟩ | ⟨hn, hl⟩
  · exact encode_b r hr d ks tx B F X T hk hd hu N hfd hb eb ret
  · exact encode_n x hn hl d tx B F X T hk hd hu N ret
theorem kw_E4_1 : True := by
  k_with_none
  k_with "call ref" => (k_here; refine Stop.out ?_)
  k_with "handleBy ref" => (k_here; (k_dflt (refine' hit_SN0 ?R ?F ?K ?U ?XB ?TB ?D ?T0 ?T ?_ ?hE; (case hE => exact (show ∀ e : Addr, PassesOwnAt _ (Around.mark _ (some (Value.ref e))) _ _ _ by assumption) _); (case R => assumption); (case F => assumption); (case K => assumption); (case U => assumption); (case XB => exact BaseOk.x (by assumption)); (case TB => exact BaseOk.t (by assumption)); (case D => assumption); (case T0 => exact KtsTurn.refl); (case T => kts_test); k_whole); intro _ _ _ _ _ _ _ _ _))
  trivial
set_option maxHeartbeats 4000000 in
theorem refused_t (g : Heap) (L2 : Addr) (x : PySem.Str) (tx : Tok) (ks : List (PySem.Str × Int)) (bad : BadCall x ks) (d : Addr) (hk : cs.kind = .function) (hd : dp + 40 < recursionLimit) (hu : un + 450 < cLine)
    (B' : Below (ktrTop dp un gd cn cs L a ccd cl outer) base (envX cn cs L a ccd cl :: outer) g) (F' : Fr g L2 s.heap (fun y => [(("name" : PySem.Str), Value.str x tx), (("fields" : PySem.Str), Value.ref d)].reverse.lookup y)) (N' : News g L2 s.heap news) (hfd : FdAt w news d ks) (X' : (K w.params).In g) (T' : Top vq lo mean mg mb g)
    (XT : BaseOk w mean mg mb base) (D : KtsDicts ((envX cn cs L a ccd cl :: outer).filterMap (·.frame)) g)
    (hE : ∀ e : Addr, PassesOwnAt (model pr w) (((ktrTop dp un gd cn cs L a ccd cl outer).deeper (envOf "_law_refused" (fdS (stm 33)) L2 442 (.ref 441))).mark (some (.ref e))) ((ktrTop dp un gd cn cs L a ccd cl outer).deeper (envOf "_law_refused" (fdS (stm 33)) L2 442 (.ref 441))) (envOf "_law_refused" (fdS (stm 33)) L2 442 (.ref 441)) E)
    {Qf : Flow → Shared → Prop} (ret : ∀ g' h' tk', KtsTurn ((envX cn cs L a ccd cl :: outer).filterMap (·.frame)) g g' → (∀ b o, g'.get? b = some o → h'.get? b = some o) → News g' L2 h' news → Qf (.ret (.bool true)) { s with heap := h', toks := tk' }) :
    wpAny (model pr w) ((ktrTop dp un gd cn cs L a ccd cl outer).deeper (envOf "_law_refused" (fdS (stm 33)) L2 442 (.ref 441))) (execs (fdB (stm 33)) (envOf "_law_refused" (fdS (stm 33)) L2 442 (.ref 441))) Qf E s := by
  k_steps
  refine ⟨?_⟩
  refine encode_bn x ks bad d tx B' (show Fr g _ _ _ by assumption) X' T' rfl (by ktr_room) (by ktr_units) (show News g _ _ _ by assumption) hfd (fun e G h8 tk8 FG R U => ?_)
  have R2 : RaisedSN base G (envOf "_law_refused" (fdS (stm 33)) L2 442 (.ref 441) :: envX cn cs L a ccd cl :: outer) e (.ref 31) news h8 := R
  clear R F' N'
  k_steps
  rename KtsTurn _ _ _ => kt
  exact ret _ _ _ kt (Fr.keep (show Fr _ L2 _ _ by assumption)) (by assumption)
theorem kw_E4_2 : True := by
  k_with_none
  trivial
end
end Mine
end
section
open PySem PySem.W PyProof.Rows PySem.Spec PySem.Calls
set_option maxHeartbeats 400000
namespace Mine
section
variable {w : World} {mean : ExcName → Option Value} {mg mb : PySem.Str → Option Value} {dp un : Nat} {gd : Option (List Code)} {cn : PySem.Str} {cs : Scope} {a : Addr} {ccd : Value} {cl : List (PySem.Str × Addr)} {outer : List Env} {A₀ : Around} {base h₀ : Heap} {L : Addr} {m : PySem.Str → Option Value} {s : Shared} {Q E : Value → Shared → Prop} {news : List (Addr × Obj)}

/-- into a def, told of the heap alone: what stands on `hid` is hidden from the ground -/
theorem enterH {A : Around} {R : Result → Shared → Prop} {name qual : PySem.Str} {params : Arguments} {body : List Stmt} {scope : Scope} {dV kV doc pm cdv ct oc : Value} {an od : Option Addr} {osl : Array (Option Value)} {f : Addr} {args : Args} {kF : Frag} {p : Program} {lo' : List PySem.Str} (binds : List (PySem.Str × Value)) (hid : List Addr)
    (SB : base.StaysIn s.heap) (XB : kF.In base) (TB : Top p lo' mean mg mb base) (hh : ∀ b ∈ hid, base.get? b = none)
    (ho : kF.lookup f = some ⟨oc, od, .func (fnOf name qual params body scope dV kV doc pm an cdv ct), osl⟩) (hcd : codeIn kF cdv qual = true) (hroom : A.depth < recursionLimit)
    (hbind : BindsTo s (fnOf name qual params body scope dV kV doc pm an cdv ct) args binds) (hloc : ∀ y ∈ binds, scope.names.lookup y.1 = some .local)
    (h : ∀ L' h₁, Fr (hideAll s.heap hid) L' h₁ (fun y => binds.reverse.lookup y) → (∀ b o, s.heap.get? b = some o → h₁.get? b = some o ∧ b ≠ L') → base.StaysIn (hideAll s.heap hid) → kF.In (hideAll s.heap hid) → Top p lo' mean mg mb (hideAll s.heap hid) →
      wpAny (model pr w) (A.deeper (envOf qual scope L' f cdv)) (execs body (envOf qual scope L' f cdv))
        (fun fl s' => R (.ok (.ret (match fl with | .ret v => v | _ => .none))) s')
        (fun e s' => wpAny (model pr w) (A.deeper (envOf qual scope L' f cdv)) («leaving» (envOf qual scope L' f cdv) e) (fun _ s'' => R (.error e) s'') (fun e' s'' => R (.error e') s'') s')
        { s with heap := h₁, toks := s.toks + binds.length })
    (hco : scope.isCoroutine = false) (hgen : scope.isGenerator = false) (hk : scope.kind = .function)
    (hcell : ∀ x ∈ scope.names, x.2 ≠ .cell) : codeAny (model pr w) A (.call (.ref f) args) R s := by
  have X := XB.keeps SB
  have st : base.StaysIn (hideAll s.heap hid) := fun b o e => hideAll_get _ (SB b o e) fun m => by
    rw [hh b m] at e
    cases e
  refine codeAny_call_def (fd := fnOf name qual params body scope dV kV doc pm an cdv ct) (body := body) (binds := binds) hroom (X _ _ ho) rfl (TB.nolimit.keeps SB) (codeRec_of X hcd) rfl hbind hcell hloc (fun h₁ hns hk₁ => ?_) hco hgen hk
  exact h s.heap.objs.size h₁ ⟨hns, fun b o e => hk₁ b o (of_hideAll _ e), Nat.le_of_eq (hideAll_size _ _)⟩ (fun b o e => ⟨hk₁ b o e, Nat.ne_of_lt (Heap.lt_size e)⟩) st (XB.keeps st) (TB.keeps st)
theorem refused_c (x : PySem.Str) (tx : Tok) (ks : List (PySem.Str × Int)) (bad : BadCall x ks) (d : Addr) (od : Obj) (hk : cs.kind = .function) (hd : dp + 45 < recursionLimit) (hu : un + 460 < cLine)
    (XT : BaseOk w mean mg mb base) (SB : base.StaysIn s.heap) (FF : s.heap.FunFrames base (envX cn cs L a ccd cl :: outer)) (D : KtsDicts ((envX cn cs L a ccd cl :: outer).filterMap (·.frame)) s.heap)
    (hfrm : (ktrTop dp un gd cn cs L a ccd cl outer).frames = some (envX cn cs L a ccd cl :: outer))
    (hod : s.heap.get? d = some od) (hdb : base.get? d = none) (hdf : d ∉ (envX cn cs L a ccd cl :: outer).filterMap (·.frame)) (hfd : FdAt w [(d, od)] d ks)
    (ret : ∀ h' tk', (∀ b o, s.heap.get? b = some o → b ∉ (envX cn cs L a ccd cl :: outer).filterMap (·.frame) → h'.get? b = some o) → (∀ b o, s.heap.get? b = some o → b ∈ (envX cn cs L a ccd cl :: outer).filterMap (·.frame) → ∃ sl, h'.get? b = some { o with slots := sl }) → Q (.bool true) { s with heap := h', toks := tk' }) :
    wpAny (model pr w) (ktrTop dp un gd cn cs L a ccd cl outer) (call (.ref 442) [.str x tx, .ref d]) Q E s := by
  refine wpAny_call ?_
  have hh : ∀ b ∈ [d], base.get? b = none := fun b hb => by
    obtain rfl := List.mem_singleton.mp hb
    exact hdb
  k_dflt (refine' enterH (lo' := lo) (p := vq) (mean := mean) (mg := mg) (mb := mb) (base := base) [("name", .str x tx), ("fields", .ref d)] [d] SB XT.x XT.t hh ?k6 ?k7 ?k8 ?k9 ?kB ?h ?c2 ?c3 ?c4 ?c5)
  case k6 => k_dflt k_is
  case k7 => k_dflt k_is
  case k8 => ktr_room
  case k9 => exact BindsTo.of_eq rfl
  case kB => exact locs rfl
  case c2 => rfl
  case c3 => rfl
  case c4 => rfl
  case c5 => decide
  case h =>
  intro L2 h₁ F1 kp st X1 T1
  have nd : ∀ b, b ∈ (envX cn cs L a ccd cl :: outer).filterMap (·.frame) → b ≠ d := fun b hb q => hdf (q ▸ hb)
  have g1 : ∀ b o, s.heap.get? b = some o → b ≠ d → (hideAll s.heap [d]).get? b = some o := fun b o e n => hideAll_get _ e (by simpa using n)
  have B1 : Below (ktrTop dp un gd cn cs L a ccd cl outer) base (envX cn cs L a ccd cl :: outer) (hideAll s.heap [d]) :=
    ⟨hfrm, st, funFrames_hideAll FF fun env he b hb hf => by
      obtain rfl := List.mem_singleton.mp hb
      exact hdf (List.mem_filterMap.mpr ⟨env, he, hf⟩)⟩
  have D1 : KtsDicts ((envX cn cs L a ccd cl :: outer).filterMap (·.frame)) (hideAll s.heap [d]) := fun b hb => by
    obtain ⟨o, es, n, ho, hdd⟩ := D b hb
    exact ⟨o, es, n, g1 b o ho (nd b hb), hdd⟩
  have N1 : News (hideAll s.heap [d]) L2 h₁ [(d, od)] := fun p hp => by
    obtain rfl := List.mem_singleton.mp hp
    exact ⟨(kp d od hod).1, (kp d od hod).2, hideAll_none _ (.head _)⟩
  refine refused_t (base := base) (hideAll s.heap [d]) L2 x tx ks bad d hk (by omega) (by omega) B1 F1 N1 hfd X1 T1 XT D1 (fun e => by passes_own) (fun g' h' tk' T' K' N' => ?_)
  refine ret h' tk' (fun b o e hb => ?_) (fun b o e hb => ?_)
  · by_cases q : b = d
    · subst q
      rw [hod] at e
      cases e
      exact (N' _ (.head _)).1
    · exact K' _ _ (T'.other b o (g1 b o e q) hb)
  · obtain ⟨sl, hs⟩ := T'.frame b o (g1 b o e (nd b hb)) hb
    exact ⟨sl, K' _ _ hs⟩
end
end Mine
end
section
open PySem PySem.W PyProof.Rows PySem.Spec PySem.Calls
set_option maxHeartbeats 400000
namespace Mine
def scI : Scope := { kind := .function, names := [(".0", .local), ("name", .local), ("fields", .local), ("_law_refused", .globalImplicit)], isGenerator := false, isCoroutine := false }




/-- the cases: a text and a dict of fields each, all of them refused; none of the dicts is the frame M -/
inductive IA (w : World) (M : Addr) (news : List (Addr × Obj)) : List Value → Prop
  | nil : IA w M news []
  | cons {D d : Addr} {x : PySem.Str} {t : Tok} {ks : List (PySem.Str × Int)} {vs : List Value} : (D, tupO [.str x t, .ref d]) ∈ news → FdAt w news d ks → BadCall x ks → d ≠ M → IA w M news vs → IA w M news (.ref D :: vs)
theorem IA.get {w : World} {M : Addr} {news : List (Addr × Obj)} {vs : List Value} (h : IA w M news vs) : ∀ {i : Nat} {v : Value}, vs[i]? = some v → ∃ (D d : Addr) (x : PySem.Str) (t : Tok) (ks : List (PySem.Str × Int)), v = .ref D ∧ (D, tupO [.str x t, .ref d]) ∈ news ∧ FdAt w news d ks ∧ BadCall x ks ∧ d ≠ M := by
  induction h with
  | nil => intro i v e; simp at e
  | cons a b c e _ ih =>
    intro i v q
    cases i with
    | zero =>
      obtain rfl : Value.ref _ = v := by simpa using q
      exact ⟨_, _, _, _, _, rfl, a, b, c, e⟩
    | succ i => exact ih (by simpa using q)
theorem IA.kept {w : World} {M : Addr} {news news' : List (Addr × Obj)} {vs : List Value} (h : IA w M news vs) (k : ∀ p ∈ news, p.1 ≠ M → p ∈ news') (ht : ∀ D xs, (D, tupO xs) ∈ news → D ≠ M) : IA w M news' vs := by
  induction h with
  | nil => exact .nil
  | cons a b c e _ ih => exact .cons (k _ a (ht _ _ a)) (let ⟨o, kvs, p, q⟩ := b; ⟨o, kvs, k _ p e, q⟩) c e ih
theorem FdAt.one {w : World} {news : List (Addr × Obj)} {d : Addr} {ks : List (PySem.Str × Int)} (h : FdAt w news d ks) : ∃ od, (d, od) ∈ news ∧ FdAt w [(d, od)] d ks := let ⟨o, kvs, a, b⟩ := h; ⟨o, a, o, kvs, .head _, b⟩
theorem tru_snoc {vs : List Value} {n : Nat} (h : LSm.BoolsAre vs (List.replicate n true)) : LSm.BoolsAre (vs ++ [.bool true]) (List.replicate (n + 1) true) := by
  rw [List.replicate_succ']
  generalize List.replicate n true = bs at h
  induction h with
  | nil => exact .cons _ .nil
  | cons b' _ ih => exact .cons b' ih
section
variable {w : World} {mean : ExcName → Option Value} {mg mb : PySem.Str → Option Value} {dp un : Nat} {gd : Option (List Code)} {cn : PySem.Str} {cs : Scope} {a : Addr} {ccd : Value} {cl : List (PySem.Str × Addr)} {outer : List Env} {A₀ : Around} {base h₀ : Heap} {L : Addr} {m : PySem.Str → Option Value} {s : Shared} {Q E : Value → Shared → Prop} {news : List (Addr × Obj)}

theorem kw_E6_1 : True := by
  k_with_none
  k_with "call ref" => (k_here; refine Stop.out ?_)
  trivial
theorem elt_ill (x : PySem.Str) (tx : Tok) (ks : List (PySem.Str × Int)) (bad : BadCall x ks) (d : Addr) (od : Obj) (F : Fr h₀ L s.heap m) (X : (K w.params).In h₀) (T : Top vq lo mean mg mb h₀) (hk : cs.kind = .function) (hd : dp + 46 < recursionLimit) (hu : un + 470 < cLine)
    (XT : BaseOk w mean mg mb base) (SB : base.StaysIn s.heap) (FF : s.heap.FunFrames base (envX cn cs L a ccd cl :: outer)) (D : KtsDicts ((envX cn cs L a ccd cl :: outer).filterMap (·.frame)) s.heap)
    (p1 p2 p3 p4 : Pos) (m₂ : PySem.Str → Option Value) (C : Addr) (oC : Obj)
    (N : News h₀ L s.heap news) (hC : (C, oC) ∈ news) (hN : LCg.NsObj oC m₂) (hx : m₂ "name" = some (.str x tx)) (hy : m₂ "fields" = some (.ref d))
    (hod : s.heap.get? d = some od) (hdb : base.get? d = none) (hdf : d ∉ (envX cn cs L a ccd cl :: outer).filterMap (·.frame)) (hfd : FdAt w [(d, od)] d ks)
    (ret : ∀ h' tk', (∀ b o, s.heap.get? b = some o → b ∉ (envX cn cs L a ccd cl :: outer).filterMap (·.frame) → h'.get? b = some o) → (∀ b o, s.heap.get? b = some o → b ∈ (envX cn cs L a ccd cl :: outer).filterMap (·.frame) → ∃ sl, h'.get? b = some { o with slots := sl }) → Q (.bool true) { s with heap := h', toks := tk' }) :
    wpAny (model pr w) (ktrTop dp un gd cn cs L a ccd cl outer) (eval (.Call (.Name "_law_refused" p1) [.Name "name" p2, .Name "fields" p3] [] p4) (compEnvC scI [] C (envOf "_law_ill_right" (fdS (stm 34)) L 447 (.ref 446)))) Q E s := by
  k_steps
  refine ⟨?_⟩
  exact refused_c x tx ks bad d od hk (by omega) (by omega) XT SB FF D rfl hod hdb hdf hfd (fun h' tk' a b => ret h' tk' a b)
/-- the turns of the list of what was refused -/
theorem rest_ill (M : Addr) (oM : Obj) (es : Array DictEntry) (ep : Nat) (hM : oM.data = .dict es ep) (hfr : outer.filterMap (·.frame) = [M]) (its : List Value) (ax : Addr) (nx : Nat) (X : (K w.params).In h₀) (T : Top vq lo mean mg mb h₀) (hk : cs.kind = .function) (hd : dp + 46 < recursionLimit) (hu : un + 470 < cLine)
    (XT : BaseOk w mean mg mb base) (SB : base.StaysIn h₀) (G : Heap) (FF : G.FunFrames base outer) (GM : G.get? M = some oM)
    (p1 p2 p3 p4 : Pos) (nw : List (Addr × Obj)) (hax : (ax, listOf its.toArray nx) ∈ nw) (hMw : (M, oM) ∈ nw) (ia : IA w M nw its)
    (Fin : List Value → List (Addr × Obj) → Prop) (fin : ∀ ys news' sl, LSm.BoolsAre ys (List.replicate its.length true) → (M, { oM with slots := sl }) ∈ news' → Fin ys news') :
    LCp.CompRestP pr w (ktrTop dp un gd cn cs L a ccd cl outer) h₀ L m (envOf "_law_ill_right" (fdS (stm 34)) L 447 (.ref 446)) (.Call (.Name "_law_refused" p1) [.Name "name" p2, .Name "fields" p3] [] p4) "name" "fields" scI [] s (LCg.SrcAt h₀ ax its.toArray) (fun i v => its.toArray[i]? = some v) Fin its.length 0 [] nw := by
  have main : ∀ (k i : Nat) (ys : List Value) (news : List (Addr × Obj)) (sl : Array (Option Value)), i + k = its.length → LSm.BoolsAre ys (List.replicate i true) → (ax, listOf its.toArray nx) ∈ news → (M, { oM with slots := sl }) ∈ news → IA w M news its →
      LCp.CompRestP pr w (ktrTop dp un gd cn cs L a ccd cl outer) h₀ L m (envOf "_law_ill_right" (fdS (stm 34)) L 447 (.ref 446)) (.Call (.Name "_law_refused" p1) [.Name "name" p2, .Name "fields" p3] [] p4) "name" "fields" scI [] s (LCg.SrcAt h₀ ax its.toArray) (fun i v => its.toArray[i]? = some v) Fin k i ys news := by
    intro k
    induction k with
    | zero =>
      intro i ys news sl hi hb ha hm ia
      obtain rfl : i = its.length := by omega
      exact .zero (fin ys news sl hb hm)
    | succ k ih =>
      intro i ys news sl hi hb ha hm ia
      refine .succ ?_
      intro v hv
      obtain ⟨D, d, x, t, ks, rfl, hD, fd, bad, hdM⟩ := ia.get (i := i) (v := v) (by simpa using hv)
      obtain ⟨od, hod, fd1⟩ := fd.one
      refine ⟨D, _, _, _, _, rfl, hD, rfl, rfl, ?_⟩
      intro I oI C oC Dl m₂ h tk E' hN hx hy F N off ne
      have up : ∀ p ∈ news, p ∈ (I, oI) :: (C, oC) :: (Dl, LCg.lst ys) :: news := fun p hp => .tail _ (.tail _ (.tail _ hp))
      have N1 : News h₀ L h news := fun p hp => N p (up p hp)
      have SBh : base.StaysIn h := fun b o e => F.keep b o (SB b o e)
      have NM := N1 _ hm
      have Nd := N1 _ hod
      have hb0 : ∀ b, h₀.get? b = none → base.get? b = none := fun b e => fresh_of_stays SB e
      have FFh : h.FunFrames base (envX cn cs L a ccd cl :: outer) := by
        have FO : h.FunFrames base outer := by
          clear ih
          revert FF
          have key : ∀ l : List Env, (∀ b, b ∈ l.filterMap (·.frame) → b = M) → G.FunFrames base l → h.FunFrames base l := by
            intro l
            induction l with
            | nil => intro _ _; trivial
            | cons e r ihl =>
              intro hl ff
              obtain ⟨k1, ⟨L1, o1, f1, b1, g1, d1⟩, k2⟩ := ff
              have e1 : L1 = M := hl L1 (by rw [List.filterMap_cons, f1]; exact .head _)
              subst e1
              refine ⟨k1, ⟨L1, _, f1, b1, NM.1, fun vs q => ?_⟩, ihl (fun b hb => hl b (by rw [List.filterMap_cons, f1]; exact .tail _ hb)) k2⟩
              have q' : oM.data = .fields vs := q
              rw [hM] at q'
              cases q'
          exact key outer (fun b hb => by rw [hfr] at hb; exact List.mem_singleton.mp hb)
        exact Heap.FunFrames.cons (by show cs.kind ≠ .module; rw [hk]; decide) rfl F.ns (hb0 L (kts_self F)) FO
      have mem : ∀ b, b ∈ (envX cn cs L a ccd cl :: outer).filterMap (·.frame) ↔ b = L ∨ b = M := fun b => by
        show b ∈ L :: outer.filterMap (·.frame) ↔ _
        rw [hfr]
        simp
      have DD : KtsDicts ((envX cn cs L a ccd cl :: outer).filterMap (·.frame)) h := fun b hb => by
        rcases (mem b).mp hb with rfl | rfl
        · obtain ⟨o, es', ep', ho, hd', _⟩ := F.ns
          exact ⟨o, es', ep', ho, hd'⟩
        · exact ⟨_, es, ep, NM.1, hM⟩
      have hdf : d ∉ (envX cn cs L a ccd cl :: outer).filterMap (·.frame) := fun hb => by
        rcases (mem d).mp hb with q | q
        · exact Nd.2.1 q
        · exact hdM q
      refine elt_ill (news := (I, oI) :: (C, oC) :: (Dl, LCg.lst ys) :: news) x t ks bad d od F X T hk hd hu XT SBh FFh DD p1 p2 p3 p4 m₂ C oC N (.tail _ (.head _)) hN hx hy Nd.1 (hb0 d Nd.2.2) hdf fd1 (fun h' tk' kp fr => ?_)
      have hML : M ≠ L := NM.2.1
      have offm := off.mem
      have kpn : ∀ p ∈ (I, oI) :: (C, oC) :: (Dl, LCg.lst ys) :: news, p.1 ≠ M → h'.get? p.1 = some p.2 ∧ p.1 ≠ L ∧ h₀.get? p.1 = none := fun p hp hn => by
        have z := N p hp
        refine ⟨kp _ _ z.1 fun hb => ?_, z.2⟩
        rcases (mem p.1).mp hb with q | q
        · exact z.2.1 q
        · exact hn q
      have F' : Fr h₀ L h' m := by
        refine ⟨?_, fun b o e => kp b o (F.keep b o e) fun hb => ?_, F.above⟩
        · obtain ⟨oL, es', ep', ho, hd', hs', hf'⟩ := F.ns
          obtain ⟨sl', hs⟩ := fr L oL ho ((mem L).mpr (.inl rfl))
          exact ⟨_, es', ep', hs, hd', hs', hf'⟩
        · rcases (mem b).mp hb with q | q
          · rw [q, kts_self F] at e; cases e
          · rw [q, NM.2.2] at e; cases e
      obtain ⟨sl2, hs2⟩ := fr M _ NM.1 ((mem M).mpr (.inr rfl))
      have offM := offm _ hm
      have N' : News h₀ L h' ((I, oI) :: (C, oC) :: (Dl, LCg.lst ys) :: (M, { oM with slots := sl2 }) :: drop M news) := fun p hp => by
        rcases List.mem_cons.mp hp with rfl | hp
        · exact kpn _ (.head _) (Ne.symm offM.1)
        · rcases List.mem_cons.mp hp with rfl | hp
          · exact kpn _ (.tail _ (.head _)) (Ne.symm offM.2.1)
          · rcases List.mem_cons.mp hp with rfl | hp
            · exact kpn _ (.tail _ (.tail _ (.head _))) (Ne.symm offM.2.2)
            · rcases List.mem_cons.mp hp with rfl | hp
              · exact ⟨hs2, NM.2⟩
              · exact kpn _ (up _ (drop_sub hp)) (drop_ne hp)
      have kd : ∀ p ∈ news, p.1 ≠ M → p ∈ (M, { oM with slots := sl2 }) :: drop M news := fun p hp hn => .tail _ (drop_mem hp hn)
      have ntM : ∀ (D : Addr) (o : Obj) (vs : Array Value) (n : Nat), (D, o) ∈ news → o.data = .seq vs n → D ≠ M := fun D o vs n hp q => ne_of_obj N1 hp hm (by
        rintro rfl
        have q' : oM.data = .seq vs n := q
        rw [hM] at q'
        cases q')
      have axk : (ax, listOf its.toArray nx) ∈ (M, { oM with slots := sl2 }) :: drop M news := kd _ ha (ntM _ _ _ _ ha rfl)
      refine LCg.CompEnd.intro F' N' ((M, { oM with slots := sl2 }) :: drop M news) (fun p hp => hp) (LCg.Off3.of fun p hp => ?_) (.inr ⟨_, axk, rfl, _, rfl⟩) (ih (i + 1) _ _ sl2 (by omega) (tru_snoc hb) axk (.head _) (ia.kept kd fun D xs hp => ntM _ _ _ _ hp rfl))
      rcases List.mem_cons.mp hp with rfl | hp
      · exact offM
      · exact offm p (drop_sub hp)
  exact main its.length 0 [] nw oM.slots (by omega) .nil hax hMw ia
theorem kw_E6_2 : True := by
  k_with_none
  trivial
end
end Mine
end
section
open PySem PySem.W PyProof.Rows PySem.Spec PySem.Calls
set_option maxHeartbeats 400000
namespace Mine
/-- what is refused, reckoned -/
def badI (x : PySem.Str) (ks : List (PySem.Str × Int)) : Bool :=
  rowsL.any fun r => decide (x = r.nm) && ((rgOf r.f).any (fun q => !(decide (0 ≤ (fdAt ks q.1).getD (-1)) && decide ((fdAt ks q.1).getD (-1) < 32))) || (hasImm r.f && (match fdAt ks "imm" with | none => true | some v => !(decide ((enOf r.f).1 ≤ v) && decide (v ≤ (enOf r.f).2.1) && decide (v % (enOf r.f).2.2 = 0)))))
    && (match fdAt ks "imm" with | none => true | some v => decide (-2147483648 ≤ v) && decide (v ≤ 2147483647))
theorem badI_ok {x : PySem.Str} {ks : List (PySem.Str × Int)} (h : badI x ks = true) : BadCall x ks := by
  obtain ⟨r, hr, h1⟩ := List.any_eq_true.mp h
  simp only [Bool.and_eq_true, Bool.or_eq_true, decide_eq_true_eq] at h1
  obtain ⟨⟨hx, h2⟩, h3⟩ := h1
  refine .inl ⟨r, hr, hx, ?_, fun v hv => ?_⟩
  · rcases h2 with h2 | ⟨hI, h2⟩
    · obtain ⟨q, hq, hn⟩ := List.any_eq_true.mp h2
      refine .inl ⟨q, hq, fun k => ?_⟩
      obtain ⟨k1, k2⟩ := k
      rw [decide_eq_true k1, decide_eq_true k2] at hn
      exact absurd hn (by decide)
    · refine .inr ⟨hI, ?_⟩
      cases e : fdAt ks "imm" with
      | none => exact .inl rfl
      | some v =>
        rw [e] at h2
        refine .inr ⟨v, rfl, fun k => ?_⟩
        obtain ⟨k1, k2, k3⟩ := k
        dsimp only at h2
        rw [decide_eq_true k1, decide_eq_true k2, decide_eq_true k3] at h2
        exact absurd h2 (by decide)
  · rw [hv] at h3
    simpa using h3
theorem bad1 : BadCall "addi" [("rd", 1), ("rs1", 2), ("imm", 2048)] := badI_ok (by decide +kernel)
theorem bad2 : BadCall "addi" [("rd", 1), ("rs1", 2), ("imm", -2049)] := badI_ok (by decide +kernel)
theorem bad3 : BadCall "lui" [("rd", 1), ("imm", 1048576)] := badI_ok (by decide +kernel)
theorem bad4 : BadCall "lui" [("rd", 1), ("imm", -1)] := badI_ok (by decide +kernel)
theorem bad5 : BadCall "nop" [] := .inr ⟨by decide +kernel, by decide +kernel⟩
theorem bad6 : BadCall "" [] := .inr ⟨by decide +kernel, by decide +kernel⟩
theorem bad7 : BadCall "beq" [("rs1", 1), ("rs2", 2), ("imm", 4096)] := badI_ok (by decide +kernel)
theorem bad8 : BadCall "bne" [("rs1", 1), ("rs2", 2), ("imm", 3)] := badI_ok (by decide +kernel)
theorem bad9 : BadCall "jal" [("rd", 1), ("imm", 1048576)] := badI_ok (by decide +kernel)
theorem bad10 : BadCall "slli" [("rd", 1), ("rs1", 2), ("imm", 32)] := badI_ok (by decide +kernel)
theorem bad11 : BadCall "lw" [("rd", 1), ("rs1", 2)] := badI_ok (by decide +kernel)
theorem bad12 : BadCall "add" [("rd", 32), ("rs1", 1), ("rs2", 2)] := badI_ok (by decide +kernel)
theorem bad13 : BadCall "sw" [("rs1", 1), ("rs2", -1), ("imm", 0)] := badI_ok (by decide +kernel)
/-- the ints of a display's pairs -/
def intsOf : List (PyData × PyData) → Option (List (PySem.Str × Int))
  | [] => some []
  | (.str k, .int n) :: r => (intsOf r).map ((k, n) :: ·)
  | _ => none
theorem intsOf_ok : ∀ (D : List (PyData × PyData)) (ks : List (PySem.Str × Int)), intsOf D = some ks → strKeyed D = true ∧ strKeysOf D = ks.map (·.1) ∧ ∀ kvs : List (PySem.Str × Value), PyProof.V.FlatPairs PyData.str kvs D → FD kvs ks
  | [], ks, h => by
    cases h
    exact ⟨rfl, rfl, fun kvs f => by cases f; exact .nil⟩
  | (dk, dv) :: r, ks, h => by
    cases dk with
    | str k =>
      cases dv with
      | int n =>
        simp only [intsOf] at h
        cases hr : intsOf r with
        | none => rw [hr] at h; cases h
        | some ks' =>
          rw [hr] at h
          cases h
          obtain ⟨h1, h2, h3⟩ := intsOf_ok r ks' hr
          refine ⟨h1, by simp [strKeysOf, h2], fun kvs f => ?_⟩
          generalize hq : (PyData.str k, PyData.int n) :: r = D at f
          cases f with
          | nil => cases hq
          | @cons k' v d kvs D f1 f2 =>
            injection hq with q1 q2
            injection q1 with q3 q4
            injection q3 with q3
            subst q2 q3 q4
            obtain ⟨t, rfl⟩ := f1.int_inv
            exact .cons (h3 _ f2)
      | none | bool _ | str _ | list _ | tuple _ | dict _ => simp [intsOf] at h
    | none | bool _ | int _ | list _ | tuple _ | dict _ => simp [intsOf] at h
/-- a case as it is written -/
inductive CaseLit : PySem.Expr → PySem.Str → List (PySem.Str × Int) → Prop
  | mk {x : PySem.Str} {keys : List (Option PySem.Expr)} {values : List PySem.Expr} {k1 k : Nat} {p1 p2 p : Pos} {D : List (PyData × PyData)} {ks : List (PySem.Str × Int)} : litPairs keys values = some D → intsOf D = some ks →
      (keys.all (·.isSome) && decide (keys.length = values.length) && decide (keys.length ≤ 15) && decide (ks.map (·.1)).Nodup) = true → CaseLit (.Tuple [.Constant (.str x) k1 p1, .Dict keys values p2] k p) x ks
inductive CasesLit : List PySem.Expr → List (PySem.Str × List (PySem.Str × Int)) → Prop
  | nil : CasesLit [] []
  | cons {e : PySem.Expr} {x : PySem.Str} {ks : List (PySem.Str × Int)} {es : List PySem.Expr} {cs : List (PySem.Str × List (PySem.Str × Int))} : CaseLit e x ks → CasesLit es cs → CasesLit (e :: es) ((x, ks) :: cs)
/-- the ledger bears the cases -/
inductive IC (w : World) (M : Addr) (news : List (Addr × Obj)) : List Value → List (PySem.Str × List (PySem.Str × Int)) → Prop
  | nil : IC w M news [] []
  | cons {D d : Addr} {x : PySem.Str} {t : Tok} {ks : List (PySem.Str × Int)} {vs : List Value} {cs : List (PySem.Str × List (PySem.Str × Int))} : (D, tupO [.str x t, .ref d]) ∈ news → FdAt w news d ks → d ≠ M → IC w M news vs cs → IC w M news (.ref D :: vs) ((x, ks) :: cs)
theorem IC.mono {w : World} {M : Addr} {news news' : List (Addr × Obj)} {vs : List Value} {cs : List (PySem.Str × List (PySem.Str × Int))} (h : IC w M news vs cs) (k : ∀ p ∈ news, p ∈ news') : IC w M news' vs cs := by
  induction h with
  | nil => exact .nil
  | cons a b c _ ih => exact .cons (k _ a) (b.mono k) c ih
theorem IC.append {w : World} {M : Addr} {news : List (Addr × Obj)} {vs ws : List Value} {cs ds : List (PySem.Str × List (PySem.Str × Int))} (h : IC w M news vs cs) (k : IC w M news ws ds) : IC w M news (vs ++ ws) (cs ++ ds) := by
  induction h with
  | nil => exact k
  | cons a b c _ ih => exact .cons a b c ih
theorem IC.length {w : World} {M : Addr} {news : List (Addr × Obj)} {vs : List Value} {cs : List (PySem.Str × List (PySem.Str × Int))} (h : IC w M news vs cs) : vs.length = cs.length := by
  induction h with
  | nil => rfl
  | cons _ _ _ _ ih => simp [ih]
theorem IC.bad {w : World} {M : Addr} {news : List (Addr × Obj)} {vs : List Value} {cs : List (PySem.Str × List (PySem.Str × Int))} (h : IC w M news vs cs) (k : ∀ c ∈ cs, BadCall c.1 c.2) : IA w M news vs := by
  induction h with
  | nil => exact .nil
  | cons a b c _ ih => exact .cons a b (k _ (.head _)) c (ih fun c hc => k c (.tail _ hc))
/-- a list of cases in the ledger, and the frame M -/
structure CS (w : World) (M : Addr) (oM : Obj) (news : List (Addr × Obj)) (l : Addr) (vs : List Value) (cs : List (PySem.Str × List (PySem.Str × Int))) : Prop where
  l : (l, listOf vs.toArray 0) ∈ news
  ic : IC w M news vs cs
  m : (M, oM) ∈ news
theorem CS.up {w : World} {M : Addr} {oM : Obj} {news news' : List (Addr × Obj)} {l : Addr} {vs : List Value} {cs : List (PySem.Str × List (PySem.Str × Int))} (h : CS w M oM news l vs cs) (k : ∀ p ∈ news, p ∈ news') : CS w M oM news' l vs cs := ⟨k _ h.l, h.ic.mono k, k _ h.m⟩
section
variable {w : World} {mean : ExcName → Option Value} {mg mb : PySem.Str → Option Value} {dp un : Nat} {gd : Option (List Code)} {cn : PySem.Str} {cs : Scope} {a : Addr} {ccd : Value} {cl : List (PySem.Str × Addr)} {outer : List Env} {A₀ : Around} {base h₀ : Heap} {L : Addr} {m : PySem.Str → Option Value} {s : Shared} {Q E : Value → Shared → Prop} {news : List (Addr × Obj)}

theorem case_c {A : Around} {env : Env} {e : PySem.Expr} {x : PySem.Str} {ks : List (PySem.Str × Int)} {M : Addr} {oM : Obj} (he : CaseLit e x ks) (F : Fr h₀ L s.heap m) (N : News h₀ L s.heap news) (hb : h₀.NoLimit) (hM : (M, oM) ∈ news)
    (ret : ∀ D h' tk' news', Fr h₀ L h' m → News h₀ L h' news' → (∀ p ∈ news, p ∈ news') → (∀ vs cs, IC w M news' vs cs → IC w M news' (.ref D :: vs) ((x, ks) :: cs)) → Q (.ref D) { s with heap := h', toks := tk' }) :
    wpAny (model pr w) A (eval e env) Q E s := by
  cases he with
  | mk h1 h2 h3 =>
  rename_i keys values k1 k p1 p2 p D
  simp only [Bool.and_eq_true, decide_eq_true_eq] at h3
  obtain ⟨⟨⟨h4, h5⟩, h6⟩, h7⟩ := h3
  obtain ⟨g1, g2, g3⟩ := intsOf_ok D ks h2
  have hlM := Heap.lt_size (N _ hM).1
  refine Tuple_ (spliced_more (Constant_str (spliced_more ?_ (by rfl))) (by rfl))
  have fin : ∀ (d : Addr) (h' : Heap) (o : Obj) (kvs : List (PySem.Str × Value)) (tk : Nat), Fr h₀ L h' m → News h₀ L h' ((d, o) :: news) → (d == sysModules) = false → o.IsDictOf (PySem.strKind pr w) kvs → FD kvs ks → d ≠ M →
      wpAny (model pr w) A (spliced (backTo p (starEach [] env))) (fun vs s₂ => wpAny (model pr w) A (newTuple (.str x s.toks :: .ref d :: vs)) Q E s₂) E { s with heap := h', toks := tk } := by
    intro d h' o kvs tk F' N' lo hd fd hn
    refine spliced_none (newTuple_N F' N' (fun h2 F2 N2 => ?_) (by show 2 ≤ sizeLine; rw [sizeLine_eq]; omega))
    refine ret h'.objs.size h2 tk _ F2 N2 (fun p hp => .tail _ (.tail _ hp)) (fun vs cs ic => .cons (.head _) ⟨o, kvs, .tail _ (.head _), hd, fd, lo⟩ hn ic)
  cases keys with
  | nil =>
    cases values with
    | cons _ _ => simp at h5
    | nil =>
    have hD : D = [] := by simpa [litPairs] using h1.symm
    subst hD
    have hks : ks = [] := by simpa [intsOf] using h2.symm
    subst hks
    exact newDict_K (s := { s with toks := s.toks + 1 }) F N hb fun d h' o F' N' l1 lo a b _ _ => fin d h' o [] _ F' N' lo a .nil (Ne.symm (Nat.ne_of_lt (l1 _ hM)))
  | cons k0 kr =>
    refine Dict_lits_str (s := { s with toks := s.toks + 1 }) h1 g1 (g2 ▸ h7) h4 h5 (List.cons_ne_nil _ _) h6 fun a o h₁ tk hle ho hd hk => ?_
    obtain ⟨kvs, hd1, hd2⟩ := hd
    have hsz : h₀.objs.size ≤ s.heap.objs.size := Nat.le_trans F.above (Nat.le_of_lt F.ns.lt)
    have h0a : h₀.get? a = none := Heap.get?_none_of_le (Nat.le_trans hsz hle)
    have hLa : a ≠ L := Ne.symm (Nat.ne_of_lt (Nat.lt_of_lt_of_le F.ns.lt hle))
    refine fin a h₁ o kvs tk (F.keeps hk) (fun p hp => ?_) (beq_eq_false_iff_ne.mpr (Nat.ne_of_gt (Nat.lt_of_lt_of_le (modules_low hb) (Nat.le_trans hsz hle)))) hd1 (g3 _ hd2) (Ne.symm (Nat.ne_of_lt (Nat.lt_of_lt_of_le hlM hle)))
    rcases List.mem_cons.mp hp with rfl | hp
    · exact ⟨ho, hLa, h0a⟩
    · exact ⟨hk _ _ (N p hp).1, (N p hp).2⟩
theorem cases_c {A : Around} {env : Env} {pos : Pos} {M : Addr} {oM : Obj} (hb : h₀.NoLimit) : ∀ (es : List PySem.Expr) (cs : List (PySem.Str × List (PySem.Str × Int))) (s : Shared) (news : List (Addr × Obj)) (Q : List Value → Shared → Prop), CasesLit es cs → Fr h₀ L s.heap m → News h₀ L s.heap news → (M, oM) ∈ news →
    (∀ vs h' tk' news', Fr h₀ L h' m → News h₀ L h' news' → (∀ p ∈ news, p ∈ news') → IC w M news' vs cs → Q vs { s with heap := h', toks := tk' }) →
    wpAny (model pr w) A (spliced (backTo pos (starEach es env))) Q E s := by
  intro es
  induction es with
  | nil =>
    intro cs s news Q hc F N hM ret
    cases hc
    exact spliced_none (ret [] s.heap s.toks news F N (fun _ h => h) .nil)
  | cons e es ih =>
    intro cs s news Q hc F N hM ret
    cases hc with
    | cons he hr =>
    refine spliced_more (case_c he F N hb hM fun D h' tk' news' F' N' sub k => ?_) (by cases he; rfl)
    exact ih _ { s with heap := h', toks := tk' } news' _ hr F' N' (sub _ hM) fun vs h2 tk2 news2 F2 N2 sub2 ic => ret (.ref D :: vs) h2 tk2 news2 F2 N2 (fun p hp => sub2 p (sub p hp)) (by
      have k1 := k [] [] .nil
      cases k1 with
      | cons a b c _ => exact .cons (sub2 _ a) (b.mono sub2) c ic)
theorem list_cases {A : Around} {env : Env} {pos : Pos} {es : List PySem.Expr} {cs : List (PySem.Str × List (PySem.Str × Int))} {M : Addr} {oM : Obj} (hc : CasesLit es cs) (hz : decide (cs.length ≤ 100) = true) (F : Fr h₀ L s.heap m) (N : News h₀ L s.heap news) (hb : h₀.NoLimit) (hM : (M, oM) ∈ news)
    (ret : ∀ l vs h' tk' news', Fr h₀ L h' m → News h₀ L h' news' → (∀ p ∈ news, p ∈ news') → CS w M oM news' l vs cs → Q (.ref l) { s with heap := h', toks := tk' }) :
    wpAny (model pr w) A (eval (.List es pos) env) Q E s := by
  refine List_ (cases_c hb es cs s news _ hc F N hM fun vs h' tk' news' F' N' sub ic => ?_)
  have hlen := ic.length
  refine newList_N F' N' (fun h2 F2 N2 => ret h'.objs.size vs h2 tk' _ F2 N2 (fun p hp => .tail _ (sub p hp)) ⟨.head _, ic.mono fun p hp => .tail _ hp, .tail _ (sub _ hM)⟩) (by have := of_decide_eq_true hz; rw [hlen, sizeLine_eq]; omega)
theorem add_cases {A : Around} {a b : Addr} {vs ws : List Value} {cs ds : List (PySem.Str × List (PySem.Str × Int))} {M : Addr} {oM : Obj} (F : Fr h₀ L s.heap m) (N : News h₀ L s.heap news) (ha : CS w M oM news a vs cs) (hb : CS w M oM news b ws ds) (hz : decide (cs.length + ds.length ≤ 100) = true)
    (ret : ∀ l h' news', Fr h₀ L h' m → News h₀ L h' news' → CS w M oM news' l (vs ++ ws) (cs ++ ds) → Q (.ref l) { s with heap := h' }) :
    wpAny (model pr w) A (binaryOp .Add (.ref a) (.ref b)) Q E s := by
  have h1 := ha.ic.length
  have h2 := hb.ic.length
  refine add_lists F N ⟨_, (N _ ha.l).1, rfl, _, rfl⟩ ⟨_, (N _ hb.l).1, rfl, _, rfl⟩ (fun h' F' N' => ret _ h' _ F' N' ⟨.head _, (ha.ic.append hb.ic).mono fun p hp => .tail _ hp, .tail _ ha.m⟩) (by have := of_decide_eq_true hz; rw [h1, h2, sizeLine_eq]; omega)
end
end Mine
end
section
open PySem PySem.W PyProof.Rows PySem.Spec PySem.Calls
set_option maxHeartbeats 400000
namespace Mine
def caseL : List (PySem.Str × List (PySem.Str × Int)) := [("addi", [("rd", 1), ("rs1", 2), ("imm", 2048)]), ("addi", [("rd", 1), ("rs1", 2), ("imm", -2049)]), ("lui", [("rd", 1), ("imm", 1048576)]), ("lui", [("rd", 1), ("imm", -1)]), ("nop", []), ("", []), ("beq", [("rs1", 1), ("rs2", 2), ("imm", 4096)]), ("bne", [("rs1", 1), ("rs2", 2), ("imm", 3)]), ("jal", [("rd", 1), ("imm", 1048576)]), ("slli", [("rd", 1), ("rs1", 2), ("imm", 32)]), ("lw", [("rd", 1), ("rs1", 2)]), ("add", [("rd", 32), ("rs1", 1), ("rs2", 2)]), ("sw", [("rs1", 1), ("rs2", -1), ("imm", 0)])]
theorem caseL_bad : ∀ c ∈ caseL, BadCall c.1 c.2 := by
  intro c hc
  simp only [caseL, List.mem_cons, List.not_mem_nil, or_false] at hc
  rcases hc with rfl | rfl | rfl | rfl | rfl | rfl | rfl | rfl | rfl | rfl | rfl | rfl | rfl
  all_goals first | exact bad1 | exact bad2 | exact bad3 | exact bad4 | exact bad5 | exact bad6 | exact bad7 | exact bad8 | exact bad9 | exact bad10 | exact bad11 | exact bad12 | exact bad13
section
variable {w : World} {mean : ExcName → Option Value} {mg mb : PySem.Str → Option Value} {dp un : Nat} {gd : Option (List Code)} {cn : PySem.Str} {cs : Scope} {a : Addr} {ccd : Value} {cl : List (PySem.Str × Addr)} {outer : List Env} {A₀ : Around} {base h₀ : Heap} {L : Addr} {m : PySem.Str → Option Value} {s : Shared} {Q E : Value → Shared → Prop} {news : List (Addr × Obj)}

local macro_rules | `(tactic| lsm_bools) => `(tactic| assumption)
theorem kw_E8_1 : True := by
  k_with_none
  k_with "eval List" => (k_here; (refine' list_cases ?q ?z ?F ?N ?b ?M ?_); k_dflt ((case q => first | exact CasesLit.cons (CaseLit.mk (by rfl) (by rfl) (by kernel_rfl)) (CasesLit.cons (CaseLit.mk (by rfl) (by rfl) (by kernel_rfl)) CasesLit.nil) | exact CasesLit.cons (CaseLit.mk (by rfl) (by rfl) (by kernel_rfl)) (CasesLit.cons (CaseLit.mk (by rfl) (by rfl) (by kernel_rfl)) (CasesLit.cons (CaseLit.mk (by rfl) (by rfl) (by kernel_rfl)) CasesLit.nil)) | exact CasesLit.cons (CaseLit.mk (by rfl) (by rfl) (by kernel_rfl)) (CasesLit.cons (CaseLit.mk (by rfl) (by rfl) (by kernel_rfl)) (CasesLit.cons (CaseLit.mk (by rfl) (by rfl) (by kernel_rfl)) (CasesLit.cons (CaseLit.mk (by rfl) (by rfl) (by kernel_rfl)) CasesLit.nil)))); (case z => rfl); (case F => k_asm); (case N => k_asm); (case b => exact Top.nolimit (by k_asm)); (case M => first | exact CS.m (by assumption) | exact List.Mem.head _); intro _ _ _ _ _ _ _ _ _))
  k_with "binaryOp Add ref ref" => (k_here; k_dflt (refine' add_cases ?F ?N ?a ?b ?z ?_; (case F => k_asm); (case N => k_asm); (case a => first | assumption | exact CS.up (by assumption) (by assumption)); (case b => assumption); (case z => rfl); intro _ _ _ _ _ _))
  k_with "eval Call" => (k_here; k_dflt (refine Call_ ?_))
  k_with "eval ListComp" => (k_here; k_dflt (refine LCp.ListComp_P (F₀ := by k_asm) (by rfl) (by decide) (by rfl) (by decide) (by rfl) (by rfl) (by decide) ?_))
  k_with "SrcLP" => (k_here; refine Stop.out ?_)
  trivial
theorem ill_body (g : Heap) (L2 : Addr) (oL : Obj) (es : Array DictEntry) (ep : Nat) (hLd : oL.data = .dict es ep) (hk : cs.kind = .function) (hd : dp + 50 < recursionLimit) (hu : un + 480 < cLine)
    (F' : Fr g L2 s.heap (fun y => ([] : List (PySem.Str × Value)).reverse.lookup y)) (N' : News g L2 s.heap [(L, oL)]) (X' : (K w.params).In g) (T' : Top vq lo mean mg mb g)
    (XT : BaseOk w mean mg mb base) (SB : base.StaysIn g) (G : Heap) (FF : G.FunFrames base [envX cn cs L a ccd cl]) (GM : G.get? L = some oL) (hb : g.objs.size = G.objs.size)
    {Qf : Flow → Shared → Prop} (ret : ∀ m' h' tk' sl, Fr g L2 h' m' → h'.get? L = some { oL with slots := sl } → Qf (.ret (.bool true)) { s with heap := h', toks := tk' }) :
    wpAny (model pr w) ((ktrTop dp un gd cn cs L a ccd cl []).deeper (envOf "_law_ill_right" (fdS (stm 34)) L2 447 (.ref 446))) (execs (fdB (stm 34)) (envOf "_law_ill_right" (fdS (stm 34)) L2 447 (.ref 446))) Qf E s := by
  have l0 : L < L2 := Nat.lt_of_lt_of_le (Heap.lt_size GM) (hb ▸ F'.above)
  k_steps
  rename CS _ _ _ _ _ _ _ => cs8
  rename Fr _ _ _ _ => F8
  rename News _ _ _ _ => N8
  refine ⟨?_⟩
  have cs9 : ∃ vs, CS w L oL _ _ vs caseL := ⟨_, cs8⟩
  obtain ⟨vs, cs9⟩ := cs9
  have hl : vs.length = 13 := cs9.ic.length
  refine LCp.SrcLP.ledger (by rfl) F8 N8 cs9.l (by rw [List.size_toArray, hl, sizeLine_eq]; omega) (fun g9 => ?_)
  refine rest_ill L oL es ep hLd rfl vs _ _ X' T' rfl (by ktr_room) (by ktr_units) XT SB G FF GM _ _ _ _ _ cs9.l cs9.m (cs9.ic.bad caseL_bad) _ (fun ys news' sl hb hm => ?_)
  rw [hl] at hb
  have hb' : LSm.BoolsAre ys [true, true, true, true, true, true, true, true, true, true, true, true, true] := hb
  clear hb F8 N8 cs9 cs8
  unfold LCg.FinE
  intro D9 h9 tk9 F9 N9 o9
  k_steps
  rename Fr _ _ _ _ => F10
  rename News _ _ _ _ => N10
  exact ret _ _ _ sl F10 (N10 (L, { oL with slots := sl }) (by first | exact hm | exact .tail _ hm | exact .tail _ (.tail _ hm))).1
theorem ill_c (B : Below A₀ base [] h₀) (F : Fr h₀ L s.heap m) (X : (K w.params).In h₀) (T : Top vq lo mean mg mb h₀) (XT : BaseOk w mean mg mb base) (hk : cs.kind = .function) (hd : dp + 50 < recursionLimit) (hu : un + 480 < cLine) (N : News h₀ L s.heap news)
    (ret : ∀ news' h' tk', Fr h₀ L h' m → News h₀ L h' news' → Q (.bool true) { s with heap := h', toks := tk' }) :
    wpAny (model pr w) (ktrTop dp un gd cn cs L a ccd cl []) (call (.ref 447) []) Q E s := by
  refine wpAny_call ?_
  have SBs : base.StaysIn s.heap := fun b o e => F.keep b o (B.stays b o e)
  have hbL : base.get? L = none := fresh_of_stays B.stays (kts_self F)
  have hh : ∀ b ∈ [L], base.get? b = none := fun b hb => by
    obtain rfl := List.mem_singleton.mp hb
    exact hbL
  have FF : s.heap.FunFrames base [envX cn cs L a ccd cl] := Heap.FunFrames.cons (by show cs.kind ≠ .module; rw [hk]; decide) rfl F.ns hbL trivial
  obtain ⟨oL, es, ep, hL, hLd, hLk, hLf⟩ := id F.ns
  have back : ∀ (h9 : Heap) (sl : Array (Option Value)), (∀ b o, (hideAll s.heap [L]).get? b = some o → h9.get? b = some o) → h9.get? L = some { oL with slots := sl } → Fr h₀ L h9 m := fun h9 sl k1 k2 =>
    ⟨⟨_, es, ep, k2, hLd, hLk, hLf⟩, fun b o e => k1 b o (hideAll_get _ (F.keep b o e) fun hb => by
      rw [List.mem_singleton.mp hb, kts_self F] at e
      cases e), F.above⟩
  k_dflt (refine' enterH (lo' := lo) (p := vq) (mean := mean) (mg := mg) (mb := mb) (base := base) [] [L] SBs XT.x XT.t hh ?k6 ?k7 ?k8 ?k9 ?kB ?h ?c2 ?c3 ?c4 ?c5)
  case k6 => k_dflt k_is
  case k7 => k_dflt k_is
  case k8 => ktr_room
  case k9 => exact BindsTo.of_eq rfl
  case kB => exact locs rfl
  case c2 => rfl
  case c3 => rfl
  case c4 => rfl
  case c5 => decide
  case h =>
  intro L2 h₁ F1 kp st X1 T1
  have N1 : News (hideAll s.heap [L]) L2 h₁ [(L, oL)] := fun p hp => by
    obtain rfl := List.mem_singleton.mp hp
    exact ⟨(kp L oL hL).1, (kp L oL hL).2, hideAll_none _ (.head _)⟩
  with_reducible refine ill_body (base := base) (hideAll s.heap [L]) L2 oL es ep hLd hk hd hu F1 N1 X1 T1 XT st s.heap FF hL (hideAll_size _ _) ?_
  intro m' h' tk' sl F' hs
  exact ret [] h' tk' (back h' sl F'.keep hs) News.nil
theorem kw_E8_2 : True := by
  k_with_none
  trivial
end
end Mine
end
section
open PySem PySem.W PyProof.Rows PySem.Spec PySem.Calls
set_option maxHeartbeats 400000
namespace Mine
/-- the ledger bears these rows -/
inductive RowsAt (news : List (Addr × Obj)) : List Value → List Row → Prop
  | nil : RowsAt news [] []
  | cons {D : Addr} {r : Row} {vs : List Value} {rs : List Row} : RowAt news D r → RowsAt news vs rs → RowsAt news (.ref D :: vs) (r :: rs)
theorem RowAt.monoT {news news' : List (Addr × Obj)} {D : Addr} {r : Row} (h : RowAt news D r) (hs : ∀ D x, (D, tupO x) ∈ news → (D, tupO x) ∈ news') : RowAt news' D r :=
  let ⟨t1, t2, t3, t4, t5, e⟩ := h; ⟨t1, t2, t3, t4, t5, hs _ _ e⟩
theorem RowsAt.monoT {news news' : List (Addr × Obj)} {vs : List Value} {rs : List Row} (h : RowsAt news vs rs) (hs : ∀ D x, (D, tupO x) ∈ news → (D, tupO x) ∈ news') : RowsAt news' vs rs := by
  induction h with
  | nil => exact .nil
  | cons hm _ ih => exact .cons (hm.monoT hs) ih
theorem RowsAt.mono {news news' : List (Addr × Obj)} {vs : List Value} {rs : List Row} (h : RowsAt news vs rs) (hs : ∀ p ∈ news, p ∈ news') : RowsAt news' vs rs := h.monoT fun _ _ e => hs _ e
theorem RowsAt.append {news : List (Addr × Obj)} {vs ws : List Value} {rs qs : List Row} (h : RowsAt news vs rs) (k : RowsAt news ws qs) : RowsAt news (vs ++ ws) (rs ++ qs) := by
  induction h with
  | nil => exact k
  | cons hm _ ih => exact .cons hm ih
theorem RowsAt.length {news : List (Addr × Obj)} {vs : List Value} {rs : List Row} (h : RowsAt news vs rs) : vs.length = rs.length := by
  induction h with
  | nil => rfl
  | cons _ _ ih => simp [ih]
theorem RowsAt.refs {news : List (Addr × Obj)} {vs : List Value} {rs : List Row} (h : RowsAt news vs rs) : ∀ v ∈ vs, ∃ D, v = .ref D := by
  induction h with
  | nil => exact fun _ h => nomatch h
  | cons _ _ ih => intro v hv; rcases List.mem_cons.mp hv with rfl | hv; exact ⟨_, rfl⟩; exact ih v hv
theorem RowsAt.get {news : List (Addr × Obj)} {vs : List Value} {rs : List Row} (h : RowsAt news vs rs) : ∀ {i : Nat} {v : Value}, vs[i]? = some v → ∃ D r, v = .ref D ∧ rs[i]? = some r ∧ RowAt news D r := by
  induction h with
  | nil => intro i v e; simp at e
  | cons hm _ ih =>
    intro i v e
    cases i with
    | zero => simp at e; subst e; exact ⟨_, _, rfl, rfl, hm⟩
    | succ i => simpa using ih (by simpa using e)
/-- over a range, by a word over the place, the names and the ledger -/
theorem iterR {prog : Program} {w : World} {A : Around} {E : Value → Shared → Prop} {s : Shared} {env : Env} {h₀ : Heap} {x : PySem.Str} {xp : Pos} {body : List Stmt} {Q : Flow → Shared → Prop} {r : Addr} {a b c : Int} {t u v : Tok} {n : Nat} {m₀ : PySem.Str → Option Value} {news : List (Addr × Obj)} (J : Nat → (PySem.Str → Option Value) → List (Addr × Obj) → Prop)
    (hh : A.handled = none) (hr : IsRange s.heap r a b c t u v) (hsmall : Builtin.Range.small a b c = true) (hn : Builtin.Range.rangeSize a b c = (n : Int)) (F : Fr h₀ env.locals s.heap m₀) (N : News h₀ env.locals s.heap news) (hj : J 0 m₀ news)
    (turn : ∀ i m₁ news₁ (s₁ : Shared) it ito tk, i < n → (∃ fs, ito.data = .fields fs) → (∀ p ∈ news₁, p.1 ≠ it) → J i m₁ news₁ → Fr h₀ env.locals s₁.heap m₁ → News h₀ env.locals s₁.heap ((it, ito) :: news₁) →
      ∀ R : Flow → Shared → Prop, (∀ f s₂, TurnEnd h₀ env.locals it ito (J (i + 1)) s₁ f s₂ → R f s₂) →
      wpAny (model prog w) A (assign (.Name x xp) env (.int (a + i * c) tk)) (fun _ s₃ => wpAny (model prog w) A (execs body env) R E s₃) E s₁)
    (done : ∀ m₁ news₁ h tk, J n m₁ news₁ → Fr h₀ env.locals h m₁ → News h₀ env.locals h news₁ → Q .next { s with heap := h, toks := tk }) :
    wpAny (model prog w) A (pyIter (.ref r)) (fun it s₂ => LoopAtT prog w A h₀ env (.Name x xp) body Q E it s₂) E s := by
  refine wpAny_pyIter_range hr hsmall ?_
  refine ⟨_, _, _, n, _, _, m₀, news, J, rfl, Walks.range (prog := prog) (w := w) hh s.heap.objs.size a c n, ?_, ?_, ?_, ?_, F.push _, (fun p hp => ⟨Heap.get?_push_of_some _ (N p hp).1, (N p hp).2⟩), ?_, hj, ?_, ?_⟩
  · intro hm
    exact absurd F.ns.lt ((List.mem_singleton.mp hm) ▸ Nat.lt_irrefl _)
  · intro b hb
    rw [List.mem_singleton.mp hb]
    exact next_is_new F
  · intro p hp hI
    exact absurd (Heap.lt_size (N p hp).1) ((List.mem_singleton.mp hI) ▸ Nat.lt_irrefl _)
  · have e : a + ((0 : Nat) : Int) * c = a := by simp
    have e2 : (n : Int) - ((0 : Nat) : Int) = n := by simp
    show IsRangeIter _ _ (a + ((0 : Nat) : Int) * c) ((n : Int) - ((0 : Nat) : Int)) c
    rw [e, e2, ← hn]
    exact Heap.get?_push_size _ rfl
  · intro i s' v Q' st q
    unfold letOwnedTupleGo
    exact wpAny_pure q
  · rintro i v m₁ news₁ s₁ own hin ⟨tk, rfl⟩ hJ hoff hown hget hfp hst F₁ N₁
    have hI0 : h₀.get? s.heap.objs.size = none := next_is_new F
    have hoI := hst
    have hIown := hfp _ (List.mem_singleton.mpr rfl) hI0 _ hoI
    have hsep : ∀ p ∈ news₁, p.1 ≠ s.heap.objs.size := fun p hp e => hoff p hp (List.mem_singleton.mpr e)
    have N₂ := fun (p : Addr × Obj) (hp : p ∈ (s.heap.objs.size, _) :: news₁) => (List.mem_cons.mp hp).elim (fun e => N₁ p (List.mem_append_left _ (e ▸ hIown))) fun e => N₁ p (List.mem_append_right _ e)
    refine wpAny_mono (turn i m₁ news₁ s₁ s.heap.objs.size _ tk hin ⟨_, rfl⟩ hsep hJ F₁ N₂ _ (fun _ _ h => h)) (fun _ s₃ k => wpAny_mono k (fun f s₂ e => ?_) fun _ _ e => e) fun _ _ e => e
    obtain ⟨rfl, h', tk, m', news', rfl, F', N', hne', hJ'⟩ := e
    refine ⟨rfl, h', tk, m', news', rfl, F', fun p hp => ?_, fun p hp hq => hne' p hp (List.mem_singleton.mp hq), hJ'⟩
    rcases List.mem_append.mp hp with h | h
    · have h2 := List.mem_singleton.mp (hown p h)
      have h3 : s₁.heap.get? p.1 = some p.2 := hget p h
      rw [h2, hoI] at h3
      have : p = (s.heap.objs.size, _) := Prod.ext h2 (Option.some.inj h3).symm
      exact N' p (this ▸ List.mem_cons.mpr (.inl rfl))
    · exact N' p (List.mem_cons.mpr (.inr h))
  · rintro h' tk m' news' F' N' _ hJ
    exact done m' news' h' tk hJ F' N'
section
variable {w : World} {mean : ExcName → Option Value} {mg mb : PySem.Str → Option Value} {dp un : Nat} {gd : Option (List Code)} {cn : PySem.Str} {cs : Scope} {a : Addr} {ccd : Value} {cl : List (PySem.Str × Addr)} {outer : List Env} {A₀ : Around} {base h₀ : Heap} {L : Addr} {m : PySem.Str → Option Value} {s : Shared} {Q E : Value → Shared → Prop} {news : List (Addr × Obj)}

theorem app_c {A : Around} {l : Addr} {vs : List Value} {n : Nat} {x : Value} (F : Fr h₀ L s.heap m) (N : News h₀ L s.heap news) (hl : (l, listOf vs.toArray n) ∈ news) (hz : vs.length ≤ 1000)
    (ret : ∀ h' news', Kept l news news' → (l, listOf (vs ++ [x]).toArray (n + 1)) ∈ news' → Fr h₀ L h' m → News h₀ L h' news' → Q .none { s with heap := h' }) :
    wpAny (model pr w) A (call (.builtin "list.append") [.ref l, x]) Q E s := by
  refine append_K F (news_set N hl) (.head fun p hp => drop_ne hp) (fun h' F' N' => ?_) (by rw [sizeLine_eq]; simp; omega)
  have e : vs.toArray.push x = (vs ++ [x]).toArray := by simp
  rw [e] at N'
  exact ret h' _ (fun p hp hn => .tail _ (drop_mem hp hn)) (.head _) F' N'
end
end Mine
end
section
open PySem PySem.W PyProof.Rows PySem.Spec PySem.Calls
set_option maxHeartbeats 400000
namespace Mine
/-- over an enumerated list of the ledger, by a word over the place, the names and the ledger -/
theorem iterE {prog : Program} {w : World} {A : Around} {E : Value → Shared → Prop} {s : Shared} {env : Env} {h₀ : Heap} {body : List Stmt} {Q : Flow → Shared → Prop} {elts : List PySem.Expr} {k : Nat} {pos : Pos} {l : Addr} {vs : List Value} {n : Nat} {m₀ : PySem.Str → Option Value} {news : List (Addr × Obj)} (J : Nat → (PySem.Str → Option Value) → List (Addr × Obj) → Prop)
    (hh : A.handled = none) (F : Fr h₀ env.locals s.heap m₀) (N : News h₀ env.locals s.heap news) (hm : (l, listOf vs.toArray n) ∈ news) (hj : J 0 m₀ news)
    (turn : ∀ i x m₁ nw₁ h tk T t it1 o1 it2 o2, vs[i]? = some x → IsTup h T #[.int ((i : Nat) : Int) t, x] → (l, listOf vs.toArray n) ∈ nw₁ → (∀ p ∈ nw₁, p.1 ≠ it1 ∧ p.1 ≠ it2) → J i m₁ nw₁ → Fr h₀ env.locals h m₁ → News h₀ env.locals h ((it1, o1) :: (it2, o2) :: nw₁) →
      ∀ R : Flow → Shared → Prop, (∀ h' tk' m' nw', Fr h₀ env.locals h' m' → News h₀ env.locals h' ((it1, o1) :: (it2, o2) :: nw') → (∀ p ∈ nw', p.1 ≠ it1 ∧ p.1 ≠ it2) → (l, listOf vs.toArray n) ∈ nw' → J (i + 1) m' nw' → R .next { s with heap := h', toks := tk' }) →
      wpAny (model prog w) A (assign (.Tuple elts k pos) env (.ref T)) (fun _ s₂ => wpAny (model prog w) A (execs body env) R E s₂) E { s with heap := h, toks := tk })
    (done : ∀ m₁ news₁ h tk, J vs.length m₁ news₁ → Fr h₀ env.locals h m₁ → News h₀ env.locals h news₁ → Q .next { s with heap := h, toks := tk }) :
    wpAny (model prog w) A (call (.type "enumerate") [.ref l]) (fun xv s₁ => wpAny (model prog w) A (pyIter xv) (fun it s₂ => TurnsAt prog w A h₀ env (.Tuple elts k pos) body Q E it s₂) E s₁) E s := by
  refine ktu_enum hh F N hm rfl rfl rfl fun I hI => ?_
  have P : ∀ (r pre : List Value), vs = pre ++ r → ∀ m nw, J pre.length m nw → (∀ p ∈ nw, p.1 ≠ I + 1 ∧ p.1 ≠ I) → (l, listOf vs.toArray n) ∈ nw →
      ItemsRest prog w A E h₀ env (.Tuple elts k pos) body Q s [(I + 1, "enumerate"), (I, "list_iterator")] [(l, listOf vs.toArray n)] (enumItems pre.length r) m nw := by
    intro r
    induction r with
    | nil =>
      intro pre hv m nw hJ _ _ h tk F' N'
      rw [List.append_nil] at hv
      subst hv
      exact done m nw h tk hJ F' N'
    | cons x r ih =>
      intro pre hv m nw hJ hoff hl
      refine ItemsRest.pair fun T t h tk hT F' => ?_
      refine AllObj.cons fun o1 h1 => AllObj.cons fun o2 h2 => AllObj.nil fun N' => ?_
      have hx : vs[pre.length]? = some x := by rw [hv]; simp
      refine turn pre.length x m nw h tk T t (I + 1) o1 I o2 hx hT hl hoff hJ F' N' _ fun h' tk' m' nw' F'' N'' hoff' hl' hJ' => ?_
      refine ⟨h', tk', m', nw', rfl, F'', N'', fun p hp q hq => ?_, And.intro hl' trivial, ?_⟩
      · rcases List.mem_cons.mp hq with rfl | hq
        · exact (hoff' p hp).1
        · rw [List.mem_singleton.mp hq]; exact (hoff' p hp).2
      · have e := ih (pre ++ [x]) (by rw [hv, List.append_assoc]; rfl) m' nw' (by simpa using hJ') hoff' hl'
        simpa using e
  exact P vs [] rfl m₀ news hj (fun p hp => ⟨Nat.ne_of_lt (Nat.lt_succ_of_lt (hI p hp)), Nat.ne_of_lt (hI p hp)⟩) hm
end Mine
end
section
open PySem PySem.W PyProof.Rows PySem.Spec PySem.Calls
set_option maxHeartbeats 400000
namespace Mine
/-- a group of the law's table -/
structure Grp where
  f : Fm
  op : Int
  txt : PySem.Str
def grpRows (f : Fm) (op : Int) : List PySem.Str → List Row
  | a :: b :: r => ⟨a, f, op, (PySem.intText? b).getD 0, 0⟩ :: grpRows f op r
  | _ => []
def okWs : List PySem.Str → Bool
  | _ :: b :: r => (PySem.intText? b).isSome && decide (b.length ≤ 640) && okWs r
  | _ => true
theorem grp_get (f : Fm) (op : Int) : ∀ (ws : List PySem.Str), okWs ws = true → ∀ j, 2 * j + 1 < ws.length → ∃ a b lw, ws[2 * j]? = some a ∧ ws[2 * j + 1]? = some b ∧ PySem.intText? b = some lw ∧ b.length ≤ 640 ∧ (grpRows f op ws)[j]? = some ⟨a, f, op, lw, 0⟩
  | [], _, _, h => absurd h (by simp)
  | [_], _, _, h => absurd h (by simp)
  | a :: b :: r, ho, 0, _ => by
    simp only [okWs, Bool.and_eq_true, decide_eq_true_eq] at ho
    obtain ⟨lw, h⟩ := Option.isSome_iff_exists.mp ho.1.1
    exact ⟨a, b, lw, rfl, rfl, h, ho.1.2, by simp [grpRows, h]⟩
  | a :: b :: r, ho, j + 1, h => by
    simp only [okWs, Bool.and_eq_true, decide_eq_true_eq] at ho
    obtain ⟨a', b', lw, h1, h2, h3, h4, h5⟩ := grp_get f op r ho.2 j (by simp only [List.length_cons] at h; omega)
    refine ⟨a', b', lw, ?_, ?_, h3, h4, ?_⟩
    · show (a :: b :: r)[2 * j + 1 + 1]? = some a'
      simpa using h1
    · show (a :: b :: r)[2 * j + 1 + 1 + 1]? = some b'
      simpa using h2
    · simpa [grpRows] using h5
def gsL : List Grp := [⟨.B, 99, "beq 0 bne 1 blt 4 bge 5 bltu 6 bgeu 7"⟩, ⟨.I, 3, "lb 0 lh 1 lw 2 lbu 4 lhu 5"⟩, ⟨.S, 35, "sb 0 sh 1 sw 2"⟩, ⟨.I, 19, "addi 0 slti 2 sltiu 3 xori 4 ori 6 andi 7"⟩]
def gRows (g : Grp) : List Row := grpRows g.f g.op (Txt.split g.txt " ")
theorem grp_len {g : Grp} (h : g ∈ gsL) : ∃ n : Nat, n ≤ 6 ∧ (Txt.split g.txt " ").length = 2 * n ∧ Builtin.Range.rangeSize 0 (2 * (n : Int)) 2 = n ∧ Builtin.Range.small 0 (2 * (n : Int)) 2 = true ∧ okWs (Txt.split g.txt " ") = true ∧ g.txt.length ≤ 100 ∧ (gRows g).length = n := by
  simp only [gsL, List.mem_cons, List.not_mem_nil, or_false] at h
  rcases h with rfl | rfl | rfl | rfl
  · exact ⟨6, by decide +kernel⟩
  · exact ⟨5, by decide +kernel⟩
  · exact ⟨3, by decide +kernel⟩
  · exact ⟨6, by decide +kernel⟩
def preRows (i : Nat) : List Row := [⟨"lui", .U, 55, 0, 0⟩, ⟨"auipc", .U, 23, 0, 0⟩, ⟨"jal", .J, 111, 0, 0⟩, ⟨"jalr", .I, 103, 0, 0⟩] ++ (gsL.take i).flatMap gRows
theorem preRows_le (i : Nat) : (preRows i).length ≤ 24 := by
  have e : ∀ i < 5, (preRows i).length ≤ 24 := by decide +kernel
  by_cases h : i < 5
  · exact e i h
  · have e2 : gsL.take i = gsL.take 4 := by rw [List.take_of_length_le (by show 4 ≤ i; omega), List.take_of_length_le (by decide)]
    have e3 : preRows i = preRows 4 := by unfold preRows; rw [e2]
    rw [e3]; exact e 4 (by decide)
theorem preRows_succ {i : Nat} {g : Grp} (h : gsL[i]? = some g) : preRows (i + 1) = preRows i ++ gRows g := by
  unfold preRows
  rw [List.take_add_one, h, List.flatMap_append, ← List.append_assoc]
  simp
/-- the ledger bears these groups -/
inductive GA (news : List (Addr × Obj)) : List Value → List Grp → Prop
  | nil : GA news [] []
  | cons {D : Addr} {g : Grp} {t u v : Tok} {vs : List Value} {gs : List Grp} : (D, tupO [.str g.f.str t, .int g.op u, .str g.txt v]) ∈ news → GA news vs gs → GA news (.ref D :: vs) (g :: gs)
theorem GA.monoT {news news' : List (Addr × Obj)} {vs : List Value} {gs : List Grp} (h : GA news vs gs) (hs : ∀ D x, (D, tupO x) ∈ news → (D, tupO x) ∈ news') : GA news' vs gs := by
  induction h with
  | nil => exact .nil
  | cons hm _ ih => exact .cons (hs _ _ hm) ih
theorem GA.get {news : List (Addr × Obj)} {vs : List Value} {gs : List Grp} (h : GA news vs gs) : ∀ {i : Nat} {v : Value}, vs[i]? = some v → ∃ D g t u w, v = .ref D ∧ (D, tupO [.str g.f.str t, .int g.op u, .str g.txt w]) ∈ news ∧ gs[i]? = some g := by
  induction h with
  | nil => intro i v e; simp at e
  | cons hm _ ih =>
    intro i v e
    cases i with
    | zero => simp at e; subst e; exact ⟨_, _, _, _, _, rfl, hm, rfl⟩
    | succ i => simpa using ih (by simpa using e)
def hiRows (hi : Int) : Int → List PySem.Str → List Row
  | _, [] => []
  | lo, a :: r => ⟨a, .R, 51, lo, hi⟩ :: hiRows hi (lo + 1) r
theorem hi_get (hi : Int) : ∀ (ws : List PySem.Str) (lo : Int) (j : Nat) {a : PySem.Str}, ws[j]? = some a → (hiRows hi lo ws)[j]? = some ⟨a, .R, 51, lo + (j : Int), hi⟩
  | [], _, _, _, h => by simp at h
  | b :: r, lo, 0, a, h => by simp at h; subst h; simp [hiRows]
  | b :: r, lo, j + 1, a, h => by
    have e := hi_get hi r (lo + 1) j (a := a) (by simpa using h)
    have e2 : lo + 1 + (j : Int) = lo + ((j + 1 : Nat) : Int) := by push_cast; omega
    rw [e2] at e
    simpa [hiRows] using e
def hiTxt (i : Nat) : PySem.Str := if i = 0 then "add sll slt sltu xor srl or and" else "mul mulh mulhsu mulhu div divu rem remu"
def hisL : List (Int × PySem.Str) := [(0, "add sll slt sltu xor srl or and"), (1, "mul mulh mulhsu mulhu div divu rem remu")]
def hRows (q : Int × PySem.Str) : List Row := hiRows q.1 0 (Txt.split q.2 " ")
theorem his_len {q : Int × PySem.Str} (h : q ∈ hisL) : (Txt.split q.2 " ").length = 8 ∧ q.2.length ≤ 100 ∧ (hRows q).length = 8 := by
  simp only [hisL, List.mem_cons, List.not_mem_nil, or_false] at h
  rcases h with rfl | rfl
  · exact by decide +kernel
  · exact by decide +kernel
def midRows : List Row := preRows 4 ++ [⟨"slli", .H, 19, 1, 0⟩, ⟨"srli", .H, 19, 5, 0⟩, ⟨"srai", .H, 19, 5, 32⟩, ⟨"sub", .R, 51, 0, 32⟩] ++ [⟨"sra", .R, 51, 5, 32⟩, ⟨"fence", .F, 15, 0, 0⟩, ⟨"ecall", .E, 115, 0, 0⟩, ⟨"ebreak", .E, 115, 0, 1⟩]
def finRows (i : Nat) : List Row := midRows ++ (hisL.take i).flatMap hRows
theorem finRows_le (i : Nat) : (finRows i).length ≤ 48 := by
  have e : ∀ i < 3, (finRows i).length ≤ 48 := by decide +kernel
  by_cases h : i < 3
  · exact e i h
  · have e2 : hisL.take i = hisL.take 2 := by rw [List.take_of_length_le (by show 2 ≤ i; omega), List.take_of_length_le (by decide)]
    have e3 : finRows i = finRows 2 := by unfold finRows; rw [e2]
    rw [e3]; exact e 2 (by decide)
theorem finRows_succ {i : Nat} {q : Int × PySem.Str} (h : hisL[i]? = some q) : finRows (i + 1) = finRows i ++ hRows q := by
  unfold finRows
  rw [List.take_add_one, h, List.flatMap_append, ← List.append_assoc]
  simp
theorem fin_eq : finRows 2 = rowsL := by kernel_rfl
/-- the ledger bears these pairs -/
inductive HA (news : List (Addr × Obj)) : List Value → List (Int × PySem.Str) → Prop
  | nil : HA news [] []
  | cons {D : Addr} {y : Int} {x : PySem.Str} {t u : Tok} {vs : List Value} {ps : List (Int × PySem.Str)} : (D, tupO [.int y t, .str x u]) ∈ news → HA news vs ps → HA news (.ref D :: vs) ((y, x) :: ps)
theorem HA.monoT {news news' : List (Addr × Obj)} {vs : List Value} {ps : List (Int × PySem.Str)} (h : HA news vs ps) (hs : ∀ D x, (D, tupO x) ∈ news → (D, tupO x) ∈ news') : HA news' vs ps := by
  induction h with
  | nil => exact .nil
  | cons hm _ ih => exact .cons (hs _ _ hm) ih
theorem HA.get {news : List (Addr × Obj)} {vs : List Value} {ps : List (Int × PySem.Str)} (h : HA news vs ps) : ∀ {i : Nat} {v : Value}, vs[i]? = some v → ∃ D y x t u, v = .ref D ∧ (D, tupO [.int y t, .str x u]) ∈ news ∧ ps[i]? = some (y, x) := by
  induction h with
  | nil => intro i v e; simp at e
  | cons hm _ ih =>
    intro i v e
    cases i with
    | zero => simp at e; subst e; exact ⟨_, _, _, _, _, rfl, hm, rfl⟩
    | succ i => simpa using ih (by simpa using e)
end Mine
end
section
open PySem PySem.W PyProof.Rows PySem.Spec PySem.Calls
set_option maxHeartbeats 400000
namespace Mine
theorem allLt_mem {d : Addr} : ∀ {l : List (Addr × Obj)}, AllLt d l → ∀ p ∈ l, p.1 < d
  | [], _, _, h => nomatch h
  | q :: r, x, p, h => by
    rcases List.mem_cons.mp h with rfl | h
    · exact x.1
    · exact allLt_mem x.2 p h
section
variable {w : World} {mean : ExcName → Option Value} {mg mb : PySem.Str → Option Value} {dp un : Nat} {gd : Option (List Code)} {cn : PySem.Str} {cs : Scope} {a : Addr} {ccd : Value} {cl : List (PySem.Str × Addr)} {outer : List Env} {A₀ : Around} {base h₀ : Heap} {L : Addr} {m : PySem.Str → Option Value} {s : Shared} {Q E : Value → Shared → Prop} {news : List (Addr × Obj)}

theorem len_c {A : Around} {l : Addr} {vs : List Value} {n : Nat} {k : Int} (N : News h₀ L s.heap news) (hl : (l, listOf vs.toArray n) ∈ news) (hk : (vs.length : Int) = k) (hz : vs.length ≤ 1000) (ret : ∀ t tk, Q (.int k t) { s with toks := tk }) :
    wpAny (model pr w) A (call (.builtin "len") [.ref l]) Q E s := by
  subst hk
  have e : vs.toArray.size = vs.length := by simp
  exact KM.len_K N hl e (by omega) (ret _ _)
theorem split_c {A : Around} {x : PySem.Str} {t u : Tok} (F : Fr h₀ L s.heap m) (N : News h₀ L s.heap news) (hx : x.length ≤ 100)
    (ret : ∀ D vs h' tk, StrsAre vs (Txt.split x " ") → Fr h₀ L h' m → News h₀ L h' ((D, listOf vs.toArray 0) :: news) → (∀ p ∈ news, p.1 < D) → Q (.ref D) { s with heap := h', toks := tk }) :
    wpAny (model pr w) A (call (.builtin "str.split") [.str x t, .str " " u]) Q E s :=
  KSpl.split1 F N (by decide) (fun D l h' k e sa F' N' lt => ret D _ h' k (e ▸ sa) F' N' lt) (by rw [sizeLine_eq]; omega)
theorem int_c {A : Around} {x : PySem.Str} {t : Tok} {n : Int} (hn : PySem.intText? x = some n) (hl : x.length ≤ 640) (ret : ∀ t, Q (.int n t) { s with toks := s.toks + 1 }) : wpAny (model pr w) A (call (.type "int") [.str x t]) Q E s :=
  KIN.call_text hn hl (ret _)
theorem sitem_c {A : Around} {value slice : PySem.Expr} {l : Addr} {vs : List Value} {n : Nat} {i : Int} {t : Tok} {x : PySem.Str} {tx : Tok} (N : News h₀ L s.heap news) (hm : (l, listOf vs.toArray n) ∈ news) (h0 : 0 ≤ i) (h1 : i < 1000) (hx : vs[i.toNat]? = some (.str x tx)) (ret : Q (.str x tx) s)
    (hs : subscripted slice false (.ref l) (.int i t) = operate [.ref l, .int i t] (getItem (.ref l) (.int i t)) := by with_unfolding_all rfl) (hg : ∀ r, letTemporaryGo value (.ref l) r = pure () := by intro _; with_unfolding_all rfl) :
    wpAny (model pr w) A (subscriptTail value slice (.ref l) (.int i t)) Q E s :=
  kim_list N hm rfl rfl h0 (by omega) hx ret hs hg
theorem cat_c {A : Around} {a b : Addr} {vs ws : List Value} {n k : Nat} (F : Fr h₀ L s.heap m) (N : News h₀ L s.heap news) (ha : (a, listOf vs.toArray n) ∈ news) (hb : (b, listOf ws.toArray k) ∈ news) (hz : vs.length + ws.length ≤ 1000)
    (ret : ∀ D h', Fr h₀ L h' m → News h₀ L h' ((D, listOf (vs ++ ws).toArray 0) :: news) → (∀ p ∈ news, p.1 < D) → Q (.ref D) { s with heap := h' }) : wpAny (model pr w) A (binaryOp .Add (.ref a) (.ref b)) Q E s :=
  kmk_add_lit F N (News.isList N ha) (News.isList N hb) (by simp) ret (by rw [sizeLine_eq]; simp; omega)
theorem kw_W22_1 : True := by
  k_with_none
  k_with "pyIter ref" => (k_here; refine Stop.out ?_)
  k_with "call type:enumerate" => (k_here; refine Stop.out ?_)
  k_with "exec For" => (k_here; k_dflt (first | ((with_reducible rename Fr _ _ _ _ => kF); (with_reducible show wpAny _ _ (exec (Stmt.For _ (PySem.Expr.Call (PySem.Expr.Name "enumerate" _) _ _ _) _ _ _) _) _ _ _); refine For_turns kF ?_) | (refine For_invTF (by k_asm) ?_ (fun _ => by rfl))))
  k_with "exec For Tuple List cons nil" => (k_here; k_dflt (refine For_invTF (by k_asm) ?_ (fun _ => by rfl)))
  k_with "exec For Name Call cons nil" => (k_here; k_dflt (refine For_invTF (by k_asm) ?_ (fun _ => by rfl)))
  k_with "exec For Tuple Name cons nil" => (k_here; k_dflt (refine For_invTF (by k_asm) ?_ (fun _ => by rfl)))
  k_with "exec For Tuple Call cons nil" => (k_here; k_dflt (refine For_turns (by k_asm) ?_))
  k_with "eval Name" => (k_here; k_dflt (refine' nameX_L ?zF ?zv ?_ ?za ?zb; (case zF => k_asm); (case za => rfl); (case zb => rfl); (case zv => first | rfl | assumption); k_whole))
  k_with "call builtin:len" => (k_here; k_dflt (refine' len_c ?zN ?zl ?zk ?zz ?_; (case zN => k_asm); (case zl => k_mem); (case zk => exact (congrArg Nat.cast (StrsAre.len_eq (by assumption))).trans (by assumption)); (case zz => rw [StrsAre.len_eq (by assumption)]; omega); intro _ _))
  k_with "call builtin:str.split" => (k_here; k_dflt (refine' split_c ?zF ?zN ?zx ?_; (case zF => k_asm); (case zN => k_asm); (case zx => assumption); intro d5 vs5 h5 tk5 sa5 F5 N5 lt5; have ln5 := StrsAre.len_eq sa5))
  k_with "call type:int" => (k_here; k_dflt (refine' int_c ?zn ?zl ?_; (case zn => assumption); (case zl => assumption); intro _))
  k_with "binaryOp Add ref ref" => (k_here; k_dflt (refine' cat_c ?zF ?zN ?za ?zb ?zz ?_; (case zF => k_asm); (case zN => k_asm); (case za => k_mem); (case zb => k_mem); (case zz => simp only [List.length_append, List.length_cons, List.length_nil]; omega); intro _ _ _ _ _))
  k_with "call type:range" => (k_here; k_dflt (refine' range3_rows ?zF ?zN ?zc ?_ ?zp; (case zF => k_asm); (case zN => k_asm); (case zc => decide); (case zp => exact Or.inl (PyProof.noPylong_small (by decide))); intro _ _ _ _ _ _ _ _ _))
  k_with "call builtin:list.append" => (k_here; k_dflt (refine' app_c ?zF ?zN ?zl ?zz ?_; (case zF => k_asm); (case zN => k_asm); (case zl => first | k_mem | exact List.Mem.tail _ (by assumption) | exact List.Mem.tail _ (List.Mem.tail _ (by assumption))); (case zz => assumption); intro _ _ _ _ _ _))
  k_with "subscriptTail" => (k_here; k_dflt (refine' sitem_c ?zN ?zm ?z0 ?z1 ?zx ?_; (case zN => k_asm); (case zm => first | k_mem | exact List.Mem.tail _ (by assumption)); (case z0 => omega); (case z1 => omega); (case zx => assumption)))
  trivial
set_option maxHeartbeats 8000000 in
theorem table_c (B : Below A₀ base outer h₀) (F : Fr h₀ L s.heap m) (X : (K w.params).In h₀) (T : Top vq lo mean mg mb h₀) (hk : cs.kind = .function) (hd : dp + 30 < recursionLimit) (hu : un + 420 < cLine)
    (N : News h₀ L s.heap news)
    (ret : ∀ l (vs : List Value) nn news' h' tk', (l, listOf vs.toArray nn) ∈ news' → RowsAt news' vs rowsL → (∀ p ∈ news, p ∈ news') → Fr h₀ L h' m → News h₀ L h' news' → Q (.ref l) { s with heap := h', toks := tk' }) :
    wpAny (model pr w) (ktrTop dp un gd cn cs L a ccd cl outer) (call (.ref 388) []) Q E s := by
  refine wpAny_call ?_
  k_dflt (refine' enterD [] ?k1 ?k2 ?k3 ?k4 ?k5 ?kA ?kF ?kK ?k6 ?k7 ?k8 ?k9 ?kB ?_ ?c2 ?c3 ?c4 ?c5; (case kA => exact rfl); (case kF => exact rfl); (case kK => assumption); (case k1 => k_asm); (case k2 => k_asm); (case k3 => k_asm); (case k4 => k_asm); (case k5 => k_asm); (case k6 => k_is); (case k7 => k_is); (case k8 => ktr_room); (case k9 => exact BindsTo.of_eq rfl); (case c5 => decide); (case kB => exact locs rfl); (case c2 => exact rfl); (case c3 => exact rfl); (case c4 => exact rfl); k_whole; intro g' L' h' tk' FG' F' N' B' X' T'; (try dsimp only); (try k_fold))
  k_steps
  rename_i Da hAa lAa Db hAb lAb Dc hAc lAc Dd hAd lAd fo hFo lFo hE tkE D4 hA4 lA4 D3 hA3 lA3 lg hAg lAg hB tkB D2 hA2 lA2 D1 hA1 lA1 lh hAh lAh DG hAG lAG hC F9 N9
  have hDG : DG ≠ fo := Nat.ne_of_gt (lAG (fo, listOf [.ref Da, .ref Db, .ref Dc, .ref Dd].toArray 0) (by repeat (first | exact List.Mem.head _ | refine List.Mem.tail _ ?_)))
  have hFn : ∀ p ∈ news, p.1 < fo := allLt_mem lFo.2.2.2.2
  refine ⟨?_⟩
  refine iterL (vs := [.ref D4, .ref D3, .ref D2, .ref D1]) (fun i m₁ nw' => m₁ "found" = some (.ref fo) ∧ (∃ (vs : List Value) (n : Nat), (fo, listOf vs.toArray n) ∈ nw' ∧ RowsAt nw' vs (preRows i)) ∧ GA nw' [.ref D4, .ref D3, .ref D2, .ref D1] gsL ∧ (∀ p ∈ news, p ∈ nw')) rfl (.head _) F9 N9 ?j0 ?turn ?done
  case j0 =>
    refine ⟨rfl, ⟨[.ref Da, .ref Db, .ref Dc, .ref Dd], 0, ?_, ?_⟩, ?_, ?_⟩
    rotate_left
    · exact .cons ⟨_, _, _, _, _, by repeat (first | exact List.Mem.head _ | refine List.Mem.tail _ ?_)⟩ (.cons ⟨_, _, _, _, _, by repeat (first | exact List.Mem.head _ | refine List.Mem.tail _ ?_)⟩ (.cons ⟨_, _, _, _, _, by repeat (first | exact List.Mem.head _ | refine List.Mem.tail _ ?_)⟩ (.cons ⟨_, _, _, _, _, by repeat (first | exact List.Mem.head _ | refine List.Mem.tail _ ?_)⟩ .nil)))
    · exact .cons (by repeat (first | exact List.Mem.head _ | refine List.Mem.tail _ ?_)) (.cons (by repeat (first | exact List.Mem.head _ | refine List.Mem.tail _ ?_)) (.cons (by repeat (first | exact List.Mem.head _ | refine List.Mem.tail _ ?_)) (.cons (by repeat (first | exact List.Mem.head _ | refine List.Mem.tail _ ?_)) .nil)))
    · intro p hp
      repeat (first | exact hp | refine List.Mem.tail _ ?_)
    · repeat (first | exact List.Mem.head _ | refine List.Mem.tail _ ?_)
  case turn =>
    clear ret lFo lA4 lA3 lAg lA2 lA1 lAh lAG lAa lAb lAc lAd
    rintro i v m₁ nw₁ s₁ it ito hv ⟨fs9, hfs⟩ hit hl ⟨n1, ⟨vs, n, hfo, hrows⟩, ga, sub₁⟩ F₁ N₁
    obtain ⟨D, g, t, u, w9, rfl, hD, hg⟩ := ga.get hv
    have hnt : ∀ D x, (D, tupO x) ∈ nw₁ → D ≠ fo := fun D x hx => ne_of_obj N₁ (.tail _ hx) (.tail _ hfo) tup_ne_list
    obtain ⟨gn, gl, gle, grs, gsm, gok, gtx, grl⟩ := grp_len (List.mem_of_getElem? hg)
    have gleI : ((Txt.split g.txt " ").length : Int) = 2 * (gn : Int) := by rw [gle]; push_cast; rfl
    k_steps
    rename_i d5 vs5 h5 tk5 sa5 lt5 ln5 hP lF5 N5 t4 tk4 h7 tk7 t7 u7 v7 r7 F7 N7 k7
    have hd5 : d5 ≠ fo := Nat.ne_of_gt (lt5 _ (.tail _ hfo))
    have hitf : it ≠ fo := fun e => hit _ hfo e.symm
    refine ⟨?_⟩
    refine iterR (fun j m₂ nw' => (m₂ "found" = some (.ref fo) ∧ m₂ "parts" = some (.ref d5) ∧ (∃ t, m₂ "form" = some (.str g.f.str t)) ∧ ∃ t, m₂ "opcode" = some (.int g.op t)) ∧ (∀ p ∈ (d5, listOf vs5.toArray 0) :: (it, ito) :: nw₁, p.1 ≠ fo → p ∈ nw') ∧ ∃ (vs : List Value) (n : Nat), (fo, listOf vs.toArray n) ∈ nw' ∧ RowsAt nw' vs (preRows i ++ (gRows g).take j)) rfl r7 gsm grs F7 N7 ?k0 ?kturn ?kdone
    case k0 => exact ⟨⟨n1, rfl, ⟨_, rfl⟩, _, rfl⟩, fun p hp _ => hp, vs, n, .tail _ (.tail _ hfo), by rw [List.take_zero, List.append_nil]; exact hrows.mono fun p hp => .tail _ (.tail _ hp)⟩
    case kturn =>
      rintro j m₂ nw₂ s₂ it2 ito2 tk2 hj ⟨fs2, hfs2⟩ hit2 ⟨⟨q1, q2, ⟨tf, q3⟩, to, q4⟩, kp, vs', n', hfo', hrows'⟩ F₂ N₂ R hR
      obtain ⟨wa, wb, lw, e1, e2, e3, e4, e5⟩ := grp_get g.f g.op _ gok j (by rw [gle]; omega)
      obtain ⟨ta, x1⟩ := sa5.at e1
      obtain ⟨tb, x2⟩ := sa5.at e2
      have y1 : vs5[(0 + (j : Int) * 2).toNat]? = some (.str wa ta) := by rw [show (0 + (j : Int) * 2).toNat = 2 * j by omega]; exact x1
      have y2 : vs5[(0 + (j : Int) * 2 + 1).toNat]? = some (.str wb tb) := by rw [show (0 + (j : Int) * 2 + 1).toNat = 2 * j + 1 by omega]; exact x2
      have hvl : vs'.length ≤ 1000 := by
        have a := hrows'.length
        have b := preRows_le i
        rw [List.length_append, List.length_take] at a
        omega
      have mP : (d5, listOf vs5.toArray 0) ∈ (it2, ito2) :: nw₂ := .tail _ (kp _ (.head _) hd5)
      have mF : (fo, listOf vs'.toArray n') ∈ (it2, ito2) :: nw₂ := .tail _ hfo'
      k_steps
      rename_i hA8 tkA t6 D8 hh8 F8' N8' l8 h8 nw8 kp8 mm8 F8 N8
      have hDf : D8 ≠ fo := ne_of_obj N8' (.head _) (.tail _ (.tail _ hfo')) tup_ne_list
      have hDi : D8 ≠ it2 := Nat.ne_of_gt l8.1
      have hit8 := kp8 _ (.tail _ (.head _)) ((hit2 _ hfo').symm)
      have e5' : (gRows g)[j]? = some ⟨wa, g.f, g.op, lw, 0⟩ := e5
      refine hR _ _ (TurnEnd.intro F8 N8 hit8 ⟨⟨q1, q2, ⟨_, q3⟩, _, q4⟩, fun p hp hn => drop_mem (kp8 p (.tail _ (.tail _ (kp p hp hn))) hn) (hit2 p (kp p hp hn)), _, _, drop_mem mm8 (show fo ≠ it2 from hit2 _ hfo'), ?_⟩)
      rw [List.take_add_one, e5', ← List.append_assoc]
      exact (hrows'.monoT fun D x hx => drop_mem (kp8 _ (.tail _ (.tail _ hx)) (ne_of_obj N₂ (.tail _ hx) (.tail _ hfo') tup_ne_list)) (hit2 _ hx)).append (.cons ⟨_, _, _, _, _, drop_mem (kp8 _ (.head _) hDf) hDi⟩ .nil)
    case kdone =>
      rintro m₂ nw₂ h₂ tk₂ ⟨⟨q1, q2, ⟨tf, q3⟩, to, q4⟩, kp, vs', n', hfo', hrows'⟩ F₂ N₂
      k_steps
      have hit' := kp _ (.tail _ (.head _)) hitf
      refine TurnEnd.intro F₂ N₂ hit' ⟨drop_mem (kp _ (.tail _ (.tail _ hl)) hDG) (hit _ hl), q1, ⟨vs', n', drop_mem hfo' (show fo ≠ it from hit _ hfo), ?_⟩, ga.monoT fun D x hx => drop_mem (kp _ (.tail _ (.tail _ hx)) (hnt D x hx)) (hit _ hx), fun p hp => drop_mem (kp _ (.tail _ (.tail _ (sub₁ p hp))) (Nat.ne_of_lt (hFn p hp))) (hit _ (sub₁ p hp))⟩
      have hr2 := hrows'.monoT (news' := drop it nw₂) fun D x hx => drop_mem hx (ne_of_obj N₂ hx hit' (by rintro rfl; exact nomatch hfs))
      rw [List.take_of_length_le (Nat.le_of_eq grl)] at hr2
      rw [preRows_succ hg]
      exact hr2
  case done =>
    rintro m₁ nw₁ h₁ tk₁ ⟨n1, ⟨vs, n, hfo, hrows⟩, ga, sub₁⟩ F₁ N₁
    have hvl : vs.length ≤ 24 := by rw [hrows.length]; exact preRows_le _
    clear lFo lA4 lA3 lAg lA2 lA1 lAh lAG lAa lAb lAc lAd
    k_steps
    rename_i Dp hp1 lp1 Dq hq1 lq1 Dr hr1 lr1 Ds hs1 ls1 l2 hl2 F2' N2' ll2 D9a h9a F9a N9a lt9a hx9 tkx Dt ht1 lt1 Du hu1 lu1 Dv hv1 lv1 Dw hw1 lw1 l3 hl3 ll3 fb h9b lt9b hx8 Dh0 hh0 lh0 Dh1 hh1 lh1 lz hz Fz Nz llz
    have hzb : lz ≠ fb := Nat.ne_of_gt llz.2.2.1
    have hbn : ∀ p ∈ news, p.1 < fb := fun p hp => lt9b p (by repeat (first | exact sub₁ p hp | refine List.Mem.tail _ ?_))
    refine ⟨?_⟩
    refine iterL (vs := [.ref Dh0, .ref Dh1]) (fun i m₁ nw' => m₁ "found" = some (.ref fb) ∧ (∃ (vs : List Value) (n : Nat), (fb, listOf vs.toArray n) ∈ nw' ∧ RowsAt nw' vs (finRows i)) ∧ HA nw' [.ref Dh0, .ref Dh1] hisL ∧ (∀ p ∈ news, p ∈ nw')) rfl (.head _) Fz Nz ?j0 ?turn ?done
    case j0 =>
      refine ⟨rfl, ⟨vs ++ [.ref Dp, .ref Dq, .ref Dr, .ref Ds] ++ [.ref Dt, .ref Du, .ref Dv, .ref Dw], 0, ?_, ?_⟩, ?_, ?_⟩
      rotate_left
      · rw [show finRows 0 = midRows ++ [] from rfl, List.append_nil]
        exact ((hrows.mono fun p hp => by repeat (first | exact hp | refine List.Mem.tail _ ?_)).append (.cons ⟨_, _, _, _, _, by repeat (first | exact List.Mem.head _ | refine List.Mem.tail _ ?_)⟩ (.cons ⟨_, _, _, _, _, by repeat (first | exact List.Mem.head _ | refine List.Mem.tail _ ?_)⟩ (.cons ⟨_, _, _, _, _, by repeat (first | exact List.Mem.head _ | refine List.Mem.tail _ ?_)⟩ (.cons ⟨_, _, _, _, _, by repeat (first | exact List.Mem.head _ | refine List.Mem.tail _ ?_)⟩ .nil))))).append (.cons ⟨_, _, _, _, _, by repeat (first | exact List.Mem.head _ | refine List.Mem.tail _ ?_)⟩ (.cons ⟨_, _, _, _, _, by repeat (first | exact List.Mem.head _ | refine List.Mem.tail _ ?_)⟩ (.cons ⟨_, _, _, _, _, by repeat (first | exact List.Mem.head _ | refine List.Mem.tail _ ?_)⟩ (.cons ⟨_, _, _, _, _, by repeat (first | exact List.Mem.head _ | refine List.Mem.tail _ ?_)⟩ .nil))))
      · exact .cons (by repeat (first | exact List.Mem.head _ | refine List.Mem.tail _ ?_)) (.cons (by repeat (first | exact List.Mem.head _ | refine List.Mem.tail _ ?_)) .nil)
      · intro p hp
        repeat (first | exact sub₁ p hp | refine List.Mem.tail _ ?_)
      · repeat (first | exact List.Mem.head _ | refine List.Mem.tail _ ?_)
    case turn =>
      clear ret lp1 lq1 lr1 ls1 ll2 lt9a lt1 lu1 lv1 lw1 ll3 lt9b lh0 lh1 llz N2' N9a Nz
      rintro i v m₂ nw₂ s₂ it ito hv ⟨fs9, hfs⟩ hit hl ⟨n1', ⟨vs', n', hfo', hrows'⟩, ha, sub₂⟩ F₂ N₂
      obtain ⟨D, hi, tx, t, u, rfl, hD, hg⟩ := ha.get hv
      have hnt : ∀ D x, (D, tupO x) ∈ nw₂ → D ≠ fb := fun D x hx => ne_of_obj N₂ (.tail _ hx) (.tail _ hfo') tup_ne_list
      obtain ⟨e8, etx, erl⟩ := his_len (List.mem_of_getElem? hg)
      have gtx : tx.length ≤ 100 := etx
      have hitf : it ≠ fb := fun e => hit _ hfo' e.symm
      k_steps
      rename_i d5 vs5 h5 tk5 sa5 F5 N5 lt5 ln5
      have hd5 : d5 ≠ fb := Nat.ne_of_gt (lt5 _ (.tail _ hfo'))
      refine ⟨?_⟩
      refine iterE (fun j m₃ nw' => (m₃ "found" = some (.ref fb) ∧ ∃ t, m₃ "high" = some (.int hi t)) ∧ (∀ p ∈ (d5, listOf vs5.toArray 0) :: (it, ito) :: nw₂, p.1 ≠ fb → p ∈ nw') ∧ ∃ (vs : List Value) (n : Nat), (fb, listOf vs.toArray n) ∈ nw' ∧ RowsAt nw' vs (finRows i ++ (hRows (hi, tx)).take j)) rfl F5 N5 (.head _) ?k0 ?kturn ?kdone
      case k0 => exact ⟨⟨n1', _, rfl⟩, fun p hp _ => hp, vs', n', .tail _ (.tail _ hfo'), by rw [List.take_zero, List.append_nil]; exact hrows'.mono fun p hp => .tail _ (.tail _ hp)⟩
      case kturn =>
        rintro j x m₃ nw₃ h₃ tk₃ T t3 it1 o1 it2 o2 hx hT hl3 hoff ⟨⟨q1, th, q2⟩, kp, vs'', n'', hfo'', hrows''⟩ F₃ N₃ R hR
        obtain ⟨nm, tnm, rfl, e1⟩ := sa5.item j x hx
        have e5 : (hRows (hi, tx))[j]? = some ⟨nm, .R, 51, 0 + (j : Int), hi⟩ := hi_get hi _ 0 j e1
        rw [Int.zero_add] at e5
        have hvl2 : vs''.length ≤ 1000 := by
          have a := hrows''.length
          have b := finRows_le i
          rw [List.length_append, List.length_take, erl] at a
          omega
        have mF : (fb, listOf vs''.toArray n'') ∈ (it1, o1) :: (it2, o2) :: nw₃ := .tail _ (.tail _ hfo'')
        k_steps
        rename_i hA8 F8a N8a hB8 hC8 tkA D8 hh8 F8' N8' l8 h8 nw8 kp8 mm8 F8 N8
        have hDf : D8 ≠ fb := ne_of_obj N8' (.head _) (.tail _ (.tail _ (.tail _ hfo''))) tup_ne_list
        have ho1 : fb ≠ it1 := (hoff _ hfo'').1
        have ho2 : fb ≠ it2 := (hoff _ hfo'').2
        have hi1 := kp8 _ (.tail _ (.head _)) ho1.symm
        have hi2 := kp8 _ (.tail _ (.tail _ (.head _))) ho2.symm
        have keep : ∀ p ∈ nw₃, p.1 ≠ fb → p ∈ drop it1 (drop it2 nw8) := fun p hp hn => drop_mem (drop_mem (kp8 p (.tail _ (.tail _ (.tail _ hp))) hn) (hoff p hp).2) (hoff p hp).1
        refine hR _ _ _ (drop it1 (drop it2 nw8)) F8 ?_ (fun p hp => ⟨drop_ne hp, drop_ne (drop_sub hp)⟩) (keep _ hl3 hd5) ⟨⟨q1, _, q2⟩, fun p hp hn => keep p (kp p hp hn) hn, _, _, drop_mem (drop_mem mm8 ho2) ho1, ?_⟩
        · intro p hp
          rcases List.mem_cons.mp hp with rfl | hp
          · exact N8 _ hi1
          · rcases List.mem_cons.mp hp with rfl | hp
            · exact N8 _ hi2
            · exact N8 _ (drop_sub (drop_sub hp))
        · rw [List.take_add_one, e5, ← List.append_assoc]
          exact (hrows''.monoT fun D x hx => keep _ hx (ne_of_obj N8' (.tail _ (.tail _ (.tail _ hx))) (.tail _ (.tail _ (.tail _ hfo''))) tup_ne_list)).append (.cons ⟨_, _, _, _, _, drop_mem (drop_mem (kp8 _ (.head _) hDf) (Nat.ne_of_gt l8.2.1)) (Nat.ne_of_gt l8.1)⟩ .nil)
      case kdone =>
        rintro m₃ nw₃ h₃ tk₃ ⟨⟨q1, th, q2⟩, kp, vs'', n'', hfo'', hrows''⟩ F₃ N₃
        k_steps
        have hit' := kp _ (.tail _ (.head _)) hitf
        refine TurnEnd.intro F₃ N₃ hit' ⟨drop_mem (kp _ (.tail _ (.tail _ hl)) hzb) (hit _ hl), q1, ⟨vs'', n'', drop_mem hfo'' (show fb ≠ it from hit _ hfo'), ?_⟩, ha.monoT fun D x hx => drop_mem (kp _ (.tail _ (.tail _ hx)) (hnt D x hx)) (hit _ hx), fun p hp => drop_mem (kp _ (.tail _ (.tail _ (sub₂ p hp))) (Nat.ne_of_lt (hbn p hp))) (hit _ (sub₂ p hp))⟩
        have hr2 := hrows''.monoT (news' := drop it nw₃) fun D x hx => drop_mem hx (ne_of_obj N₃ hx hit' (by rintro rfl; exact nomatch hfs))
        rw [List.take_of_length_le (by rw [erl, ln5, e8]; exact Nat.le_refl _)] at hr2
        rw [finRows_succ hg]
        exact hr2
    case done =>
      rintro m₂ nw₂ h₂ tk₂ ⟨n1', ⟨vs', n', hfo', hrows'⟩, ha, sub₂⟩ F₂ N₂
      k_steps
      refine' ret _ _ _ _ _ _ hfo' ?y1 sub₂ ?y2 ?y3
      case y2 => assumption
      case y3 => assumption
      case y1 => rw [← fin_eq]; exact hrows'
theorem kw_W22_2 : True := by
  k_with_none
  trivial
end
end Mine
end
section
open PySem PySem.W PyProof.Rows PySem.Spec PySem.Calls
set_option maxHeartbeats 400000
namespace Mine
def scW : Scope := { kind := .function, names := [(".0", .local), ("cell", .local), ("int", .globalImplicit)], isGenerator := false, isCoroutine := false }
section
variable {w : World} {mean : ExcName → Option Value} {mg mb : PySem.Str → Option Value} {dp un : Nat} {gd : Option (List Code)} {cn : PySem.Str} {cs : Scope} {a : Addr} {ccd : Value} {cl : List (PySem.Str × Addr)} {outer : List Env} {A₀ : Around} {base h₀ : Heap} {L : Addr} {m : PySem.Str → Option Value} {s : Shared} {Q E : Value → Shared → Prop} {news : List (Addr × Obj)}

theorem elt_well {A : Around} (v : Int) (t : Tok) (p1 p2 p3 p4 p5 : Pos) (n3 : Nat) (L' : Addr) (m₂ : PySem.Str → Option Value) (C : Addr) (oC : Obj) (cl' : List (PySem.Str × Addr))
    (F : Fr h₀ L s.heap m) (X : (K w.params).In h₀) (T : Top vq lo mean mg mb h₀) (N : News h₀ L s.heap news) (hC : (C, oC) ∈ news) (hN : LCg.NsObj oC m₂) (hm : m₂ "cell" = some (.int v t))
    (ret : ∀ u h' tk', Fr h₀ L h' m → News h₀ L h' news → Q (.int (v.fmod 2147483647) u) { s with heap := h', toks := tk' }) :
    wpAny (model pr w) A (eval (.BinOp (.Call (.Name "int" p1) [.Name "cell" p2] [] p3) .Mod (.Constant (.int 2147483647) n3 p4) p5) (compEnvC scW cl' C (envOf "_law_well" (fdS (stm 23)) L' 374 (.ref 373)))) Q E s := by
  k_steps
  all_goals exact ret _ _ _ (by assumption) (by assumption)
theorem rest_well {its : List Value} {ns : List Int} (hi : IntsAre its ns) (p1 p2 p3 p4 p5 : Pos) (n3 : Nat) (L' : Addr) (cl' : List (PySem.Str × Addr))
    (X : (K w.params).In h₀) (T : Top vq lo mean mg mb h₀) (S : List (Addr × Obj) → Prop) (Fin : List Value → List (Addr × Obj) → Prop) (nw : List (Addr × Obj)) (hS : S nw)
    (fin : ∀ ys, IntsAre ys (ns.map fun v => v.fmod 2147483647) → Fin ys nw) :
    LCg.CompRest pr w A h₀ L m (envOf "_law_well" (fdS (stm 23)) L' 374 (.ref 373)) (.BinOp (.Call (.Name "int" p1) [.Name "cell" p2] [] p3) .Mod (.Constant (.int 2147483647) n3 p4) p5) "cell" scW cl' s S (fun i v => its.toArray[i]? = some v) Fin its.toArray.size 0 [] nw := by
  have main : ∀ (k i : Nat) (ys : List Value), i + k = its.length → IntsAre ys ((ns.take i).map fun v => v.fmod 2147483647) →
      LCg.CompRest pr w A h₀ L m (envOf "_law_well" (fdS (stm 23)) L' 374 (.ref 373)) (.BinOp (.Call (.Name "int" p1) [.Name "cell" p2] [] p3) .Mod (.Constant (.int 2147483647) n3 p4) p5) "cell" scW cl' s S (fun i v => its.toArray[i]? = some v) Fin k i ys nw := by
    intro k
    induction k with
    | zero =>
      intro i ys hik hp
      refine .zero (fin ys ?_)
      rw [List.take_of_length_le (by rw [← hi.length]; omega)] at hp
      exact hp
    | succ k ih =>
      intro i ys hik hp
      refine .succ ?_
      rintro v I oI C oC D m₂ h tk E' hv hC hx F N off ne
      obtain ⟨n, t, rfl, hn⟩ := hi.at i v (by simpa using hv)
      refine elt_well (mg := mg) (mb := mb) (mean := mean) n t p1 p2 p3 p4 p5 n3 L' m₂ C oC cl' F X T N (.tail _ (.head _)) hC hx (fun u h' tk' F' N' => ?_)
      refine LCg.CompEnd.intro F' N' nw (fun q hq => hq) off hS (ih (i + 1) _ (by omega) ?_)
      rw [List.take_add_one, hn, List.map_append]
      exact hp.append (.cons _ _ .nil)
  have e : its.toArray.size = its.length := by simp
  rw [e]
  exact main its.length 0 [] (by omega) .nil
theorem kw_W23_1 : True := by
  k_with_none
  k_with "eval ListComp" => (k_here; k_dflt (refine LCg.ListComp_U (F₀ := by k_asm) (by rfl) (by decide) (by rfl) (by decide) (by rfl) ?_))
  k_with "CompSrc" => (k_here; k_dflt (refine LCg.CompSrc.ledger (by rfl) (by k_asm) (by k_asm) (by k_mem) (by rw [sizeLine_eq]; simp only [List.size_toArray]; have := IntsAre.length (show IntsAre _ _ by assumption); omega) ?_); intro g9)
  k_with "CompRest" => (k_dflt (refine rest_well (mg := mg) (mb := mb) (mean := mean) (by assumption) _ _ _ _ _ _ _ _ (by k_asm) (by k_asm) _ _ _ ?zs ?_; (case zs => exact .inr ⟨_, by k_mem, rfl, _, rfl⟩)); (unfold LCg.FinE); intro _ _ _ _ _ _ _ _)
  trivial
set_option maxHeartbeats 4000000 in
theorem well_c (sc : Addr) (its : List Value) (ns : List Int) (B : Below A₀ base outer h₀) (F : Fr h₀ L s.heap m) (X : (K w.params).In h₀) (T : Top vq lo mean mg mb h₀) (hk : cs.kind = .function) (hd : dp + 30 < recursionLimit) (hu : un + 420 < cLine)
    (N : News h₀ L s.heap news) (hl : h₀.IsList sc its.toArray) (hi : IntsAre its ns) (hln : ns.length ≤ 63)
    (ret : ∀ wl cw news' h' tk', HasWell news' wl cw 0 → (∀ p ∈ news, p ∈ news') → Fr h₀ L h' m → News h₀ L h' news' → Q (.ref wl) { s with heap := h', toks := tk' }) :
    wpAny (model pr w) (ktrTop dp un gd cn cs L a ccd cl outer) (call (.ref 374) [.ref sc]) Q E s := by
  refine wpAny_call ?_
  k_dflt (refine' enterD [("script", .ref sc)] ?k1 ?k2 ?k3 ?k4 ?k5 ?kA ?kF ?kK ?k6 ?k7 ?k8 ?k9 ?kB ?_ ?c2 ?c3 ?c4 ?c5; (case kA => exact rfl); (case kF => exact rfl); (case kK => assumption); (case k1 => k_asm); (case k2 => k_asm); (case k3 => k_asm); (case k4 => k_asm); (case k5 => k_asm); (case k6 => k_is); (case k7 => k_is); (case k8 => ktr_room); (case k9 => exact BindsTo.of_eq rfl); (case c5 => decide); (case kB => exact locs rfl); (case c2 => exact rfl); (case c3 => exact rfl); (case c4 => exact rfl); k_whole; intro g' L' h' tk' FG' F' N' B' X' T'; (try dsimp only); (try k_fold))
  have hl' : g'.IsList sc its.toArray := hl.at fun o e => FG'.keep _ _ e
  have hll : its.length ≤ 63 := by rw [IntsAre.length hi]; exact hln
  k_steps
  rename_i Ds ws hs ls hI hC hL ys9 hy9 D9 h9 tk9 o9 l' hl9 F9 N9 ll kF kN Tc kX
  refine' ret _ D9 _ _ _ ?y0 ?y1 ?y2 ?y3
  case y2 => assumption
  case y3 => assumption
  case y1 => exact fun p hp => .tail _ (.tail _ (.tail _ hp))
  case y0 =>
    refine ⟨_, .head _, ⟨⟨ys9, _, 0, ys9.length, 0, 90001 + (ns.length : Int), _, _, rfl, .tail _ (.head _), Nat.ne_of_lt ll.1, hy9, ?_, ?_, by decide, by decide, by omega, by omega⟩⟩⟩
    · rw [List.length_map]; omega
    · intro c hc
      obtain ⟨v, _, rfl⟩ := List.mem_map.mp hc
      rw [Int.fmod_eq_emod_of_nonneg _ (by decide)]
      omega
theorem kw_W23_2 : True := by
  k_with_none
  trivial
end
end Mine
end
section
open PySem PySem.W PyProof.Rows PySem.Spec PySem.Calls
set_option maxHeartbeats 400000
namespace Mine
def isOneR (n : Int) (r : Row) : Bool := isOneS r.f.str r.op r.low r.high n
theorem row_bnd {r : Row} (h : r ∈ rowsL) : 0 ≤ r.low ∧ r.low < 8 ∧ 0 ≤ r.high ∧ r.high < 128 ∧ 0 ≤ r.op ∧ r.op < 128 := by
  have e : ∀ r ∈ rowsL, 0 ≤ r.low ∧ r.low < 8 ∧ 0 ≤ r.high ∧ r.high < 128 ∧ 0 ≤ r.op ∧ r.op < 128 := by decide +kernel
  exact e r h
theorem p2s (k : Nat) : (2 : Int) ^ (k + 1) = 2 * 2 ^ k := by rw [Int.pow_succ]; (first | lia | omega)
theorem p2p (k : Nat) : (0 : Int) < 2 ^ k := Int.pow_pos (by decide)
theorem and_split : ∀ (k : Nat) (x a b : Int), 0 ≤ a → a < 2 ^ k → PySem.Builtin.bitAnd x (2 ^ k * b + a) = 2 ^ k * PySem.Builtin.bitAnd (x / 2 ^ k) b + PySem.Builtin.bitAnd x a := by
  intro k
  induction k with
  | zero =>
    intro x a b h0 h1
    have : a = 0 := by simp at h1; (first | lia | omega)
    subst this
    have hz := bitAnd_range x (y := 0) (by decide)
    have : PySem.Builtin.bitAnd x 0 = 0 := by (first | lia | omega)
    simp [this]
  | succ k ih =>
    intro x a b h0 h1
    rw [p2s] at h1
    have i := ih (x / 2) (a / 2) b (by (first | lia | omega)) (by (first | lia | omega))
    have e1 : (2 ^ (k + 1) * b + a) / 2 = 2 ^ k * b + a / 2 := by rw [p2s, Int.mul_assoc]; (first | lia | omega)
    have e2 : (2 ^ (k + 1) * b + a) % 2 = a % 2 := by rw [p2s, Int.mul_assoc]; (first | lia | omega)
    have e3 : x / 2 / 2 ^ k = x / 2 ^ (k + 1) := by rw [Int.ediv_ediv_of_nonneg (by decide), p2s]
    rw [kbt_halves x (2 ^ (k + 1) * b + a), e1, e2, i, e3, kbt_halves x a, p2s, Int.mul_assoc]
    (first | lia | omega)
theorem and_low (j : Nat) : ∀ (x r : Int), 0 ≤ r → r < 2 ^ j → x % 2 ^ j = 0 → PySem.Builtin.bitAnd x r = 0 := by
  induction j with
  | zero =>
    intro x r h0 h1 _
    have : r = 0 := by simp at h1; (first | lia | omega)
    subst this
    have hz := bitAnd_range x (y := 0) (by decide)
    (first | lia | omega)
  | succ j ih =>
    intro x r h0 h1 h
    rw [p2s] at h1 h
    have hm : x % 2 = 0 := by
      have := Int.emod_emod_of_dvd x (Int.dvd_mul_right 2 (2 ^ j))
      rw [h] at this; (first | lia | omega)
    have hd : x / 2 % 2 ^ j = 0 := by
      have e : x = 2 * (x / 2) := by (first | lia | omega)
      rw [e, Int.mul_emod_mul_of_pos _ _ (by decide)] at h
      (first | lia | omega)
    rw [kbt_halves, ih (x / 2) (r / 2) (by (first | lia | omega)) (by (first | lia | omega)) hd, if_neg (by (first | lia | omega))]
    rfl
/-- bits that do not meet are added -/
theorem or_add (k j : Nat) {x r : Int} (h0 : 0 ≤ r) (h1 : r < 2 ^ j) (h : x / 2 ^ k % 2 ^ j = 0) : PySem.Builtin.bitOr x (r * 2 ^ k) = x + r * 2 ^ k := by
  have e := and_split k x 0 r (by decide) (p2p k)
  have hz := bitAnd_range x (y := 0) (by decide)
  have hz' : PySem.Builtin.bitAnd x 0 = 0 := by omega
  rw [and_low j _ _ h0 h1 h, hz'] at e
  have : PySem.Builtin.bitAnd x (r * 2 ^ k) = 0 := by rw [Int.mul_comm]; simpa using e
  rw [bitOr_and, this]; (first | lia | omega)
theorem and_m7f (x : Int) : PySem.Builtin.bitAnd x 127 = x % 128 := bitAnd_m7 x
theorem and_707f (x : Int) : PySem.Builtin.bitAnd x 28799 = x / 4096 % 8 * 4096 + x % 128 := by
  have e := and_split 12 x 127 7 (by decide) (by decide)
  rw [show (2:Int) ^ 12 * 7 + 127 = 28799 from rfl, bitAnd_m7, bitAnd_m3] at e
  rw [e, show (2:Int)^12 = 4096 from rfl]; (first | lia | omega)
theorem and_fe (x : Int) : PySem.Builtin.bitAnd x 4261441663 = x / 33554432 % 128 * 33554432 + x / 4096 % 8 * 4096 + x % 128 := by
  have e := and_split 25 x 28799 127 (by decide) (by decide)
  rw [show (2:Int) ^ 25 * 127 + 28799 = 4261441663 from rfl, bitAnd_m7, and_707f] at e
  rw [e, show (2:Int)^25 = 33554432 from rfl]; (first | lia | omega)
theorem and_f0 (x : Int) : PySem.Builtin.bitAnd x 4027580415 = x / 268435456 % 16 * 268435456 + x % 1048576 := by
  have e := and_split 28 x 1048575 15 (by decide) (by decide)
  rw [show (2:Int) ^ 28 * 15 + 1048575 = 4027580415 + 4294967296 - 4294967296 from rfl, show (15:Int) = 2 ^ 4 - 1 from rfl, kbt_mask, show (1048575 : Int) = 2 ^ 20 - 1 from rfl, kbt_mask] at e
  rw [show (4027580415 : Int) = 4027580415 + 4294967296 - 4294967296 from rfl, e, show (2:Int)^28 = 268435456 from rfl]; (first | lia | omega)
theorem list3 {α β : Type} {l : List (α × β)} {a b c : α} (h : l.map (·.1) = [a, b, c]) : ∃ x y z, l = [(a, x), (b, y), (c, z)] := by
  match l, h with
  | [(_, x), (_, y), (_, z)], h => simp at h; obtain ⟨rfl, rfl, rfl⟩ := h; exact ⟨x, y, z, rfl⟩
theorem list2 {α β : Type} {l : List (α × β)} {a b : α} (h : l.map (·.1) = [a, b]) : ∃ x y, l = [(a, x), (b, y)] := by
  match l, h with
  | [(_, x), (_, y)], h => simp at h; obtain ⟨rfl, rfl⟩ := h; exact ⟨x, y, rfl⟩
theorem list1 {α β : Type} {l : List (α × β)} {a : α} (h : l.map (·.1) = [a]) : ∃ x, l = [(a, x)] := by
  match l, h with
  | [(_, x)], h => simp at h; obtain rfl := h; exact ⟨x, rfl⟩
theorem list0 {α β : Type} {l : List (α × β)} (h : l.map (·.1) = []) : l = [] := by
  simpa using h
/-- the registers' numbers of a form -/
inductive Sh : Fm → List (PySem.Str × Int) → Prop
  | R {a b c : Int} : 0 ≤ a → a < 32 → 0 ≤ b → b < 32 → 0 ≤ c → c < 32 → Sh .R [("rd", a), ("rs1", b), ("rs2", c)]
  | I {a b v : Int} : 0 ≤ a → a < 32 → 0 ≤ b → b < 32 → -2048 ≤ v → v ≤ 2047 → Sh .I [("rd", a), ("rs1", b), ("imm", v)]
  | H {a b v : Int} : 0 ≤ a → a < 32 → 0 ≤ b → b < 32 → 0 ≤ v → v ≤ 31 → Sh .H [("rd", a), ("rs1", b), ("imm", v)]
  | S {a b v : Int} : 0 ≤ a → a < 32 → 0 ≤ b → b < 32 → -2048 ≤ v → v ≤ 2047 → Sh .S [("rs1", a), ("rs2", b), ("imm", v)]
  | B {a b v : Int} : 0 ≤ a → a < 32 → 0 ≤ b → b < 32 → -4096 ≤ v → v ≤ 4094 → v % 2 = 0 → Sh .B [("rs1", a), ("rs2", b), ("imm", v)]
  | U {a v : Int} : 0 ≤ a → a < 32 → 0 ≤ v → v ≤ 1048575 → Sh .U [("rd", a), ("imm", v)]
  | J {a v : Int} : 0 ≤ a → a < 32 → -1048576 ≤ v → v ≤ 1048574 → v % 2 = 0 → Sh .J [("rd", a), ("imm", v)]
  | F {v : Int} : 0 ≤ v → v ≤ 255 → Sh .F [("imm", v)]
  | E : Sh .E []
theorem Fl.sh {f : Fm} {ks : List (PySem.Str × Int)} (h : Fl f ks) : Sh f ks := by
  obtain ⟨rs, h1, h2, h3⟩ := h
  cases f <;> simp only [rgOf, List.map] at h1
  case R =>
    obtain ⟨x, y, z, rfl⟩ := list3 h1
    rcases h3 with ⟨_, rfl⟩ | ⟨h, _⟩
    · have a := h2 _ (.head _); have b := h2 _ (.tail _ (.head _)); have c := h2 _ (.tail _ (.tail _ (.head _)))
      exact .R a.1 a.2 b.1 b.2 c.1 c.2
    · exact absurd h (by decide)
  case I | H | S | B =>
    obtain ⟨x, y, rfl⟩ := list2 h1
    rcases h3 with ⟨h, _⟩ | ⟨_, v, p, q, c, he, e1, e2, e3, rfl⟩
    · exact absurd h (by decide)
    · have a := h2 _ (.head _); have b := h2 _ (.tail _ (.head _))
      simp only [enOf, Prod.mk.injEq] at he
      obtain ⟨rfl, rfl, rfl⟩ := he
      constructor <;> first | exact a.1 | exact a.2 | exact b.1 | exact b.2 | assumption
  case U | J =>
    obtain ⟨x, rfl⟩ := list1 h1
    rcases h3 with ⟨h, _⟩ | ⟨_, v, p, q, c, he, e1, e2, e3, rfl⟩
    · exact absurd h (by decide)
    · have a := h2 _ (.head _)
      simp only [enOf, Prod.mk.injEq] at he
      obtain ⟨rfl, rfl, rfl⟩ := he
      constructor <;> first | exact a.1 | exact a.2 | assumption
  case F =>
    obtain rfl := list0 h1
    rcases h3 with ⟨h, _⟩ | ⟨_, v, p, q, c, he, e1, e2, e3, rfl⟩
    · exact absurd h (by decide)
    · simp only [enOf, Prod.mk.injEq] at he
      obtain ⟨rfl, rfl, rfl⟩ := he
      constructor <;> assumption
  case E =>
    obtain rfl := list0 h1
    rcases h3 with ⟨_, rfl⟩ | ⟨h, _⟩
    · exact .E
    · exact absurd h (by decide)
theorem Sh.fl {f : Fm} {ks : List (PySem.Str × Int)} (h : Sh f ks) : Fl f ks := by
  cases h
  case R a b c h1 h2 h3 h4 h5 h6 => exact ⟨[("rd", a), ("rs1", b), ("rs2", c)], rfl, by simp; omega, .inl ⟨rfl, rfl⟩⟩
  case I a b v h1 h2 h3 h4 h5 h6 => exact ⟨[("rd", a), ("rs1", b)], rfl, by simp; omega, .inr ⟨rfl, v, _, _, _, rfl, h5, h6, by (first | lia | omega), rfl⟩⟩
  case H a b v h1 h2 h3 h4 h5 h6 => exact ⟨[("rd", a), ("rs1", b)], rfl, by simp; omega, .inr ⟨rfl, v, _, _, _, rfl, h5, h6, by (first | lia | omega), rfl⟩⟩
  case S a b v h1 h2 h3 h4 h5 h6 => exact ⟨[("rs1", a), ("rs2", b)], rfl, by simp; omega, .inr ⟨rfl, v, _, _, _, rfl, h5, h6, by (first | lia | omega), rfl⟩⟩
  case B a b v h1 h2 h3 h4 h5 h6 h7 => exact ⟨[("rs1", a), ("rs2", b)], rfl, by simp; omega, .inr ⟨rfl, v, _, _, _, rfl, h5, h6, by omega, rfl⟩⟩
  case U a v h1 h2 h3 h4 => exact ⟨[("rd", a)], rfl, by simp; (first | lia | omega), .inr ⟨rfl, v, _, _, _, rfl, h3, h4, by (first | lia | omega), rfl⟩⟩
  case J a v h1 h2 h3 h4 h5 => exact ⟨[("rd", a)], rfl, by simp; (first | lia | omega), .inr ⟨rfl, v, _, _, _, rfl, h3, h4, by omega, rfl⟩⟩
  case F v h1 h2 => exact ⟨[], rfl, by simp, .inr ⟨rfl, v, _, _, _, rfl, h1, h2, by (first | lia | omega), rfl⟩⟩
  case E => exact ⟨[], rfl, by simp, .inl ⟨rfl, rfl⟩⟩
theorem fl_key {f : Fm} {ks : List (PySem.Str × Int)} (h : Fl f ks) : (∀ q ∈ rgOf f, ∃ n, fdAt ks q.1 = some n ∧ 0 ≤ n ∧ n < 32) ∧ (hasImm f = true → ∃ v, fdAt ks "imm" = some v ∧ FitS f v) := by
  have s := h.sh
  cases s <;> refine ⟨?_, ?_⟩
  all_goals first
    | (intro q hq; simp only [rgOf, List.not_mem_nil] at hq; done)
    | (intro q hq; simp only [rgOf, List.mem_cons, List.not_mem_nil, or_false] at hq; rcases hq with rfl | rfl | rfl <;> exact ⟨_, by with_unfolding_all rfl, by omega, by omega⟩)
    | (intro q hq; simp only [rgOf, List.mem_cons, List.not_mem_nil, or_false] at hq; rcases hq with rfl | rfl <;> exact ⟨_, by with_unfolding_all rfl, by omega, by omega⟩)
    | (intro q hq; simp only [rgOf, List.mem_cons, List.not_mem_nil, or_false] at hq; rcases hq with rfl; exact ⟨_, by with_unfolding_all rfl, by omega, by omega⟩)
    | (intro hq; exact ⟨_, by with_unfolding_all rfl, by simp only [FitS, enOf]; (first | lia | omega)⟩)
    | (intro hq; exact absurd hq (by decide))
theorem bs_pl (v : Int) (a c : Nat) : ∀ n, bitSum v (pl a c n) = v / 2 ^ a % 2 ^ n * 2 ^ (a + c)
  | 0 => by simp [bitSum, pl]
  | n + 1 => by
    have i := bs_pl v a c n
    unfold bitSum pl at i ⊢
    rw [List.range_succ, List.map_append, List.map_append, List.sum_append, i]
    simp only [List.map_cons, List.map_nil, List.sum_cons, List.sum_nil, Int.add_zero]
    rw [show ((a : Int) + (n : Int)).toNat = a + n from by (first | lia | omega), show ((a : Int) + (n : Int) + (c : Int)).toNat = n + (a + c) from by (first | lia | omega)]
    rw [Int.pow_add 2 a n, ← Int.ediv_ediv_of_nonneg (Int.le_of_lt (p2p a)), Int.pow_add 2 n (a + c), Int.pow_succ 2 n]
    generalize v / 2 ^ a = x
    generalize (2 : Int) ^ (a + c) = y
    have hp := p2p n
    generalize (2 : Int) ^ n = p at hp
    rw [← Int.mul_assoc, ← Int.add_mul]
    congr 1
    have e1 := Int.mul_ediv_add_emod x p
    have e2 := Int.mul_ediv_add_emod x (p * 2)
    have e3 : x / (p * 2) = x / p / 2 := by rw [Int.ediv_ediv_of_nonneg (Int.le_of_lt hp)]
    rw [e3, Int.mul_assoc] at e2
    have e4 : x / p = 2 * (x / p / 2) + x / p % 2 := by (first | lia | omega)
    have e5 : p * (x / p) = p * (2 * (x / p / 2)) + p * (x / p % 2) := by rw [← Int.mul_add, ← e4]
    rw [Int.mul_comm (x / p % 2) p]
    omega
theorem pl0_pl (a : Int) (n : Nat) : pl0 a n = pl a 0 n := by simp [pl0, pl]
theorem bs_app (v : Int) (a b : List (Int × Int)) : bitSum v (a ++ b) = bitSum v a + bitSum v b := by simp [bitSum]
theorem vs_app (v : Int) (a b : List (Int × Int)) : valSum v (a ++ b) = valSum v a + valSum v b := by simp [valSum]
theorem vs_pl (v : Int) (a c : Nat) : ∀ n, valSum v (pl a c n) = v / 2 ^ (a + c) % 2 ^ n * 2 ^ a
  | 0 => by simp [valSum, pl]
  | n + 1 => by
    have i := vs_pl v a c n
    unfold valSum pl at i ⊢
    rw [List.range_succ, List.map_append, List.map_append, List.sum_append, i]
    simp only [List.map_cons, List.map_nil, List.sum_cons, List.sum_nil, Int.add_zero]
    rw [show ((a : Int) + (n : Int)).toNat = n + a from by (first | lia | omega), show ((a : Int) + (n : Int) + (c : Int)).toNat = (a + c) + n from by (first | lia | omega)]
    rw [Int.pow_add 2 (a + c) n, ← Int.ediv_ediv_of_nonneg (Int.le_of_lt (p2p (a + c))), Int.pow_add 2 n a, Int.pow_succ 2 n]
    generalize v / 2 ^ (a + c) = x
    generalize (2 : Int) ^ a = y
    have hp := p2p n
    generalize (2 : Int) ^ n = p at hp
    rw [← Int.mul_assoc, ← Int.add_mul]
    congr 1
    have e1 := Int.mul_ediv_add_emod x p
    have e2 := Int.mul_ediv_add_emod x (p * 2)
    have e3 : x / (p * 2) = x / p / 2 := by rw [Int.ediv_ediv_of_nonneg (Int.le_of_lt hp)]
    rw [e3, Int.mul_assoc] at e2
    have e4 : x / p = 2 * (x / p / 2) + x / p % 2 := by (first | lia | omega)
    have e5 : p * (x / p) = p * (2 * (x / p / 2)) + p * (x / p % 2) := by rw [← Int.mul_add, ← e4]
    rw [Int.mul_comm (x / p % 2) p]
    omega
theorem bq (v : Int) (a c n : Nat) : bitSum v (pl (a : Int) (c : Int) n) = v / 2 ^ a % 2 ^ n * 2 ^ (a + c) := bs_pl v a c n
theorem bsI (v : Int) : bitSum v (psOf .I) = v % 4096 * 1048576 := by
  have e := bs_pl v 0 20 12
  rw [show v / 2 ^ 0 = v from by simp] at e
  exact e
theorem bsH (v : Int) : bitSum v (psOf .H) = v % 32 * 1048576 := by
  have e := bs_pl v 0 20 5
  rw [show v / 2 ^ 0 = v from by simp] at e
  exact e
theorem bsF (v : Int) : bitSum v (psOf .F) = v % 256 * 1048576 := by
  have e := bs_pl v 0 20 8
  rw [show v / 2 ^ 0 = v from by simp] at e
  exact e
theorem bsU (v : Int) : bitSum v (psOf .U) = v % 1048576 * 4096 := by
  have e := bs_pl v 0 12 20
  rw [show v / 2 ^ 0 = v from by simp] at e
  exact e
theorem bsS (v : Int) : bitSum v (psOf .S) = v % 32 * 128 + v / 32 % 128 * 33554432 := by
  have e := bs_pl v 0 7 5
  rw [show v / 2 ^ 0 = v from by simp] at e
  have e2 := bs_pl v 5 20 7
  rw [show psOf .S = pl ((0 : Nat) : Int) ((7 : Nat) : Int) 5 ++ pl ((5 : Nat) : Int) ((20 : Nat) : Int) 7 from rfl, bs_app, e, e2]
  rfl
theorem bsB (v : Int) : bitSum v (psOf .B) = v / 2 % 16 * 256 + v / 32 % 64 * 33554432 + v / 2048 % 2 * 128 + v / 4096 % 2 * 2147483648 := by
  have e := bs_pl v 1 7 4
  have e2 := bs_pl v 5 20 6
  rw [show psOf .B = pl ((1 : Nat) : Int) ((7 : Nat) : Int) 4 ++ pl ((5 : Nat) : Int) ((20 : Nat) : Int) 6 ++ [(11, 7), (12, 31)] from rfl, bs_app, bs_app, e, e2]
  have e3 : bitSum v [(11, 7), (12, 31)] = v / 2048 % 2 * 128 + (v / 4096 % 2 * 2147483648 + 0) := rfl
  rw [e3, Int.add_zero, ← Int.add_assoc]
  rfl
theorem bsJ (v : Int) : bitSum v (psOf .J) = v / 2 % 1024 * 2097152 + v / 2048 % 2 * 1048576 + v / 4096 % 256 * 4096 + v / 1048576 % 2 * 2147483648 := by
  have e := bs_pl v 1 20 10
  have e2 := bs_pl v 12 0 8
  rw [show psOf .J = pl ((1 : Nat) : Int) ((20 : Nat) : Int) 10 ++ [(11, 20)] ++ pl ((12 : Nat) : Int) ((0 : Nat) : Int) 8 ++ [(20, 31)] from by with_unfolding_all rfl, bs_app, bs_app, bs_app, e, e2]
  have e3 : bitSum v [(11, 20)] = v / 2048 % 2 * 1048576 + 0 := rfl
  have e4 : bitSum v [(20, 31)] = v / 1048576 % 2 * 2147483648 + 0 := rfl
  rw [e3, e4, Int.add_zero, Int.add_zero]
  rfl
theorem vsI (v : Int) : valSum v (psOf .I) = v / 1048576 % 4096 := by
  have e := vs_pl v 0 20 12
  rw [show (2:Int) ^ 0 = 1 from rfl, Int.mul_one] at e
  exact e
theorem vsH (v : Int) : valSum v (psOf .H) = v / 1048576 % 32 := by
  have e := vs_pl v 0 20 5
  rw [show (2:Int) ^ 0 = 1 from rfl, Int.mul_one] at e
  exact e
theorem vsF (v : Int) : valSum v (psOf .F) = v / 1048576 % 256 := by
  have e := vs_pl v 0 20 8
  rw [show (2:Int) ^ 0 = 1 from rfl, Int.mul_one] at e
  exact e
theorem vsU (v : Int) : valSum v (psOf .U) = v / 4096 % 1048576 := by
  have e := vs_pl v 0 12 20
  rw [show (2:Int) ^ 0 = 1 from rfl, Int.mul_one] at e
  exact e
theorem vsS (v : Int) : valSum v (psOf .S) = v / 128 % 32 + v / 33554432 % 128 * 32 := by
  have e := vs_pl v 0 7 5
  rw [show (2:Int) ^ 0 = 1 from rfl, Int.mul_one] at e
  have e2 := vs_pl v 5 20 7
  rw [show psOf .S = pl ((0 : Nat) : Int) ((7 : Nat) : Int) 5 ++ pl ((5 : Nat) : Int) ((20 : Nat) : Int) 7 from rfl, vs_app, e, e2]
  rfl
theorem vsB (v : Int) : valSum v (psOf .B) = v / 256 % 16 * 2 + v / 33554432 % 64 * 32 + v / 128 % 2 * 2048 + v / 2147483648 % 2 * 4096 := by
  have e := vs_pl v 1 7 4
  have e2 := vs_pl v 5 20 6
  rw [show psOf .B = pl ((1 : Nat) : Int) ((7 : Nat) : Int) 4 ++ pl ((5 : Nat) : Int) ((20 : Nat) : Int) 6 ++ [(11, 7), (12, 31)] from rfl, vs_app, vs_app, e, e2]
  have e3 : valSum v [(11, 7), (12, 31)] = v / 128 % 2 * 2048 + (v / 2147483648 % 2 * 4096 + 0) := rfl
  rw [e3, Int.add_zero, ← Int.add_assoc]
  rfl
theorem vsJ (v : Int) : valSum v (psOf .J) = v / 2097152 % 1024 * 2 + v / 1048576 % 2 * 2048 + v / 4096 % 256 * 4096 + v / 2147483648 % 2 * 1048576 := by
  have e := vs_pl v 1 20 10
  have e2 := vs_pl v 12 0 8
  rw [show psOf .J = pl ((1 : Nat) : Int) ((20 : Nat) : Int) 10 ++ [(11, 20)] ++ pl ((12 : Nat) : Int) ((0 : Nat) : Int) 8 ++ [(20, 31)] from by with_unfolding_all rfl, vs_app, vs_app, vs_app, e, e2]
  have e3 : valSum v [(11, 20)] = v / 1048576 % 2 * 2048 + 0 := rfl
  have e4 : valSum v [(20, 31)] = v / 2147483648 % 2 * 1048576 + 0 := rfl
  rw [e3, e4, Int.add_zero, Int.add_zero]
  rfl
theorem oneRH {x : PySem.Str} {op low high n : Int} (hx : (x == "E") = false ∧ (x == "F") = false ∧ (([("U" : PySem.Str), "J"]).any fun y => y == x) = false ∧ (([("R" : PySem.Str), "H"]).any fun y => y == x) = true) : isOneS x op low high n = true ↔ n % 128 = op ∧ n / 4096 % 8 = low ∧ n / 33554432 = high := by
  unfold isOneS
  rw [hx.1, hx.2.1, hx.2.2.1, hx.2.2.2]
  simp only [Int.fdiv_eq_ediv_of_nonneg _ (show (0:Int) ≤ 128 by decide), Int.fdiv_eq_ediv_of_nonneg _ (show (0:Int) ≤ 4096 by decide), Int.fdiv_eq_ediv_of_nonneg _ (show (0:Int) ≤ 33554432 by decide), Int.fdiv_eq_ediv_of_nonneg _ (show (0:Int) ≤ 268435456 by decide)]
  rw [Int.fmod_eq_emod_of_nonneg _ (by decide), Int.fmod_eq_emod_of_nonneg _ (by decide), Int.fmod_eq_emod_of_nonneg _ (by decide)]
  by_cases a : n % 128 = op <;> by_cases b : n / 4096 % 8 = low <;> simp [a, b]
theorem oneIS {x : PySem.Str} {op low high n : Int} (hx : (x == "E") = false ∧ (x == "F") = false ∧ (([("U" : PySem.Str), "J"]).any fun y => y == x) = false ∧ (([("R" : PySem.Str), "H"]).any fun y => y == x) = false) : isOneS x op low high n = true ↔ n % 128 = op ∧ n / 4096 % 8 = low := by
  unfold isOneS
  rw [hx.1, hx.2.1, hx.2.2.1, hx.2.2.2]
  simp only [Int.fdiv_eq_ediv_of_nonneg _ (show (0:Int) ≤ 128 by decide), Int.fdiv_eq_ediv_of_nonneg _ (show (0:Int) ≤ 4096 by decide), Int.fdiv_eq_ediv_of_nonneg _ (show (0:Int) ≤ 33554432 by decide), Int.fdiv_eq_ediv_of_nonneg _ (show (0:Int) ≤ 268435456 by decide)]
  rw [Int.fmod_eq_emod_of_nonneg _ (by decide), Int.fmod_eq_emod_of_nonneg _ (by decide), Int.fmod_eq_emod_of_nonneg _ (by decide)]
  by_cases a : n % 128 = op <;> by_cases b : n / 4096 % 8 = low <;> simp [a, b]
theorem oneUJ {x : PySem.Str} {op low high n : Int} (hx : (x == "E") = false ∧ (x == "F") = false ∧ (([("U" : PySem.Str), "J"]).any fun y => y == x) = true ∧ (([("R" : PySem.Str), "H"]).any fun y => y == x) = false) : isOneS x op low high n = true ↔ n % 128 = op := by
  unfold isOneS
  rw [hx.1, hx.2.1, hx.2.2.1, hx.2.2.2]
  simp only [Int.fdiv_eq_ediv_of_nonneg _ (show (0:Int) ≤ 128 by decide), Int.fdiv_eq_ediv_of_nonneg _ (show (0:Int) ≤ 4096 by decide), Int.fdiv_eq_ediv_of_nonneg _ (show (0:Int) ≤ 33554432 by decide), Int.fdiv_eq_ediv_of_nonneg _ (show (0:Int) ≤ 268435456 by decide)]
  rw [Int.fmod_eq_emod_of_nonneg _ (by decide), Int.fmod_eq_emod_of_nonneg _ (by decide), Int.fmod_eq_emod_of_nonneg _ (by decide)]
  by_cases a : n % 128 = op <;> by_cases b : n / 4096 % 8 = low <;> simp [a]
theorem oneF {x : PySem.Str} {op low high n : Int} (hx : (x == "E") = false ∧ (x == "F") = true) : isOneS x op low high n = true ↔ n % 128 = op ∧ n / 128 % 8192 = 0 ∧ n / 268435456 = 0 := by
  unfold isOneS
  rw [hx.1, hx.2]
  simp only [Int.fdiv_eq_ediv_of_nonneg _ (show (0:Int) ≤ 128 by decide), Int.fdiv_eq_ediv_of_nonneg _ (show (0:Int) ≤ 4096 by decide), Int.fdiv_eq_ediv_of_nonneg _ (show (0:Int) ≤ 33554432 by decide), Int.fdiv_eq_ediv_of_nonneg _ (show (0:Int) ≤ 268435456 by decide)]
  rw [Int.fmod_eq_emod_of_nonneg _ (by decide), Int.fmod_eq_emod_of_nonneg _ (by decide), Int.fmod_eq_emod_of_nonneg _ (by decide)]
  by_cases a : n % 128 = op <;> by_cases b : n / 128 % 8192 = 0 <;> simp [a, b]
theorem oneE {x : PySem.Str} {op low high n : Int} (hx : (x == "E") = true) : isOneS x op low high n = true ↔ n = op + high * 1048576 := by
  unfold isOneS
  rw [hx]
  simp
/-- when a number is a row's, form by form -/
def OneP (f : Fm) (op low high n : Int) : Prop := match f with
  | .R | .H => n % 128 = op ∧ n / 4096 % 8 = low ∧ n / 33554432 = high
  | .I | .S | .B => n % 128 = op ∧ n / 4096 % 8 = low
  | .U | .J => n % 128 = op
  | .F => n % 128 = op ∧ n / 128 % 8192 = 0 ∧ n / 268435456 = 0
  | .E => n = op + high * 1048576
theorem one_iff (f : Fm) (op low high n : Int) : isOneS f.str op low high n = true ↔ OneP f op low high n := by
  cases f
  case R | H => exact oneRH (by decide)
  case I | S | B => exact oneIS (by decide)
  case U | J => exact oneUJ (by decide)
  case F => exact oneF (by decide)
  case E => exact oneE (by decide)
theorem imm_s {f : Fm} {n k : Int} (h : isSgn f.str = true) (hk : 2 ^ (topOf (psOf f)).toNat = k) : immRead f n = if k ≤ valSum n (psOf f) then valSum n (psOf f) - 2 * k else valSum n (psOf f) := by
  unfold immRead
  rw [h, hk]
  simp
theorem imm_u {f : Fm} {n : Int} (h : isSgn f.str = false) : immRead f n = valSum n (psOf f) := by
  unfold immRead
  rw [h]
  simp
theorem and_dis (k j : Nat) {x r : Int} (h0 : 0 ≤ r) (h1 : r < 2 ^ j) (h : x / 2 ^ k % 2 ^ j = 0) : PySem.Builtin.bitAnd x (r * 2 ^ k) = 0 := by
  have := or_add k j h0 h1 h
  rw [bitOr_and] at this; (first | lia | omega)
theorem and_cons (k j : Nat) {x r a : Int} (a0 : 0 ≤ a) (a1 : a < 2 ^ k) (ha : PySem.Builtin.bitAnd x a = 0) (h0 : 0 ≤ r) (h1 : r < 2 ^ j) (h : x / 2 ^ k % 2 ^ j = 0) : PySem.Builtin.bitAnd x (r * 2 ^ k + a) = 0 := by
  have e := and_split k x a r a0 a1
  rw [and_low j _ _ h0 h1 h, ha] at e
  rw [Int.mul_comm, e]; simp
theorem or_dis {x y : Int} (h : PySem.Builtin.bitAnd x y = 0) : PySem.Builtin.bitOr x y = x + y := by rw [bitOr_and, h]; (first | lia | omega)
theorem or_add0 (j : Nat) {x r : Int} (h0 : 0 ≤ r) (h1 : r < 2 ^ j) (h : x % 2 ^ j = 0) : PySem.Builtin.bitOr x r = x + r := or_dis (and_low j x r h0 h1 h)
theorem an1 (v : Int) : PySem.Builtin.bitAnd v 1 = v % 2 := bitAnd_m1 v
theorem an12 (v : Int) : PySem.Builtin.bitAnd v 4095 = v % 4096 := kbt_mask v 12
theorem an10 (v : Int) : PySem.Builtin.bitAnd v 1023 = v % 1024 := kbt_mask v 10
/-- the bits of an immediate as a sum -/
inductive BitV (v : Int) : Fm → Int → Prop
  | I : BitV v .I (v % 4096 * 1048576)
  | H : BitV v .H (v * 1048576)
  | S : BitV v .S (v / 32 % 128 * 33554432 + v % 32 * 128)
  | B : BitV v .B (v / 4096 % 2 * 2147483648 + (v / 32 % 64 * 33554432 + (v / 2 % 16 * 256 + v / 2048 % 2 * 128)))
  | U : BitV v .U (v * 4096)
  | J : BitV v .J (v / 1048576 % 2 * 2147483648 + (v / 2 % 1024 * 2097152 + (v / 2048 % 2 * 1048576 + v / 4096 % 256 * 4096)))
  | F : BitV v .F (v * 1048576)
theorem enc2 {k1 k2 : PySem.Str} {ks : List (PySem.Str × Int)} {base a b i j : Int} (ha : fdAt ks k1 = some a) (hb : fdAt ks k2 = some b) : encFold ks [(k1, i), (k2, j)] base = PySem.Builtin.bitOr (PySem.Builtin.bitOr base (a * 2 ^ i.toNat)) (b * 2 ^ j.toNat) := by
  simp [encFold, ha, hb]
theorem enc1 {k1 : PySem.Str} {ks : List (PySem.Str × Int)} {base a i : Int} (ha : fdAt ks k1 = some a) : encFold ks [(k1, i)] base = PySem.Builtin.bitOr base (a * 2 ^ i.toNat) := by
  simp [encFold, ha]
theorem enc3 {k1 k2 k3 : PySem.Str} {ks : List (PySem.Str × Int)} {base a b c i j l : Int} (ha : fdAt ks k1 = some a) (hb : fdAt ks k2 = some b) (hc : fdAt ks k3 = some c) : encFold ks [(k1, i), (k2, j), (k3, l)] base = PySem.Builtin.bitOr (PySem.Builtin.bitOr (PySem.Builtin.bitOr base (a * 2 ^ i.toNat)) (b * 2 ^ j.toNat)) (c * 2 ^ l.toNat) := by
  simp [encFold, ha, hb, hc]
theorem sg12 (p : Int) : signS p 12 = if p % 4096 / 2048 = 1 then p % 4096 - 4096 else p % 4096 := rfl
theorem sg13 (p : Int) : signS p 13 = if p % 8192 / 4096 = 1 then p % 8192 - 8192 else p % 8192 := rfl
theorem sg21 (p : Int) : signS p 21 = if p % 2097152 / 1048576 = 1 then p % 2097152 - 2097152 else p % 2097152 := rfl
/-- what the names' dict holds, by the rows -/
theorem and_fe' (x : Int) : PySem.Builtin.bitAnd x 4261441663 = x / 33554432 % 128 * 33554432 + x / 4096 % 8 * 4096 + x % 128 := and_fe x
def nmOk (r : Row) : Bool := match r.f with
  | .R | .H => nbAt (r.op + r.low * 4096 + r.high * 33554432) == r.nm
  | .E => nbAt (r.op + r.high * 1048576) == r.nm
  | .F => r.nm == "fence"
  | .U | .J => nbAt r.op == r.nm
  | .I | .S | .B => nbAt (r.op + r.low * 4096) == r.nm
theorem nm_ok {r : Row} (h : r ∈ rowsL) : nmOk r = true := by
  have e : ∀ r ∈ rowsL, nmOk r = true := by decide +kernel
  exact e r h
theorem any2 {a b z : Int} : (([a, b] : List Int).any fun y => y == z) = true ↔ z = a ∨ z = b := by
  simp only [List.any_cons, List.any_nil, Bool.or_false, Bool.or_eq_true, beq_iff_eq]; (first | lia | omega)
theorem any3 {a b c z : Int} : (([a, b, c] : List Int).any fun y => y == z) = true ↔ z = a ∨ z = b ∨ z = c := by
  simp only [List.any_cons, List.any_nil, Bool.or_false, Bool.or_eq_true, beq_iff_eq]; (first | lia | omega)
theorem any2f {a b z : Int} : (([a, b] : List Int).any fun y => y == z) = false ↔ z ≠ a ∧ z ≠ b := by
  simp only [List.any_cons, List.any_nil, Bool.or_false, Bool.or_eq_false_iff, beq_eq_false_iff_ne]; (first | lia | omega)
theorem any3f {a b c z : Int} : (([a, b, c] : List Int).any fun y => y == z) = false ↔ z ≠ a ∧ z ≠ b ∧ z ≠ c := by
  simp only [List.any_cons, List.any_nil, Bool.or_false, Bool.or_eq_false_iff, beq_eq_false_iff_ne]; (first | lia | omega)
/-- the name of a number in plain arithmetic -/
inductive NameV (n : Int) : PySem.Str → Prop
  | a : n % 128 = 55 ∨ n % 128 = 23 ∨ n % 128 = 111 → NameV n (nbAt (n % 128))
  | b : n % 128 = 115 → NameV n (nbAt n)
  | c : n % 128 = 15 → n / 268435456 % 16 * 268435456 + n % 1048576 = 15 → NameV n "fence"
  | d : n % 128 = 15 → n / 268435456 % 16 * 268435456 + n % 1048576 ≠ 15 → NameV n ""
  | e : n % 128 = 51 ∨ (n % 128 = 19 ∧ (n / 4096 % 8 = 1 ∨ n / 4096 % 8 = 5)) → NameV n (nbAt (n / 33554432 % 128 * 33554432 + n / 4096 % 8 * 4096 + n % 128))
  | g : (n % 128 = 19 ∧ n / 4096 % 8 ≠ 1 ∧ n / 4096 % 8 ≠ 5) ∨ (n % 128 ≠ 55 ∧ n % 128 ≠ 23 ∧ n % 128 ≠ 111 ∧ n % 128 ≠ 115 ∧ n % 128 ≠ 15 ∧ n % 128 ≠ 51 ∧ n % 128 ≠ 19) → NameV n (nbAt (n / 4096 % 8 * 4096 + n % 128))
theorem name_v {n : Int} {x : PySem.Str} (h : NameIs n x) : NameV n x := by
  have f12 : n.fdiv (2 ^ Int.toNat 12) = n / 4096 := Int.fdiv_eq_ediv_of_nonneg _ (by decide)
  rcases h with ⟨rfl, h2⟩ | ⟨rfl, h2⟩ | ⟨rfl, h2, rfl, h4⟩ | ⟨rfl, h2, rfl, h4⟩ | ⟨rfl, h2, rfl⟩ | ⟨rfl, h2, rfl, h4, rfl⟩ | ⟨rfl, h2, rfl, h4, rfl⟩ | ⟨rfl, h2, h3, h4, h5, h6, rfl⟩
  · rw [bitAnd_m7] at h2 ⊢
    exact .a (any3.mp h2)
  · rw [bitAnd_m7] at h2
    exact .b h2
  · rw [bitAnd_m7] at h2
    rw [and_f0] at h4
    exact .c h2 h4
  · rw [bitAnd_m7] at h2
    rw [and_f0] at h4
    exact .d h2 h4
  · rw [bitAnd_m7] at h2
    rw [and_fe]
    exact .e (.inl h2)
  · rw [bitAnd_m7] at h2
    rw [f12, bitAnd_m3] at h4
    rw [and_fe]
    have := any2.mp h4
    exact .e (.inr ⟨h2, this⟩)
  · rw [bitAnd_m7] at h2
    rw [f12, bitAnd_m3] at h4
    rw [and_707f]
    have := any2f.mp h4
    exact .g (.inl ⟨h2, this⟩)
  · rw [bitAnd_m7] at h2 h3 h4 h5 h6
    rw [and_707f]
    have := any3f.mp h2
    exact .g (.inr ⟨this.1, this.2.1, this.2.2, h3, h4, h5, h6⟩)
theorem nb_cong {x y : Int} (h : x = y) {z : PySem.Str} (e : (nbAt y == z) = true) : nbAt x = z := by rw [h]; exact eq_of_beq e
/-- a number of digits, the least first: each digit with its base -/
def pk : List (Int × Int) → Int
  | [] => 0
  | q :: r => q.1 + q.2 * pk r
def okp : List (Int × Int) → Prop
  | [] => True
  | q :: r => (0 ≤ q.1 ∧ q.1 < q.2) ∧ okp r
def wt : List (Int × Int) → Int
  | [] => 1
  | q :: r => q.2 * wt r
theorem wt_pos : ∀ {l : List (Int × Int)}, okp l → 0 < wt l
  | [], _ => by decide
  | _ :: _, h => Int.mul_pos (Int.lt_of_le_of_lt h.1.1 h.1.2) (wt_pos h.2)
theorem pk_pos : ∀ {l : List (Int × Int)}, okp l → 0 ≤ pk l
  | [], _ => by decide
  | _ :: _, h => Int.add_nonneg h.1.1 (Int.mul_nonneg (Int.le_of_lt (Int.lt_of_le_of_lt h.1.1 h.1.2)) (pk_pos h.2))
theorem pk_lt : ∀ {l : List (Int × Int)}, okp l → pk l < wt l
  | [], _ => by decide
  | q :: r, h => by
    have h1 := pk_lt h.2
    have h0 : 0 ≤ q.2 := Int.le_of_lt (Int.lt_of_le_of_lt h.1.1 h.1.2)
    have h2 : q.2 * (pk r + 1) ≤ q.2 * wt r := Int.mul_le_mul_of_nonneg_left h1 h0
    have h3 : q.2 * (pk r + 1) = q.2 * pk r + q.2 := by rw [Int.mul_add, Int.mul_one]
    have h4 := h.1.2
    show q.1 + q.2 * pk r < q.2 * wt r
    omega
theorem pk_div (b : List (Int × Int)) : ∀ {a : List (Int × Int)}, okp a → pk (a ++ b) / wt a = pk b
  | [], _ => Int.ediv_one _
  | q :: r, h => by
    have h0 : 0 < q.2 := Int.lt_of_le_of_lt h.1.1 h.1.2
    show (q.1 + q.2 * pk (r ++ b)) / (q.2 * wt r) = pk b
    rw [← Int.ediv_ediv_of_nonneg (Int.le_of_lt h0), Int.add_mul_ediv_left _ _ (Int.ne_of_gt h0), Int.ediv_eq_zero_of_lt h.1.1 h.1.2, Int.zero_add, pk_div b h.2]
theorem okp_app : ∀ {a b : List (Int × Int)}, okp (a ++ b) → okp a ∧ okp b
  | [], _, h => ⟨trivial, h⟩
  | _ :: _, _, h => ⟨⟨h.1, (okp_app h.2).1⟩, (okp_app h.2).2⟩
/-- the digit behind the digits of a -/
theorem pk_get {n K : Int} (a : List (Int × Int)) (d M : Int) (b : List (Int × Int)) (e : n = pk (a ++ (d, M) :: b)) (h : okp (a ++ (d, M) :: b)) (hK : K = wt a) : n / K % M = d := by
  have o := okp_app h
  rw [e, hK, pk_div _ o.1]
  show (d + M * pk b) % M = d
  rw [Int.add_mul_emod_self_left, Int.emod_eq_of_lt o.2.1.1 o.2.1.2]
theorem pk_top {n K : Int} (a b : List (Int × Int)) (e : n = pk (a ++ b)) (h : okp a) (hK : K = wt a) : n / K = pk b := by rw [e, hK, pk_div _ h]
theorem pk_fst {n d M : Int} {b : List (Int × Int)} (e : n = pk ((d, M) :: b)) (h : okp ((d, M) :: b)) : n % M = d := by
  rw [e]
  show (d + M * pk b) % M = d
  rw [Int.add_mul_emod_self_left, Int.emod_eq_of_lt h.1.1 h.1.2]
theorem md {x M : Int} (h : 0 < M) : 0 ≤ x % M ∧ x % M < M := ⟨Int.emod_nonneg _ (Int.ne_of_gt h), Int.emod_lt_of_pos _ h⟩
/-- the number of a row with its fields, digit by digit -/
inductive Lp (op low high n : Int) : Fm → List (PySem.Str × Int) → Prop
  | R {a b c : Int} : okp [(op, 128), (a, 32), (low, 8), (b, 32), (c, 32), (high, 128)] → n = pk [(op, 128), (a, 32), (low, 8), (b, 32), (c, 32), (high, 128)] → Lp op low high n .R [("rd", a), ("rs1", b), ("rs2", c)]
  | I {a b v : Int} : okp [(op, 128), (a, 32), (low, 8), (b, 32), (v % 4096, 4096)] → n = pk [(op, 128), (a, 32), (low, 8), (b, 32), (v % 4096, 4096)] → -2048 ≤ v → v ≤ 2047 → Lp op low high n .I [("rd", a), ("rs1", b), ("imm", v)]
  | H {a b v : Int} : okp [(op, 128), (a, 32), (low, 8), (b, 32), (v, 32), (high, 128)] → n = pk [(op, 128), (a, 32), (low, 8), (b, 32), (v, 32), (high, 128)] → Lp op low high n .H [("rd", a), ("rs1", b), ("imm", v)]
  | S {a b v : Int} : okp [(op, 128), (v % 32, 32), (low, 8), (a, 32), (b, 32), (v / 32 % 128, 128)] → n = pk [(op, 128), (v % 32, 32), (low, 8), (a, 32), (b, 32), (v / 32 % 128, 128)] → -2048 ≤ v → v ≤ 2047 → Lp op low high n .S [("rs1", a), ("rs2", b), ("imm", v)]
  | B {a b v : Int} : okp [(op, 128), (v / 2048 % 2, 2), (v / 2 % 16, 16), (low, 8), (a, 32), (b, 32), (v / 32 % 64, 64), (v / 4096 % 2, 2)] → n = pk [(op, 128), (v / 2048 % 2, 2), (v / 2 % 16, 16), (low, 8), (a, 32), (b, 32), (v / 32 % 64, 64), (v / 4096 % 2, 2)] → -4096 ≤ v → v ≤ 4094 → v % 2 = 0 → Lp op low high n .B [("rs1", a), ("rs2", b), ("imm", v)]
  | U {a v : Int} : okp [(op, 128), (a, 32), (v, 1048576)] → n = pk [(op, 128), (a, 32), (v, 1048576)] → Lp op low high n .U [("rd", a), ("imm", v)]
  | J {a v : Int} : okp [(op, 128), (a, 32), (v / 4096 % 256, 256), (v / 2048 % 2, 2), (v / 2 % 1024, 1024), (v / 1048576 % 2, 2)] → n = pk [(op, 128), (a, 32), (v / 4096 % 256, 256), (v / 2048 % 2, 2), (v / 2 % 1024, 1024), (v / 1048576 % 2, 2)] → -1048576 ≤ v → v ≤ 1048574 → v % 2 = 0 → Lp op low high n .J [("rd", a), ("imm", v)]
  | F {v : Int} : okp [(op, 128), (0, 8192), (v, 256), (0, 16)] → n = pk [(op, 128), (0, 8192), (v, 256), (0, 16)] → Lp op low high n .F [("imm", v)]
  | E : 0 ≤ n → n < 4294967296 → n = op + high * 1048576 → Lp op low high n .E []
theorem lt_le {v k : Int} (h : v ≤ k) : v < k + 1 := Int.lt_add_one_of_le h
/-- what a row's op, low and high are, form by form -/
structure RowB (op low high : Int) : Prop where
  o : 0 ≤ op ∧ op < 128
  l : 0 ≤ low ∧ low < 8
  h : 0 ≤ high ∧ high < 128
theorem row_b {r : Row} (h : r ∈ rowsL) : RowB r.op r.low r.high := let ⟨a, b, c, d, e, f⟩ := row_bnd h; ⟨⟨e, f⟩, ⟨a, b⟩, ⟨c, d⟩⟩
def rowZ (r : Row) : Bool := match r.f with
  | .R | .H => true
  | .E => decide (r.low = 0) && decide (r.op + r.high * 1048576 < 4294967296)
  | .F | .U | .J => decide (r.low = 0) && decide (r.high = 0)
  | .I | .S | .B => decide (r.high = 0)
theorem row_z {r : Row} (h : r ∈ rowsL) : rowZ r = true := by
  have e : ∀ r ∈ rowsL, rowZ r = true := by decide +kernel
  exact e r h
theorem laid_lp {r : Row} {ks : List (PySem.Str × Int)} (hr : r ∈ rowsL) (h : Fl r.f ks) : Lp r.op r.low r.high (laidOf r ks) r.f ks := by
  have hs := h.sh
  have rb := row_b hr
  have rz := row_z hr
  obtain ⟨nm, f, op, low, high⟩ := r
  dsimp only at hs rb ⊢
  obtain ⟨o, l, hh⟩ := rb
  cases hs
  case R a b c a0 a1 b0 b1 c0 c1 =>
    refine .R ⟨o, ⟨a0, a1⟩, l, ⟨b0, b1⟩, ⟨c0, c1⟩, hh, trivial⟩ ?_
    rw [show laidOf ⟨nm, .R, op, low, high⟩ [("rd", a), ("rs1", b), ("rs2", c)] = op + low * 4096 + high * 33554432 + (a * 128 + (b * 32768 + (c * 1048576 + 0))) + 0 from by with_unfolding_all rfl]
    simp only [pk]
    clear o l hh rz a0 a1 b0 b1 c0 c1 hr h
    lia
  case I a b v a0 a1 b0 b1 v0 v1 =>
    obtain rfl : high = 0 := of_decide_eq_true rz
    refine .I ⟨o, ⟨a0, a1⟩, l, ⟨b0, b1⟩, md (by decide), trivial⟩ ?_ v0 v1
    rw [show laidOf ⟨nm, .I, op, low, 0⟩ [("rd", a), ("rs1", b), ("imm", v)] = op + low * 4096 + 0 * 33554432 + (a * 128 + (b * 32768 + 0)) + bitSum v (psOf .I) from by with_unfolding_all rfl, bsI]
    simp only [pk]
    generalize v % 4096 = x
    clear o l hh rz a0 a1 b0 b1 v0 v1 hr h
    lia
  case H a b v a0 a1 b0 b1 v0 v1 =>
    refine .H ⟨o, ⟨a0, a1⟩, l, ⟨b0, b1⟩, ⟨v0, lt_le v1⟩, hh, trivial⟩ ?_
    rw [show laidOf ⟨nm, .H, op, low, high⟩ [("rd", a), ("rs1", b), ("imm", v)] = op + low * 4096 + high * 33554432 + (a * 128 + (b * 32768 + 0)) + bitSum v (psOf .H) from by with_unfolding_all rfl, bsH, Int.emod_eq_of_lt v0 (show v < 32 from lt_le v1)]
    simp only [pk]
    clear o l hh rz a0 a1 b0 b1 v0 v1 hr h
    lia
  case S a b v a0 a1 b0 b1 v0 v1 =>
    obtain rfl : high = 0 := of_decide_eq_true rz
    refine .S ⟨o, md (by decide), l, ⟨a0, a1⟩, ⟨b0, b1⟩, md (by decide), trivial⟩ ?_ v0 v1
    rw [show laidOf ⟨nm, .S, op, low, 0⟩ [("rs1", a), ("rs2", b), ("imm", v)] = op + low * 4096 + 0 * 33554432 + (a * 32768 + (b * 1048576 + 0)) + bitSum v (psOf .S) from by with_unfolding_all rfl, bsS]
    simp only [pk]
    generalize v % 32 = x
    generalize v / 32 % 128 = y
    clear o l hh rz a0 a1 b0 b1 v0 v1 hr h
    lia
  case B a b v a0 a1 b0 b1 v0 v1 v2 =>
    obtain rfl : high = 0 := of_decide_eq_true rz
    refine .B ⟨o, md (by decide), md (by decide), l, ⟨a0, a1⟩, ⟨b0, b1⟩, md (by decide), md (by decide), trivial⟩ ?_ v0 v1 v2
    rw [show laidOf ⟨nm, .B, op, low, 0⟩ [("rs1", a), ("rs2", b), ("imm", v)] = op + low * 4096 + 0 * 33554432 + (a * 32768 + (b * 1048576 + 0)) + bitSum v (psOf .B) from by with_unfolding_all rfl, bsB]
    simp only [pk]
    generalize v / 2048 % 2 = x
    generalize v / 2 % 16 = y
    generalize v / 32 % 64 = z
    generalize v / 4096 % 2 = t
    clear o l hh rz a0 a1 b0 b1 v0 v1 v2 hr h
    lia
  case U a v a0 a1 v0 v1 =>
    obtain ⟨rfl, rfl⟩ : low = 0 ∧ high = 0 := by
      have := Bool.and_eq_true_iff.mp rz
      exact ⟨of_decide_eq_true this.1, of_decide_eq_true this.2⟩
    refine .U ⟨o, ⟨a0, a1⟩, ⟨v0, lt_le v1⟩, trivial⟩ ?_
    rw [show laidOf ⟨nm, .U, op, 0, 0⟩ [("rd", a), ("imm", v)] = op + 0 * 4096 + 0 * 33554432 + (a * 128 + 0) + bitSum v (psOf .U) from by with_unfolding_all rfl, bsU, Int.emod_eq_of_lt v0 (show v < 1048576 from lt_le v1)]
    simp only [pk]
    clear o l hh rz a0 a1 v0 v1 hr h
    lia
  case J a v a0 a1 v0 v1 v2 =>
    obtain ⟨rfl, rfl⟩ : low = 0 ∧ high = 0 := by
      have := Bool.and_eq_true_iff.mp rz
      exact ⟨of_decide_eq_true this.1, of_decide_eq_true this.2⟩
    refine .J ⟨o, ⟨a0, a1⟩, md (by decide), md (by decide), md (by decide), md (by decide), trivial⟩ ?_ v0 v1 v2
    rw [show laidOf ⟨nm, .J, op, 0, 0⟩ [("rd", a), ("imm", v)] = op + 0 * 4096 + 0 * 33554432 + (a * 128 + 0) + bitSum v (psOf .J) from by with_unfolding_all rfl, bsJ]
    simp only [pk]
    generalize v / 4096 % 256 = x
    generalize v / 2048 % 2 = y
    generalize v / 2 % 1024 = z
    generalize v / 1048576 % 2 = t
    clear o l hh rz a0 a1 v0 v1 v2 hr h
    lia
  case F v v0 v1 =>
    obtain ⟨rfl, rfl⟩ : low = 0 ∧ high = 0 := by
      have := Bool.and_eq_true_iff.mp rz
      exact ⟨of_decide_eq_true this.1, of_decide_eq_true this.2⟩
    refine .F ⟨o, ⟨Int.le_refl _, by decide⟩, ⟨v0, lt_le v1⟩, ⟨Int.le_refl _, by decide⟩, trivial⟩ ?_
    rw [show laidOf ⟨nm, .F, op, 0, 0⟩ [("imm", v)] = op + 0 * 4096 + 0 * 33554432 + 0 + bitSum v (psOf .F) from by with_unfolding_all rfl, bsF, Int.emod_eq_of_lt v0 (show v < 256 from lt_le v1)]
    simp only [pk]
    clear o l hh rz v0 v1 hr h
    lia
  case E =>
    have z := Bool.and_eq_true_iff.mp rz
    obtain rfl : low = 0 := of_decide_eq_true z.1
    have e : laidOf ⟨nm, .E, op, 0, high⟩ [] = op + high * 1048576 := by
      rw [show laidOf ⟨nm, .E, op, 0, high⟩ [] = op + 0 * 4096 + high * 1048576 + 0 + 0 from by with_unfolding_all rfl, Int.zero_mul, Int.add_zero, Int.add_zero, Int.add_zero]
    exact .E (e ▸ Int.add_nonneg o.1 (Int.mul_nonneg hh.1 (by decide))) (e ▸ of_decide_eq_true z.2) e
theorem wlt {n : Int} {l : List (Int × Int)} (h : okp l) (e : n = pk l) (hw : wt l ≤ 4294967296) : 0 ≤ n ∧ n < 4294967296 := by
  rw [e]
  exact ⟨pk_pos h, Int.lt_of_lt_of_le (pk_lt h) hw⟩
theorem laid_bnd {r : Row} {ks : List (PySem.Str × Int)} (hr : r ∈ rowsL) (h : Fl r.f ks) : 0 ≤ laidOf r ks ∧ laidOf r ks < 4294967296 := by
  have lp := laid_lp hr h
  generalize laidOf r ks = n at lp ⊢
  obtain ⟨nm, f, op, low, high⟩ := r
  dsimp only at lp
  cases lp
  case E a b c => exact ⟨a, b⟩
  all_goals (rename okp _ => o; rename _ = pk _ => e; exact wlt o e (of_decide_eq_true rfl))
theorem pk1 (d M : Int) : pk [(d, M)] = d := by show d + M * 0 = d; rw [Int.mul_zero, Int.add_zero]
theorem laid_one_p {r : Row} {ks : List (PySem.Str × Int)} (hr : r ∈ rowsL) (h : Fl r.f ks) : isOneS r.f.str r.op r.low r.high (laidOf r ks) = true := by
  have lp := laid_lp hr h
  rw [one_iff]
  generalize laidOf r ks = n at lp ⊢
  obtain ⟨nm, f, op, low, high⟩ := r
  dsimp only at lp ⊢
  cases lp
  case R a b c o e => exact ⟨pk_fst e o, pk_get (K := 4096) [(op, 128), (a, 32)] low 8 _ e o rfl, (pk_top [(op, 128), (a, 32), (low, 8), (b, 32), (c, 32)] [(high, 128)] e (okp_app (a := [(op, 128), (a, 32), (low, 8), (b, 32), (c, 32)]) o).1 rfl).trans (pk1 _ _)⟩
  case H a b c o e => exact ⟨pk_fst e o, pk_get (K := 4096) [(op, 128), (a, 32)] low 8 _ e o rfl, (pk_top [(op, 128), (a, 32), (low, 8), (b, 32), (c, 32)] [(high, 128)] e (okp_app (a := [(op, 128), (a, 32), (low, 8), (b, 32), (c, 32)]) o).1 rfl).trans (pk1 _ _)⟩
  case I a b v o e _ _ => exact ⟨pk_fst e o, pk_get (K := 4096) [(op, 128), (a, 32)] low 8 _ e o rfl⟩
  case S a b v o e _ _ => exact ⟨pk_fst e o, pk_get (K := 4096) [(op, 128), (v % 32, 32)] low 8 _ e o rfl⟩
  case B a b v o e _ _ _ => exact ⟨pk_fst e o, pk_get (K := 4096) [(op, 128), (v / 2048 % 2, 2), (v / 2 % 16, 16)] low 8 _ e o rfl⟩
  case U a v o e => exact pk_fst e o
  case J a v o e _ _ _ => exact pk_fst e o
  case F v o e => exact ⟨pk_fst e o, pk_get (K := 128) [(op, 128)] 0 8192 _ e o rfl, (pk_top [(op, 128), (0, 8192), (v, 256)] [(0, 16)] e (okp_app (a := [(op, 128), (0, 8192), (v, 256)]) o).1 rfl).trans (pk1 _ _)⟩
  case E _ _ e => exact e
theorem sgI {v : Int} (a : -2048 ≤ v) (b : v ≤ 2047) : (if 2048 ≤ v % 4096 then v % 4096 - 2 * 2048 else v % 4096) = v := by split <;> lia
theorem sgB {v : Int} (a : -4096 ≤ v) (b : v ≤ 4094) : (if 4096 ≤ v % 8192 then v % 8192 - 2 * 4096 else v % 8192) = v := by split <;> lia
theorem sgJ {v : Int} (a : -1048576 ≤ v) (b : v ≤ 1048574) : (if 1048576 ≤ v % 2097152 then v % 2097152 - 2 * 1048576 else v % 2097152) = v := by split <;> lia
theorem cutS (v : Int) : v % 32 + v / 32 % 128 * 32 = v % 4096 := by lia
theorem cutB {v : Int} (h : v % 2 = 0) : v / 2 % 16 * 2 + v / 32 % 64 * 32 + v / 2048 % 2 * 2048 + v / 4096 % 2 * 4096 = v % 8192 := by lia
theorem cutJ {v : Int} (h : v % 2 = 0) : v / 2 % 1024 * 2 + v / 2048 % 2 * 2048 + v / 4096 % 256 * 4096 + v / 1048576 % 2 * 1048576 = v % 2097152 := by lia
theorem read_R (n : Int) : readOf .R n = [(("rd" : PySem.Str), n / 128 % 32), (("rs1" : PySem.Str), n / 32768 % 32), (("rs2" : PySem.Str), n / 1048576 % 32)] := rfl
theorem read_I (n : Int) : readOf .I n = [(("rd" : PySem.Str), n / 128 % 32), (("rs1" : PySem.Str), n / 32768 % 32), (("imm" : PySem.Str), immRead .I n)] := rfl
theorem read_H (n : Int) : readOf .H n = [(("rd" : PySem.Str), n / 128 % 32), (("rs1" : PySem.Str), n / 32768 % 32), (("imm" : PySem.Str), immRead .H n)] := rfl
theorem read_S (n : Int) : readOf .S n = [(("rs1" : PySem.Str), n / 32768 % 32), (("rs2" : PySem.Str), n / 1048576 % 32), (("imm" : PySem.Str), immRead .S n)] := rfl
theorem read_B (n : Int) : readOf .B n = [(("rs1" : PySem.Str), n / 32768 % 32), (("rs2" : PySem.Str), n / 1048576 % 32), (("imm" : PySem.Str), immRead .B n)] := rfl
theorem read_U (n : Int) : readOf .U n = [(("rd" : PySem.Str), n / 128 % 32), (("imm" : PySem.Str), immRead .U n)] := rfl
theorem read_J (n : Int) : readOf .J n = [(("rd" : PySem.Str), n / 128 % 32), (("imm" : PySem.Str), immRead .J n)] := rfl
theorem read_F (n : Int) : readOf .F n = [(("imm" : PySem.Str), immRead .F n)] := rfl
theorem im_I (n : Int) : immRead .I n = if 2048 ≤ n / 1048576 % 4096 then n / 1048576 % 4096 - 2 * 2048 else n / 1048576 % 4096 := by rw [imm_s (k := 2048) (by decide) (by decide), vsI]
theorem im_S (n : Int) : immRead .S n = if 2048 ≤ n / 128 % 32 + n / 33554432 % 128 * 32 then n / 128 % 32 + n / 33554432 % 128 * 32 - 2 * 2048 else n / 128 % 32 + n / 33554432 % 128 * 32 := by rw [imm_s (k := 2048) (by decide) (by decide), vsS]
theorem im_B (n : Int) : immRead .B n = if 4096 ≤ n / 256 % 16 * 2 + n / 33554432 % 64 * 32 + n / 128 % 2 * 2048 + n / 2147483648 % 2 * 4096 then n / 256 % 16 * 2 + n / 33554432 % 64 * 32 + n / 128 % 2 * 2048 + n / 2147483648 % 2 * 4096 - 2 * 4096 else n / 256 % 16 * 2 + n / 33554432 % 64 * 32 + n / 128 % 2 * 2048 + n / 2147483648 % 2 * 4096 := by rw [imm_s (k := 4096) (by decide) (by decide), vsB]
theorem im_J (n : Int) : immRead .J n = if 1048576 ≤ n / 2097152 % 1024 * 2 + n / 1048576 % 2 * 2048 + n / 4096 % 256 * 4096 + n / 2147483648 % 2 * 1048576 then n / 2097152 % 1024 * 2 + n / 1048576 % 2 * 2048 + n / 4096 % 256 * 4096 + n / 2147483648 % 2 * 1048576 - 2 * 1048576 else n / 2097152 % 1024 * 2 + n / 1048576 % 2 * 2048 + n / 4096 % 256 * 4096 + n / 2147483648 % 2 * 1048576 := by rw [imm_s (k := 1048576) (by decide) (by decide), vsJ]
theorem im_H (n : Int) : immRead .H n = n / 1048576 % 32 := by rw [imm_u (by decide), vsH]
theorem im_U (n : Int) : immRead .U n = n / 4096 % 1048576 := by rw [imm_u (by decide), vsU]
theorem im_F (n : Int) : immRead .F n = n / 1048576 % 256 := by rw [imm_u (by decide), vsF]
theorem laid_read {r : Row} {ks : List (PySem.Str × Int)} (hr : r ∈ rowsL) (h : Fl r.f ks) : readOf r.f (laidOf r ks) = ks := by
  have lp := laid_lp hr h
  generalize laidOf r ks = n at lp ⊢
  obtain ⟨nm, f, op, low, high⟩ := r
  dsimp only at lp ⊢
  cases lp
  case R a b c o e => rw [read_R, pk_get (K := 128) [(op, 128)] a 32 _ e o rfl, pk_get (K := 32768) [(op, 128), (a, 32), (low, 8)] b 32 _ e o rfl, pk_get (K := 1048576) [(op, 128), (a, 32), (low, 8), (b, 32)] c 32 _ e o rfl]
  case I a b v o e v0 v1 => rw [read_I, im_I, pk_get (K := 128) [(op, 128)] a 32 _ e o rfl, pk_get (K := 32768) [(op, 128), (a, 32), (low, 8)] b 32 _ e o rfl, pk_get (K := 1048576) [(op, 128), (a, 32), (low, 8), (b, 32)] (v % 4096) 4096 _ e o rfl, sgI v0 v1]
  case H a b v o e => rw [read_H, im_H, pk_get (K := 128) [(op, 128)] a 32 _ e o rfl, pk_get (K := 32768) [(op, 128), (a, 32), (low, 8)] b 32 _ e o rfl, pk_get (K := 1048576) [(op, 128), (a, 32), (low, 8), (b, 32)] v 32 _ e o rfl]
  case S a b v o e v0 v1 => rw [read_S, im_S, pk_get (K := 128) [(op, 128)] (v % 32) 32 _ e o rfl, pk_get (K := 32768) [(op, 128), (v % 32, 32), (low, 8)] a 32 _ e o rfl, pk_get (K := 1048576) [(op, 128), (v % 32, 32), (low, 8), (a, 32)] b 32 _ e o rfl, pk_get (K := 33554432) [(op, 128), (v % 32, 32), (low, 8), (a, 32), (b, 32)] (v / 32 % 128) 128 _ e o rfl, cutS, sgI v0 v1]
  case B a b v o e v0 v1 v2 => rw [read_B, im_B, pk_get (K := 128) [(op, 128)] (v / 2048 % 2) 2 _ e o rfl, pk_get (K := 256) [(op, 128), (v / 2048 % 2, 2)] (v / 2 % 16) 16 _ e o rfl, pk_get (K := 32768) [(op, 128), (v / 2048 % 2, 2), (v / 2 % 16, 16), (low, 8)] a 32 _ e o rfl, pk_get (K := 1048576) [(op, 128), (v / 2048 % 2, 2), (v / 2 % 16, 16), (low, 8), (a, 32)] b 32 _ e o rfl, pk_get (K := 33554432) [(op, 128), (v / 2048 % 2, 2), (v / 2 % 16, 16), (low, 8), (a, 32), (b, 32)] (v / 32 % 64) 64 _ e o rfl, pk_get (K := 2147483648) [(op, 128), (v / 2048 % 2, 2), (v / 2 % 16, 16), (low, 8), (a, 32), (b, 32), (v / 32 % 64, 64)] (v / 4096 % 2) 2 _ e o rfl, cutB v2, sgB v0 v1]
  case U a v o e => rw [read_U, im_U, pk_get (K := 128) [(op, 128)] a 32 _ e o rfl, pk_get (K := 4096) [(op, 128), (a, 32)] v 1048576 _ e o rfl]
  case J a v o e v0 v1 v2 => rw [read_J, im_J, pk_get (K := 128) [(op, 128)] a 32 _ e o rfl, pk_get (K := 4096) [(op, 128), (a, 32)] (v / 4096 % 256) 256 _ e o rfl, pk_get (K := 1048576) [(op, 128), (a, 32), (v / 4096 % 256, 256)] (v / 2048 % 2) 2 _ e o rfl, pk_get (K := 2097152) [(op, 128), (a, 32), (v / 4096 % 256, 256), (v / 2048 % 2, 2)] (v / 2 % 1024) 1024 _ e o rfl, pk_get (K := 2147483648) [(op, 128), (a, 32), (v / 4096 % 256, 256), (v / 2048 % 2, 2), (v / 2 % 1024, 1024)] (v / 1048576 % 2) 2 _ e o rfl, cutJ v2, sgJ v0 v1]
  case F v o e => rw [read_F, im_F, pk_get (K := 1048576) [(op, 128), (0, 8192)] v 256 _ e o rfl]
  case E => rfl
/-- a number's digits -/
theorem un_step {n K M : Int} {l : List (Int × Int)} (K' : Int) (hK : 0 ≤ K) (hK' : K * M = K') (h : n / K' = pk l) : n / K = pk ((n / K % M, M) :: l) := by
  show n / K = n / K % M + M * pk l
  rw [← h, ← hK', ← Int.ediv_ediv_of_nonneg hK, Int.emod_add_mul_ediv]
theorem un_last {n K M : Int} (hK : 0 < K) (h0 : 0 ≤ n) (h1 : n < K * M) : n / K = pk [(n / K % M, M)] := by
  have hM : n / K < M := Int.ediv_lt_of_lt_mul hK (by rw [Int.mul_comm]; exact h1)
  rw [pk1, Int.emod_eq_of_lt (Int.ediv_nonneg h0 (Int.le_of_lt hK)) hM]
theorem un_fst {n M : Int} {l : List (Int × Int)} (h : n / M = pk l) : n = pk ((n % M, M) :: l) := by
  show n = n % M + M * pk l
  rw [← h, Int.emod_add_mul_ediv]
theorem sx {x k v : Int} (e : v = if k ≤ x then x - 2 * k else x) : ∃ c, v = x + 2 * k * c := by
  split at e
  · exact ⟨-1, by rw [e, Int.mul_neg, Int.mul_one]; rfl⟩
  · exact ⟨0, by rw [e, Int.mul_zero, Int.add_zero]⟩
theorem sx_get {v x W c K M : Int} (R : Int) (e : v = x + W * c) (hK : 0 < K) (hW : W = K * (M * R)) : v / K % M = x / K % M := by
  rw [e, hW, Int.mul_assoc, Int.add_mul_ediv_left _ _ (Int.ne_of_gt hK), Int.mul_assoc, Int.add_mul_emod_self_left]
theorem sx_mod {v x W c M : Int} (R : Int) (e : v = x + W * c) (hW : W = M * R) : v % M = x % M := by
  rw [e, hW, Int.mul_assoc, Int.add_mul_emod_self_left]
theorem sx_bnd {x k v : Int} (h0 : 0 ≤ x) (h1 : x < 2 * k) (e : v = if k ≤ x then x - 2 * k else x) : -k ≤ v ∧ v < k := by split at e <;> lia
theorem le_lt {v k : Int} (h : v < k + 1) : v ≤ k := Int.le_of_lt_add_one h
theorem pkB {p q r t : Int} : p * 2 + q * 32 + r * 2048 + t * 4096 = pk [(0, 2), (p, 16), (q, 64), (r, 2), (t, 2)] := by simp only [pk]; lia
theorem pkJ {p q r t : Int} : p * 2 + q * 2048 + r * 4096 + t * 1048576 = pk [(0, 2), (p, 1024), (q, 2), (r, 256), (t, 2)] := by simp only [pk]; lia
theorem pkS {p q : Int} : p + q * 32 = pk [(p, 32), (q, 128)] := by simp only [pk]; lia
theorem z2 : (0 : Int) ≤ 0 ∧ (0 : Int) < 2 := by decide
theorem okB (n : Int) : okp [(0, 2), (n / 256 % 16, 16), (n / 33554432 % 64, 64), (n / 128 % 2, 2), (n / 2147483648 % 2, 2)] := ⟨z2, md (by decide), md (by decide), md (by decide), md (by decide), trivial⟩
theorem okJ (n : Int) : okp [(0, 2), (n / 2097152 % 1024, 1024), (n / 1048576 % 2, 2), (n / 4096 % 256, 256), (n / 2147483648 % 2, 2)] := ⟨z2, md (by decide), md (by decide), md (by decide), md (by decide), trivial⟩
theorem okS (n : Int) : okp [(n / 128 % 32, 32), (n / 33554432 % 128, 128)] := ⟨md (by decide), md (by decide), trivial⟩
theorem even_le {v k : Int} (h : v % 2 = 0) (hk : k % 2 = 0) (hv : v < k) : v ≤ k - 2 := by lia
theorem par_B (n : Int) : immRead .B n % 2 = 0 := by
  obtain ⟨c, e⟩ := sx (k := 4096) (im_B n)
  exact (sx_mod 4096 e rfl).trans (pk_fst pkB (okB n))
theorem par_J (n : Int) : immRead .J n % 2 = 0 := by
  obtain ⟨c, e⟩ := sx (k := 1048576) (im_J n)
  exact (sx_mod 1048576 e rfl).trans (pk_fst pkJ (okJ n))
theorem read_shN (f : Fm) (n : Int) : Sh f (readOf f n) := by
  cases f
  case R => exact .R (md (by decide)).1 (md (by decide)).2 (md (by decide)).1 (md (by decide)).2 (md (by decide)).1 (md (by decide)).2
  case I =>
    have b := sx_bnd (k := 2048) (md (by decide)).1 (md (by decide)).2 (im_I n)
    exact .I (md (by decide)).1 (md (by decide)).2 (md (by decide)).1 (md (by decide)).2 b.1 (le_lt b.2)
  case H =>
    rw [read_H, im_H]
    exact .H (md (by decide)).1 (md (by decide)).2 (md (by decide)).1 (md (by decide)).2 (md (by decide)).1 (le_lt (md (by decide)).2)
  case S =>
    have b := sx_bnd (k := 2048) (x := n / 128 % 32 + n / 33554432 % 128 * 32) (pkS ▸ pk_pos (okS n)) (pkS ▸ pk_lt (okS n)) (im_S n)
    exact .S (md (by decide)).1 (md (by decide)).2 (md (by decide)).1 (md (by decide)).2 b.1 (le_lt b.2)
  case B =>
    have b := sx_bnd (k := 4096) (x := n / 256 % 16 * 2 + n / 33554432 % 64 * 32 + n / 128 % 2 * 2048 + n / 2147483648 % 2 * 4096) (pkB ▸ pk_pos (okB n)) (pkB ▸ pk_lt (okB n)) (im_B n)
    exact .B (md (by decide)).1 (md (by decide)).2 (md (by decide)).1 (md (by decide)).2 b.1 (even_le (par_B n) (by decide) b.2) (par_B n)
  case U =>
    rw [read_U, im_U]
    exact .U (md (by decide)).1 (md (by decide)).2 (md (by decide)).1 (le_lt (md (by decide)).2)
  case J =>
    have b := sx_bnd (k := 1048576) (x := n / 2097152 % 1024 * 2 + n / 1048576 % 2 * 2048 + n / 4096 % 256 * 4096 + n / 2147483648 % 2 * 1048576) (pkJ ▸ pk_pos (okJ n)) (pkJ ▸ pk_lt (okJ n)) (im_J n)
    exact .J (md (by decide)).1 (md (by decide)).2 b.1 (even_le (par_J n) (by decide) b.2) (par_J n)
  case F =>
    rw [read_F, im_F]
    exact .F (md (by decide)).1 (le_lt (md (by decide)).2)
  case E => exact .E
theorem read_fl_p {r : Row} {n : Int} : Fl r.f (readOf r.f n) := (read_shN r.f n).fl
theorem dI (n : Int) : immRead .I n % 4096 = n / 1048576 % 4096 := by
  obtain ⟨c, e⟩ := sx (k := 2048) (im_I n)
  exact (sx_mod 1 e rfl).trans (Int.emod_emod _ _)
theorem dS0 (n : Int) : immRead .S n % 32 = n / 128 % 32 := by
  obtain ⟨c, e⟩ := sx (k := 2048) (im_S n)
  exact (sx_mod 128 e rfl).trans (pk_fst pkS (okS n))
theorem dS1 (n : Int) : immRead .S n / 32 % 128 = n / 33554432 % 128 := by
  obtain ⟨c, e⟩ := sx (k := 2048) (im_S n)
  exact (sx_get 1 e (by decide) rfl).trans (pk_get [(n / 128 % 32, 32)] (n / 33554432 % 128) 128 [] pkS (okS n) rfl)
theorem dB (n : Int) : immRead .B n / 2048 % 2 = n / 128 % 2 ∧ immRead .B n / 2 % 16 = n / 256 % 16 ∧ immRead .B n / 32 % 64 = n / 33554432 % 64 ∧ immRead .B n / 4096 % 2 = n / 2147483648 % 2 := by
  obtain ⟨c, e⟩ := sx (k := 4096) (im_B n)
  exact ⟨(sx_get 2 e (by decide) rfl).trans (pk_get [(0, 2), (n / 256 % 16, 16), (n / 33554432 % 64, 64)] (n / 128 % 2) 2 _ pkB (okB n) rfl), (sx_get 256 e (by decide) rfl).trans (pk_get [(0, 2)] (n / 256 % 16) 16 _ pkB (okB n) rfl), (sx_get 4 e (by decide) rfl).trans (pk_get [(0, 2), (n / 256 % 16, 16)] (n / 33554432 % 64) 64 _ pkB (okB n) rfl), (sx_get 1 e (by decide) rfl).trans (pk_get [(0, 2), (n / 256 % 16, 16), (n / 33554432 % 64, 64), (n / 128 % 2, 2)] (n / 2147483648 % 2) 2 [] pkB (okB n) rfl)⟩
theorem dJ (n : Int) : immRead .J n / 4096 % 256 = n / 4096 % 256 ∧ immRead .J n / 2048 % 2 = n / 1048576 % 2 ∧ immRead .J n / 2 % 1024 = n / 2097152 % 1024 ∧ immRead .J n / 1048576 % 2 = n / 2147483648 % 2 := by
  obtain ⟨c, e⟩ := sx (k := 1048576) (im_J n)
  exact ⟨(sx_get 2 e (by decide) rfl).trans (pk_get [(0, 2), (n / 2097152 % 1024, 1024), (n / 1048576 % 2, 2)] (n / 4096 % 256) 256 _ pkJ (okJ n) rfl), (sx_get 512 e (by decide) rfl).trans (pk_get [(0, 2), (n / 2097152 % 1024, 1024)] (n / 1048576 % 2) 2 _ pkJ (okJ n) rfl), (sx_get 1024 e (by decide) rfl).trans (pk_get [(0, 2)] (n / 2097152 % 1024) 1024 _ pkJ (okJ n) rfl), (sx_get 1 e (by decide) rfl).trans (pk_get [(0, 2), (n / 2097152 % 1024, 1024), (n / 1048576 % 2, 2), (n / 4096 % 256, 256)] (n / 2147483648 % 2) 2 [] pkJ (okJ n) rfl)⟩
theorem nn {k : Nat} : (0 : Int) ≤ (k : Int) := Int.natCast_nonneg _
theorem unR {n : Int} (h0 : 0 ≤ n) (h1 : n < 4294967296) : n = pk [(n % 128, 128), (n / 128 % 32, 32), (n / 4096 % 8, 8), (n / 32768 % 32, 32), (n / 1048576 % 32, 32), (n / 33554432 % 128, 128)] :=
  un_fst (un_step 4096 (by decide) rfl (un_step 32768 (by decide) rfl (un_step 1048576 (by decide) rfl (un_step 33554432 (by decide) rfl (un_last (by decide) h0 h1)))))
theorem unI {n : Int} (h0 : 0 ≤ n) (h1 : n < 4294967296) : n = pk [(n % 128, 128), (n / 128 % 32, 32), (n / 4096 % 8, 8), (n / 32768 % 32, 32), (n / 1048576 % 4096, 4096)] :=
  un_fst (un_step 4096 (by decide) rfl (un_step 32768 (by decide) rfl (un_step 1048576 (by decide) rfl (un_last (by decide) h0 h1))))
theorem unB {n : Int} (h0 : 0 ≤ n) (h1 : n < 4294967296) : n = pk [(n % 128, 128), (n / 128 % 2, 2), (n / 256 % 16, 16), (n / 4096 % 8, 8), (n / 32768 % 32, 32), (n / 1048576 % 32, 32), (n / 33554432 % 64, 64), (n / 2147483648 % 2, 2)] :=
  un_fst (un_step 256 (by decide) rfl (un_step 4096 (by decide) rfl (un_step 32768 (by decide) rfl (un_step 1048576 (by decide) rfl (un_step 33554432 (by decide) rfl (un_step 2147483648 (by decide) rfl (un_last (by decide) h0 h1)))))))
theorem unU {n : Int} (h0 : 0 ≤ n) (h1 : n < 4294967296) : n = pk [(n % 128, 128), (n / 128 % 32, 32), (n / 4096 % 1048576, 1048576)] :=
  un_fst (un_step 4096 (by decide) rfl (un_last (by decide) h0 h1))
theorem unJ {n : Int} (h0 : 0 ≤ n) (h1 : n < 4294967296) : n = pk [(n % 128, 128), (n / 128 % 32, 32), (n / 4096 % 256, 256), (n / 1048576 % 2, 2), (n / 2097152 % 1024, 1024), (n / 2147483648 % 2, 2)] :=
  un_fst (un_step 4096 (by decide) rfl (un_step 1048576 (by decide) rfl (un_step 2097152 (by decide) rfl (un_step 2147483648 (by decide) rfl (un_last (by decide) h0 h1)))))
theorem unF {n : Int} (h0 : 0 ≤ n) (h1 : n < 4294967296) : n = pk [(n % 128, 128), (n / 128 % 8192, 8192), (n / 1048576 % 256, 256), (n / 268435456 % 16, 16)] :=
  un_fst (un_step 1048576 (by decide) rfl (un_step 268435456 (by decide) rfl (un_last (by decide) h0 h1)))
theorem read_laid_p {r : Row} {n : Int} (hr : r ∈ rowsL) (h0 : 0 ≤ n) (h1 : n < 4294967296) (h : isOneS r.f.str r.op r.low r.high n = true) : laidOf r (readOf r.f n) = n := by
  have lp := laid_lp hr (read_fl_p (r := r) (n := n))
  have hb := (row_b hr).h
  rw [one_iff] at h
  generalize laidOf r (readOf r.f n) = k at lp ⊢
  obtain ⟨nm, f, op, low, high⟩ := r
  dsimp only at lp h hb
  cases f
  case R =>
    rw [read_R] at lp
    cases lp with
    | R o e =>
      obtain ⟨g1, g2, g3⟩ := h
      rw [e, ← g1, ← g2, show high = n / 33554432 % 128 by rw [g3, Int.emod_eq_of_lt hb.1 hb.2]]
      exact (unR h0 h1).symm
  case H =>
    rw [read_H, im_H] at lp
    cases lp with
    | H o e =>
      obtain ⟨g1, g2, g3⟩ := h
      rw [e, ← g1, ← g2, show high = n / 33554432 % 128 by rw [g3, Int.emod_eq_of_lt hb.1 hb.2]]
      exact (unR h0 h1).symm
  case I =>
    rw [read_I] at lp
    cases lp with
    | I o e =>
      obtain ⟨g1, g2⟩ := h
      rw [e, ← g1, ← g2, dI]
      exact (unI h0 h1).symm
  case S =>
    rw [read_S] at lp
    cases lp with
    | S o e =>
      obtain ⟨g1, g2⟩ := h
      rw [e, ← g1, ← g2, dS0, dS1]
      exact (unR h0 h1).symm
  case B =>
    rw [read_B] at lp
    cases lp with
    | B o e =>
      obtain ⟨g1, g2⟩ := h
      rw [e, ← g1, ← g2, (dB n).1, (dB n).2.1, (dB n).2.2.1, (dB n).2.2.2]
      exact (unB h0 h1).symm
  case U =>
    rw [read_U, im_U] at lp
    cases lp with
    | U o e =>
      rw [e, ← show n % 128 = op from h]
      exact (unU h0 h1).symm
  case J =>
    rw [read_J] at lp
    cases lp with
    | J o e =>
      rw [e, ← show n % 128 = op from h, (dJ n).1, (dJ n).2.1, (dJ n).2.2.1, (dJ n).2.2.2]
      exact (unJ h0 h1).symm
  case F =>
    rw [read_F, im_F] at lp
    cases lp with
    | F o e =>
      obtain ⟨g1, g2, g3⟩ := h
      have u := unF h0 h1
      rw [g1, g2, g3] at u
      exact e.trans u.symm
  case E =>
    cases lp with
    | E _ _ e => exact e.trans (show n = op + high * 1048576 from h).symm
theorem or_get {x r M W : Int} (k j : Nat) (a b : List (Int × Int)) (e : x = pk (a ++ (0, M) :: b)) (o : okp (a ++ (0, M) :: b)) (hr : 0 ≤ r ∧ r < M) (hK : W = wt a) (hW : (2 : Int) ^ k = W) (hM : (2 : Int) ^ j = M) : PySem.Builtin.bitOr x (r * W) = x + r * W := by
  have g := pk_get a 0 M b e o hK
  rw [← hM, ← hW] at g
  rw [← hW]
  exact or_add k j hr.1 (hM ▸ hr.2) g
theorem and_get {x r M W : Int} (k j : Nat) (a b : List (Int × Int)) (e : x = pk (a ++ (0, M) :: b)) (o : okp (a ++ (0, M) :: b)) (hr : 0 ≤ r ∧ r < M) (hK : W = wt a) (hW : (2 : Int) ^ k = W) (hM : (2 : Int) ^ j = M) : PySem.Builtin.bitAnd x (r * W) = 0 := by
  have g := pk_get a 0 M b e o hK
  rw [← hM, ← hW] at g
  rw [← hW]
  exact and_dis k j hr.1 (hM ▸ hr.2) g
theorem and_gets {x r y M W : Int} (k j : Nat) (a b : List (Int × Int)) (e : x = pk (a ++ (0, M) :: b)) (o : okp (a ++ (0, M) :: b)) (hr : 0 ≤ r ∧ r < M) (hy : 0 ≤ y ∧ y < W) (ha : PySem.Builtin.bitAnd x y = 0) (hK : W = wt a) (hW : (2 : Int) ^ k = W) (hM : (2 : Int) ^ j = M) : PySem.Builtin.bitAnd x (r * W + y) = 0 := by
  have g := pk_get a 0 M b e o hK
  rw [← hM, ← hW] at g
  rw [← hW]
  exact and_cons k j hy.1 (hW ▸ hy.2) ha hr.1 (hM ▸ hr.2) g
theorem zz {M : Int} (h : 0 < M) : (0 : Int) ≤ 0 ∧ (0 : Int) < M := ⟨Int.le_refl _, h⟩
-- the bits of an immediate
theorem bS {q : Int} : q * 33554432 = pk [(0, 128), (0, 32), (0, 8192), (q, 128)] := by simp only [pk]; lia
theorem bB4 {t : Int} : t * 2147483648 = pk [(0, 33554432), (0, 64), (t, 2)] := by simp only [pk]; lia
theorem bB3 {t q : Int} : t * 2147483648 + q * 33554432 = pk [(0, 256), (0, 16), (0, 8192), (q, 64), (t, 2)] := by simp only [pk]; lia
theorem bB2 {t q p : Int} : t * 2147483648 + q * 33554432 + p * 256 = pk [(0, 128), (0, 2), (p, 16), (0, 8192), (q, 64), (t, 2)] := by simp only [pk]; lia
theorem bJ4 {t : Int} : t * 2147483648 = pk [(0, 2097152), (0, 1024), (t, 2)] := by simp only [pk]; lia
theorem bJ3 {t p : Int} : t * 2147483648 + p * 2097152 = pk [(0, 1048576), (0, 2), (p, 1024), (t, 2)] := by simp only [pk]; lia
theorem bJ2 {t p q : Int} : t * 2147483648 + p * 2097152 + q * 1048576 = pk [(0, 4096), (0, 256), (q, 2), (p, 1024), (t, 2)] := by simp only [pk]; lia
theorem bits_v {f : Fm} {v b : Int} (hf : hasImm f = true) (h : BitsIs f.str v b) : BitV v f b := by
  cases f
  case R => exact absurd hf (by decide)
  case E => exact absurd hf (by decide)
  all_goals (rcases h with ⟨h1, h2, h3⟩ | ⟨h1, h2⟩ | ⟨h1, h2, h3, h4, h5, h6, h7⟩ | ⟨h1, h2, h3, h4, h5, h6, h7, h8, h9, h10, h11, h12, h13, h14, h15, h16⟩ | ⟨h1, h2⟩ | ⟨h1, h2, h3, h4, h5, h6, h7, h8, h9, h10, h11, h12, h13, h14, h15, h16⟩ | ⟨h1, h2, h3, h4, h5, h6, h7⟩)
  all_goals first
    | exact absurd h1 (by decide)
    | exact absurd h2 (by decide)
    | exact absurd h3 (by decide)
    | exact absurd h4 (by decide)
    | exact absurd h5 (by decide)
    | exact absurd h6 (by decide)
    | skip
  case I.I =>
    rw [an12] at h3
    subst h3 h2
    exact .I
  case H.H => subst h2; exact .H
  case S.S =>
    rw [bitAnd_m7] at h4
    rw [bitAnd_m5] at h7
    subst h5 h4 h7 h6 h3
    simp only [Int.reduceToNat, Int.reducePow] at h2
    rw [or_get (W := 128) 7 5 [(0, 128)] [(0, 8192), (v / 32 % 128, 128)] bS ⟨zz (by decide), zz (by decide), zz (by decide), md (by decide), trivial⟩ (md (by decide)) rfl rfl rfl] at h2
    subst h2
    exact .S
  case B.B =>
    rw [an1] at h6 h15
    rw [show PySem.Builtin.bitAnd _ 63 = _ from bitAnd_m6 _] at h9
    rw [show PySem.Builtin.bitAnd _ 15 = _ from bitAnd_m4 _] at h12
    subst h7 h6 h5 h10 h9 h8 h13 h12 h11 h16 h15 h14
    simp only [Int.reduceToNat, Int.reducePow] at h4 h3 h2
    rw [or_get (W := 33554432) 25 6 [(0, 33554432)] [(v / 4096 % 2, 2)] bB4 ⟨zz (by decide), zz (by decide), md (by decide), trivial⟩ (md (by decide)) rfl rfl rfl] at h4
    subst h4
    rw [or_get (W := 256) 8 4 [(0, 256)] [(0, 8192), (v / 32 % 64, 64), (v / 4096 % 2, 2)] bB3 ⟨zz (by decide), zz (by decide), zz (by decide), md (by decide), md (by decide), trivial⟩ (md (by decide)) rfl rfl rfl] at h3
    subst h3
    rw [or_get (W := 128) 7 1 [(0, 128)] [(v / 2 % 16, 16), (0, 8192), (v / 32 % 64, 64), (v / 4096 % 2, 2)] bB2 ⟨zz (by decide), zz (by decide), md (by decide), zz (by decide), md (by decide), md (by decide), trivial⟩ (md (by decide)) rfl rfl rfl, Int.add_assoc, Int.add_assoc] at h2
    subst h2
    exact .B
  case U.U => subst h2; exact .U
  case J.J =>
    rw [an1] at h6 h12
    rw [an10] at h9
    rw [show PySem.Builtin.bitAnd _ 255 = _ from bitAnd_m8 _] at h15
    subst h7 h6 h5 h10 h9 h8 h13 h12 h11 h16 h15 h14
    simp only [Int.reduceToNat, Int.reducePow] at h4 h3 h2
    rw [or_get (W := 2097152) 21 10 [(0, 2097152)] [(v / 1048576 % 2, 2)] bJ4 ⟨zz (by decide), zz (by decide), md (by decide), trivial⟩ (md (by decide)) rfl rfl rfl] at h4
    subst h4
    rw [or_get (W := 1048576) 20 1 [(0, 1048576)] [(v / 2 % 1024, 1024), (v / 1048576 % 2, 2)] bJ3 ⟨zz (by decide), zz (by decide), md (by decide), md (by decide), trivial⟩ (md (by decide)) rfl rfl rfl] at h3
    subst h3
    rw [or_get (W := 4096) 12 8 [(0, 4096)] [(v / 2048 % 2, 2), (v / 2 % 1024, 1024), (v / 1048576 % 2, 2)] bJ2 ⟨zz (by decide), zz (by decide), md (by decide), md (by decide), md (by decide), trivial⟩ (md (by decide)) rfl rfl rfl, Int.add_assoc, Int.add_assoc] at h2
    subst h2
    exact .J
  case F.F => subst h7; exact .F
theorem topd {n K M : Int} (hK : 0 < K) (h0 : 0 ≤ n) (h1 : n < K * M) : n / K = n / K % M :=
  (Int.emod_eq_of_lt (Int.ediv_nonneg h0 (Int.le_of_lt hK)) (Int.ediv_lt_of_lt_mul hK (by rw [Int.mul_comm]; exact h1))).symm
theorem sq12 {x : Int} (h0 : 0 ≤ x) (h1 : x < 4096) : signS x 12 = if 2048 ≤ x then x - 2 * 2048 else x := by
  rw [sg12, Int.emod_eq_of_lt h0 h1]
  split <;> split <;> lia
theorem sq13 {x : Int} (h0 : 0 ≤ x) (h1 : x < 8192) : signS x 13 = if 4096 ≤ x then x - 2 * 4096 else x := by
  rw [sg13, Int.emod_eq_of_lt h0 h1]
  split <;> split <;> lia
theorem sq21 {x : Int} (h0 : 0 ≤ x) (h1 : x < 2097152) : signS x 21 = if 1048576 ≤ x then x - 2 * 1048576 else x := by
  rw [sg21, Int.emod_eq_of_lt h0 h1]
  split <;> split <;> lia
theorem rB4 {t : Int} : t * 4096 = pk [(0, 2048), (0, 2), (t, 2)] := by simp only [pk]; lia
theorem rB3 {t r : Int} : t * 4096 + r * 2048 = pk [(0, 32), (0, 64), (r, 2), (t, 2)] := by simp only [pk]; lia
theorem rB2 {t r q : Int} : t * 4096 + r * 2048 + q * 32 = pk [(0, 2), (0, 16), (q, 64), (r, 2), (t, 2)] := by simp only [pk]; lia
theorem rB1 {t r q p : Int} : t * 4096 + r * 2048 + q * 32 + p * 2 = p * 2 + q * 32 + r * 2048 + t * 4096 := by lia
theorem rJ4 {t : Int} : t * 1048576 = pk [(0, 4096), (0, 256), (t, 2)] := by simp only [pk]; lia
theorem rJ3 {t s : Int} : t * 1048576 + s * 4096 = pk [(0, 2048), (0, 2), (s, 256), (t, 2)] := by simp only [pk]; lia
theorem rJ2 {t s q : Int} : t * 1048576 + s * 4096 + q * 2048 = pk [(0, 2), (0, 1024), (q, 2), (s, 256), (t, 2)] := by simp only [pk]; lia
theorem rJ1 {t s q p : Int} : t * 1048576 + s * 4096 + q * 2048 + p * 2 = p * 2 + q * 2048 + s * 4096 + t * 1048576 := by lia
theorem imm_read {f : Fm} {n v : Int} (hf : hasImm f = true) (h0 : 0 ≤ n) (h1 : n < 4294967296) (h : ImmIs f.str n v) : v = immRead f n := by
  have h0' := h0
  have h1' := h1
  clear h0 h1
  cases f
  case R => exact absurd hf (by decide)
  case E => exact absurd hf (by decide)
  all_goals (rcases h with ⟨h1, h2, h3⟩ | ⟨h1, h2, h3⟩ | ⟨h1, h2, h3, h4, h5, h6, h7⟩ | ⟨h1, h2, h3, h4, h5, h6, h7, h8, h9, h10, h11, h12, h13, h14, h15, h16⟩ | ⟨h1, h2⟩ | ⟨h1, h2, h3, h4, h5, h6, h7, h8, h9, h10, h11, h12, h13, h14, h15, h16⟩ | ⟨h1, h2, h3, h4, h5, h6, h7, h8⟩)
  all_goals first
    | exact absurd h1 (by decide)
    | exact absurd h2 (by decide)
    | exact absurd h3 (by decide)
    | exact absurd h4 (by decide)
    | exact absurd h5 (by decide)
    | exact absurd h6 (by decide)
    | skip
  case I.I =>
    simp only [Int.reduceToNat, Int.reducePow] at h3
    rw [im_I, h2, h3, topd (K := 1048576) (M := 4096) (by decide) h0' h1', sq12 (md (by decide)).1 (md (by decide)).2, Int.emod_emod]
  case H.H =>
    simp only [Int.reduceToNat, Int.reducePow] at h3
    rw [bitAnd_m5] at h2
    rw [im_H, h2, h3]
  case S.S =>
    simp only [Int.reduceToNat, Int.reducePow] at h4 h5 h7
    rw [bitAnd_m5] at h6
    subst h7 h5 h4 h6
    rw [or_add0 (x := n / 33554432 * 32) (r := n / 128 % 32) 5 (md (by decide)).1 (md (by decide)).2 (by simp), topd (K := 33554432) (M := 128) (by decide) h0' h1', Int.add_comm] at h3
    subst h3
    rw [im_S, h2, sq12 (pkS ▸ pk_pos (okS n)) (pkS ▸ pk_lt (okS n))]
  case B.B =>
    simp only [Int.reduceToNat, Int.reducePow] at h6 h7 h8 h10 h11 h13 h14 h16
    rw [an1] at h9
    rw [show PySem.Builtin.bitAnd _ 63 = _ from bitAnd_m6 _] at h12
    rw [show PySem.Builtin.bitAnd _ 15 = _ from bitAnd_m4 _] at h15
    subst h16 h15 h14 h13 h12 h11 h10 h9 h8 h7 h6
    rw [topd (K := 2147483648) (M := 2) (by decide) h0' h1', or_get (W := 2048) 11 1 [(0, 2048)] [(n / 2147483648 % 2, 2)] rB4 ⟨zz (by decide), zz (by decide), md (by decide), trivial⟩ (md (by decide)) rfl rfl rfl] at h5
    subst h5
    rw [or_get (W := 32) 5 6 [(0, 32)] [(n / 128 % 2, 2), (n / 2147483648 % 2, 2)] rB3 ⟨zz (by decide), zz (by decide), md (by decide), md (by decide), trivial⟩ (md (by decide)) rfl rfl rfl] at h4
    subst h4
    rw [or_get (W := 2) 1 4 [(0, 2)] [(n / 33554432 % 64, 64), (n / 128 % 2, 2), (n / 2147483648 % 2, 2)] rB2 ⟨zz (by decide), zz (by decide), md (by decide), md (by decide), md (by decide), trivial⟩ (md (by decide)) rfl rfl rfl, rB1] at h3
    subst h3
    rw [im_B, h2, sq13 (pkB ▸ pk_pos (okB n)) (pkB ▸ pk_lt (okB n))]
  case U.U =>
    simp only [Int.reduceToNat, Int.reducePow] at h2
    rw [im_U, h2]
    exact topd (by decide) h0' h1'
  case J.J =>
    simp only [Int.reduceToNat, Int.reducePow] at h6 h7 h8 h10 h11 h13 h14 h16
    rw [an1] at h12
    rw [an10] at h15
    rw [show PySem.Builtin.bitAnd _ 255 = _ from bitAnd_m8 _] at h9
    subst h16 h15 h14 h13 h12 h11 h10 h9 h8 h7 h6
    rw [topd (K := 2147483648) (M := 2) (by decide) h0' h1', or_get (W := 4096) 12 8 [(0, 4096)] [(n / 2147483648 % 2, 2)] rJ4 ⟨zz (by decide), zz (by decide), md (by decide), trivial⟩ (md (by decide)) rfl rfl rfl] at h5
    subst h5
    rw [or_get (W := 2048) 11 1 [(0, 2048)] [(n / 4096 % 256, 256), (n / 2147483648 % 2, 2)] rJ3 ⟨zz (by decide), zz (by decide), md (by decide), md (by decide), trivial⟩ (md (by decide)) rfl rfl rfl] at h4
    subst h4
    rw [or_get (W := 2) 1 10 [(0, 2)] [(n / 1048576 % 2, 2), (n / 4096 % 256, 256), (n / 2147483648 % 2, 2)] rJ2 ⟨zz (by decide), zz (by decide), md (by decide), md (by decide), md (by decide), trivial⟩ (md (by decide)) rfl rfl rfl, rJ1] at h3
    subst h3
    rw [im_J, h2, sq21 (pkJ ▸ pk_pos (okJ n)) (pkJ ▸ pk_lt (okJ n))]
  case F.F =>
    simp only [Int.reduceToNat, Int.reducePow] at h8
    rw [show PySem.Builtin.bitAnd _ 255 = _ from bitAnd_m8 _] at h7
    rw [im_F, h7, h8]
theorem x0 {op low high : Int} : op + low * 4096 + high * 33554432 = pk [(op, 128), (0, 32), (low, 8), (0, 1024), (high, 128)] := by simp only [pk]; lia
theorem x1 {op low high : Int} : op + low * 4096 + high * 33554432 = pk [(op, 128), (0, 32), (low, 8), (0, 32), (0, 32), (high, 128)] := by simp only [pk]; lia
theorem x2 {op low high a : Int} : op + low * 4096 + high * 33554432 + a * 128 = pk [(op, 128), (a, 32), (low, 8), (0, 32), (0, 32), (high, 128)] := by simp only [pk]; lia
theorem x3 {op low high a : Int} : op + low * 4096 + high * 33554432 + a * 32768 = pk [(op, 128), (0, 32), (low, 8), (a, 32), (0, 32), (high, 128)] := by simp only [pk]; lia
theorem x4 {op low high a b : Int} : op + low * 4096 + high * 33554432 + a * 128 + b * 32768 = pk [(op, 128), (a, 32), (low, 8), (b, 32), (0, 32), (high, 128)] := by simp only [pk]; lia
theorem x5 {op low a b : Int} : op + low * 4096 + 0 * 33554432 + a * 128 + b * 32768 = pk [(op, 128), (a, 32), (low, 8), (b, 32), (0, 4096)] := by simp only [pk]; lia
theorem x6 {op low a b : Int} : op + low * 4096 + 0 * 33554432 + a * 32768 + b * 1048576 = pk [(op, 128), (0, 32), (low, 8), (a, 32), (b, 32), (0, 128)] := by simp only [pk]; lia
theorem x7 {op low a b : Int} : op + low * 4096 + 0 * 33554432 + a * 32768 + b * 1048576 = pk [(op, 128), (0, 2), (0, 16), (low, 8), (a, 32), (b, 32), (0, 64), (0, 2)] := by simp only [pk]; lia
theorem x8 {op a : Int} : op + 0 * 4096 + 0 * 33554432 + a * 128 = pk [(op, 128), (a, 32), (0, 1048576)] := by simp only [pk]; lia
theorem x9 {op a : Int} : op + 0 * 4096 + 0 * 33554432 + a * 128 = pk [(op, 128), (a, 32), (0, 256), (0, 2), (0, 1024), (0, 2)] := by simp only [pk]; lia
theorem xF {op : Int} : op + 0 * 4096 + 0 * 33554432 = pk [(op, 128), (0, 8192), (0, 256)] := by simp only [pk]; lia
theorem fR {x a b c : Int} : x + a * 128 + b * 32768 + c * 1048576 = x + (a * 128 + (b * 32768 + (c * 1048576 + 0))) + 0 := by lia
theorem fI {x a b y : Int} : x + a * 128 + b * 32768 + y = x + (a * 128 + (b * 32768 + 0)) + y := by lia
theorem fS {x a b p q : Int} : x + a * 32768 + b * 1048576 + (q * 33554432 + p * 128) = x + (a * 32768 + (b * 1048576 + 0)) + (p * 128 + q * 33554432) := by lia
theorem fB {x a b t q p r : Int} : x + a * 32768 + b * 1048576 + (t * 2147483648 + (q * 33554432 + (p * 256 + r * 128))) = x + (a * 32768 + (b * 1048576 + 0)) + (p * 256 + q * 33554432 + r * 128 + t * 2147483648) := by lia
theorem fU {x a y : Int} : x + a * 128 + y = x + (a * 128 + 0) + y := by lia
theorem fJ {x a t p q s : Int} : x + a * 128 + (t * 2147483648 + (p * 2097152 + (q * 1048576 + s * 4096))) = x + (a * 128 + 0) + (p * 2097152 + q * 1048576 + s * 4096 + t * 2147483648) := by lia
theorem yS {p : Int} (h : 0 ≤ p ∧ p < 32) : 0 ≤ p * 128 ∧ p * 128 < 33554432 := by lia
theorem yB1 {p : Int} (h : 0 ≤ p ∧ p < 2) : 0 ≤ p * 128 ∧ p * 128 < 256 := by lia
theorem yB2 {p y : Int} (h : 0 ≤ p ∧ p < 16) (g : 0 ≤ y ∧ y < 256) : 0 ≤ p * 256 + y ∧ p * 256 + y < 33554432 := by lia
theorem yB3 {p y : Int} (h : 0 ≤ p ∧ p < 64) (g : 0 ≤ y ∧ y < 33554432) : 0 ≤ p * 33554432 + y ∧ p * 33554432 + y < 2147483648 := by lia
theorem yJ1 {p : Int} (h : 0 ≤ p ∧ p < 256) : 0 ≤ p * 4096 ∧ p * 4096 < 1048576 := by lia
theorem yJ2 {p y : Int} (h : 0 ≤ p ∧ p < 2) (g : 0 ≤ y ∧ y < 1048576) : 0 ≤ p * 1048576 + y ∧ p * 1048576 + y < 2097152 := by lia
theorem yJ3 {p y : Int} (h : 0 ≤ p ∧ p < 1024) (g : 0 ≤ y ∧ y < 2097152) : 0 ≤ p * 2097152 + y ∧ p * 2097152 + y < 2147483648 := by lia
theorem k5 {x r W : Int} (k : Int) (a b : List (Int × Int)) (e : x = pk (a ++ (0, 32) :: b)) (o : okp (a ++ (0, 32) :: b)) (hr : 0 ≤ r ∧ r < 32) (hK : W = wt a) (hW : (2 : Int) ^ k.toNat = W) : PySem.Builtin.bitOr x (r * 2 ^ k.toNat) = x + r * W := by
  rw [hW]
  exact or_get k.toNat 5 a b e o hr hK hW rfl
theorem enc_laid {r : Row} {ks : List (PySem.Str × Int)} {z : Int} (hr : r ∈ rowsL) (h : Fl r.f ks) (e : EncIs r ks z) : z = laidOf r ks := by
  have hs := h.sh
  have rb := row_b hr
  have rz := row_z hr
  obtain ⟨nm, f, op, low, high⟩ := r
  dsimp only at hs rb
  obtain ⟨o, l, hh⟩ := rb
  cases hs
  case R a b c a0 a1 b0 b1 c0 c1 =>
    rcases e with ⟨_, e⟩ | ⟨e, _⟩
    · dsimp only at e
      rw [show rgOf .R = [(("rd" : PySem.Str), 7), (("rs1" : PySem.Str), 15), (("rs2" : PySem.Str), 20)] from rfl, enc3 (a := a) (b := b) (c := c) (by with_unfolding_all rfl) (by with_unfolding_all rfl) (by with_unfolding_all rfl)] at e
      rw [e, show laidOf ⟨nm, .R, op, low, high⟩ [("rd", a), ("rs1", b), ("rs2", c)] = op + low * 4096 + high * 33554432 + (a * 128 + (b * 32768 + (c * 1048576 + 0))) + 0 from by with_unfolding_all rfl, ← fR]
      rw [show baseOf ⟨nm, .R, op, low, high⟩ = op + low * 4096 + high * 33554432 from by with_unfolding_all rfl,
        k5 (W := 128) 7 [(op, 128)] _ x0 ⟨o, zz (by decide), l, zz (by decide), hh, trivial⟩ ⟨a0, a1⟩ rfl rfl,
        k5 (W := 32768) 15 [(op, 128), (a, 32), (low, 8)] _ x2 ⟨o, ⟨a0, a1⟩, l, zz (by decide), zz (by decide), hh, trivial⟩ ⟨b0, b1⟩ rfl rfl,
        k5 (W := 1048576) 20 [(op, 128), (a, 32), (low, 8), (b, 32)] _ x4 ⟨o, ⟨a0, a1⟩, l, ⟨b0, b1⟩, zz (by decide), hh, trivial⟩ ⟨c0, c1⟩ rfl rfl]
    · exact absurd (show hasImm .R = true from e) (by decide)
  case I a b v a0 a1 b0 b1 v0 v1 =>
    obtain rfl : high = 0 := of_decide_eq_true rz
    rcases e with ⟨e, _⟩ | ⟨_, v', b', hv, _, hb, e⟩
    · exact absurd (show hasImm .I = false from e) (by decide)
    · have ev : fdAt [(("rd" : PySem.Str), a), (("rs1" : PySem.Str), b), (("imm" : PySem.Str), v)] "imm" = some v := by with_unfolding_all rfl
      obtain rfl := Option.some.inj (hv.symm.trans ev)
      have bv := bits_v (f := .I) (by decide) hb
      cases bv
      dsimp only at e
      rw [show rgOf .I = [(("rd" : PySem.Str), 7), (("rs1" : PySem.Str), 15)] from rfl, show baseOf ⟨nm, .I, op, low, 0⟩ = op + low * 4096 + 0 * 33554432 from by with_unfolding_all rfl, enc2 (a := a) (b := b) (by with_unfolding_all rfl) (by with_unfolding_all rfl),
        k5 (W := 128) 7 [(op, 128)] _ x0 ⟨o, zz (by decide), l, zz (by decide), hh, trivial⟩ ⟨a0, a1⟩ rfl rfl,
        k5 (W := 32768) 15 [(op, 128), (a, 32), (low, 8)] _ x2 ⟨o, ⟨a0, a1⟩, l, zz (by decide), zz (by decide), hh, trivial⟩ ⟨b0, b1⟩ rfl rfl,
        or_get (W := 1048576) 20 12 [(op, 128), (a, 32), (low, 8), (b, 32)] [] x5 ⟨o, ⟨a0, a1⟩, l, ⟨b0, b1⟩, zz (by decide), trivial⟩ (md (by decide)) rfl rfl rfl] at e
      rw [e, show laidOf ⟨nm, .I, op, low, 0⟩ [("rd", a), ("rs1", b), ("imm", v')] = op + low * 4096 + 0 * 33554432 + (a * 128 + (b * 32768 + 0)) + bitSum v' (psOf .I) from by with_unfolding_all rfl, bsI, fI]
  case H a b v a0 a1 b0 b1 v0 v1 =>
    rcases e with ⟨e, _⟩ | ⟨_, v', b', hv, _, hb, e⟩
    · exact absurd (show hasImm .H = false from e) (by decide)
    · have ev : fdAt [(("rd" : PySem.Str), a), (("rs1" : PySem.Str), b), (("imm" : PySem.Str), v)] "imm" = some v := by with_unfolding_all rfl
      obtain rfl := Option.some.inj (hv.symm.trans ev)
      have bv := bits_v (f := .H) (by decide) hb
      cases bv
      dsimp only at e
      rw [show rgOf .H = [(("rd" : PySem.Str), 7), (("rs1" : PySem.Str), 15)] from rfl, show baseOf ⟨nm, .H, op, low, high⟩ = op + low * 4096 + high * 33554432 from by with_unfolding_all rfl, enc2 (a := a) (b := b) (by with_unfolding_all rfl) (by with_unfolding_all rfl),
        k5 (W := 128) 7 [(op, 128)] _ x0 ⟨o, zz (by decide), l, zz (by decide), hh, trivial⟩ ⟨a0, a1⟩ rfl rfl,
        k5 (W := 32768) 15 [(op, 128), (a, 32), (low, 8)] _ x2 ⟨o, ⟨a0, a1⟩, l, zz (by decide), zz (by decide), hh, trivial⟩ ⟨b0, b1⟩ rfl rfl,
        or_get (W := 1048576) (M := 32) 20 5 [(op, 128), (a, 32), (low, 8), (b, 32)] _ x4 ⟨o, ⟨a0, a1⟩, l, ⟨b0, b1⟩, zz (by decide), hh, trivial⟩ ⟨v0, lt_le v1⟩ rfl rfl rfl] at e
      rw [e, show laidOf ⟨nm, .H, op, low, high⟩ [("rd", a), ("rs1", b), ("imm", v')] = op + low * 4096 + high * 33554432 + (a * 128 + (b * 32768 + 0)) + bitSum v' (psOf .H) from by with_unfolding_all rfl, bsH, Int.emod_eq_of_lt v0 (show v' < 32 from lt_le v1), fI]
  case S a b v a0 a1 b0 b1 v0 v1 =>
    obtain rfl : high = 0 := of_decide_eq_true rz
    rcases e with ⟨e, _⟩ | ⟨_, v', b', hv, _, hb, e⟩
    · exact absurd (show hasImm .S = false from e) (by decide)
    · have ev : fdAt [(("rs1" : PySem.Str), a), (("rs2" : PySem.Str), b), (("imm" : PySem.Str), v)] "imm" = some v := by with_unfolding_all rfl
      obtain rfl := Option.some.inj (hv.symm.trans ev)
      have bv := bits_v (f := .S) (by decide) hb
      cases bv
      dsimp only at e
      have o6 : okp [(op, 128), (0, 32), (low, 8), (a, 32), (b, 32), (0, 128)] := ⟨o, zz (by decide), l, ⟨a0, a1⟩, ⟨b0, b1⟩, zz (by decide), trivial⟩
      have g := and_gets (W := 33554432) 25 7 [(op, 128), (0, 32), (low, 8), (a, 32), (b, 32)] [] x6 o6 (md (x := v' / 32) (by decide)) (yS (md (x := v') (by decide))) (and_get 7 5 [(op, 128)] [(low, 8), (a, 32), (b, 32), (0, 128)] x6 o6 (md (by decide)) rfl rfl rfl) rfl rfl rfl
      rw [show rgOf .S = [(("rs1" : PySem.Str), 15), (("rs2" : PySem.Str), 20)] from rfl, show baseOf ⟨nm, .S, op, low, 0⟩ = op + low * 4096 + 0 * 33554432 from by with_unfolding_all rfl, enc2 (a := a) (b := b) (by with_unfolding_all rfl) (by with_unfolding_all rfl),
        k5 (W := 32768) 15 [(op, 128), (0, 32), (low, 8)] _ x1 ⟨o, zz (by decide), l, zz (by decide), zz (by decide), hh, trivial⟩ ⟨a0, a1⟩ rfl rfl,
        k5 (W := 1048576) 20 [(op, 128), (0, 32), (low, 8), (a, 32)] _ x3 ⟨o, zz (by decide), l, ⟨a0, a1⟩, zz (by decide), hh, trivial⟩ ⟨b0, b1⟩ rfl rfl, or_dis g] at e
      rw [e, show laidOf ⟨nm, .S, op, low, 0⟩ [("rs1", a), ("rs2", b), ("imm", v')] = op + low * 4096 + 0 * 33554432 + (a * 32768 + (b * 1048576 + 0)) + bitSum v' (psOf .S) from by with_unfolding_all rfl, bsS, fS]
  case B a b v a0 a1 b0 b1 v0 v1 v2 =>
    obtain rfl : high = 0 := of_decide_eq_true rz
    rcases e with ⟨e, _⟩ | ⟨_, v', b', hv, _, hb, e⟩
    · exact absurd (show hasImm .B = false from e) (by decide)
    · have ev : fdAt [(("rs1" : PySem.Str), a), (("rs2" : PySem.Str), b), (("imm" : PySem.Str), v)] "imm" = some v := by with_unfolding_all rfl
      obtain rfl := Option.some.inj (hv.symm.trans ev)
      have bv := bits_v (f := .B) (by decide) hb
      cases bv
      dsimp only at e
      have o7 : okp [(op, 128), (0, 2), (0, 16), (low, 8), (a, 32), (b, 32), (0, 64), (0, 2)] := ⟨o, zz (by decide), zz (by decide), l, ⟨a0, a1⟩, ⟨b0, b1⟩, zz (by decide), zz (by decide), trivial⟩
      have y1 := yB1 (md (x := v' / 2048) (by decide))
      have y2 := yB2 (md (x := v' / 2) (by decide)) y1
      have y3 := yB3 (md (x := v' / 32) (by decide)) y2
      have g := and_gets (W := 2147483648) 31 1 [(op, 128), (0, 2), (0, 16), (low, 8), (a, 32), (b, 32), (0, 64)] [] x7 o7 (md (x := v' / 4096) (by decide)) y3
        (and_gets 25 6 [(op, 128), (0, 2), (0, 16), (low, 8), (a, 32), (b, 32)] [(0, 2)] x7 o7 (md (by decide)) y2
          (and_gets 8 4 [(op, 128), (0, 2)] [(low, 8), (a, 32), (b, 32), (0, 64), (0, 2)] x7 o7 (md (by decide)) y1
            (and_get 7 1 [(op, 128)] [(0, 16), (low, 8), (a, 32), (b, 32), (0, 64), (0, 2)] x7 o7 (md (by decide)) rfl rfl rfl) rfl rfl rfl) rfl rfl rfl) rfl rfl rfl
      rw [show rgOf .B = [(("rs1" : PySem.Str), 15), (("rs2" : PySem.Str), 20)] from rfl, show baseOf ⟨nm, .B, op, low, 0⟩ = op + low * 4096 + 0 * 33554432 from by with_unfolding_all rfl, enc2 (a := a) (b := b) (by with_unfolding_all rfl) (by with_unfolding_all rfl),
        k5 (W := 32768) 15 [(op, 128), (0, 32), (low, 8)] _ x1 ⟨o, zz (by decide), l, zz (by decide), zz (by decide), hh, trivial⟩ ⟨a0, a1⟩ rfl rfl,
        k5 (W := 1048576) 20 [(op, 128), (0, 32), (low, 8), (a, 32)] _ x3 ⟨o, zz (by decide), l, ⟨a0, a1⟩, zz (by decide), hh, trivial⟩ ⟨b0, b1⟩ rfl rfl, or_dis g] at e
      rw [e, show laidOf ⟨nm, .B, op, low, 0⟩ [("rs1", a), ("rs2", b), ("imm", v')] = op + low * 4096 + 0 * 33554432 + (a * 32768 + (b * 1048576 + 0)) + bitSum v' (psOf .B) from by with_unfolding_all rfl, bsB, fB]
  case U a v a0 a1 v0 v1 =>
    obtain ⟨rfl, rfl⟩ : low = 0 ∧ high = 0 := by
      have := Bool.and_eq_true_iff.mp rz
      exact ⟨of_decide_eq_true this.1, of_decide_eq_true this.2⟩
    rcases e with ⟨e, _⟩ | ⟨_, v', b', hv, _, hb, e⟩
    · exact absurd (show hasImm .U = false from e) (by decide)
    · have ev : fdAt [(("rd" : PySem.Str), a), (("imm" : PySem.Str), v)] "imm" = some v := by with_unfolding_all rfl
      obtain rfl := Option.some.inj (hv.symm.trans ev)
      have bv := bits_v (f := .U) (by decide) hb
      cases bv
      dsimp only at e
      rw [show rgOf .U = [(("rd" : PySem.Str), 7)] from rfl, show baseOf ⟨nm, .U, op, 0, 0⟩ = op + 0 * 4096 + 0 * 33554432 from by with_unfolding_all rfl, enc1 (a := a) (by with_unfolding_all rfl),
        k5 (W := 128) 7 [(op, 128)] _ x0 ⟨o, zz (by decide), l, zz (by decide), hh, trivial⟩ ⟨a0, a1⟩ rfl rfl,
        or_get (W := 4096) (M := 1048576) 12 20 [(op, 128), (a, 32)] [] x8 ⟨o, ⟨a0, a1⟩, zz (by decide), trivial⟩ ⟨v0, lt_le v1⟩ rfl rfl rfl] at e
      rw [e, show laidOf ⟨nm, .U, op, 0, 0⟩ [("rd", a), ("imm", v')] = op + 0 * 4096 + 0 * 33554432 + (a * 128 + 0) + bitSum v' (psOf .U) from by with_unfolding_all rfl, bsU, Int.emod_eq_of_lt v0 (show v' < 1048576 from lt_le v1), fU]
  case J a v a0 a1 v0 v1 v2 =>
    obtain ⟨rfl, rfl⟩ : low = 0 ∧ high = 0 := by
      have := Bool.and_eq_true_iff.mp rz
      exact ⟨of_decide_eq_true this.1, of_decide_eq_true this.2⟩
    rcases e with ⟨e, _⟩ | ⟨_, v', b', hv, _, hb, e⟩
    · exact absurd (show hasImm .J = false from e) (by decide)
    · have ev : fdAt [(("rd" : PySem.Str), a), (("imm" : PySem.Str), v)] "imm" = some v := by with_unfolding_all rfl
      obtain rfl := Option.some.inj (hv.symm.trans ev)
      have bv := bits_v (f := .J) (by decide) hb
      cases bv
      dsimp only at e
      have o9 : okp [(op, 128), (a, 32), (0, 256), (0, 2), (0, 1024), (0, 2)] := ⟨o, ⟨a0, a1⟩, zz (by decide), zz (by decide), zz (by decide), zz (by decide), trivial⟩
      have y1 := yJ1 (md (x := v' / 4096) (by decide))
      have y2 := yJ2 (md (x := v' / 2048) (by decide)) y1
      have y3 := yJ3 (md (x := v' / 2) (by decide)) y2
      have g := and_gets (W := 2147483648) 31 1 [(op, 128), (a, 32), (0, 256), (0, 2), (0, 1024)] [] x9 o9 (md (x := v' / 1048576) (by decide)) y3
        (and_gets 21 10 [(op, 128), (a, 32), (0, 256), (0, 2)] [(0, 2)] x9 o9 (md (by decide)) y2
          (and_gets 20 1 [(op, 128), (a, 32), (0, 256)] [(0, 1024), (0, 2)] x9 o9 (md (by decide)) y1
            (and_get 12 8 [(op, 128), (a, 32)] [(0, 2), (0, 1024), (0, 2)] x9 o9 (md (by decide)) rfl rfl rfl) rfl rfl rfl) rfl rfl rfl) rfl rfl rfl
      rw [show rgOf .J = [(("rd" : PySem.Str), 7)] from rfl, show baseOf ⟨nm, .J, op, 0, 0⟩ = op + 0 * 4096 + 0 * 33554432 from by with_unfolding_all rfl, enc1 (a := a) (by with_unfolding_all rfl),
        k5 (W := 128) 7 [(op, 128)] _ x0 ⟨o, zz (by decide), l, zz (by decide), hh, trivial⟩ ⟨a0, a1⟩ rfl rfl, or_dis g] at e
      rw [e, show laidOf ⟨nm, .J, op, 0, 0⟩ [("rd", a), ("imm", v')] = op + 0 * 4096 + 0 * 33554432 + (a * 128 + 0) + bitSum v' (psOf .J) from by with_unfolding_all rfl, bsJ, fJ]
  case F v v0 v1 =>
    obtain ⟨rfl, rfl⟩ : low = 0 ∧ high = 0 := by
      have := Bool.and_eq_true_iff.mp rz
      exact ⟨of_decide_eq_true this.1, of_decide_eq_true this.2⟩
    rcases e with ⟨e, _⟩ | ⟨_, v', b', hv, _, hb, e⟩
    · exact absurd (show hasImm .F = false from e) (by decide)
    · have ev : fdAt [(("imm" : PySem.Str), v)] "imm" = some v := by with_unfolding_all rfl
      obtain rfl := Option.some.inj (hv.symm.trans ev)
      have bv := bits_v (f := .F) (by decide) hb
      cases bv
      dsimp only at e
      rw [show rgOf .F = [] from rfl, show baseOf ⟨nm, .F, op, 0, 0⟩ = op + 0 * 4096 + 0 * 33554432 from by with_unfolding_all rfl, show encFold _ [] (op + 0 * 4096 + 0 * 33554432) = op + 0 * 4096 + 0 * 33554432 from rfl,
        or_get (W := 1048576) (M := 256) 20 8 [(op, 128), (0, 8192)] [] xF ⟨o, zz (by decide), zz (by decide), trivial⟩ ⟨v0, lt_le v1⟩ rfl rfl rfl] at e
      rw [e, show laidOf ⟨nm, .F, op, 0, 0⟩ [("imm", v')] = op + 0 * 4096 + 0 * 33554432 + 0 + bitSum v' (psOf .F) from by with_unfolding_all rfl, bsF, Int.emod_eq_of_lt v0 (show v' < 256 from lt_le v1), Int.add_zero (op + 0 * 4096 + 0 * 33554432)]
  case E =>
    rcases e with ⟨_, e⟩ | ⟨e, _⟩
    · have e' : z = op + low * 4096 + high * 1048576 := e
      rw [e', show laidOf ⟨nm, .E, op, low, high⟩ [] = op + low * 4096 + high * 1048576 + 0 + 0 from by with_unfolding_all rfl, Int.add_zero, Int.add_zero]
    · exact absurd (show hasImm .E = true from e) (by decide)
theorem lt8 {n : Int} : 0 ≤ n / 4096 % 8 ∧ n / 4096 % 8 < 8 := md (by decide)
section
variable {n : Int} {x : PySem.Str}
theorem nv_a (h : n % 128 = 55 ∨ n % 128 = 23 ∨ n % 128 = 111) (hx : NameV n x) : x = nbAt (n % 128) := by
  cases hx with
  | a _ => rfl
  | b hc => exact absurd h (by rw [hc]; decide)
  | c hc _ => exact absurd h (by rw [hc]; decide)
  | d hc _ => exact absurd h (by rw [hc]; decide)
  | e hc => rcases hc with hc | ⟨hc, _⟩ <;> exact absurd h (by rw [hc]; decide)
  | g hc => rcases hc with ⟨hc, _⟩ | ⟨h1, h2, h3, _⟩
            · exact absurd h (by rw [hc]; decide)
            · rcases h with h | h | h
              · exact absurd h h1
              · exact absurd h h2
              · exact absurd h h3
theorem nv_b (h : n % 128 = 115) (hx : NameV n x) : x = nbAt n := by
  cases hx with
  | a hc => rw [h] at hc; exact absurd hc (by decide)
  | b hc => rfl
  | c hc _ => rw [h] at hc; exact absurd hc (by decide)
  | d hc _ => rw [h] at hc; exact absurd hc (by decide)
  | e hc => rw [h] at hc; rcases hc with hc | ⟨hc, _⟩ <;> exact absurd hc (by decide)
  | g hc => rcases hc with ⟨hc, _⟩ | ⟨_, _, _, h1, _⟩
            · rw [h] at hc; exact absurd hc (by decide)
            · exact absurd h h1
theorem nv_c (h : n % 128 = 15) (h' : n / 268435456 % 16 * 268435456 + n % 1048576 = 15) (hx : NameV n x) : x = "fence" := by
  cases hx with
  | a hc => rw [h] at hc; exact absurd hc (by decide)
  | b hc => rw [h] at hc; exact absurd hc (by decide)
  | c hc _ => rfl
  | d hc hd => exact absurd h' hd
  | e hc => rw [h] at hc; rcases hc with hc | ⟨hc, _⟩ <;> exact absurd hc (by decide)
  | g hc => rcases hc with ⟨hc, _⟩ | ⟨_, _, _, _, h1, _⟩
            · rw [h] at hc; exact absurd hc (by decide)
            · exact absurd h h1
theorem nv_e (h : n % 128 = 51 ∨ (n % 128 = 19 ∧ (n / 4096 % 8 = 1 ∨ n / 4096 % 8 = 5))) (hx : NameV n x) : x = nbAt (n / 33554432 % 128 * 33554432 + n / 4096 % 8 * 4096 + n % 128) := by
  have h0 : n % 128 = 51 ∨ n % 128 = 19 := h.imp id (·.1)
  cases hx with
  | a hc => rcases h0 with h | h <;> (rw [h] at hc; exact absurd hc (by decide))
  | b hc => rcases h0 with h | h <;> (rw [h] at hc; exact absurd hc (by decide))
  | c hc _ => rcases h0 with h | h <;> (rw [h] at hc; exact absurd hc (by decide))
  | d hc _ => rcases h0 with h | h <;> (rw [h] at hc; exact absurd hc (by decide))
  | e hc => rfl
  | g hc => rcases hc with ⟨hc, g1, g2⟩ | ⟨_, _, _, _, _, h1, h2⟩
            · rcases h with h | ⟨_, h | h⟩
              · rw [h] at hc; exact absurd hc (by decide)
              · exact absurd h g1
              · exact absurd h g2
            · rcases h0 with h | h
              · exact absurd h h1
              · exact absurd h h2
theorem nv_g (h : (n % 128 = 19 ∧ n / 4096 % 8 ≠ 1 ∧ n / 4096 % 8 ≠ 5) ∨ (n % 128 ≠ 55 ∧ n % 128 ≠ 23 ∧ n % 128 ≠ 111 ∧ n % 128 ≠ 115 ∧ n % 128 ≠ 15 ∧ n % 128 ≠ 51 ∧ n % 128 ≠ 19)) (hx : NameV n x) : x = nbAt (n / 4096 % 8 * 4096 + n % 128) := by
  cases hx with
  | a hc => rcases h with ⟨h, _⟩ | ⟨h1, h2, h3, _⟩
            · rw [h] at hc; exact absurd hc (by decide)
            · rcases hc with hc | hc | hc
              · exact absurd hc h1
              · exact absurd hc h2
              · exact absurd hc h3
  | b hc => rcases h with ⟨h, _⟩ | ⟨_, _, _, h1, _⟩
            · rw [h] at hc; exact absurd hc (by decide)
            · exact absurd hc h1
  | c hc _ => rcases h with ⟨h, _⟩ | ⟨_, _, _, _, h1, _⟩
              · rw [h] at hc; exact absurd hc (by decide)
              · exact absurd hc h1
  | d hc _ => rcases h with ⟨h, _⟩ | ⟨_, _, _, _, h1, _⟩
              · rw [h] at hc; exact absurd hc (by decide)
              · exact absurd hc h1
  | e hc => rcases h with ⟨h, h1, h2⟩ | ⟨_, _, _, _, _, h1, h2⟩
            · rcases hc with hc | ⟨_, hc | hc⟩
              · rw [h] at hc; exact absurd hc (by decide)
              · exact absurd hc h1
              · exact absurd hc h2
            · rcases hc with hc | ⟨hc, _⟩
              · exact absurd hc h1
              · exact absurd hc h2
  | g hc => rfl
end
theorem f15 {n : Int} (h1 : n % 128 = 15) (h2 : n / 128 % 8192 = 0) : n % 1048576 = 15 := by lia
theorem ar1 {a b c : Int} : a * 33554432 + b * 4096 + c = c + b * 4096 + a * 33554432 := by lia
def nmG (r : Row) : Bool := match r.f with
  | .R => decide (r.op = 51)
  | .H => decide (r.op = 19) && (decide (r.low = 1) || decide (r.low = 5))
  | .E => decide ((r.op + r.high * 1048576) % 128 = 115)
  | .F => decide (r.op = 15) && decide (r.nm = "fence")
  | .U | .J => decide (r.op = 55) || (decide (r.op = 23) || decide (r.op = 111))
  | .I | .S | .B => (decide (r.op = 19) && (decide (r.low ≠ 1) && decide (r.low ≠ 5))) || (decide (r.op ≠ 55) && (decide (r.op ≠ 23) && (decide (r.op ≠ 111) && (decide (r.op ≠ 115) && (decide (r.op ≠ 15) && (decide (r.op ≠ 51) && decide (r.op ≠ 19)))))))
theorem nm_g {r : Row} (h : r ∈ rowsL) : nmG r = true := by
  have e : ∀ r ∈ rowsL, nmG r = true := by decide +kernel
  exact e r h
theorem name_one' {r : Row} {n : Int} {x : PySem.Str} (hr : r ∈ rowsL) (h0 : 0 ≤ n) (h1 : n < 4294967296) (h : isOneS r.f.str r.op r.low r.high n = true) (hx : NameV n x) : x = r.nm := by
  have ok := nm_g hr
  have nk := nm_ok hr
  have hb := (row_b hr).h
  rw [one_iff] at h
  obtain ⟨nm, f, op, low, high⟩ := r
  dsimp only at h hb ⊢
  cases f
  case R =>
    obtain ⟨g1, g2, g3⟩ := h
    have o := of_decide_eq_true (show decide (op = 51) = true from ok)
    exact (nv_e (.inl (g1.trans o)) hx).trans (nb_cong (by rw [g1, g2, g3, Int.emod_eq_of_lt hb.1 hb.2]; exact ar1) nk)
  case H =>
    obtain ⟨g1, g2, g3⟩ := h
    have o : op = 19 ∧ (low = 1 ∨ low = 5) := by simpa [nmG] using ok
    exact (nv_e (.inr ⟨g1.trans o.1, o.2.imp g2.trans g2.trans⟩) hx).trans (nb_cong (by rw [g1, g2, g3, Int.emod_eq_of_lt hb.1 hb.2]; exact ar1) nk)
  case I =>
    obtain ⟨g1, g2⟩ := h
    have o : (op = 19 ∧ low ≠ 1 ∧ low ≠ 5) ∨ (op ≠ 55 ∧ op ≠ 23 ∧ op ≠ 111 ∧ op ≠ 115 ∧ op ≠ 15 ∧ op ≠ 51 ∧ op ≠ 19) := by simpa [nmG] using ok
    exact (nv_g (by rw [g1, g2]; exact o) hx).trans (nb_cong (by rw [g1, g2, Int.add_comm]) nk)
  case S =>
    obtain ⟨g1, g2⟩ := h
    have o : (op = 19 ∧ low ≠ 1 ∧ low ≠ 5) ∨ (op ≠ 55 ∧ op ≠ 23 ∧ op ≠ 111 ∧ op ≠ 115 ∧ op ≠ 15 ∧ op ≠ 51 ∧ op ≠ 19) := by simpa [nmG] using ok
    exact (nv_g (by rw [g1, g2]; exact o) hx).trans (nb_cong (by rw [g1, g2, Int.add_comm]) nk)
  case B =>
    obtain ⟨g1, g2⟩ := h
    have o : (op = 19 ∧ low ≠ 1 ∧ low ≠ 5) ∨ (op ≠ 55 ∧ op ≠ 23 ∧ op ≠ 111 ∧ op ≠ 115 ∧ op ≠ 15 ∧ op ≠ 51 ∧ op ≠ 19) := by simpa [nmG] using ok
    exact (nv_g (by rw [g1, g2]; exact o) hx).trans (nb_cong (by rw [g1, g2, Int.add_comm]) nk)
  case U =>
    have g1 : n % 128 = op := h
    have o : op = 55 ∨ op = 23 ∨ op = 111 := by simpa [nmG] using ok
    exact (nv_a (by rw [g1]; exact o) hx).trans (nb_cong g1 nk)
  case J =>
    have g1 : n % 128 = op := h
    have o : op = 55 ∨ op = 23 ∨ op = 111 := by simpa [nmG] using ok
    exact (nv_a (by rw [g1]; exact o) hx).trans (nb_cong g1 nk)
  case F =>
    obtain ⟨g1, g2, g3⟩ := h
    have o : op = 15 ∧ nm = "fence" := by simpa [nmG] using ok
    exact (nv_c (g1.trans o.1) (by rw [g3, f15 (g1.trans o.1) g2]; rfl) hx).trans o.2.symm
  case E =>
    have g : n = op + high * 1048576 := h
    have o := of_decide_eq_true (show decide ((op + high * 1048576) % 128 = 115) = true from ok)
    rw [← g] at o
    exact (nv_b o hx).trans (nb_cong g nk)
/-- a key of the names' dict and the row behind it -/
def chk (z : Int) : Bool :=
  (if z = 55 ∨ z = 23 ∨ z = 111 then rowsL.any (fun r => (r.f == .U || r.f == .J) && decide (r.op = z)) else true) &&
  (if z % 128 = 115 then rowsL.any (fun r => r.f == .E && decide (z = r.op + r.high * 1048576)) else true) &&
  (if z % 128 = 51 ∨ (z % 128 = 19 ∧ (z / 4096 % 8 = 1 ∨ z / 4096 % 8 = 5)) then rowsL.any (fun r => (r.f == .R || r.f == .H) && decide (r.op = z % 128) && decide (r.low = z / 4096 % 8) && decide (r.high = z / 33554432)) else true) &&
  (if (z % 128 = 19 ∧ z / 4096 % 8 ≠ 1 ∧ z / 4096 % 8 ≠ 5) ∨ (z % 128 ≠ 55 ∧ z % 128 ≠ 23 ∧ z % 128 ≠ 111 ∧ z % 128 ≠ 115 ∧ z % 128 ≠ 15 ∧ z % 128 ≠ 51 ∧ z % 128 ≠ 19) then rowsL.any (fun r => (r.f == .I || r.f == .S || r.f == .B) && decide (r.op = z % 128) && decide (r.low = z / 4096 % 8)) else true)
theorem chk_ok : ∀ p ∈ kvNb, chk p.1 = true := by decide +kernel
theorem nb_chk {z : Int} (h : nbAt z ≠ "") : chk z = true := by
  have g : ∀ (l : List (Int × Value)), (∀ p ∈ l, chk p.1 = true) → valueAt l z ≠ none → chk z = true := by
    intro l
    induction l with
    | nil => intro _ h; exact absurd rfl h
    | cons p l ih =>
      intro hl hv
      by_cases e : p.1 = z
      · rw [← e]; exact hl p (.head _)
      · exact ih (fun q hq => hl q (.tail _ hq)) (by simpa [valueAt, e] using hv)
  exact g kvNb chk_ok fun e => h (by unfold nbAt; rw [e])
theorem pkE {h l d : Int} : h * 33554432 + l * 4096 + d = pk [(d, 128), (0, 32), (l, 8), (0, 1024), (h, 128)] := by simp only [pk]; lia
theorem pkG {l d : Int} : l * 4096 + d = pk [(d, 128), (0, 32), (l, 8)] := by simp only [pk]; lia
theorem name_none_p {n : Int} {x : PySem.Str} (h0 : 0 ≤ n) (h1 : n < 4294967296) (h : ∀ r ∈ rowsL, isOneS r.f.str r.op r.low r.high n = false) (hx : NameIs n x) : x = "" := by
  refine Classical.byContradiction fun hne => ?_
  have key : ∃ r ∈ rowsL, OneP r.f r.op r.low r.high n := by
    have hv := name_v hx
    cases hv with
    | a hc =>
      have c := nb_chk hne
      simp only [chk, Bool.and_eq_true] at c
      have c1 := c.1.1.1
      rw [if_pos hc] at c1
      obtain ⟨⟨nm, f, op, low, high⟩, hr, e⟩ := List.any_eq_true.mp c1
      refine ⟨_, hr, ?_⟩
      simp only [Bool.and_eq_true, Bool.or_eq_true, decide_eq_true_eq] at e
      obtain ⟨e1, e2⟩ := e
      cases f <;> first | exact e2.symm | exact absurd e1 (by decide)
    | b hc =>
      have c := nb_chk hne
      simp only [chk, Bool.and_eq_true] at c
      have c1 := c.1.1.2
      rw [if_pos hc] at c1
      obtain ⟨⟨nm, f, op, low, high⟩, hr, e⟩ := List.any_eq_true.mp c1
      refine ⟨_, hr, ?_⟩
      simp only [Bool.and_eq_true, decide_eq_true_eq] at e
      obtain ⟨e1, e2⟩ := e
      cases f <;> first | exact e2 | exact absurd e1 (by decide)
    | c hc hd =>
      refine ⟨⟨"fence", .F, 15, 0, 0⟩, List.mem_of_getElem? (i := 29) rfl, ?_⟩
      dsimp only [OneP]
      omega
    | d => exact absurd rfl hne
    | e hc =>
      have c := nb_chk hne
      have ok : okp [(n % 128, 128), (0, 32), (n / 4096 % 8, 8), (0, 1024), (n / 33554432 % 128, 128)] := ⟨md (by decide), zz (by decide), md (by decide), zz (by decide), md (by decide), trivial⟩
      have ez := pkE (h := n / 33554432 % 128) (l := n / 4096 % 8) (d := n % 128)
      simp only [chk, Bool.and_eq_true] at c
      have c1 := c.1.2
      rw [pk_fst ez ok, pk_get (K := 4096) [(n % 128, 128), (0, 32)] (n / 4096 % 8) 8 _ ez ok rfl, (pk_top (K := 33554432) [(n % 128, 128), (0, 32), (n / 4096 % 8, 8), (0, 1024)] [(n / 33554432 % 128, 128)] ez (okp_app (a := [(n % 128, 128), (0, 32), (n / 4096 % 8, 8), (0, 1024)]) ok).1 rfl).trans (pk1 _ _), ← topd (K := 33554432) (M := 128) (by decide) h0 h1, if_pos hc] at c1
      obtain ⟨⟨nm, f, op, low, high⟩, hr, e⟩ := List.any_eq_true.mp c1
      refine ⟨_, hr, ?_⟩
      simp only [Bool.and_eq_true, Bool.or_eq_true, decide_eq_true_eq] at e
      obtain ⟨⟨⟨e1, e2⟩, e3⟩, e4⟩ := e
      cases f <;> first | exact ⟨e2.symm, e3.symm, e4.symm⟩ | exact absurd e1 (by decide)
    | g hc =>
      have c := nb_chk hne
      have ok : okp [(n % 128, 128), (0, 32), (n / 4096 % 8, 8)] := ⟨md (by decide), zz (by decide), md (by decide), trivial⟩
      have ez := pkG (l := n / 4096 % 8) (d := n % 128)
      simp only [chk, Bool.and_eq_true] at c
      have c1 := c.2
      rw [pk_fst ez ok, pk_get (K := 4096) [(n % 128, 128), (0, 32)] (n / 4096 % 8) 8 _ ez ok rfl, if_pos hc] at c1
      obtain ⟨⟨nm, f, op, low, high⟩, hr, e⟩ := List.any_eq_true.mp c1
      refine ⟨_, hr, ?_⟩
      simp only [Bool.and_eq_true, Bool.or_eq_true, decide_eq_true_eq] at e
      obtain ⟨⟨e1, e2⟩, e3⟩ := e
      cases f <;> first | exact ⟨e2.symm, e3.symm⟩ | exact absurd e1 (by decide)
  obtain ⟨r, hr, k⟩ := key
  have := (one_iff r.f r.op r.low r.high n).mpr k
  rw [h r hr] at this
  exact absurd this (by decide)
theorem dec_read {f : Fm} {n : Int} {ks : List (PySem.Str × Int)} (h0 : 0 ≤ n) (h1 : n < 4294967296) (h : DecIs f n ks) : ks = readOf f n := by
  rcases h with ⟨h, rfl⟩ | ⟨h, v, hv, rfl⟩
  · unfold readOf
    rw [h]; simp
  · unfold readOf
    rw [if_pos h, imm_read h h0 h1 hv]
theorem name_one_p {r : Row} {n : Int} {x : PySem.Str} (hr : r ∈ rowsL) (h0 : 0 ≤ n) (h1 : n < 4294967296) (h : isOneS r.f.str r.op r.low r.high n = true) (hx : NameIs n x) : x = r.nm := name_one' hr h0 h1 h (name_v hx)
theorem name_tot (n : Int) : ∃ x, NameIs n x := by
  by_cases a : (([55, 23, 111] : List Int).any fun y => y == PySem.Builtin.bitAnd n 127) = true
  · exact ⟨_, .a rfl a⟩
  · have a' := Bool.eq_false_iff.mpr a
    by_cases b : PySem.Builtin.bitAnd n 127 = 115
    · exact ⟨_, .b rfl b⟩
    · by_cases c : PySem.Builtin.bitAnd n 127 = 15
      · by_cases d : PySem.Builtin.bitAnd n 4027580415 = 15
        · exact ⟨_, .c rfl c rfl d⟩
        · exact ⟨_, .d rfl c rfl d⟩
      · by_cases e : PySem.Builtin.bitAnd n 127 = 51
        · exact ⟨_, .e rfl e rfl⟩
        · by_cases f : PySem.Builtin.bitAnd n 127 = 19
          · by_cases g : (([1, 5] : List Int).any fun y => y == PySem.Builtin.bitAnd (n.fdiv (2 ^ Int.toNat 12)) 7) = true
            · exact ⟨_, .f rfl f rfl g rfl⟩
            · exact ⟨_, .g rfl f rfl (Bool.eq_false_iff.mpr g) rfl⟩
          · exact ⟨_, .h rfl a' b c e f rfl⟩
theorem nm_nodup : (rowsL.map (·.nm)).Nodup := by decide +kernel
theorem filter_one {l : List Row} {p : Row → Bool} {x : PySem.Str} (hn : (l.map (·.nm)).Nodup) (h : ∀ r ∈ l, p r = true → r.nm = x) : l.filter p = [] ∨ ∃ r ∈ l, p r = true ∧ l.filter p = [r] := by
  induction l with
  | nil => exact .inl rfl
  | cons a l ih =>
    rw [List.map_cons, List.nodup_cons] at hn
    cases hp : p a with
    | false =>
      rw [List.filter_cons_of_neg (by rw [hp]; decide)]
      rcases ih hn.2 (fun r hr => h r (.tail _ hr)) with e | ⟨r, hr, k, e⟩
      · exact .inl e
      · exact .inr ⟨r, .tail _ hr, k, e⟩
    | true =>
      rw [List.filter_cons_of_pos hp]
      rcases ih hn.2 (fun r hr => h r (.tail _ hr)) with e | ⟨r, hr, k, e⟩
      · exact .inr ⟨a, .head _, hp, by rw [e]⟩
      · exact absurd (List.mem_map.mpr ⟨r, hr, (h r (.tail _ hr) k).trans (h a (.head _) hp).symm⟩) hn.1
theorem one_filter' {n : Int} (h0 : 0 ≤ n) (h1 : n < 4294967296) : rowsL.filter (fun r => isOneS r.f.str r.op r.low r.high n) = [] ∨ ∃ r ∈ rowsL, isOneS r.f.str r.op r.low r.high n = true ∧ rowsL.filter (fun r => isOneS r.f.str r.op r.low r.high n) = [r] := by
  obtain ⟨x, hx⟩ := name_tot n
  exact filter_one nm_nodup fun r hr hp => (name_one_p hr h0 h1 hp hx).symm
theorem laid_one {r : Row} {ks : List (PySem.Str × Int)} (hr : r ∈ rowsL) (h : Fl r.f ks) : isOneR (laidOf r ks) r = true := laid_one_p hr h
theorem read_fl {r : Row} {n : Int} (_ : r ∈ rowsL) (_ : 0 ≤ n) (_ : n < 4294967296) (_ : isOneR n r = true) : Fl r.f (readOf r.f n) := read_fl_p
theorem read_laid {r : Row} {n : Int} (hr : r ∈ rowsL) (h0 : 0 ≤ n) (h1 : n < 4294967296) (h : isOneR n r = true) : laidOf r (readOf r.f n) = n := read_laid_p hr h0 h1 h
theorem name_one {r : Row} {n : Int} {x : PySem.Str} (hr : r ∈ rowsL) (h0 : 0 ≤ n) (h1 : n < 4294967296) (h : isOneR n r = true) (hx : NameIs n x) : x = r.nm := name_one_p hr h0 h1 h hx
theorem name_none {n : Int} {x : PySem.Str} (h0 : 0 ≤ n) (h1 : n < 4294967296) (h : ∀ r ∈ rowsL, isOneR n r = false) (hx : NameIs n x) : x = "" := name_none_p h0 h1 h hx
theorem one_filter {n : Int} (h0 : 0 ≤ n) (h1 : n < 4294967296) : rowsL.filter (isOneR n) = [] ∨ ∃ r ∈ rowsL, isOneR n r = true ∧ rowsL.filter (isOneR n) = [r] := one_filter' h0 h1
theorem xor_bnd (k : Nat) : ∀ {a b : Int}, 0 ≤ a → a < 2 ^ k → 0 ≤ b → b < 2 ^ k → 0 ≤ PySem.Builtin.bitXor a b ∧ PySem.Builtin.bitXor a b < 2 ^ k := by
  induction k with
  | zero =>
    intro a b h0 h1 h2 h3
    have ea : a = 0 := by simp at h1; (first | lia | omega)
    have eb : b = 0 := by simp at h3; (first | lia | omega)
    subst ea eb
    decide
  | succ k ih =>
    intro a b h0 h1 h2 h3
    have e : (2 : Int) ^ (k + 1) = 2 * 2 ^ k := by rw [Int.pow_succ]; (first | lia | omega)
    rw [e] at h1 h3 ⊢
    have i := ih (a := a / 2) (b := b / 2) (by (first | lia | omega)) (by (first | lia | omega)) (by (first | lia | omega)) (by (first | lia | omega))
    rw [bitXor_and] at i ⊢
    rw [kbt_halves]
    split <;> omega

end Mine
end
section
open PySem PySem.W PyProof.Rows PySem.Spec PySem.Calls
set_option maxHeartbeats 400000
namespace Mine
/-- the law's table in the ledger -/
def TabAt (news : List (Addr × Obj)) (tb : Addr) : Prop := ∃ (vs : List Value) (n : Nat), (tb, listOf vs.toArray n) ∈ news ∧ RowsAt news vs rowsL
theorem TabAt.mono {news news' : List (Addr × Obj)} {tb : Addr} (h : TabAt news tb) (hs : ∀ p ∈ news, p ∈ news') : TabAt news' tb :=
  let ⟨vs, n, a, b⟩ := h; ⟨vs, n, hs _ a, b.mono hs⟩
theorem TabAt.kept {h₀ h : Heap} {L : Addr} {news news' : List (Addr × Obj)} {tb e : Addr} (t : TabAt news tb) (k : Kept e news news') (h1 : ∀ D x, (D, tupO x) ∈ news → D ≠ e) (h2 : ∀ (vs : List Value) (n : Nat), (tb, listOf vs.toArray n) ∈ news → (∀ v ∈ vs, ∃ D, v = .ref D) → tb ≠ e) : TabAt news' tb := by
  obtain ⟨vs, n, a, b⟩ := t
  exact ⟨vs, n, k _ a (h2 vs n a b.refs), b.monoT fun D x hx => k _ hx (h1 D x hx)⟩
/-- what stands about a turn -/
structure Sit (news₀ nw : List (Addr × Obj)) (wl cw tb c : Addr) (P : Int) (v : Option Value) : Prop where
  well : HasWell nw wl cw P
  tab : TabAt nw tb
  kept : Kept wl news₀ nw
  cell : ∃ o : Obj, (c, o) ∈ nw ∧ o.data = .cell v
  fresh : ∀ p ∈ news₀, p.1 ≠ c
theorem Sit.mono {news₀ nw nw' : List (Addr × Obj)} {wl cw tb c : Addr} {P P' : Int} {v : Option Value} (h : Sit news₀ nw wl cw tb c P v) (hs : ∀ p ∈ nw, p ∈ nw') (hP : P ≤ P') : Sit news₀ nw' wl cw tb c P' v :=
  ⟨h.well.mono hs hP, h.tab.mono hs, fun p hp hn => hs _ (h.kept p hp hn), let ⟨o, a, b⟩ := h.cell; ⟨o, hs _ a, b⟩, h.fresh⟩
theorem Sit.draw {cw : Addr} {h₀ h : Heap} {L : Addr} {news₀ nw nw' : List (Addr × Obj)} {wl tb c : Addr} {P P' : Int} {v : Option Value} (S : Sit news₀ nw wl cw tb c P v) (N : News h₀ L h nw) (hw : HasWell nw' wl cw P') (k : Kept wl nw nw') : Sit news₀ nw' wl cw tb c P' v := by
  refine ⟨hw, S.tab.kept (h₀ := h₀) (h := h) (L := L) k (fun D x hx => S.well.ne_tup N hx) (fun vs n a b => S.well.ne_list N a b), fun p hp hn => k p (S.kept p hp hn) hn, ?_, S.fresh⟩
  obtain ⟨o, a, b⟩ := S.cell
  refine ⟨o, k _ a ?_, b⟩
  obtain ⟨W, hW, hA⟩ := S.well
  obtain ⟨vs, cells, nw', nc, p, x, tp, tx, rfl, h2, h3⟩ := hA.out
  exact ne_of_obj N a hW (by rintro rfl; exact nomatch b)
theorem Sit.set {h₀ h : Heap} {L : Addr} {news₀ nw nw' : List (Addr × Obj)} {wl cw tb c : Addr} {P : Int} {v v' : Option Value} {o' : Obj} (S : Sit news₀ nw wl cw tb c P v) (N : News h₀ L h nw) (k : Kept c nw nw') (hc : (c, o') ∈ nw') (hd : o'.data = .cell v') : Sit news₀ nw' wl cw tb c P v' := by
  obtain ⟨o, a, b⟩ := S.cell
  have hl : ∀ {D : Addr} {vs : List Value} {n : Nat}, (D, listOf vs.toArray n) ∈ nw → D ≠ c := fun hx => ne_of_obj N hx a (by rintro rfl; exact nomatch b)
  have ht : ∀ D x, (D, tupO x) ∈ nw → D ≠ c := fun D x hx => ne_of_obj N hx a (by rintro rfl; exact nomatch b)
  refine ⟨?_, S.tab.kept (h₀ := h₀) (h := h) (L := L) k ht (fun vs n a _ => hl a), fun p hp hn => k p (S.kept p hp hn) (S.fresh p hp), ⟨o', hc, hd⟩, S.fresh⟩
  obtain ⟨W, hW, hA⟩ := S.well
  obtain ⟨vs, cells, nw', nc, p, x, tp, tx, rfl, h2, h3⟩ := hA.out
  exact ⟨_, k _ hW (hl hW), ⟨⟨vs, cells, nw', nc, p, x, tp, tx, rfl, k _ h2 (hl h2), h3⟩⟩⟩
theorem Sit.dropI {h₀ h : Heap} {L : Addr} {news₀ nw : List (Addr × Obj)} {wl cw tb c it : Addr} {ito : Obj} {fs : Array Value} {P : Int} {v : Option Value} (S : Sit news₀ nw wl cw tb c P v) (N : News h₀ L h nw) (hi : (it, ito) ∈ nw) (hf : ito.data = .fields fs) (hn : ∀ p ∈ news₀, p.1 ≠ wl → p.1 ≠ it) : Sit news₀ (drop it nw) wl cw tb c P v := by
  have ne : ∀ {D : Addr} {o : Obj}, (D, o) ∈ nw → (∀ fs, o.data ≠ .fields fs) → D ≠ it := fun hx h => ne_of_obj N hx hi (by rintro rfl; exact h _ hf)
  refine ⟨S.well.drop N hi hf, S.tab.kept (h₀ := h₀) (h := h) (L := L) (fun p hp hn => drop_mem hp hn) (fun D x hx => ne hx (fun _ h => nomatch h)) (fun vs n a _ => ne a (fun _ h => nomatch h)), fun p hp hw => drop_mem (S.kept p hp hw) (hn p hp hw), ?_, S.fresh⟩
  obtain ⟨o, a, b⟩ := S.cell
  exact ⟨o, drop_mem a (ne a (fun fs h => by rw [b] at h; exact nomatch h)), b⟩
theorem RowAt.kept {cw : Addr} {news news' : List (Addr × Obj)} {h₀ h : Heap} {L : Addr} {wl D : Addr} {P : Int} {r : Row} (t : RowAt news D r) (hw : HasWell news wl cw P) (N : News h₀ L h news) (k : Kept wl news news') : RowAt news' D r :=
  t.monoT fun D x hx => k _ hx (hw.ne_tup N hx)
theorem small3 {k : Int} (h0 : 0 ≤ k) (h1 : k < 3) : ∃ n : Nat, k = n ∧ n < 3 ∧ Builtin.Range.rangeSize 0 k 1 = (n : Int) ∧ Builtin.Range.small 0 k 1 = true := by
  have e : k = 0 ∨ k = 1 ∨ k = 2 := by omega
  rcases e with rfl | rfl | rfl
  · exact ⟨0, by decide⟩
  · exact ⟨1, by decide⟩
  · exact ⟨2, by decide⟩
section
variable {w : World} {mean : ExcName → Option Value} {mg mb : PySem.Str → Option Value} {dp un : Nat} {gd : Option (List Code)} {cn : PySem.Str} {cs : Scope} {a : Addr} {ccd : Value} {cl : List (PySem.Str × Addr)} {outer : List Env} {A₀ : Around} {base h₀ : Heap} {L : Addr} {m : PySem.Str → Option Value} {s : Shared} {Q E : Value → Shared → Prop} {news : List (Addr × Obj)}

theorem tab_len {A : Around} {tb : Addr} (N : News h₀ L s.heap news) (t : TabAt news tb) (ret : ∀ t tk, Q (.int 48 t) { s with toks := tk }) : wpAny (model pr w) A (call (.builtin "len") [.ref tb]) Q E s := by
  obtain ⟨vs, n, a, b⟩ := t
  have e := b.length
  have e2 : rowsL.length = 48 := rfl
  rw [e2] at e
  exact len_c N a (by rw [e]; rfl) (by omega) ret
theorem tab_item {A : Around} {value slice : PySem.Expr} {tb : Addr} {i : Int} {t : Tok} (N : News h₀ L s.heap news) (tt : TabAt news tb) (h0 : 0 ≤ i) (h1 : i < 48) (ret : ∀ D r, r ∈ rowsL → RowAt news D r → Q (.ref D) s)
    (hs : subscripted slice false (.ref tb) (.int i t) = operate [.ref tb, .int i t] (getItem (.ref tb) (.int i t)) := by with_unfolding_all rfl) (hg : ∀ r, letTemporaryGo value (.ref tb) r = pure () := by intro _; with_unfolding_all rfl) :
    wpAny (model pr w) A (subscriptTail value slice (.ref tb) (.int i t)) Q E s := by
  obtain ⟨vs, n, a, b⟩ := tt
  have e := b.length
  have e2 : rowsL.length = 48 := rfl
  rw [e2] at e
  have hx : ∃ v, vs[i.toNat]? = some v := ⟨_, List.getElem?_eq_getElem (by omega)⟩
  obtain ⟨v, hv⟩ := hx
  obtain ⟨D, r, rfl, hr, hra⟩ := b.get hv
  exact kim_list N a rfl rfl h0 (by omega) hv (ret D r (List.mem_of_getElem? hr) hra) hs hg
theorem laid_r (r : Row) (hr : r ∈ rowsL) (D d : Addr) (ks : List (PySem.Str × Int)) (B : Below A₀ base outer h₀) (F : Fr h₀ L s.heap m) (X : (K w.params).In h₀) (T : Top vq lo mean mg mb h₀) (hk : cs.kind = .function) (hd : dp + 30 < recursionLimit) (hu : un + 420 < cLine)
    (N : News h₀ L s.heap news) (ra : RowAt news D r) (hfd : FdAt w news d ks) (fl : Fl r.f ks)
    (ret : ∀ n t news' h' tk', n = laidOf r ks → 0 ≤ n → n < 4294967296 → (∀ p ∈ news, p ∈ news') → Fr h₀ L h' m → News h₀ L h' news' → Q (.int n t) { s with heap := h', toks := tk' }) :
    wpAny (model pr w) (ktrTop dp un gd cn cs L a ccd cl outer) (call (.ref 421) [.ref D, .ref d]) Q E s := by
  obtain ⟨t1, t2, t3, t4, t5, hm⟩ := ra
  obtain ⟨b1, b2, b3, b4, b5, b6⟩ := row_bnd hr
  refine laid_c r _ rfl D d ks B F X T hk hd hu t1 t2 t3 t4 t5 hm N b1 b2 b3 b4 b5 b6 hfd (fl_key fl).1 (fun hI => ?_) (fun t news' h' tk' => ret _ t news' h' tk' rfl (laid_bnd hr fl).1 (laid_bnd hr fl).2)
  obtain ⟨v, hv, hf⟩ := (fl_key fl).2 hI
  have := fit_bnd hf
  exact ⟨v, hv, by omega, by omega⟩
theorem cell_get {A : Around} {cs' : Scope} {cn' : PySem.Str} {a' : Addr} {ccd' : Value} {cl' : List (PySem.Str × Addr)} {pos : Pos} {news₀ : List (Addr × Obj)} {wl cw tb c : Addr} {P n : Int} {t : Tok} {x : PySem.Str} (N : News h₀ L s.heap news) (S : Sit news₀ news wl cw tb c P (some (.int n t))) (hc : cl'.lookup x = some c) (h : Q (.int n t) s)
    (hk : cs'.kind = .function := by rfl) (hx : (envX cn' cs' L a' ccd' cl').kindOf x = some .cell := by rfl) (hb : (x == ("__debug__" : PySem.Str)) = false := by decide) :
    wpAny (model pr w) A (eval (.Name x pos) (envX cn' cs' L a' ccd' cl')) Q E s := by
  obtain ⟨o, hm, hd⟩ := S.cell
  exact nameX_C N hc hm hd h hk hx hb
theorem cell_set {A : Around} {Q : Unit → Shared → Prop} {cs' : Scope} {cn' : PySem.Str} {a' : Addr} {ccd' : Value} {cl' : List (PySem.Str × Addr)} {news₀ : List (Addr × Obj)} {wl cw tb c : Addr} {P n : Int} {t : Tok} {x : PySem.Str} {v : Option Value} (F : Fr h₀ L s.heap m) (N : News h₀ L s.heap news) (S : Sit news₀ news wl cw tb c P v) (hc : cl'.lookup x = some c)
    (h : ∀ h' news', Fr h₀ L h' m → News h₀ L h' news' → Kept c news news' → Sit news₀ news' wl cw tb c P (some (.int n t)) → Q () { s with heap := h' })
    (hk : cs'.kind = .function := by rfl) (hx : (envX cn' cs' L a' ccd' cl').kindOf x = some .cell := by rfl) : wpAny (model pr w) A (storeName (envX cn' cs' L a' ccd' cl') x (.int n t)) Q E s := by
  obtain ⟨o, hm, hd⟩ := S.cell
  refine storeX_C F (news_set N hm) hc upd_head hd (fun h' o' F' N' hd' => h h' _ F' N' kept_head (S.set N kept_head (.head _) hd')) hk hx
theorem xor_c {A : Around} {a b : Int} {t u : Tok} (h0 : 0 ≤ a) (h1 : a < 4294967296) (h2 : 0 ≤ b) (h3 : b < 4294967296) (ret : ∀ z t, 0 ≤ z → z < 4294967296 → Q (.int z t) { s with toks := s.toks + 1 }) : wpAny (model pr w) A (binaryOp .BitXor (.int a t) (.int b u)) Q E s := by
  have e := xor_bnd 32 (a := a) (b := b) h0 (by omega) h2 (by omega)
  exact PyProof.Rows.xor_int (ret _ _ e.1 (by have := e.2; omega))
end
end Mine
end
section
open PySem PySem.W PyProof.Rows PySem.Spec PySem.Calls
set_option maxHeartbeats 400000
namespace Mine
def scD : Scope := { kind := .function, names := [(".0", .local), ("other", .local), ("_law_is_one", .globalImplicit), ("_law_read", .globalImplicit), ("number", .free)], isGenerator := false, isCoroutine := false }
/-- the rows that are due, as the law lists them -/
inductive DueAt (w : World) (n : Int) (news : List (Addr × Obj)) : List Value → List Row → Prop
  | nil : DueAt w n news [] []
  | cons {T d : Addr} {t : Tok} {r : Row} {vs : List Value} {rs : List Row} : (T, tupO [.str r.nm t, .ref d]) ∈ news → FdAt w news d (readOf r.f n) → DueAt w n news vs rs → DueAt w n news (.ref T :: vs) (r :: rs)
theorem DueAt.mono {w : World} {n : Int} {news news' : List (Addr × Obj)} {vs : List Value} {rs : List Row} (h : DueAt w n news vs rs) (hs : ∀ p ∈ news, p ∈ news') : DueAt w n news' vs rs := by
  induction h with
  | nil => exact .nil
  | cons a b _ ih => exact .cons (hs _ a) (b.mono hs) ih
theorem DueAt.snoc {w : World} {n : Int} {news : List (Addr × Obj)} {vs : List Value} {rs : List Row} {T d : Addr} {t : Tok} {r : Row} (h : DueAt w n news vs rs) (a : (T, tupO [.str r.nm t, .ref d]) ∈ news) (b : FdAt w news d (readOf r.f n)) : DueAt w n news (vs ++ [.ref T]) (rs ++ [r]) := by
  induction h with
  | nil => exact .cons a b .nil
  | cons a' b' _ ih => exact .cons a' b' ih
/-- the ledger without three addresses -/
def dr (I C D : Addr) (l : List (Addr × Obj)) : List (Addr × Obj) := drop I (drop C (drop D l))
theorem dr_mem {I C D : Addr} {l : List (Addr × Obj)} {p : Addr × Obj} (h : p ∈ l) (hn : p.1 ≠ I ∧ p.1 ≠ C ∧ p.1 ≠ D) : p ∈ dr I C D l := drop_mem (drop_mem (drop_mem h hn.2.2) hn.2.1) hn.1
theorem dr_sub {I C D : Addr} {l : List (Addr × Obj)} {p : Addr × Obj} (h : p ∈ dr I C D l) : p ∈ l := drop_sub (drop_sub (drop_sub h))
theorem dr_off {I C D : Addr} {l : List (Addr × Obj)} : LCg.Off3 I C D (dr I C D l) := LCg.Off3.of fun p hp => ⟨drop_ne hp, drop_ne (drop_sub hp), drop_ne (drop_sub (drop_sub hp))⟩
section
variable {w : World} {mean : ExcName → Option Value} {mg mb : PySem.Str → Option Value} {dp un : Nat} {gd : Option (List Code)} {cn : PySem.Str} {cs : Scope} {a : Addr} {ccd : Value} {cl : List (PySem.Str × Addr)} {outer : List Env} {A₀ : Around} {base h₀ : Heap} {L : Addr} {m : PySem.Str → Option Value} {s : Shared} {Q E : Value → Shared → Prop} {news : List (Addr × Obj)}

theorem kw_W25_1 : True := by
  k_with_none
  k_with "call ref" => (k_here; k_dflt (first | (refine' is_one_c _ _ ?zx _ _ _ ?zB ?zF ?zX ?zT ?zk ?zd ?zu _ _ _ _ _ ?zr ?zN ?b1 ?b2 ?b3 ?b4 ?b5 ?b6 ?z0 ?z1 ?_; (case zx => exact rfl); (case zB => k_asm); (case zF => k_asm); (case zX => k_asm); (case zT => k_asm); (case zk => assumption); (case zd => ktr_room); (case zu => ktr_units); (case zN => k_asm); (case zr => assumption); (case b1 => assumption); (case b2 => assumption); (case b3 => assumption); (case b4 => assumption); (case b5 => assumption); (case b6 => assumption); (case z0 => assumption); (case z1 => assumption); intro _ _ _ _ _ _ _ _) | (refine' read_c _ _ ?zx _ _ _ ?zB ?zF ?zX ?zT ?zk ?zd ?zu _ _ _ _ _ ?zr ?zN ?z0 ?z1 ?_; (case zx => exact rfl); (case zB => k_asm); (case zF => k_asm); (case zX => k_asm); (case zT => k_asm); (case zk => assumption); (case zd => ktr_room); (case zu => ktr_units); (case zN => k_asm); (case zr => assumption); (case z0 => assumption); (case z1 => assumption); intro _ _ _ _ _ _ _ _ _ _ _)))
  trivial
theorem test_due (r : Row) (hr : r ∈ rowsL) (D : Addr) (n : Int) (tn : Tok) (B : Below A₀ base outer h₀) (F : Fr h₀ L s.heap m) (X : (K w.params).In h₀) (T : Top vq lo mean mg mb h₀) (hk : cs.kind = .function) (hd : dp + 35 < recursionLimit) (hu : un + 430 < cLine)
    (p1 p2 p3 p4 : Pos) (m₂ : PySem.Str → Option Value) (C : Addr) (oC : Obj) (c : Addr) (o : Obj)
    (N : News h₀ L s.heap news) (hC : (C, oC) ∈ news) (hN : LCg.NsObj oC m₂) (hm : m₂ "other" = some (.ref D)) (hc : (c, o) ∈ news) (hcd : o.data = .cell (some (.int n tn))) (ra : RowAt news D r) (hn0 : 0 ≤ n) (hn1 : n < 4294967296)
    {Q : Bool → Shared → Prop} (ret : ∀ b news' h' tk', b = isOneR n r → (∀ p ∈ news, p ∈ news') → Fr h₀ L h' m → News h₀ L h' news' → Q b { s with heap := h', toks := tk' }) :
    wpAny (model pr w) (ktrTop dp un gd cn cs L a ccd cl outer) (isTrue (.Call (.Name "_law_is_one" p1) [.Name "other" p2, .Name "number" p3] [] p4) (compEnvC scD [("number", c)] C (envOfC "_law_turned_right" (fdS (stm 35)) L 452 (.ref 451))) (eval (.Call (.Name "_law_is_one" p1) [.Name "other" p2, .Name "number" p3] [] p4) (compEnvC scD [("number", c)] C (envOfC "_law_turned_right" (fdS (stm 35)) L 452 (.ref 451))))) Q E s := by
  obtain ⟨t1, t2, t3, t4, t5, rm⟩ := ra
  obtain ⟨b1, b2, b3, b4, b5, b6⟩ := row_bnd hr
  k_steps
  exact ret _ _ _ _ (by assumption) (by assumption) (by assumption) (by assumption)
theorem elt_due (r : Row) (D : Addr) (n : Int) (tn : Tok) (B : Below A₀ base outer h₀) (F : Fr h₀ L s.heap m) (X : (K w.params).In h₀) (T : Top vq lo mean mg mb h₀) (hk : cs.kind = .function) (hd : dp + 35 < recursionLimit) (hu : un + 430 < cLine)
    (p1 p2 p3 p4 p5 p6 p7 p8 : Pos) (n0 n1 : Nat) (m₂ : PySem.Str → Option Value) (C : Addr) (oC : Obj) (c : Addr) (o : Obj)
    (N : News h₀ L s.heap news) (hC : (C, oC) ∈ news) (hN : LCg.NsObj oC m₂) (hm : m₂ "other" = some (.ref D)) (hc : (c, o) ∈ news) (hcd : o.data = .cell (some (.int n tn))) (ra : RowAt news D r) (hn0 : 0 ≤ n) (hn1 : n < 4294967296)
    (ret : ∀ T d t news' h' tk', (T, tupO [.str r.nm t, .ref d]) ∈ news' → FdAt w news' d (readOf r.f n) → (∀ p ∈ news, p.1 < d) → (∀ p ∈ news, p.1 < T) → (∀ p ∈ news, p ∈ news') → Fr h₀ L h' m → News h₀ L h' news' → Q (.ref T) { s with heap := h', toks := tk' }) :
    wpAny (model pr w) (ktrTop dp un gd cn cs L a ccd cl outer) (eval (.Tuple [.Subscript (.Name "other" p1) (.Constant (.int 0) n0 p2) p3, .Call (.Name "_law_read" p4) [.Name "other" p5, .Name "number" p6] [] p7] n1 p8) (compEnvC scD [("number", c)] C (envOfC "_law_turned_right" (fdS (stm 35)) L 452 (.ref 451)))) Q E s := by
  obtain ⟨t1, t2, t3, t4, t5, rm⟩ := ra
  k_steps
  rename_i cE d8 ks8 nw8 h8 tk8 e8 fd8 lt8 sub8 D' h' F' N' l1
  subst e8
  exact ret D' d8 _ _ _ _ (.head _) (FdAt.cons fd8) lt8 (fun p hp => l1 p (sub8 p hp)) (fun p hp => .tail _ (sub8 p hp)) F' N'
/-- the turns of the list of what is due -/
theorem rest_due {tvs : List Value} (tb c : Addr) (o : Obj) (tk0 : Nat) (n : Int) (tn : Tok) (p1 p2 p3 p4 q1 q2 q3 q4 q5 q6 q7 q8 : Pos) (n0 n1 : Nat) (B : Below A₀ base outer h₀) (X : (K w.params).In h₀) (T : Top vq lo mean mg mb h₀) (hk : cs.kind = .function) (hd : dp + 35 < recursionLimit) (hu : un + 430 < cLine)
    (hn0 : 0 ≤ n) (hn1 : n < 4294967296) (nw : List (Addr × Obj)) (rows₀ : RowsAt nw tvs rowsL) (htb : (tb, listOf tvs.toArray tk0) ∈ nw) (hc : (c, o) ∈ nw) (hcd : o.data = .cell (some (.int n tn)))
    (Fin : List Value → List (Addr × Obj) → Prop) (fin : ∀ ys news', DueAt w n news' ys (rowsL.filter (isOneR n)) → (∀ p ∈ nw, p ∈ news') → Fin ys news') :
    LCt.CompRestT pr w (ktrTop dp un gd cn cs L a ccd cl outer) h₀ L m (envOfC "_law_turned_right" (fdS (stm 35)) L 452 (.ref 451)) (.Call (.Name "_law_is_one" p1) [.Name "other" p2, .Name "number" p3] [] p4) (.Tuple [.Subscript (.Name "other" q1) (.Constant (.int 0) n0 q2) q3, .Call (.Name "_law_read" q4) [.Name "other" q5, .Name "number" q6] [] q7] n1 q8) "other" scD [("number", c)] s (LCg.SrcAt h₀ tb tvs.toArray) (fun i v => tvs.toArray[i]? = some v) Fin tvs.toArray.size 0 [] nw := by
  have main : ∀ (k i : Nat) (ys : List Value) (news : List (Addr × Obj)), i + k = tvs.length → (∀ p ∈ nw, p ∈ news) → DueAt w n news ys ((rowsL.take i).filter (isOneR n)) →
      LCt.CompRestT pr w (ktrTop dp un gd cn cs L a ccd cl outer) h₀ L m (envOfC "_law_turned_right" (fdS (stm 35)) L 452 (.ref 451)) (.Call (.Name "_law_is_one" p1) [.Name "other" p2, .Name "number" p3] [] p4) (.Tuple [.Subscript (.Name "other" q1) (.Constant (.int 0) n0 q2) q3, .Call (.Name "_law_read" q4) [.Name "other" q5, .Name "number" q6] [] q7] n1 q8) "other" scD [("number", c)] s (LCg.SrcAt h₀ tb tvs.toArray) (fun i v => tvs.toArray[i]? = some v) Fin k i ys news := by
    intro k
    induction k with
    | zero =>
      intro i ys news hi hs hdu
      rw [List.take_of_length_le (by rw [← rows₀.length]; omega)] at hdu
      exact .zero (fin ys news hdu hs)
    | succ k ih =>
      intro i ys news hi hs hdu
      refine .succ ?_
      rintro v I oI C oC D m₂ h tk E' hv hC hx F N off ne
      obtain ⟨Dr, r, rfl, hri, ra⟩ := rows₀.get (i := i) (v := v) (by simpa using hv)
      have hr := List.mem_of_getElem? hri
      have up : ∀ p ∈ news, p ∈ (I, oI) :: (C, oC) :: (D, LCg.lst ys) :: news := fun p hp => .tail _ (.tail _ (.tail _ hp))
      refine test_due r hr Dr n tn B F X T hk hd hu p1 p2 p3 p4 m₂ C oC c o N (.tail _ (.head _)) hC hx (up _ (hs _ hc)) hcd (ra.monoT fun D x hx => up _ (hs _ hx)) hn0 hn1 (fun b nw9 h9 tk9 eb sub9 F9 N9 => ?_)
      have keep : ∀ p ∈ news, p ∈ dr I C D nw9 := fun p hp => dr_mem (sub9 p (up p hp)) (off.mem p hp)
      cases b with
      | false =>
        rw [if_neg (by decide)]
        refine LCg.CompEnd.intro F9 N9 (dr I C D nw9) (fun p hp => ?_) dr_off (.inr ⟨_, keep _ (hs _ htb), rfl, _, rfl⟩) (ih (i + 1) ys _ (by omega) (fun p hp => keep p (hs p hp)) ?_)
        · rcases List.mem_cons.mp hp with rfl | hp
          · exact sub9 _ (.head _)
          · rcases List.mem_cons.mp hp with rfl | hp
            · exact sub9 _ (.tail _ (.head _))
            · rcases List.mem_cons.mp hp with rfl | hp
              · exact sub9 _ (.tail _ (.tail _ (.head _)))
              · exact dr_sub hp
        · have e : (rowsL.take (i + 1)).filter (isOneR n) = (rowsL.take i).filter (isOneR n) := by
            rw [List.take_add_one, hri, List.filter_append]
            simp [← eb]
          rw [e]
          exact hdu.mono keep
      | true =>
        rw [if_pos rfl]
        refine elt_due r Dr n tn B F9 X T hk hd hu q1 q2 q3 q4 q5 q6 q7 q8 n0 n1 m₂ C oC c o N9 (sub9 _ (.tail _ (.head _))) hC hx (sub9 _ (up _ (hs _ hc))) hcd (ra.monoT fun D x hx => sub9 _ (up _ (hs _ hx))) hn0 hn1 (fun T' d' t' nwF hF tkF mT fdT ltd ltT subF FF NF => ?_)
        have keepF : ∀ p ∈ news, p ∈ dr I C D nwF := fun p hp => dr_mem (subF p (sub9 p (up p hp))) (off.mem p hp)
        have gI := sub9 _ (List.Mem.head _)
        have gC := sub9 _ (List.Mem.tail _ (List.Mem.head _))
        have gD := sub9 _ (List.Mem.tail _ (List.Mem.tail _ (List.Mem.head _)))
        have nT : T' ≠ I ∧ T' ≠ C ∧ T' ≠ D := ⟨Nat.ne_of_gt (ltT _ gI), Nat.ne_of_gt (ltT _ gC), Nat.ne_of_gt (ltT _ gD)⟩
        have nd : d' ≠ I ∧ d' ≠ C ∧ d' ≠ D := ⟨Nat.ne_of_gt (ltd _ gI), Nat.ne_of_gt (ltd _ gC), Nat.ne_of_gt (ltd _ gD)⟩
        refine LCg.CompEnd.intro FF NF (dr I C D nwF) (fun p hp => ?_) dr_off (.inr ⟨_, keepF _ (hs _ htb), rfl, _, rfl⟩) (ih (i + 1) _ _ (by omega) (fun p hp => keepF p (hs p hp)) ?_)
        · rcases List.mem_cons.mp hp with rfl | hp
          · exact subF _ gI
          · rcases List.mem_cons.mp hp with rfl | hp
            · exact subF _ gC
            · rcases List.mem_cons.mp hp with rfl | hp
              · exact subF _ gD
              · exact dr_sub hp
        · have e : (rowsL.take (i + 1)).filter (isOneR n) = (rowsL.take i).filter (isOneR n) ++ [r] := by
            rw [List.take_add_one, hri, List.filter_append]
            simp [← eb]
          rw [e]
          obtain ⟨o2, kv2, m2, r2⟩ := fdT
          exact (hdu.mono keepF).snoc (dr_mem mT nT) ⟨o2, kv2, dr_mem m2 nd, r2⟩
  have e : tvs.toArray.size = tvs.length := by simp
  rw [e]
  exact main tvs.length 0 [] nw (by omega) (fun p hp => hp) .nil
theorem kw_W25_2 : True := by
  k_with_none
  trivial
end
end Mine
end
section
open PySem PySem.W PyProof.Rows PySem.Spec PySem.Calls
set_option maxHeartbeats 400000
namespace Mine
/-- what is due, as a pair of the ledger -/
def DueP (w : World) (n : Int) (news : List (Addr × Obj)) (r : Row) (D T d : Addr) : Prop := (∃ k, (D, listOf [.ref T].toArray k) ∈ news) ∧ (∃ t, (T, tupO [.str r.nm t, .ref d]) ∈ news) ∧ FdAt w news d (readOf r.f n)
theorem DueP.mono {w : World} {n : Int} {news news' : List (Addr × Obj)} {r : Row} {D T d : Addr} (h : DueP w n news r D T d) (hs : ∀ p ∈ news, p ∈ news') : DueP w n news' r D T d := ⟨let ⟨k, a⟩ := h.1; ⟨k, hs _ a⟩, let ⟨t, a⟩ := h.2.1; ⟨t, hs _ a⟩, h.2.2.mono hs⟩
theorem DueP.of {w : World} {n : Int} {news : List (Addr × Obj)} {r : Row} {T d : Addr} {t : Tok} (D : Addr) (a : (T, tupO [.str r.nm t, .ref d]) ∈ news) (b : FdAt w news d (readOf r.f n)) : DueP w n ((D, LCg.lst [.ref T]) :: news) r D T d := ⟨⟨_, .head _⟩, ⟨_, .tail _ a⟩, FdAt.cons b⟩
section
variable {w : World} {mean : ExcName → Option Value} {mg mb : PySem.Str → Option Value} {dp un : Nat} {gd : Option (List Code)} {cn : PySem.Str} {cs : Scope} {a : Addr} {ccd : Value} {cl : List (PySem.Str × Addr)} {outer : List Env} {A₀ : Around} {base h₀ : Heap} {L : Addr} {m : PySem.Str → Option Value} {s : Shared} {Q E : Value → Shared → Prop} {news : List (Addr × Obj)}

theorem nil_nil {A : Around} {D l0 : Addr} {k0 : Nat} (N : News h₀ L s.heap news) (h1 : (D, LCg.lst []) ∈ news) (h2 : (l0, listOf ([] : List Value).toArray k0) ∈ news) (hu : A.units + 64 < cLine) (h : Q (.bool true) s) : wpAny (model pr w) A (compareOp .Eq (.ref D) (.ref l0)) Q E s :=
  eq_dataH (da := .list []) (db := .list []) (.list (N _ h1).1 rfl rfl .nil) (.list (N _ h2).1 rfl rfl .nil) (by decide) (by decide) hu h
theorem due0_c {A : Around} {value slice : PySem.Expr} {n : Int} {r : Row} {D T d : Addr} {t : Tok} (N : News h₀ L s.heap news) (h : DueP w n news r D T d) (ret : Q (.ref T) s)
    (hs : subscripted slice false (.ref D) (.int 0 t) = operate [.ref D, .int 0 t] (getItem (.ref D) (.int 0 t)) := by with_unfolding_all rfl) (hg : ∀ r, letTemporaryGo value (.ref D) r = pure () := by intro _; with_unfolding_all rfl) :
    wpAny (model pr w) A (subscriptTail value slice (.ref D) (.int 0 t)) Q E s := by
  obtain ⟨⟨k, hm⟩, _⟩ := h
  exact kim_list N hm rfl rfl (by decide) (by decide) rfl ret hs hg
theorem one_nil {A : Around} {D l0 : Addr} {v : Value} {k0 : Nat} (N : News h₀ L s.heap news) (h1 : (D, LCg.lst [v]) ∈ news) (h2 : (l0, listOf ([] : List Value).toArray k0) ∈ news) (hu : A.units + 64 < cLine) (h : Q (.bool false) s) : wpAny (model pr w) A (compareOp .Eq (.ref D) (.ref l0)) Q E s :=
  SeqAt.eq_list_lengthsAt (News.isList N h1) (News.isList N h2) (by rfl) (by omega) h
theorem kw_W26_1 : True := by
  k_with_none
  k_with "exec Assign cons ListComp" => (k_here; k_dflt (refine LCt.Assign_ListComp_T (F₀ := by k_asm) (by rfl) (by with_unfolding_all rfl) (by with_unfolding_all rfl) (by decide) (by rfl) (by decide) (by rfl) (by rfl) (by rfl) ?_))
  k_with "CompSrcT" => (k_here; k_dflt (refine' LCt.CompSrcT.ledger ?z0 ?zF ?zN ?zm ?zs ?_; (case z0 => exact rfl); (case zF => k_asm); (case zN => k_asm); (case zm => assumption); (case zs => assumption)); intro _)
  k_with "CompRestT" => (k_dflt (refine' rest_due _ _ _ _ _ _ _ _ _ _ _ _ _ _ _ _ _ _ _ _ ?zB ?zX ?zT ?zk ?zd ?zu ?z0 ?z1 _ ?zr ?zt ?zc ?zcd _ ?_; (case zB => k_asm); (case zX => k_asm); (case zT => k_asm); (case zk => exact rfl); (case zd => ktr_room); (case zu => ktr_units); (case z0 => assumption); (case z1 => assumption); (case zr => assumption); (case zt => assumption); (case zc => assumption); (case zcd => assumption)); (unfold LCg.FinA); intro ys9 nw9 du9 sub9 D9 h9 tk9 F9 N9 o9; (first | (rw [show rowsL.filter (isOneR _) = [] by assumption] at du9; cases du9) | (rw [show rowsL.filter (isOneR _) = [_] by assumption] at du9; rcases du9 with _ | ⟨mT9, fd9, du9⟩; cases du9; have dp9 := DueP.of D9 mT9 fd9)); (have si9 := Sit.mono (by walk_at "sit") sub9 (Int.le_refl _)))
  k_with "compareOp Eq ref ref" => (k_here; k_dflt (first | (refine' nil_nil ?zN ?z1 ?z2 ?zu ?_; (case zN => k_asm); (case z1 => k_mem); (case z2 => k_mem); (case zu => ktr_units)) | (refine' one_nil ?zN ?z1 ?z2 ?zu ?_; (case zN => k_asm); (case z1 => k_mem); (case z2 => k_mem); (case zu => ktr_units)) | (refine' pair_eq ?zN ?z1 ?z2 ?f1 ?f2 ?zu ?_; (case zN => k_asm); (case z1 => assumption); (case z2 => assumption); (case f1 => assumption); (case f2 => assumption); (case zu => ktr_units))))
  k_with "sit" => first | assumption | exact Sit.mono (by assumption) (fun p hp => List.Mem.tail _ hp) (Int.le_refl _) | exact Sit.mono (by assumption) (fun p hp => List.Mem.tail _ (List.Mem.tail _ hp)) (Int.le_refl _)
  k_with "pyIter ref" => (k_here; refine Stop.out ?_)
  k_with "exec For" => (k_here; refine For_invTF (by k_asm) ?_ (fun _ => by rfl))
  k_with "exec For Name Call cons nil" => (k_here; k_dflt (refine For_invTF (by k_asm) ?_ (fun _ => by rfl)))
  k_with "eval Call" => (k_here; k_dflt (refine Call_ ?_))
  k_with "eval Name" => (k_here; k_dflt (first | (refine' nameX_L ?zF ?zv ?_ ?za ?zb; (case zF => k_asm); (case za => rfl); (case zb => rfl); (case zv => first | rfl | assumption); k_whole) | (refine' cell_get ?zN ?zS ?zc ?_ ?za ?zb; (case za => rfl); (case zb => rfl); (case zN => k_asm); (case zS => walk_at "sit"); (case zc => rfl))))
  k_with "storeName" => (k_here; k_dflt (refine' cell_set ?zF ?zN ?zS ?zc ?_ ?za ?zb; (case za => rfl); (case zb => rfl); (case zF => k_asm); (case zN => k_asm); (case zS => walk_at "sit"); (case zc => rfl); intro _ _ _ _ _ _))
  k_with "call builtin:len" => (k_here; k_dflt (refine' tab_len ?zN ?zt ?_; (case zN => k_asm); (case zt => exact Sit.tab (by walk_at "sit")); intro _ _))
  k_with "subscriptTail" => (k_here; first | (with_reducible refine' due0_c ?zN ?zd ?_; (case zN => k_asm); (case zd => assumption)) | (k_dflt (refine' tab_item ?zN ?zt ?z0 ?z1 ?_; (case zN => k_asm); (case zt => exact Sit.tab (by walk_at "sit")); (case z0 => assumption); (case z1 => assumption); intro D4 r4 hr4 ra4; have ram4 := ra4; obtain ⟨t41, t42, t43, t44, t45, rm4⟩ := ram4)))
  k_with "binaryOp LShift int int" => (k_here; k_dflt (refine' shl_c ?z0 ?z1 ?_; (case z0 => assumption); (case z1 => omega); intro _ _ _ _ _))
  k_with "binaryOp BitXor int int" => (k_here; k_dflt (refine' xor_c ?z0 ?z1 ?z2 ?z3 ?_; (case z0 => omega); (case z1 => omega); (case z2 => omega); (case z3 => omega); intro _ _ _ _))
  k_with "call type:range" => (k_here; k_dflt (refine' range1_rows ?zF ?zN ?_; (case zF => k_asm); (case zN => k_asm); intro _ _ _ _ _ _ _ _ _))
  k_with "call ref" => (k_here; k_dflt (first | (refine' draw_k _ _ _ _ ?zB ?zF ?zX ?zT ?zk ?zd ?zu ?zN ?zW ?zP ?z0 ?z1 ?_; (case zB => k_asm); (case zF => k_asm); (case zX => k_asm); (case zT => k_asm); (case zk => exact rfl); (case zd => ktr_room); (case zu => ktr_units); (case zN => k_asm); (case zW => exact Sit.well (by walk_at "sit")); (case zP => omega); (case z0 => omega); (case z1 => omega); intro r9 t9 nw9 h9 tk9 lo9 hi9 hw9 kp9 F9 N9; (have si9 := Sit.draw (by walk_at "sit") (show News _ _ _ _ by assumption) hw9 kp9)) | (refine' fields_c _ _ ?zx _ _ _ ?zB ?zF ?zX ?zT ?zk ?zd ?zu ?zN ?zW ?zP ?_; (case zx => exact rfl); (case zB => k_asm); (case zF => k_asm); (case zX => k_asm); (case zT => k_asm); (case zk => exact rfl); (case zd => ktr_room); (case zu => ktr_units); (case zN => k_asm); (case zW => exact Sit.well (by walk_at "sit")); (case zP => omega); intro d8 ks8 nw8 h8 tk8 fl8 fd8 hw8 kp8 F8 N8; (have ra8 := RowAt.kept (by assumption) (Sit.well (by walk_at "sit")) (show News _ _ _ _ by assumption) kp8); (have si8 := Sit.draw (by walk_at "sit") (show News _ _ _ _ by assumption) hw8 kp8)) | (refine' laid_r _ ?zr _ _ _ ?zB ?zF ?zX ?zT ?zk ?zd ?zu ?zN ?zA ?zD ?zL ?_; (case zB => k_asm); (case zF => k_asm); (case zX => k_asm); (case zT => k_asm); (case zk => exact rfl); (case zd => ktr_room); (case zu => ktr_units); (case zN => k_asm); (case zA => assumption); (case zr => assumption); (case zD => assumption); (case zL => assumption); intro n6 t6 nw6 h6 tk6 e6 b6 c6 sub6 F6 N6; (have si6 := Sit.mono (by walk_at "sit") sub6 (Int.le_refl _))) | (refine' decode_none _ _ ?zB ?zF ?zX ?zT ?zk ?zd ?zu ?zN ?z0 ?z1 ?zn ?_; (case zB => k_asm); (case zF => k_asm); (case zX => k_asm); (case zT => k_asm); (case zk => exact rfl); (case zd => ktr_room); (case zu => ktr_units); (case zN => k_asm); (case z0 => assumption); (case z1 => assumption); (case zn => assumption); intro nw3 h3 tk3 sub3 F3 N3; (have si3 := Sit.mono (by walk_at "sit") sub3 (Int.le_refl _))) | (refine' decode_c _ ?zr _ _ ?zB ?zF ?zX ?zT ?zk ?zd ?zu ?zN ?z0 ?z1 ?zn ?_; (case zn => assumption); (case zr => assumption); (case zB => k_asm); (case zF => k_asm); (case zX => k_asm); (case zT => k_asm); (case zk => exact rfl); (case zd => ktr_room); (case zu => ktr_units); (case zN => k_asm); (case z0 => assumption); (case z1 => assumption); intro D3 d3 t3 ks3 nw3 h3 tk3 di3 mD3 fd3 sub3 F3 N3; (have ek3 := dec_read (by assumption) (by assumption) di3); subst ek3; (have si3 := Sit.mono (by walk_at "sit") sub3 (Int.le_refl _)); (have dp3 := DueP.mono (by first | assumption | exact DueP.mono (by assumption) (fun p hp => List.Mem.tail _ hp) | exact DueP.mono (by assumption) (fun p hp => List.Mem.tail _ (List.Mem.tail _ hp))) sub3); (have dq3 := dp3); obtain ⟨_, ⟨tT3, mT3⟩, fT3⟩ := dq3) | (refine' encode_c _ ?zr _ _ _ ?zB ?zF ?zX ?zT ?zk ?zd ?zu ?zN ?zf ?zy ?zi ?_; (case zr => assumption); (case zB => k_asm); (case zF => k_asm); (case zX => k_asm); (case zT => k_asm); (case zk => exact rfl); (case zd => ktr_room); (case zu => ktr_units); (case zN => k_asm); (case zf => assumption); (case zy => assumption); (case zi => assumption); intro z2 t2 nw2 h2 tk2 ec2 sub2 F2 N2; (have si2 := Sit.mono (by walk_at "sit") sub2 (Int.le_refl _)))))
  trivial
set_option maxHeartbeats 8000000 in
theorem turned_c {cw : Addr} (wl tb : Addr) (P : Int) (B : Below A₀ base outer h₀) (F : Fr h₀ L s.heap m) (X : (K w.params).In h₀) (T : Top vq lo mean mg mb h₀) (hk : cs.kind = .function) (hd : dp + 40 < recursionLimit) (hu : un + 440 < cLine)
    (N : News h₀ L s.heap news) (hW : HasWell news wl cw P) (hP0 : 0 ≤ P) (hP : P < 100000) (htb : TabAt news tb)
    (ret : ∀ news' h' tk', HasWell news' wl cw (P + 100) → Kept wl news news' → Fr h₀ L h' m → News h₀ L h' news' → Q (.bool true) { s with heap := h', toks := tk' }) :
    wpAny (model pr w) (ktrTop dp un gd cn cs L a ccd cl outer) (call (.ref 452) [.ref wl, .ref tb]) Q E s := by
  refine wpAny_call ?_
  k_dflt (refine' code_defC (binds := [("well", .ref wl), ("table", .ref tb)]) ?k1 ?k2 ?k3 ?k4 ?k5 ?kA ?kF ?kK ?k6 ?k7 ?k8 ?k9 ?kB ?kD ?_ ?c2 ?c3 ?c4; (case kA => exact rfl); (case kF => exact rfl); (case kK => assumption); (case k1 => k_asm); (case k2 => k_asm); (case k3 => k_asm); (case k4 => k_asm); (case k5 => k_asm); (case k6 => k_is); (case k7 => k_is); (case k8 => ktr_room); (case k9 => exact BindsTo.of_eq rfl); (case kB => exact rfl); (case kD => decide +kernel); (case c2 => exact rfl); (case c3 => exact rfl); (case c4 => exact rfl); k_whole; intro g' L' h' tk' cells' FG' F' N' Y' B' X' T' l1; (try k_lt l1); k_cells Y'; (try simp only [List.cons_append, List.nil_append] at N'); (try dsimp only); (try k_lift B'); (try k_fold))
  rename _ = Data.cell _ => hcd
  rename Obj => co
  have S0 : Sit news ((L' + 1, co) :: news) wl cw tb (L' + 1) P _ := ⟨hW.mono (fun p hp => .tail _ hp) (Int.le_refl _), htb.mono fun p hp => .tail _ hp, fun p hp _ => .tail _ hp, ⟨co, .head _, hcd⟩, fun p hp => Nat.ne_of_lt (Nat.lt_succ_of_lt (l1 p hp))⟩
  k_steps
  rename_i r9 t9 nw9 h9 tk9 lo9 hi9 hw9 kp9 F9 N9 si9 h7 tk7 t7 u7 v7 r7 F7 N7 k7
  obtain ⟨gn, hge, hgl, grs, gsm⟩ := small3 lo9 hi9
  refine ⟨?_⟩
  refine iterR (fun j m₂ nw' => (m₂ "well" = some (.ref wl) ∧ m₂ "table" = some (.ref tb)) ∧ ∃ n t, 0 ≤ n ∧ n < 4294967296 ∧ Sit news nw' wl cw tb (L' + 1) (P + 7 + j) (some (.int n t))) rfl r7 gsm grs F7 N7 ?j0 ?turn ?done
  case j0 =>
    refine ⟨⟨rfl, rfl⟩, _, _, ?_, ?_, si9.mono (fun _ h => h) (by omega)⟩
    · assumption
    · assumption
  case turn =>
    rintro j m₂ nw₂ s₂ it ito tk2 hj ⟨fs2, hfs2⟩ hit2 ⟨⟨q1, q2⟩, n, t, nb0, nb1, si⟩ F₂ N₂ R hR
    have hni : ∀ p ∈ news, p.1 ≠ wl → p.1 ≠ it := fun p hp hw => hit2 p (si.kept p hp hw)
    have iw : it ≠ wl := (si.well.mono (news' := (it, ito) :: nw₂) (fun p hp => .tail _ hp) (Int.le_refl _)).ne_fields N₂ (.head _) hfs2
    have ic : it ≠ L' + 1 := by
      obtain ⟨o, a, _⟩ := si.cell
      exact fun e => hit2 _ a e.symm
    clear si9
    k_steps
    have kpd := kp9
    rename_i z4 t4 e4 b4 c4 z5 t5 b5 c5 h2 nw2 F2 N2 kp2 si2
    have hit9 : (it, ito) ∈ nw2 := kp2 _ (kpd _ (.head _) iw) ic
    refine hR _ _ (TurnEnd.intro F2 N2 hit9 ⟨⟨q1, q2⟩, z5, t5, b5, c5, (si2.dropI N2 hit9 hfs2 hni).mono (fun _ h => h) (by push_cast; omega)⟩)
  case done =>
    rintro m₂ nw₂ h₂ tk₂ ⟨⟨q1, q2⟩, n, t, nb0, nb1, si⟩ F₂ N₂
    clear si9
    obtain ⟨tvs, tk0, hmT, hrT⟩ := si.tab
    obtain ⟨co2, hc2, hcd2⟩ := si.cell
    have hsz : tvs.toArray.size ≤ sizeLine := by
      have e := hrT.length
      have e2 : rowsL.length = 48 := rfl
      rw [sizeLine_eq]; simp; omega
    rcases one_filter nb0 nb1 with he | ⟨r, hr, h1, he⟩
    · have hN0 : ∀ x, NameIs n x → x = "" := fun x hx => name_none nb0 nb1 (fun r hr => by
        cases h : isOneR n r with
        | false => rfl
        | true => exact nomatch he ▸ List.mem_filter.mpr ⟨hr, h⟩) hx
      k_steps
      rename_i l' h' F' N' l1 kF kN Tc kX
      refine' ret _ _ _ (si3.well.mono (fun _ h => h) (by omega)) si3.kept ?y1 ?y2
      case y1 => assumption
      case y2 => assumption
    · have hN1 : ∀ x, NameIs n x → x = r.nm := fun x hx => name_one hr nb0 nb1 h1 hx
      have fl := read_fl hr nb0 nb1 h1
      have hy1 := (fl_key fl).1
      have hi1 := (fl_key fl).2
      k_steps
      rename EncIs _ _ _ => ec
      rename Sit _ _ _ _ _ _ _ _ => si2
      have ez := enc_laid hr fl ec
      rw [read_laid hr nb0 nb1 h1] at ez
      rw [ez, beq_self_eq_true]
      refine' ret _ _ _ (si2.well.mono (fun _ h => h) (by omega)) si2.kept ?y1 ?y2
      case y1 => assumption
      case y2 => assumption
theorem kw_W26_2 : True := by
  k_with_none
  trivial
end
end Mine
end
section
open PySem PySem.W PyProof.Rows PySem.Spec PySem.Calls
set_option maxHeartbeats 400000
namespace Mine
def scT : Scope := { kind := .function, names := [(".0", .local), ("turn", .local), ("_law_turned_right", .globalImplicit), ("table", .free), ("well", .free)], isGenerator := false, isCoroutine := false }
/-- what stands about the law's loop -/
structure LS (nw : List (Addr × Obj)) (c1 c2 wl cw tb : Addr) (P : Int) : Prop where
  well : HasWell nw wl cw P
  tab : TabAt nw tb
  cell1 : ∃ o : Obj, (c1, o) ∈ nw ∧ o.data = .cell (some (.ref wl))
  cell2 : ∃ o : Obj, (c2, o) ∈ nw ∧ o.data = .cell (some (.ref tb))
theorem LS.mono {nw nw' : List (Addr × Obj)} {c1 c2 wl cw tb : Addr} {P P' : Int} (h : LS nw c1 c2 wl cw tb P) (hs : ∀ p ∈ nw, p ∈ nw') (hP : P ≤ P') : LS nw' c1 c2 wl cw tb P' :=
  ⟨h.well.mono hs hP, h.tab.mono hs, let ⟨o, a, b⟩ := h.cell1; ⟨o, hs _ a, b⟩, let ⟨o, a, b⟩ := h.cell2; ⟨o, hs _ a, b⟩⟩
theorem LS.keep {cw : Addr} {h₀ h : Heap} {L : Addr} {nw nw' : List (Addr × Obj)} {c1 c2 wl tb e : Addr} {P P' : Int} (S : LS nw c1 c2 wl cw tb P) (N : News h₀ L h nw) (hw : HasWell nw' wl cw P') (k : Kept e nw nw') (ht : ∀ D x, (D, tupO x) ∈ nw → D ≠ e) (hl : ∀ (vs : List Value) (n : Nat), (tb, listOf vs.toArray n) ∈ nw → (∀ v ∈ vs, ∃ D, v = .ref D) → tb ≠ e) (hc : ∀ D (o : Obj) v, (D, o) ∈ nw → o.data = .cell v → D ≠ e) : LS nw' c1 c2 wl cw tb P' := by
  obtain ⟨o1, a1, b1⟩ := S.cell1
  obtain ⟨o2, a2, b2⟩ := S.cell2
  exact ⟨hw, S.tab.kept (h₀ := h₀) (h := h) (L := L) k ht hl, ⟨o1, k _ a1 (hc _ _ _ a1 b1), b1⟩, ⟨o2, k _ a2 (hc _ _ _ a2 b2), b2⟩⟩
theorem HasWell.ne_cell {cw : Addr} {h₀ h : Heap} {L : Addr} {news : List (Addr × Obj)} {wl D : Addr} {o : Obj} {B : Int} {v : Option Value} (hw : HasWell news wl cw B) (N : News h₀ L h news) (hD : (D, o) ∈ news) (hd : o.data = .cell v) : D ≠ wl := by
  obtain ⟨W, hW, hA⟩ := hw
  obtain ⟨vs, cells, nw', nc, p, x, tp, tx, rfl, h2, h3⟩ := hA.out
  exact ne_of_obj N hD hW (by rintro rfl; exact nomatch hd)
theorem LS.draw {h₀ h : Heap} {L : Addr} {nw nw' : List (Addr × Obj)} {c1 c2 wl cw tb : Addr} {P P' : Int} (S : LS nw c1 c2 wl cw tb P) (N : News h₀ L h nw) (hw : HasWell nw' wl cw P') (k : Kept wl nw nw') : LS nw' c1 c2 wl cw tb P' :=
  S.keep N hw k (fun D x hx => S.well.ne_tup N hx) (fun vs n a b => S.well.ne_list N a b) (fun D o v a b => S.well.ne_cell N a b)
theorem LS.dropI {h₀ h : Heap} {L : Addr} {nw : List (Addr × Obj)} {c1 c2 wl cw tb it : Addr} {ito : Obj} {fs : Array Value} {P : Int} (S : LS nw c1 c2 wl cw tb P) (N : News h₀ L h nw) (hi : (it, ito) ∈ nw) (hf : ito.data = .fields fs) : LS (drop it nw) c1 c2 wl cw tb P :=
  S.keep N (S.well.drop N hi hf) (fun p hp hn => drop_mem hp hn) (fun D x hx => ne_of_obj N hx hi (by rintro rfl; exact nomatch hf)) (fun vs n a _ => ne_of_obj N a hi (by rintro rfl; exact nomatch hf)) (fun D o v a b => ne_of_obj N a hi (by rintro rfl; rw [b] at hf; exact nomatch hf))
theorem HasWell.keptC {cw : Addr} {h₀ h : Heap} {L : Addr} {news news' : List (Addr × Obj)} {wl c : Addr} {o : Obj} {B : Int} {v : Option Value} (hw : HasWell news wl cw B) (N : News h₀ L h news) (hc : (c, o) ∈ news) (hd : o.data = .cell v) (k : Kept c news news') : HasWell news' wl cw B := by
  obtain ⟨W, hW, hA⟩ := hw
  obtain ⟨vs, cells, nw', nc, p, x, tp, tx, rfl, h2, h3⟩ := hA.out
  have hl : ∀ {D : Addr} {vs : List Value} {n : Nat}, (D, listOf vs.toArray n) ∈ news → D ≠ c := fun hx => ne_of_obj N hx hc (by rintro rfl; exact nomatch hd)
  exact ⟨_, k _ hW (hl hW), ⟨⟨vs, cells, nw', nc, p, x, tp, tx, rfl, k _ h2 (hl h2), h3⟩⟩⟩
theorem TabAt.keptC {h₀ h : Heap} {L : Addr} {news news' : List (Addr × Obj)} {tb c : Addr} {o : Obj} {v : Option Value} (t : TabAt news tb) (N : News h₀ L h news) (hc : (c, o) ∈ news) (hd : o.data = .cell v) (k : Kept c news news') : TabAt news' tb :=
  t.kept (h₀ := h₀) (h := h) (L := L) k (fun D x hx => ne_of_obj N hx hc (by rintro rfl; exact nomatch hd)) (fun vs n a _ => ne_of_obj N a hc (by rintro rfl; exact nomatch hd))
theorem HasWell.dr {nw : List (Addr × Obj)} {wl cw I C D : Addr} {B : Int} (h : HasWell nw wl cw B) (h1 : wl ≠ I ∧ wl ≠ C ∧ wl ≠ D) (h2 : cw ≠ I ∧ cw ≠ C ∧ cw ≠ D) : HasWell (dr I C D nw) wl cw B := by
  obtain ⟨W, hW, hA⟩ := h
  obtain ⟨vs', cells, nw', nc, p, x, tp, tx, rfl, h3, h4⟩ := hA.out
  exact ⟨_, dr_mem hW h1, ⟨⟨vs', cells, nw', nc, p, x, tp, tx, rfl, dr_mem h3 h2, h4⟩⟩⟩
theorem HasWell.both {news : List (Addr × Obj)} {wl cw : Addr} {B : Int} (h : HasWell news wl cw B) : (∃ o, (wl, o) ∈ news) ∧ ∃ o, (cw, o) ∈ news := by
  obtain ⟨W, hW, hA⟩ := h
  obtain ⟨vs', cells, nw', nc, p, x, tp, tx, rfl, h3, h4⟩ := hA.out
  exact ⟨⟨_, hW⟩, _, h3⟩
theorem bools_snoc {vs : List Value} {bs : List Bool} {b : Bool} (h : LSm.BoolsAre vs bs) : LSm.BoolsAre (vs ++ [.bool b]) (bs ++ [b]) := by
  induction h with
  | nil => exact .cons _ .nil
  | cons b' _ ih => exact .cons b' ih
section
variable {w : World} {mean : ExcName → Option Value} {mg mb : PySem.Str → Option Value} {dp un : Nat} {gd : Option (List Code)} {cn : PySem.Str} {cs : Scope} {a : Addr} {ccd : Value} {cl : List (PySem.Str × Addr)} {outer : List Env} {A₀ : Around} {base h₀ : Heap} {L : Addr} {m : PySem.Str → Option Value} {s : Shared} {Q E : Value → Shared → Prop} {news : List (Addr × Obj)}

theorem kw_WL_1 : True := by
  k_with_none
  k_with "call ref" => (k_here; refine Stop.out ?_)
  trivial
theorem elt_law {fa : Addr} {cdv : Value} (wl cw tb : Addr) (P : Int) (B : Below A₀ base outer h₀) (F : Fr h₀ L s.heap m) (X : (K w.params).In h₀) (T : Top vq lo mean mg mb h₀) (hk : cs.kind = .function) (hd : dp + 45 < recursionLimit) (hu : un + 450 < cLine)
    (p1 p2 p3 p4 : Pos) (m₂ : PySem.Str → Option Value) (C : Addr) (oC : Obj) (c1 c2 : Addr) (v : Value)
    (N : News h₀ L s.heap news) (hC : (C, oC) ∈ news) (hN : LCg.NsObj oC m₂) (hm : m₂ "turn" = some v) (S : LS news c1 c2 wl cw tb P) (hP0 : 0 ≤ P) (hP : P < 100000)
    (ret : ∀ news' h' tk', HasWell news' wl cw (P + 100) → Kept wl news news' → Fr h₀ L h' m → News h₀ L h' news' → Q (.bool true) { s with heap := h', toks := tk' }) :
    wpAny (model pr w) (ktrTop dp un gd cn cs L a ccd cl outer) (eval (.Call (.Name "_law_turned_right" p1) [.Name "well" p2, .Name "table" p3] [] p4) (compEnvC scT [("well", c1), ("table", c2)] C (envOfC "law" (fdS (stm 36)) L fa cdv))) Q E s := by
  obtain ⟨hw, ta, ⟨o1, a1, b1⟩, o2, a2, b2⟩ := S
  k_steps
  refine ⟨?_⟩
  exact turned_c wl tb P B (show Fr _ _ _ _ by assumption) X T hk (by omega) (by omega) (show News _ _ _ news by assumption) hw hP0 hP ta (fun news' h' tk' a b c d => ret news' h' tk' a b c d)
/-- the turns of the list of what was turned -/
theorem rest_law {fa : Addr} {cdv : Value} (n : Nat) (hn : n ≤ 8) (wl cw tb : Addr) (p1 p2 p3 p4 : Pos) (c1 c2 : Addr) (B : Below A₀ base outer h₀) (X : (K w.params).In h₀) (T : Top vq lo mean mg mb h₀) (hk : cs.kind = .function) (hd : dp + 45 < recursionLimit) (hu : un + 450 < cLine)
    (nw : List (Addr × Obj)) (S : LS nw c1 c2 wl cw tb 480) (Pv : Nat → Value → Prop)
    (Fin : List Value → List (Addr × Obj) → Prop) (fin : ∀ ys news', LSm.BoolsAre ys (List.replicate n true) → LS news' c1 c2 wl cw tb 2000 → Fin ys news') :
    LCg.CompRest pr w (ktrTop dp un gd cn cs L a ccd cl outer) h₀ L m (envOfC "law" (fdS (stm 36)) L fa cdv) (.Call (.Name "_law_turned_right" p1) [.Name "well" p2, .Name "table" p3] [] p4) "turn" scT [("well", c1), ("table", c2)] s (fun _ => True) Pv Fin n 0 [] nw := by
  have main : ∀ (k i : Nat) (ys : List Value) (news : List (Addr × Obj)), i + k = n → LSm.BoolsAre ys (List.replicate i true) → LS news c1 c2 wl cw tb (480 + 100 * (i : Int)) →
      LCg.CompRest pr w (ktrTop dp un gd cn cs L a ccd cl outer) h₀ L m (envOfC "law" (fdS (stm 36)) L fa cdv) (.Call (.Name "_law_turned_right" p1) [.Name "well" p2, .Name "table" p3] [] p4) "turn" scT [("well", c1), ("table", c2)] s (fun _ => True) Pv Fin k i ys news := by
    intro k
    induction k with
    | zero =>
      intro i ys news hi hb S
      obtain rfl : i = n := by omega
      exact .zero (fin ys news hb (S.mono (fun _ h => h) (by omega)))
    | succ k ih =>
      intro i ys news hi hb S
      refine .succ ?_
      rintro v I oI C oC D m₂ h tk E' hv hC hx F N off ne
      have up : ∀ p ∈ news, p ∈ (I, oI) :: (C, oC) :: (D, LCg.lst ys) :: news := fun p hp => .tail _ (.tail _ (.tail _ hp))
      have Nn : News h₀ L h news := fun p hp => N p (up p hp)
      obtain ⟨⟨W, hW⟩, V, hV⟩ := S.well.both
      have fw := off.mem _ hW
      have fc := off.mem _ hV
      refine elt_law wl cw tb (480 + 100 * (i : Int)) B F X T hk hd hu p1 p2 p3 p4 m₂ C oC c1 c2 v N (.tail _ (.head _)) hC hx (S.mono up (Int.le_refl _)) (by omega) (by omega) (fun nw9 h9 tk9 hw9 kp9 F9 N9 => ?_)
      have keep : Kept wl news (dr I C D nw9) := fun p hp hn => dr_mem (kp9 p (up p hp) hn) (off.mem p hp)
      refine LCg.CompEnd.intro F9 N9 (dr I C D nw9) (fun p hp => ?_) dr_off trivial (ih (i + 1) _ _ (by omega) ?_ ((S.draw Nn (hw9.dr fw fc) keep).mono (fun _ h => h) (by push_cast; omega)))
      · rcases List.mem_cons.mp hp with rfl | hp
        · exact kp9 _ (.head _) (Ne.symm fw.1)
        · rcases List.mem_cons.mp hp with rfl | hp
          · exact kp9 _ (.tail _ (.head _)) (Ne.symm fw.2.1)
          · rcases List.mem_cons.mp hp with rfl | hp
            · exact kp9 _ (.tail _ (.tail _ (.head _))) (Ne.symm fw.2.2)
            · exact dr_sub hp
      · rw [List.replicate_succ']
        exact bools_snoc hb
  exact main n 0 [] nw (by omega) .nil (S.mono (fun _ h => h) (by omega))
theorem kw_WL_2 : True := by
  k_with_none
  trivial
end
end Mine
end
section
open PySem PySem.W PyProof.Rows PySem.Spec PySem.Calls
set_option maxHeartbeats 400000
namespace Mine
section
variable {w : World} {mean : ExcName → Option Value} {mg mb : PySem.Str → Option Value} {dp un : Nat} {gd : Option (List Code)} {cn : PySem.Str} {cs : Scope} {a : Addr} {ccd : Value} {cl : List (PySem.Str × Addr)} {outer : List Env} {A₀ : Around} {base h₀ : Heap} {L : Addr} {m : PySem.Str → Option Value} {s : Shared} {Q E : Value → Shared → Prop} {news : List (Addr × Obj)}

theorem lcell_get {A : Around} {cs' : Scope} {cn' : PySem.Str} {a' : Addr} {ccd' : Value} {cl' : List (PySem.Str × Addr)} {pos : Pos} {c : Addr} {v : Value} {x : PySem.Str} (N : News h₀ L s.heap news) (hS : ∃ o : Obj, (c, o) ∈ news ∧ o.data = .cell (some v)) (hc : cl'.lookup x = some c) (h : Q v s)
    (hk : cs'.kind = .function := by rfl) (hx : (envX cn' cs' L a' ccd' cl').kindOf x = some .cell := by rfl) (hb : (x == ("__debug__" : PySem.Str)) = false := by decide) :
    wpAny (model pr w) A (eval (.Name x pos) (envX cn' cs' L a' ccd' cl')) Q E s := by
  obtain ⟨o, hm, hd⟩ := hS
  exact nameX_C N hc hm hd h hk hx hb
theorem lcell_set {A : Around} {Q : Unit → Shared → Prop} {cs' : Scope} {cn' : PySem.Str} {a' : Addr} {ccd' : Value} {cl' : List (PySem.Str × Addr)} {c : Addr} {v : Value} {v0 : Option Value} {x : PySem.Str} (F : Fr h₀ L s.heap m) (N : News h₀ L s.heap news) (hS : ∃ o : Obj, (c, o) ∈ news ∧ o.data = .cell v0) (hc : cl'.lookup x = some c)
    (h : ∀ h' news', Fr h₀ L h' m → News h₀ L h' news' → Kept c news news' → (∃ o : Obj, (c, o) ∈ news' ∧ o.data = .cell (some v)) → Q () { s with heap := h' })
    (hk : cs'.kind = .function := by rfl) (hx : (envX cn' cs' L a' ccd' cl').kindOf x = some .cell := by rfl) : wpAny (model pr w) A (storeName (envX cn' cs' L a' ccd' cl') x v) Q E s := by
  obtain ⟨o, hm, hd⟩ := hS
  exact storeX_C F (news_set N hm) hc upd_head hd (fun h' o' F' N' hd' => h h' _ F' N' kept_head ⟨o', .head _, hd'⟩) hk hx
theorem lcell_stop {A : Around} {Q : Unit → Shared → Prop} {cs' : Scope} {cn' : PySem.Str} {a' : Addr} {ccd' : Value} {cl' : List (PySem.Str × Addr)} {v : Value} {x : PySem.Str} (h : Stop (wpAny (model pr w) A (storeName (envX cn' cs' L a' ccd' cl') x v) Q E s)) (hx : (envX cn' cs' L a' ccd' cl').kindOf x = some .cell := by rfl) : wpAny (model pr w) A (storeName (envX cn' cs' L a' ccd' cl') x v) Q E s := h.out
theorem ne_self {A : Around} {n : Int} {t u : Tok} (h : Q (.bool false) s) : wpAny (model pr w) A (compareOp .NotEq (.int n t) (.int n u)) Q E s :=
  PyProof.Rows.ne_int (by simpa using h)
local macro_rules | `(tactic| lsm_bools) => `(tactic| assumption)
theorem kw_W27_1 : True := by
  k_with_none
  k_with "call ref" => (k_here; refine Stop.out ?_)
  k_with "compareOp NotEq int int" => (k_here; k_dflt (refine ne_self ?_))
  k_with "compareOp NotEq ref ref" => (k_here; k_dflt (refine' pair_ne ?zN ?z1 ?z2 ?f1 ?f2 ?zu ?_; (case zN => k_asm); (case z1 => k_mem); (case z2 => k_mem); (case f1 => exact FdAt.cons (by assumption)); (case f2 => exact FdAt.cons (by assumption)); (case zu => ktr_units)))
  k_with "pyIter ref" => (k_here; refine Stop.out ?_)
  k_with "eval ListComp" => (k_here; k_dflt (refine LCg.ListComp_U (F₀ := by k_asm) (by rfl) (by decide) (by rfl) (by decide) (by rfl) ?_))
  k_with "call type:range" => (k_here; k_dflt (refine' range1_rows ?zF ?zN ?_; (case zF => k_asm); (case zN => k_asm); intro _ _ _ _ _ _ _ _ _))
  k_with "CompSrc" => (k_here; k_dflt (refine LCg.CompSrc.range (n := 8) (by rfl) (by k_asm) (by k_asm) (by assumption) (by first | decide | rfl) (by first | rfl | decide) (by first | size_fits | exact Nat.le_of_ble_eq_true rfl) ?_); intro _)
  k_with "CompRest" => (k_here; refine Stop.out ?_)
  k_with "exec For" => (k_here; refine For_invTF (by k_asm) ?_ (fun _ => by rfl) (by assumption))
  k_with "exec For Name Name cons nil" => (k_here; k_dflt (refine For_invTF (by k_asm) ?_ (fun _ => by rfl) (by assumption)))
  k_with "eval Call" => (k_here; k_dflt (refine Call_ ?_))
  k_with "storeName" => (k_here; k_dflt (refine lcell_stop ?_ (by rfl)))
  k_with "eval Name" => (k_here; k_dflt (first | (refine' nameX_L ?zF ?zv ?_ ?za ?zb; (case zF => k_asm); (case za => rfl); (case zb => rfl); (case zv => first | rfl | assumption); k_whole) | (refine' lcell_get ?zN ?zS ?zc ?_ ?za ?zb; (case za => rfl); (case zb => rfl); (case zN => k_asm); (case zS => first | exact LS.cell1 (by assumption) | exact LS.cell1 (LS.mono (by assumption) (fun p hp => List.Mem.tail _ hp) (Int.le_refl _))); (case zc => rfl)) | (refine' lcell_get ?zN ?zS ?zc ?_ ?za ?zb; (case za => rfl); (case zb => rfl); (case zN => k_asm); (case zS => first | exact LS.cell2 (by assumption) | exact LS.cell2 (LS.mono (by assumption) (fun p hp => List.Mem.tail _ hp) (Int.le_refl _))); (case zc => rfl))))
  trivial
set_option maxHeartbeats 8000000 in
theorem law_body {fa : Addr} {cdv : Value} (sc : Addr) (its : List Value) (ns : List Int) (o1 o2 : Obj) (v1 v2 : Option Value) (B : Below A₀ base outer h₀)
    (F : Fr h₀ L s.heap m) (X : (K w.params).In h₀) (T : Top vq lo mean mg mb h₀) (hd : dp + 60 < recursionLimit) (hu : un + 500 < cLine)
    (N : News h₀ L s.heap [(L + 1 + 1, o2), (L + 1, o1)]) (d1 : o1.data = .cell v1) (d2 : o2.data = .cell v2) (hl : h₀.IsList sc its.toArray) (hi : IntsAre its ns) (hln : ns.length ≤ 63) (hms : m "script" = some (.ref sc)) (hO : outer = []) (XT : BaseOk w mean mg mb base) (hE : PassesOwn (model pr w) (ktrTop dp un gd "law" (fdS (stm 36)) L fa cdv (cellsFrom (L + 1) (fdS (stm 36)).names []) outer) (envOfC "law" (fdS (stm 36)) L fa cdv) E)
    {Qf : Flow → Shared → Prop} (ret : ∀ m' h' tk' news', Fr h₀ L h' m' → News h₀ L h' news' → Qf (.ret (.bool true)) { s with heap := h', toks := tk' }) :
    wpAny (model pr w) (ktrTop dp un gd "law" (fdS (stm 36)) L fa cdv (cellsFrom (L + 1) (fdS (stm 36)).names []) outer) (execs (fdB (stm 36)) (envOfC "law" (fdS (stm 36)) L fa cdv)) Qf E s := by
  k_steps
  refine ⟨?_⟩
  refine well_c sc its ns B F X T rfl (by omega) (by omega) N hl hi hln (fun wl cw nw1 h1 tk1 hw1 sub1 F1 N1 => ?_)
  clear F N
  k_steps
  refine ⟨?_⟩
  refine table_c B F1 X T rfl (by omega) (by omega) N1 (fun tb vs nn nw2 h2 tk2 mT rT sub2 F2 N2 => ?_)
  have hw2 := hw1.mono sub2 (Int.le_refl _)
  clear F1 N1
  k_steps
  rename_i Dt hDt lt hE Ft Nt
  have m1 : (L + 1, o1) ∈ (Dt, tupO [.ref wl, .ref tb]) :: nw2 := .tail _ (sub2 _ (sub1 _ (.tail _ (.head _))))
  have m2 : (L + 1 + 1, o2) ∈ (Dt, tupO [.ref wl, .ref tb]) :: nw2 := .tail _ (sub2 _ (sub1 _ (.head _)))
  have hwt := hw2.mono (news' := (Dt, tupO [.ref wl, .ref tb]) :: nw2) (fun p hp => .tail _ hp) (Int.le_refl _)
  have tat : TabAt ((Dt, tupO [.ref wl, .ref tb]) :: nw2) tb := ⟨vs, nn, .tail _ mT, rT.mono fun p hp => .tail _ hp⟩
  have hL12 : L + 1 + 1 ≠ L + 1 := Nat.succ_ne_self _
  refine ⟨?_⟩
  refine lcell_set Ft Nt ⟨o1, m1, d1⟩ (by rfl) (fun h3 nw3 F3 N3 kp3 c3 => ?_)
  have hw3 := hwt.keptC Nt m1 d1 kp3
  have ta3 := tat.keptC Nt m1 d1 kp3
  have m3 := kp3 _ m2 hL12
  clear Ft Nt hwt tat m1 m2 lt
  k_steps
  refine ⟨?_⟩
  refine lcell_set (show Fr _ _ _ _ by assumption) (show News _ _ _ nw3 by assumption) ⟨o2, m3, d2⟩ (by rfl) (fun h4 nw4 F4 N4 kp4 c4 => ?_)
  have hN3 : ∃ h, News h₀ L h nw3 := ⟨_, by assumption⟩
  obtain ⟨h3', N3'⟩ := hN3
  have ls : LS nw4 (L + 1) (L + 1 + 1) wl cw tb 0 := ⟨hw3.keptC N3' m3 d2 kp4, ta3.keptC N3' m3 d2 kp4, let ⟨o, a, b⟩ := c3; ⟨o, kp4 _ a hL12.symm, b⟩, c4⟩
  clear N3' kp4 c4 hw3 ta3 m3 kp3 c3
  k_steps
  obtain ⟨tvs, tn, mtb, rtb⟩ := ls.tab
  refine ⟨?_⟩
  refine iterL (fun i m₁ nw' => LS nw' (L + 1) (L + 1 + 1) wl cw tb ((i : Int) * 10) ∧ RowsAt nw' tvs rowsL) rfl mtb (show Fr _ _ _ _ by assumption) (show News _ _ _ nw4 by assumption) ?j0 ?turn ?done
  case j0 => exact ⟨ls.mono (fun _ h => h) (by omega), rtb⟩
  case turn =>
    clear ls rtb mtb hw2 rT mT vs ret
    rintro i v m₁ nw₁ s₁ it ito hv ⟨fs9, hfs⟩ hit hl9 ⟨ls, rows⟩ F₁ N₁
    obtain ⟨D, r, rfl, hri, ra⟩ := rows.get hv
    have hr := List.mem_of_getElem? hri
    have hi48 : i < 48 := (List.getElem?_eq_some_iff.mp hri).1
    have lsA := ls.mono (nw' := (it, ito) :: nw₁) (fun p hp => .tail _ hp) (Int.le_refl _)
    have raA := ra.monoT (news' := (it, ito) :: nw₁) fun D x hx => .tail _ hx
    have NA := N₁
    have itw : it ≠ wl := lsA.well.ne_fields NA (.head _) hfs
    have tbw : tb ≠ wl := lsA.well.ne_list NA (.tail _ hl9) rows.refs
    have neT : ∀ D x, (D, tupO x) ∈ nw₁ → D ≠ wl := fun D x hx => lsA.well.ne_tup NA (.tail _ hx)
    have kw : ∀ nwB P', HasWell nwB wl cw P' → Kept wl ((it, ito) :: nw₁) nwB → LS nwB (L + 1) (L + 1 + 1) wl cw tb P' ∧ RowAt nwB D r := fun nwB P' h k => ⟨lsA.draw NA h k, raA.kept lsA.well NA k⟩
    obtain ⟨u1, u2, u3, u4, u5, rmA⟩ := id raA
    clear NA
    k_steps
    refine ⟨?_⟩
    refine fields_c r.f _ rfl _ wl _ B (show Fr _ _ _ _ by assumption) X T rfl (by omega) (by omega) (show News _ _ _ ((it, ito) :: nw₁) by assumption) lsA.well (by omega) (fun d ks nwB hB tkB fl fd hwB kpB FB NB => ?_)
    obtain ⟨lsB, raB⟩ := kw _ _ hwB kpB
    obtain ⟨w1, w2, w3, w4, w5, rmB⟩ := id raB
    k_steps
    refine ⟨?_⟩
    refine laid_r r hr D d ks B (show Fr _ _ _ _ by assumption) X T rfl (by omega) (by omega) (show News _ _ _ nwB by assumption) raB fd fl (fun n t nwC hC tkC en b0 b1 subC FC NC => ?_)
    have lsC := lsB.mono subC (Int.le_refl _)
    have rmC := subC _ rmB
    have fdC := fd.mono subC
    k_steps
    refine ⟨?_⟩
    refine encode_c r hr d ks _ B (show Fr _ _ _ _ by assumption) X T rfl (by omega) (by omega) (show News _ _ _ nwC by assumption) fdC (fl_key fl).1 (fl_key fl).2 (fun z tz nwE hE' tkE ec subE FE NE => ?_)
    have ez := enc_laid hr fl ec
    rw [← en] at ez
    subst ez
    have lsE := lsC.mono subE (Int.le_refl _)
    have rmE := subE _ rmC
    have fdE := fdC.mono subE
    k_steps
    refine ⟨?_⟩
    refine decode_c r hr z _ B (show Fr _ _ _ _ by assumption) X T rfl (by omega) (by omega) (show News _ _ _ nwE by assumption) b0 b1 (fun x hx => name_one hr b0 b1 (by rw [en]; exact laid_one hr fl) hx) (fun D3 d3 t3 ks3 nwG hG tkG di mD3 fd3 subG FG NG => ?_)
    have ek := dec_read b0 b1 di
    rw [en, laid_read hr fl] at ek
    subst ek
    have lsG := lsE.mono subG (Int.le_refl _)
    have rmG := subG _ rmE
    have fdG := fdE.mono subG
    k_steps
    rename_i D8 hD8 F8 N8 l8
    have up : ∀ p ∈ nwB, p ∈ (D8, tupO [.str r.nm w1, .ref d]) :: nwG := fun p hp => .tail _ (subG p (subE p (subC p hp)))
    have itG := up _ (kpB _ (.head _) itw)
    refine TurnEnd.intro F8 N8 itG ⟨drop_mem (up _ (kpB _ (.tail _ hl9) tbw)) (hit _ hl9), ((lsG.mono (fun p hp => .tail _ hp) (Int.le_refl _)).dropI N8 itG hfs).mono (fun _ h => h) (by push_cast; omega), rows.monoT fun D x hx => drop_mem (up _ (kpB _ (.tail _ hx) (neT D x hx))) (hit _ hx)⟩
  case done =>
    rintro m₁ nw₁ h₁ tk₁ ⟨ls, rows⟩ F₁ N₁
    have hln : (tvs.length : Int) * 10 = 480 := by rw [rows.length]; rfl
    have ls' : LS nw₁ (L + 1) (L + 1 + 1) wl cw tb 480 := ls.mono (fun _ h => h) (by omega)
    clear ls rows
    k_steps
    refine ⟨?_⟩
    refine rest_law 8 (by decide) wl cw tb _ _ _ _ (L + 1) (L + 1 + 1) B X T rfl (by omega) (by omega) nw₁ ls' _ _ (fun ys news' hb _ => ?_)
    have hb' : LSm.BoolsAre ys [true, true, true, true, true, true, true, true] := hb
    clear hb
    unfold LCg.FinE
    intro D9 h9 tk9 F9 N9 o9
    k_steps
    refine ⟨?_⟩
    subst hO
    refine ill_c B (show Fr _ _ _ _ by assumption) X T XT rfl (by omega) (by omega) (show News _ _ _ _ by assumption) (fun nwZ hZ tkZ FZ NZ => ?_)
    k_steps
    exact ret _ _ _ _ FZ NZ
theorem kw_W27_2 : True := by
  k_with_none
  trivial
end
end Mine
end
section
open PySem PySem.W PyProof.Rows PySem.Spec PySem.Calls
set_option maxHeartbeats 0
namespace Mine
local macro_rules | `(tactic| k_qdec) => `(tactic| decide +kernel)
@[reducible] def kH {h₀ h : Heap} {L : Addr} {m : PySem.Str → Option Value} (_ : Fr h₀ L h m) : Heap := h₀
theorem hd_test (said : OpenLaw.wellSaid PySem.Challenge.rw_nm0007_01 = true) : PySem.Challenge.rw_nm0007_01.Holds := by
  refine holds_law said fun said => ?_
  refine holds_open (q := vq) (loose := loose) (Xt := Xt) (XP := XL vq []) (Yf := Hook.obs HK) (Ya := Hook.val HK) (YP := Hook.says HK) (N := 16738) left_ (Hook.of HK) (Hook.keeps HK) (fun s e => xl_of s (Bool.and_eq_true_iff.mp e).1) XL.keeps (by rfl) (by rfl) (by rfl) (fun s e => recFacts_of (Bool.and_eq_true_iff.mp e).2) (by rfl) (by assumption) (by decide +kernel) ⟨rfl, rfl, rfl, rfl, rfl, by decide +kernel⟩ ?hw ?hc
  case hw => w_witness2
  case hc =>
    k_go0
    rename_i w2 w1 dl dr N0 X0
    (with_reducible rename Below _ _ _ _ => K0)
    (with_reducible rename Fr _ _ _ _ => F)
    (with_reducible rename Frag.In _ _ => KX)
    (with_reducible rename Top _ _ _ _ _ _ => T)
    (with_reducible rename Heap.IsList _ _ _ => hL)
    (with_reducible rename IntsAre _ _ => hI)
    (with_reducible rename ¬ _ => hcond)
    have K1 : Below callerA (kH F) [] (kH F) := K0
    refine' law_body _ _ _ _ _ _ _ ?K0 ?F ?KX ?T ?hd ?hu ?N0 ?d1 ?d2 ?hL ?hI ?hc ?hm ?hO ?XT ?hE ?ret
    case F => exact F
    case KX => exact KX
    case T => exact T
    case K0 => exact K1
    case N0 => exact N0
    case d1 => exact dr
    case d2 => exact dl
    case hL => exact hL
    case hI => exact hI
    case hc => exact Nat.le_of_not_lt fun e => hcond (by exact_mod_cast e)
    case hm => rfl
    case hO => rfl
    case XT => exact ⟨KX, T⟩
    case hd => decide +kernel
    case hu => decide +kernel
    case hE => passes_own
    case ret =>
      intro m' h' tk' news' F' N'
      k_steps
      all_goals (try k_data)
      all_goals w_report
end Mine
end
theorem PySem.Challenge.cw_nm0007_01_holds : PySem.Challenge.rw_nm0007_01.Holds := by
  exact Mine.hd_test (by decide +kernel)
