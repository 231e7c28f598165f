import PyProof.Rows.All
import Wide.All
import OpenK.AllK
import Wide.FinOn
import PySem.Challenge.RW_pq0390_01
set_option Elab.async false
set_option maxRecDepth 100000
set_option linter.unusedVariables false
set_option linter.all false
set_option maxHeartbeats 4000000
set_option compiler.extract_closed false
open PySem PySem.W PyProof.Rows
namespace Kx
/-- a def's parameters, body and scope, by its place in the text -/
noncomputable def fnAt (i : Nat) : Option (Arguments × List Stmt × Scope) := match PySem.Challenge.pw_pq0390_01.main.body[i]? with
  | some (.FunctionDef _ a b _ _ _ c _ _ _) => some (a, b, c)
  | _ => none
noncomputable def methAt (i j : Nat) : Option (Arguments × List Stmt × Scope) := match PySem.Challenge.pw_pq0390_01.main.body[i]? with
  | some (.ClassDef _ _ _ l _ _ _ _ _ _ _) => (match l[j]? with
      | some (.FunctionDef _ a b _ _ _ c _ _ _) => some (a, b, c)
      | _ => none)
  | _ => none
noncomputable def fnOb (x : Option (Arguments × List Stmt × Scope)) {a : Arguments} {b : List Stmt} {c : Scope} (_ : x = some (a, b, c)) (nm qn : Str) (pm : Value) (cd : Addr) : Obj :=
  Obj.mk (.type "function") none (.func (.mk nm qn a (.stmts b) c 3 [] .none .none .none pm none (.ref cd) .none 0)) #[]
noncomputable def heapK : Params → Frag := fun P =>
(nat_lit 2, .mk .none none (.dict (#[.mk (PyData.keyHash P "type.__subclasses__.Exception.0") (.str "type.__subclasses__.Exception.0" 214) (.int 31 0),.mk (PyData.keyHash P "type.__subclasses__.Exception.n") (.str "type.__subclasses__.Exception.n" 215) (.int 1 0)]) 2) #[]) ::
(nat_lit 3, .mk (.type "dict") none (.dict (List.toArray (.mk (PyData.keyHash P "__name__") (.str "__name__" 165) (.str "law_pq0390_01" 388) :: .mk (PyData.keyHash P "__doc__") (.str "__doc__" 166) .none :: .mk (PyData.keyHash P "__package__") (.str "__package__" 167) .none :: .mk (PyData.keyHash P "__loader__") (.str "__loader__" 168) (.builtin "__main__.__loader__#\x6fpaque") :: .mk (PyData.keyHash P "__spec__") (.str "__spec__" 169) .none :: .mk (PyData.keyHash P "__annotations__") (.str "__annotations__" 170) (.ref 6) :: .mk (PyData.keyHash P "__builtins__") (.str "__builtins__" 171) (.ref 4) :: .mk (PyData.keyHash P "__file__") (.str "__file__" 173) (.str "/claim/cut.py" 172) :: .mk (PyData.keyHash P "__cached__") (.str "__cached__" 174) .none :: .mk (PyData.keyHash P "MachineFault") (.str "MachineFault" 217) (.ref 31) :: .mk (PyData.keyHash P "LANES") (.str "LANES" 221) (.int 25 220) :: .mk (PyData.keyHash P "SIDE") (.str "SIDE" 223) (.int 5 222) :: .mk (PyData.keyHash P "MOST_LANE") (.str "MOST_LANE" 225) (.int 64 224) :: .mk (PyData.keyHash P "RATE") (.str "RATE" 227) (.int 136 226) :: .mk (PyData.keyHash P "SIZE") (.str "SIZE" 229) (.int 32 228) :: .mk (PyData.keyHash P "FIRST_PAD") (.str "FIRST_PAD" 231) (.int 1 230) :: .mk (PyData.keyHash P "LAST_PAD") (.str "LAST_PAD" 233) (.int 128 232) :: .mk (PyData.keyHash P "FEEDBACK") (.str "FEEDBACK" 235) (.int 369 234) :: .mk (PyData.keyHash P "logarithm") (.str "logarithm" 243) (.ref 41) :: .mk (PyData.keyHash P "rotations") (.str "rotations" 255) (.ref 48) :: .mk (PyData.keyHash P "round_words") (.str "round_words" 268) (.ref 55) :: .mk (PyData.keyHash P "Sponge") (.str "Sponge" 332) (.ref 96) :: .mk (PyData.keyHash P "padded_octets") (.str "padded_octets" 342) (.ref 107) :: .mk (PyData.keyHash P "keccak256") (.str "keccak256" 349) (.ref 114) :: .mk (PyData.keyHash P "Keccak") (.str "Keccak" 387) (.ref 138) :: .mk (PyData.keyHash P "_law_turns") (.str "_law_turns" 415) (.ref 148) :: .mk (PyData.keyHash P "_law_laid_on") (.str "_law_laid_on" 421) (.ref 155) :: .mk (PyData.keyHash P "_law_rounds") (.str "_law_rounds" 443) (.ref 156) :: .mk (PyData.keyHash P "_law_widths") (.str "_law_widths" 449) (.ref 163) :: .mk (PyData.keyHash P "_law_no_widths") (.str "_law_no_widths" 455) (.ref 170) :: .mk (PyData.keyHash P "_law_lengths") (.str "_law_lengths" 461) (.ref 177) :: .mk (PyData.keyHash P "_law_draw") (.str "_law_draw" 470) (.ref 184) :: .mk (PyData.keyHash P "_law_lanes") (.str "_law_lanes" 482) (.ref 191) :: .mk (PyData.keyHash P "_law_by_bits") (.str "_law_by_bits" 488) (.ref 196) :: .mk (PyData.keyHash P "_law_by_lanes") (.str "_law_by_lanes" 507) (.ref 203) :: .mk (PyData.keyHash P "_law_permuted") (.str "_law_permuted" 513) (.ref 208) :: .mk (PyData.keyHash P "_law_absorbed") (.str "_law_absorbed" 531) (.ref 215) :: .mk (PyData.keyHash P "_law_text") (.str "_law_text" 537) (.ref 220) :: .mk (PyData.keyHash P "_law_sponge") (.str "_law_sponge" 544) (.ref 227) :: .mk (PyData.keyHash P "_law_is_permuted_right") (.str "_law_is_permuted_right" 556) (.ref 234) :: .mk (PyData.keyHash P "_law_is_absorbed_right") (.str "_law_is_absorbed_right" 571) (.ref 241) :: .mk (PyData.keyHash P "_law_is_hashed_right") (.str "_law_is_hashed_right" 583) (.ref 248) :: .mk (PyData.keyHash P "law") (.str "law" 589) (.ref 253) :: [])) 43) #[]) ::
(nat_lit 15, .mk (.type "tuple") none (.seq (#[.type "Exception"]) 0) #[]) ::
(nat_lit 22, .mk (.type "tuple") none (.seq #[] 0) #[]) ::
(nat_lit 24, .mk (.type "tuple") none (.seq (#[.str "self" 204,.str "word" 205]) 0) #[]) ::
(nat_lit 25, .mk (.type "tuple") none (.seq #[] 0) #[]) ::
(nat_lit 27, .mk (.type "code") none (.fields (List.toArray (.str "__init__" 201 :: .str "MachineFault.__init__" 202 :: .str "/claim/cut.py" 203 :: .int 4 0 :: .int 2 0 :: .int 0 0 :: .int 0 0 :: .int 3 0 :: .ref 22 :: .bool true :: .int 181 0 :: .ref 23 :: .none :: .ref 24 :: .ref 25 :: .ref 26 :: .int 206 0 :: .int 4 0 :: .str "/claim/cut.py" 207 :: []))) #[]) ::
(nat_lit 28, fnOb (methAt 1 0) rfl "__init__" "MachineFault.__init__" (.str "gasledger.errors" 187) 27) ::
(nat_lit 29, .mk (.type "tuple") none (.seq (#[.str "word" 209]) 0) #[]) ::
(nat_lit 30, .mk (.type "dict") none (.dict (#[.mk (PyData.keyHash P "__module__") (.str "__module__" 196) (.str "gasledger.errors" 187),.mk (PyData.keyHash P "__firstlineno__") (.str "__firstlineno__" 200) (.int 2 199),.mk (PyData.keyHash P "__init__") (.str "__init__" 208) (.ref 28),.mk (PyData.keyHash P "__static_attributes__") (.str "__static_attributes__" 210) (.ref 29),.mk (PyData.keyHash P "__weakref__") (.str "__weakref__" 212) (.ref 32),.mk (PyData.keyHash P "__doc__") (.str "__doc__" 213) .none]) 3) #[]) ::
(nat_lit 31, .mk (.type "type") none (.cls (.mk "MachineFault" [.type "Exception"] [.ref 31,.type "Exception",.type "BaseException",.type "object"] 30 "MachineFault" true [] [] false none false)) (#[some (.ref 15),none,some (.str "MachineFault" 189),some (.str "MachineFault" 197),some (.builtin "Exception.__new__"),some (.bool true)])) ::
(nat_lit 32, .mk (.type "getset_descriptor") none (.fields (#[.str "__weakref__" 211,.ref 31,.builtin "ExceptionGroup.__weakref__",.none])) #[]) ::
(nat_lit 35, .mk (.type "tuple") none (.seq #[] 0) #[]) ::
(nat_lit 37, .mk (.type "tuple") none (.seq (#[.str "lane" 239,.str "found" 240]) 0) #[]) ::
(nat_lit 38, .mk (.type "tuple") none (.seq #[] 0) #[]) ::
(nat_lit 40, .mk (.type "code") none (.fields (List.toArray (.str "logarithm" 236 :: .str "logarithm" 237 :: .str "/claim/cut.py" 238 :: .int 16 0 :: .int 1 0 :: .int 0 0 :: .int 0 0 :: .int 3 0 :: .ref 35 :: .bool true :: .int 181 0 :: .ref 36 :: .none :: .ref 37 :: .ref 38 :: .ref 39 :: .int 241 0 :: .int 16 0 :: .str "/claim/cut.py" 242 :: []))) #[]) ::
(nat_lit 41, fnOb (fnAt 11) rfl "logarithm" "logarithm" (.str "gasledger.keccak" 218) 40) ::
(nat_lit 42, .mk (.type "tuple") none (.seq #[] 0) #[]) ::
(nat_lit 44, .mk (.type "tuple") none (.seq (#[.str "lane" 247,.str "found" 248,.str "x" 249,.str "y" 250,.str "number" 251,.str "later" 252]) 0) #[]) ::
(nat_lit 45, .mk (.type "tuple") none (.seq #[] 0) #[]) ::
(nat_lit 47, .mk (.type "code") none (.fields (List.toArray (.str "rotations" 244 :: .str "rotations" 245 :: .str "/claim/cut.py" 246 :: .int 21 0 :: .int 1 0 :: .int 0 0 :: .int 0 0 :: .int 3 0 :: .ref 42 :: .bool true :: .int 181 0 :: .ref 43 :: .none :: .ref 44 :: .ref 45 :: .ref 46 :: .int 253 0 :: .int 21 0 :: .str "/claim/cut.py" 254 :: []))) #[]) ::
(nat_lit 48, fnOb (fnAt 12) rfl "rotations" "rotations" (.str "gasledger.keccak" 218) 47) ::
(nat_lit 49, .mk (.type "tuple") none (.seq #[] 0) #[]) ::
(nat_lit 51, .mk (.type "tuple") none (.seq (#[.str "length" 259,.str "rounds" 260,.str "found" 261,.str "register" 262,.str "number" 263,.str "word" 264,.str "place" 265]) 0) #[]) ::
(nat_lit 52, .mk (.type "tuple") none (.seq #[] 0) #[]) ::
(nat_lit 54, .mk (.type "code") none (.fields (List.toArray (.str "round_words" 256 :: .str "round_words" 257 :: .str "/claim/cut.py" 258 :: .int 29 0 :: .int 2 0 :: .int 0 0 :: .int 0 0 :: .int 3 0 :: .ref 49 :: .bool true :: .int 181 0 :: .ref 50 :: .none :: .ref 51 :: .ref 52 :: .ref 53 :: .int 266 0 :: .int 29 0 :: .str "/claim/cut.py" 267 :: []))) #[]) ::
(nat_lit 55, fnOb (fnAt 13) rfl "round_words" "round_words" (.str "gasledger.keccak" 218) 54) ::
(nat_lit 63, .mk (.type "tuple") none (.seq #[] 0) #[]) ::
(nat_lit 65, .mk (.type "tuple") none (.seq (#[.str "self" 284,.str "lane" 285,.str "length" 286]) 0) #[]) ::
(nat_lit 66, .mk (.type "tuple") none (.seq #[] 0) #[]) ::
(nat_lit 68, .mk (.type "code") none (.fields (List.toArray (.str "__init__" 281 :: .str "Sponge.__init__" 282 :: .str "/claim/cut.py" 283 :: .int 43 0 :: .int 2 0 :: .int 0 0 :: .int 0 0 :: .int 3 0 :: .ref 63 :: .bool true :: .int 181 0 :: .ref 64 :: .none :: .ref 65 :: .ref 66 :: .ref 67 :: .int 287 0 :: .int 43 0 :: .str "/claim/cut.py" 288 :: []))) #[]) ::
(nat_lit 69, fnOb (methAt 14 0) rfl "__init__" "Sponge.__init__" (.str "gasledger.keccak" 218) 68) ::
(nat_lit 70, .mk (.type "tuple") none (.seq #[] 0) #[]) ::
(nat_lit 72, .mk (.type "tuple") none (.seq (#[.str "self" 293,.str "word" 294,.str "by" 295]) 0) #[]) ::
(nat_lit 73, .mk (.type "tuple") none (.seq #[] 0) #[]) ::
(nat_lit 75, .mk (.type "code") none (.fields (List.toArray (.str "turned" 290 :: .str "Sponge.turned" 291 :: .str "/claim/cut.py" 292 :: .int 50 0 :: .int 3 0 :: .int 0 0 :: .int 0 0 :: .int 3 0 :: .ref 70 :: .bool true :: .int 181 0 :: .ref 71 :: .none :: .ref 72 :: .ref 73 :: .ref 74 :: .int 296 0 :: .int 50 0 :: .str "/claim/cut.py" 297 :: []))) #[]) ::
(nat_lit 76, fnOb (methAt 14 1) rfl "turned" "Sponge.turned" (.str "gasledger.keccak" 218) 75) ::
(nat_lit 77, .mk (.type "tuple") none (.seq #[] 0) #[]) ::
(nat_lit 80, .mk (.type "code") none (.fields (List.toArray (.str "mixed" 299 :: .str "Sponge.mixed" 300 :: .str "/claim/cut.py" 301 :: .int 53 0 :: .int 2 0 :: .int 0 0 :: .int 0 0 :: .int 3 0 :: .ref 77 :: .bool true :: .int 181 0 :: .ref 78 :: .none :: .none :: .none :: .ref 79 :: .int 302 0 :: .int 53 0 :: .str "/claim/cut.py" 303 :: []))) #[]) ::
(nat_lit 81, fnOb (methAt 14 2) rfl "mixed" "Sponge.mixed" (.str "gasledger.keccak" 218) 80) ::
(nat_lit 82, .mk (.type "tuple") none (.seq #[] 0) #[]) ::
(nat_lit 84, .mk (.type "tuple") none (.seq (#[.str "self" 308,.str "lanes" 309,.str "found" 310,.str "word" 311]) 0) #[]) ::
(nat_lit 85, .mk (.type "tuple") none (.seq #[] 0) #[]) ::
(nat_lit 87, .mk (.type "code") none (.fields (List.toArray (.str "permuted" 305 :: .str "Sponge.permuted" 306 :: .str "/claim/cut.py" 307 :: .int 67 0 :: .int 2 0 :: .int 0 0 :: .int 0 0 :: .int 3 0 :: .ref 82 :: .bool true :: .int 181 0 :: .ref 83 :: .none :: .ref 84 :: .ref 85 :: .ref 86 :: .int 312 0 :: .int 67 0 :: .str "/claim/cut.py" 313 :: []))) #[]) ::
(nat_lit 88, fnOb (methAt 14 3) rfl "permuted" "Sponge.permuted" (.str "gasledger.keccak" 218) 87) ::
(nat_lit 89, .mk (.type "tuple") none (.seq #[] 0) #[]) ::
(nat_lit 92, .mk (.type "code") none (.fields (List.toArray (.str "absorbed" 315 :: .str "Sponge.absorbed" 316 :: .str "/claim/cut.py" 317 :: .int 74 0 :: .int 5 0 :: .int 0 0 :: .int 0 0 :: .int 3 0 :: .ref 89 :: .bool true :: .int 181 0 :: .ref 90 :: .none :: .none :: .none :: .ref 91 :: .int 318 0 :: .int 74 0 :: .str "/claim/cut.py" 319 :: []))) #[]) ::
(nat_lit 93, fnOb (methAt 14 4) rfl "absorbed" "Sponge.absorbed" (.str "gasledger.keccak" 218) 92) ::
(nat_lit 94, .mk (.type "tuple") none (.seq (#[.str "lane" 321,.str "mask" 322,.str "turns" 323,.str "words" 324]) 0) #[]) ::
(nat_lit 95, .mk (.type "dict") none (.dict (#[.mk (PyData.keyHash P "__module__") (.str "__module__" 276) (.str "gasledger.keccak" 218),.mk (PyData.keyHash P "__firstlineno__") (.str "__firstlineno__" 280) (.int 41 279),.mk (PyData.keyHash P "__init__") (.str "__init__" 289) (.ref 69),.mk (PyData.keyHash P "turned") (.str "turned" 298) (.ref 76),.mk (PyData.keyHash P "mixed") (.str "mixed" 304) (.ref 81),.mk (PyData.keyHash P "permuted") (.str "permuted" 314) (.ref 88),.mk (PyData.keyHash P "absorbed") (.str "absorbed" 320) (.ref 93),.mk (PyData.keyHash P "__static_attributes__") (.str "__static_attributes__" 325) (.ref 94),.mk (PyData.keyHash P "__dict__") (.str "__dict__" 327) (.ref 97),.mk (PyData.keyHash P "__weakref__") (.str "__weakref__" 329) (.ref 98),.mk (PyData.keyHash P "__doc__") (.str "__doc__" 330) .none]) 4) #[]) ::
(nat_lit 96, .mk (.type "type") none (.cls (.mk "Sponge" [.type "object"] [.ref 96,.type "object"] 95 "Sponge" true [] [] false none false)) (#[none,none,some (.str "Sponge" 269),some (.str "Sponge" 277),some (.builtin "object.__new__"),some (.bool true)])) ::
(nat_lit 97, .mk (.type "getset_descriptor") none (.fields (#[.str "__dict__" 326,.ref 96,.builtin "function.__dict__",.builtin "function.__dict__#set"])) #[]) ::
(nat_lit 98, .mk (.type "getset_descriptor") none (.fields (#[.str "__weakref__" 328,.ref 96,.builtin "ExceptionGroup.__weakref__",.none])) #[]) ::
(nat_lit 101, .mk (.type "tuple") none (.seq #[] 0) #[]) ::
(nat_lit 103, .mk (.type "tuple") none (.seq (#[.str "octets" 336,.str "rate" 337,.str "pad" 338,.str "found" 339]) 0) #[]) ::
(nat_lit 104, .mk (.type "tuple") none (.seq #[] 0) #[]) ::
(nat_lit 106, .mk (.type "code") none (.fields (List.toArray (.str "padded_octets" 333 :: .str "padded_octets" 334 :: .str "/claim/cut.py" 335 :: .int 90 0 :: .int 3 0 :: .int 0 0 :: .int 0 0 :: .int 3 0 :: .ref 101 :: .bool true :: .int 181 0 :: .ref 102 :: .none :: .ref 103 :: .ref 104 :: .ref 105 :: .int 340 0 :: .int 90 0 :: .str "/claim/cut.py" 341 :: []))) #[]) ::
(nat_lit 107, fnOb (fnAt 15) rfl "padded_octets" "padded_octets" (.str "gasledger.keccak" 218) 106) ::
(nat_lit 108, .mk (.type "tuple") none (.seq #[] 0) #[]) ::
(nat_lit 110, .mk (.type "tuple") none (.seq (#[.str "octets" 346]) 0) #[]) ::
(nat_lit 111, .mk (.type "tuple") none (.seq #[] 0) #[]) ::
(nat_lit 113, .mk (.type "code") none (.fields (List.toArray (.str "keccak256" 343 :: .str "keccak256" 344 :: .str "/claim/cut.py" 345 :: .int 97 0 :: .int 1 0 :: .int 0 0 :: .int 0 0 :: .int 3 0 :: .ref 108 :: .bool true :: .int 181 0 :: .ref 109 :: .none :: .ref 110 :: .ref 111 :: .ref 112 :: .int 347 0 :: .int 97 0 :: .str "/claim/cut.py" 348 :: []))) #[]) ::
(nat_lit 114, fnOb (fnAt 16) rfl "keccak256" "keccak256" (.str "gasledger.keccak" 218) 113) ::
(nat_lit 122, .mk (.type "tuple") none (.seq #[] 0) #[]) ::
(nat_lit 124, .mk (.type "tuple") none (.seq (#[.str "self" 367]) 0) #[]) ::
(nat_lit 125, .mk (.type "tuple") none (.seq #[] 0) #[]) ::
(nat_lit 127, .mk (.type "code") none (.fields (List.toArray (.str "__init__" 364 :: .str "Keccak.__init__" 365 :: .str "/claim/cut.py" 366 :: .int 102 0 :: .int 1 0 :: .int 0 0 :: .int 0 0 :: .int 3 0 :: .ref 122 :: .bool true :: .int 181 0 :: .ref 123 :: .none :: .ref 124 :: .ref 125 :: .ref 126 :: .int 368 0 :: .int 102 0 :: .str "/claim/cut.py" 369 :: []))) #[]) ::
(nat_lit 128, fnOb (methAt 18 0) rfl "__init__" "Keccak.__init__" (.str "gasledger.digests" 350) 127) ::
(nat_lit 129, .mk (.type "tuple") none (.seq #[] 0) #[]) ::
(nat_lit 131, .mk (.type "tuple") none (.seq (#[.str "self" 374,.str "octets" 375]) 0) #[]) ::
(nat_lit 132, .mk (.type "tuple") none (.seq #[] 0) #[]) ::
(nat_lit 134, .mk (.type "code") none (.fields (List.toArray (.str "of" 371 :: .str "Keccak.of" 372 :: .str "/claim/cut.py" 373 :: .int 105 0 :: .int 2 0 :: .int 0 0 :: .int 0 0 :: .int 3 0 :: .ref 129 :: .bool true :: .int 181 0 :: .ref 130 :: .none :: .ref 131 :: .ref 132 :: .ref 133 :: .int 376 0 :: .int 105 0 :: .str "/claim/cut.py" 377 :: []))) #[]) ::
(nat_lit 135, fnOb (methAt 18 1) rfl "of" "Keccak.of" (.str "gasledger.digests" 350) 134) ::
(nat_lit 136, .mk (.type "tuple") none (.seq (#[.str "sponge" 379]) 0) #[]) ::
(nat_lit 137, .mk (.type "dict") none (.dict (#[.mk (PyData.keyHash P "__module__") (.str "__module__" 359) (.str "gasledger.digests" 350),.mk (PyData.keyHash P "__firstlineno__") (.str "__firstlineno__" 363) (.int 100 362),.mk (PyData.keyHash P "__init__") (.str "__init__" 370) (.ref 128),.mk (PyData.keyHash P "of") (.str "of" 378) (.ref 135),.mk (PyData.keyHash P "__static_attributes__") (.str "__static_attributes__" 380) (.ref 136),.mk (PyData.keyHash P "__dict__") (.str "__dict__" 382) (.ref 139),.mk (PyData.keyHash P "__weakref__") (.str "__weakref__" 384) (.ref 140),.mk (PyData.keyHash P "__doc__") (.str "__doc__" 385) .none]) 4) #[]) ::
(nat_lit 138, .mk (.type "type") none (.cls (.mk "Keccak" [.type "object"] [.ref 138,.type "object"] 137 "Keccak" true [] [] false none false)) (#[none,none,some (.str "Keccak" 352),some (.str "Keccak" 360),some (.builtin "object.__new__"),some (.bool true)])) ::
(nat_lit 139, .mk (.type "getset_descriptor") none (.fields (#[.str "__dict__" 381,.ref 138,.builtin "function.__dict__",.builtin "function.__dict__#set"])) #[]) ::
(nat_lit 140, .mk (.type "getset_descriptor") none (.fields (#[.str "__weakref__" 383,.ref 138,.builtin "ExceptionGroup.__weakref__",.none])) #[]) ::
(nat_lit 143, .mk (.type "list") none (.seq (#[.int 0 390,.int 36 391,.int 3 392,.int 41 393,.int 18 394]) 0) #[]) ::
(nat_lit 144, .mk (.type "list") none (.seq (#[.int 1 395,.int 44 396,.int 10 397,.int 45 398,.int 2 399]) 0) #[]) ::
(nat_lit 145, .mk (.type "list") none (.seq (#[.int 62 400,.int 6 401,.int 43 402,.int 15 403,.int 61 404]) 0) #[]) ::
(nat_lit 146, .mk (.type "list") none (.seq (#[.int 28 405,.int 55 406,.int 25 407,.int 21 408,.int 56 409]) 0) #[]) ::
(nat_lit 147, .mk (.type "list") none (.seq (#[.int 27 410,.int 20 411,.int 39 412,.int 8 413,.int 14 414]) 0) #[]) ::
(nat_lit 148, .mk (.type "list") none (.seq (#[.ref 143,.ref 144,.ref 145,.ref 146,.ref 147]) 0) #[]) ::
(nat_lit 149, .mk (.type "tuple") none (.seq #[] 0) #[]) ::
(nat_lit 151, .mk (.type "tuple") none (.seq #[] 0) #[]) ::
(nat_lit 152, .mk (.type "tuple") none (.seq #[] 0) #[]) ::
(nat_lit 154, .mk (.type "code") none (.fields (List.toArray (.str "_law_laid_on" 416 :: .str "_law_laid_on" 417 :: .str "/claim/cut.py" 418 :: .int 109 0 :: .int 0 0 :: .int 0 0 :: .int 0 0 :: .int 3 0 :: .ref 149 :: .bool true :: .int 181 0 :: .ref 150 :: .none :: .ref 151 :: .ref 152 :: .ref 153 :: .int 419 0 :: .int 109 0 :: .str "/claim/cut.py" 420 :: []))) #[]) ::
(nat_lit 155, fnOb (fnAt 21) rfl "_law_laid_on" "_law_laid_on" (.str "law_pq0390_01" 388) 154) ::
(nat_lit 156, .mk (.type "dict") none (.dict (#[.mk 1 (.int 1 422) (.int 12 423),.mk 2 (.int 2 424) (.int 14 425),.mk 4 (.int 4 426) (.int 16 427),.mk 8 (.int 8 428) (.int 18 429),.mk 16 (.int 16 430) (.int 20 431),.mk 32 (.int 32 432) (.int 22 433),.mk 64 (.int 64 434) (.int 24 435)]) 7) #[]) ::
(nat_lit 157, .mk (.type "tuple") none (.seq #[] 0) #[]) ::
(nat_lit 159, .mk (.type "tuple") none (.seq #[] 0) #[]) ::
(nat_lit 160, .mk (.type "tuple") none (.seq #[] 0) #[]) ::
(nat_lit 162, .mk (.type "code") none (.fields (List.toArray (.str "_law_widths" 444 :: .str "_law_widths" 445 :: .str "/claim/cut.py" 446 :: .int 112 0 :: .int 0 0 :: .int 0 0 :: .int 0 0 :: .int 3 0 :: .ref 157 :: .bool true :: .int 181 0 :: .ref 158 :: .none :: .ref 159 :: .ref 160 :: .ref 161 :: .int 447 0 :: .int 112 0 :: .str "/claim/cut.py" 448 :: []))) #[]) ::
(nat_lit 163, fnOb (fnAt 23) rfl "_law_widths" "_law_widths" (.str "law_pq0390_01" 388) 162) ::
(nat_lit 164, .mk (.type "tuple") none (.seq #[] 0) #[]) ::
(nat_lit 166, .mk (.type "tuple") none (.seq #[] 0) #[]) ::
(nat_lit 167, .mk (.type "tuple") none (.seq #[] 0) #[]) ::
(nat_lit 169, .mk (.type "code") none (.fields (List.toArray (.str "_law_no_widths" 450 :: .str "_law_no_widths" 451 :: .str "/claim/cut.py" 452 :: .int 114 0 :: .int 0 0 :: .int 0 0 :: .int 0 0 :: .int 3 0 :: .ref 164 :: .bool true :: .int 181 0 :: .ref 165 :: .none :: .ref 166 :: .ref 167 :: .ref 168 :: .int 453 0 :: .int 114 0 :: .str "/claim/cut.py" 454 :: []))) #[]) ::
(nat_lit 170, fnOb (fnAt 24) rfl "_law_no_widths" "_law_no_widths" (.str "law_pq0390_01" 388) 169) ::
(nat_lit 171, .mk (.type "tuple") none (.seq #[] 0) #[]) ::
(nat_lit 173, .mk (.type "tuple") none (.seq #[] 0) #[]) ::
(nat_lit 174, .mk (.type "tuple") none (.seq #[] 0) #[]) ::
(nat_lit 176, .mk (.type "code") none (.fields (List.toArray (.str "_law_lengths" 456 :: .str "_law_lengths" 457 :: .str "/claim/cut.py" 458 :: .int 116 0 :: .int 0 0 :: .int 0 0 :: .int 0 0 :: .int 3 0 :: .ref 171 :: .bool true :: .int 181 0 :: .ref 172 :: .none :: .ref 173 :: .ref 174 :: .ref 175 :: .int 459 0 :: .int 116 0 :: .str "/claim/cut.py" 460 :: []))) #[]) ::
(nat_lit 177, fnOb (fnAt 25) rfl "_law_lengths" "_law_lengths" (.str "law_pq0390_01" 388) 176) ::
(nat_lit 178, .mk (.type "tuple") none (.seq #[] 0) #[]) ::
(nat_lit 180, .mk (.type "tuple") none (.seq (#[.str "well" 465,.str "size" 466,.str "gotten" 467]) 0) #[]) ::
(nat_lit 181, .mk (.type "tuple") none (.seq #[] 0) #[]) ::
(nat_lit 183, .mk (.type "code") none (.fields (List.toArray (.str "_law_draw" 462 :: .str "_law_draw" 463 :: .str "/claim/cut.py" 464 :: .int 118 0 :: .int 2 0 :: .int 0 0 :: .int 0 0 :: .int 3 0 :: .ref 178 :: .bool true :: .int 181 0 :: .ref 179 :: .none :: .ref 180 :: .ref 181 :: .ref 182 :: .int 468 0 :: .int 118 0 :: .str "/claim/cut.py" 469 :: []))) #[]) ::
(nat_lit 184, fnOb (fnAt 26) rfl "_law_draw" "_law_draw" (.str "law_pq0390_01" 388) 183) ::
(nat_lit 185, .mk (.type "tuple") none (.seq #[] 0) #[]) ::
(nat_lit 187, .mk (.type "tuple") none (.seq (#[.str "well" 474,.str "wide_by" 475,.str "way" 476,.str "seed" 477,.str "found" 478,.str "turn" 479]) 0) #[]) ::
(nat_lit 188, .mk (.type "tuple") none (.seq #[] 0) #[]) ::
(nat_lit 190, .mk (.type "code") none (.fields (List.toArray (.str "_law_lanes" 471 :: .str "_law_lanes" 472 :: .str "/claim/cut.py" 473 :: .int 123 0 :: .int 2 0 :: .int 0 0 :: .int 0 0 :: .int 3 0 :: .ref 185 :: .bool true :: .int 181 0 :: .ref 186 :: .none :: .ref 187 :: .ref 188 :: .ref 189 :: .int 480 0 :: .int 123 0 :: .str "/claim/cut.py" 481 :: []))) #[]) ::
(nat_lit 191, fnOb (fnAt 27) rfl "_law_lanes" "_law_lanes" (.str "law_pq0390_01" 388) 190) ::
(nat_lit 192, .mk (.type "tuple") none (.seq #[] 0) #[]) ::
(nat_lit 195, .mk (.type "code") none (.fields (List.toArray (.str "_law_by_bits" 483 :: .str "_law_by_bits" 484 :: .str "/claim/cut.py" 485 :: .int 134 0 :: .int 2 0 :: .int 0 0 :: .int 0 0 :: .int 3 0 :: .ref 192 :: .bool true :: .int 181 0 :: .ref 193 :: .none :: .none :: .none :: .ref 194 :: .int 486 0 :: .int 134 0 :: .str "/claim/cut.py" 487 :: []))) #[]) ::
(nat_lit 196, fnOb (fnAt 28) rfl "_law_by_bits" "_law_by_bits" (.str "law_pq0390_01" 388) 195) ::
(nat_lit 197, .mk (.type "tuple") none (.seq #[] 0) #[]) ::
(nat_lit 199, .mk (.type "tuple") none (.seq (#[.str "wide_by" 492,.str "lanes" 493,.str "size" 494,.str "now" 495,.str "number_on" 496,.str "columns" 497,.str "later" 498,.str "x" 499,.str "y" 500,.str "other" 501,.str "by" 502,.str "one" 503,.str "third" 504]) 0) #[]) ::
(nat_lit 200, .mk (.type "tuple") none (.seq #[] 0) #[]) ::
(nat_lit 202, .mk (.type "code") none (.fields (List.toArray (.str "_law_by_lanes" 489 :: .str "_law_by_lanes" 490 :: .str "/claim/cut.py" 491 :: .int 154 0 :: .int 2 0 :: .int 0 0 :: .int 0 0 :: .int 3 0 :: .ref 197 :: .bool true :: .int 181 0 :: .ref 198 :: .none :: .ref 199 :: .ref 200 :: .ref 201 :: .int 505 0 :: .int 154 0 :: .str "/claim/cut.py" 506 :: []))) #[]) ::
(nat_lit 203, fnOb (fnAt 29) rfl "_law_by_lanes" "_law_by_lanes" (.str "law_pq0390_01" 388) 202) ::
(nat_lit 204, .mk (.type "tuple") none (.seq #[] 0) #[]) ::
(nat_lit 207, .mk (.type "code") none (.fields (List.toArray (.str "_law_permuted" 508 :: .str "_law_permuted" 509 :: .str "/claim/cut.py" 510 :: .int 172 0 :: .int 3 0 :: .int 0 0 :: .int 0 0 :: .int 3 0 :: .ref 204 :: .bool true :: .int 181 0 :: .ref 205 :: .none :: .none :: .none :: .ref 206 :: .int 511 0 :: .int 172 0 :: .str "/claim/cut.py" 512 :: []))) #[]) ::
(nat_lit 208, fnOb (fnAt 30) rfl "_law_permuted" "_law_permuted" (.str "law_pq0390_01" 388) 207) ::
(nat_lit 209, .mk (.type "tuple") none (.seq #[] 0) #[]) ::
(nat_lit 211, .mk (.type "tuple") none (.seq (#[.str "sponge" 517,.str "octets_wide" 518,.str "octets" 519,.str "rate" 520,.str "many" 521,.str "first" 522,.str "octets_in" 523,.str "held" 524,.str "told_octets" 525,.str "place" 526,.str "octet" 527,.str "begin" 528]) 0) #[]) ::
(nat_lit 212, .mk (.type "tuple") none (.seq #[] 0) #[]) ::
(nat_lit 214, .mk (.type "code") none (.fields (List.toArray (.str "_law_absorbed" 514 :: .str "_law_absorbed" 515 :: .str "/claim/cut.py" 516 :: .int 180 0 :: .int 6 0 :: .int 0 0 :: .int 0 0 :: .int 3 0 :: .ref 209 :: .bool true :: .int 181 0 :: .ref 210 :: .none :: .ref 211 :: .ref 212 :: .ref 213 :: .int 529 0 :: .int 180 0 :: .str "/claim/cut.py" 530 :: []))) #[]) ::
(nat_lit 215, fnOb (fnAt 31) rfl "_law_absorbed" "_law_absorbed" (.str "law_pq0390_01" 388) 214) ::
(nat_lit 216, .mk (.type "tuple") none (.seq #[] 0) #[]) ::
(nat_lit 219, .mk (.type "code") none (.fields (List.toArray (.str "_law_text" 532 :: .str "_law_text" 533 :: .str "/claim/cut.py" 534 :: .int 194 0 :: .int 2 0 :: .int 0 0 :: .int 0 0 :: .int 3 0 :: .ref 216 :: .bool true :: .int 181 0 :: .ref 217 :: .none :: .none :: .none :: .ref 218 :: .int 535 0 :: .int 194 0 :: .str "/claim/cut.py" 536 :: []))) #[]) ::
(nat_lit 220, fnOb (fnAt 32) rfl "_law_text" "_law_text" (.str "law_pq0390_01" 388) 219) ::
(nat_lit 221, .mk (.type "tuple") none (.seq #[] 0) #[]) ::
(nat_lit 223, .mk (.type "tuple") none (.seq (#[.str "wide_by" 541]) 0) #[]) ::
(nat_lit 224, .mk (.type "tuple") none (.seq #[] 0) #[]) ::
(nat_lit 226, .mk (.type "code") none (.fields (List.toArray (.str "_law_sponge" 538 :: .str "_law_sponge" 539 :: .str "/claim/cut.py" 540 :: .int 197 0 :: .int 1 0 :: .int 0 0 :: .int 0 0 :: .int 3 0 :: .ref 221 :: .bool true :: .int 181 0 :: .ref 222 :: .none :: .ref 223 :: .ref 224 :: .ref 225 :: .int 542 0 :: .int 197 0 :: .str "/claim/cut.py" 543 :: []))) #[]) ::
(nat_lit 227, fnOb (fnAt 33) rfl "_law_sponge" "_law_sponge" (.str "law_pq0390_01" 388) 226) ::
(nat_lit 228, .mk (.type "tuple") none (.seq #[] 0) #[]) ::
(nat_lit 230, .mk (.type "tuple") none (.seq (#[.str "well" 548,.str "wide_by" 549,.str "sponge" 550,.str "lanes" 551,.str "handed" 552,.str "due" 553]) 0) #[]) ::
(nat_lit 231, .mk (.type "tuple") none (.seq #[] 0) #[]) ::
(nat_lit 233, .mk (.type "code") none (.fields (List.toArray (.str "_law_is_permuted_right" 545 :: .str "_law_is_permuted_right" 546 :: .str "/claim/cut.py" 547 :: .int 202 0 :: .int 1 0 :: .int 0 0 :: .int 0 0 :: .int 3 0 :: .ref 228 :: .bool true :: .int 181 0 :: .ref 229 :: .none :: .ref 230 :: .ref 231 :: .ref 232 :: .int 554 0 :: .int 202 0 :: .str "/claim/cut.py" 555 :: []))) #[]) ::
(nat_lit 234, fnOb (fnAt 34) rfl "_law_is_permuted_right" "_law_is_permuted_right" (.str "law_pq0390_01" 388) 233) ::
(nat_lit 235, .mk (.type "tuple") none (.seq #[] 0) #[]) ::
(nat_lit 237, .mk (.type "tuple") none (.seq (#[.str "well" 560,.str "wide_by" 561,.str "sponge" 562,.str "rate" 563,.str "many" 564,.str "first" 565,.str "octets" 566,.str "is_let" 567,.str "found" 568]) 0) #[]) ::
(nat_lit 238, .mk (.type "tuple") none (.seq #[] 0) #[]) ::
(nat_lit 240, .mk (.type "code") none (.fields (List.toArray (.str "_law_is_absorbed_right" 557 :: .str "_law_is_absorbed_right" 558 :: .str "/claim/cut.py" 559 :: .int 212 0 :: .int 1 0 :: .int 0 0 :: .int 0 0 :: .int 3 0 :: .ref 235 :: .bool true :: .int 181 0 :: .ref 236 :: .none :: .ref 237 :: .ref 238 :: .ref 239 :: .int 569 0 :: .int 212 0 :: .str "/claim/cut.py" 570 :: []))) #[]) ::
(nat_lit 241, fnOb (fnAt 35) rfl "_law_is_absorbed_right" "_law_is_absorbed_right" (.str "law_pq0390_01" 388) 240) ::
(nat_lit 242, .mk (.type "tuple") none (.seq #[] 0) #[]) ::
(nat_lit 244, .mk (.type "tuple") none (.seq (#[.str "well" 575,.str "pick_here" 576,.str "is_object" 577,.str "many" 578,.str "octets" 579,.str "found" 580]) 0) #[]) ::
(nat_lit 245, .mk (.type "tuple") none (.seq #[] 0) #[]) ::
(nat_lit 247, .mk (.type "code") none (.fields (List.toArray (.str "_law_is_hashed_right" 572 :: .str "_law_is_hashed_right" 573 :: .str "/claim/cut.py" 574 :: .int 225 0 :: .int 1 0 :: .int 0 0 :: .int 0 0 :: .int 3 0 :: .ref 242 :: .bool true :: .int 181 0 :: .ref 243 :: .none :: .ref 244 :: .ref 245 :: .ref 246 :: .int 581 0 :: .int 225 0 :: .str "/claim/cut.py" 582 :: []))) #[]) ::
(nat_lit 248, fnOb (fnAt 36) rfl "_law_is_hashed_right" "_law_is_hashed_right" (.str "law_pq0390_01" 388) 247) ::
(nat_lit 249, .mk (.type "tuple") none (.seq #[] 0) #[]) ::
(nat_lit 252, .mk (.type "code") none (.fields (List.toArray (.str "law" 584 :: .str "law" 585 :: .str "/claim/cut.py" 586 :: .int 231 0 :: .int 1 0 :: .int 0 0 :: .int 0 0 :: .int 3 0 :: .ref 249 :: .bool true :: .int 181 0 :: .ref 250 :: .none :: .none :: .none :: .ref 251 :: .int 587 0 :: .int 231 0 :: .str "/claim/cut.py" 588 :: []))) #[]) ::
(nat_lit 253, fnOb (fnAt 37) rfl "law" "law" (.str "law_pq0390_01" 388) 252) :: []
theorem keysK (P : Params) : (nat_lit 2 :: nat_lit 3 :: nat_lit 15 :: nat_lit 22 :: nat_lit 24 :: nat_lit 25 :: nat_lit 27 :: nat_lit 28 :: nat_lit 29 :: nat_lit 30 :: nat_lit 31 :: nat_lit 32 :: nat_lit 35 :: nat_lit 37 :: nat_lit 38 :: nat_lit 40 :: nat_lit 41 :: nat_lit 42 :: nat_lit 44 :: nat_lit 45 :: nat_lit 47 :: nat_lit 48 :: nat_lit 49 :: nat_lit 51 :: nat_lit 52 :: nat_lit 54 :: nat_lit 55 :: nat_lit 63 :: nat_lit 65 :: nat_lit 66 :: nat_lit 68 :: nat_lit 69 :: nat_lit 70 :: nat_lit 72 :: nat_lit 73 :: nat_lit 75 :: nat_lit 76 :: nat_lit 77 :: nat_lit 80 :: nat_lit 81 :: nat_lit 82 :: nat_lit 84 :: nat_lit 85 :: nat_lit 87 :: nat_lit 88 :: nat_lit 89 :: nat_lit 92 :: nat_lit 93 :: nat_lit 94 :: nat_lit 95 :: nat_lit 96 :: nat_lit 97 :: nat_lit 98 :: nat_lit 101 :: nat_lit 103 :: nat_lit 104 :: nat_lit 106 :: nat_lit 107 :: nat_lit 108 :: nat_lit 110 :: nat_lit 111 :: nat_lit 113 :: nat_lit 114 :: nat_lit 122 :: nat_lit 124 :: nat_lit 125 :: nat_lit 127 :: nat_lit 128 :: nat_lit 129 :: nat_lit 131 :: nat_lit 132 :: nat_lit 134 :: nat_lit 135 :: nat_lit 136 :: nat_lit 137 :: nat_lit 138 :: nat_lit 139 :: nat_lit 140 :: nat_lit 143 :: nat_lit 144 :: nat_lit 145 :: nat_lit 146 :: nat_lit 147 :: nat_lit 148 :: nat_lit 149 :: nat_lit 151 :: nat_lit 152 :: nat_lit 154 :: nat_lit 155 :: nat_lit 156 :: nat_lit 157 :: nat_lit 159 :: nat_lit 160 :: nat_lit 162 :: nat_lit 163 :: nat_lit 164 :: nat_lit 166 :: nat_lit 167 :: nat_lit 169 :: nat_lit 170 :: nat_lit 171 :: nat_lit 173 :: nat_lit 174 :: nat_lit 176 :: nat_lit 177 :: nat_lit 178 :: nat_lit 180 :: nat_lit 181 :: nat_lit 183 :: nat_lit 184 :: nat_lit 185 :: nat_lit 187 :: nat_lit 188 :: nat_lit 190 :: nat_lit 191 :: nat_lit 192 :: nat_lit 195 :: nat_lit 196 :: nat_lit 197 :: nat_lit 199 :: nat_lit 200 :: nat_lit 202 :: nat_lit 203 :: nat_lit 204 :: nat_lit 207 :: nat_lit 208 :: nat_lit 209 :: nat_lit 211 :: nat_lit 212 :: nat_lit 214 :: nat_lit 215 :: nat_lit 216 :: nat_lit 219 :: nat_lit 220 :: nat_lit 221 :: nat_lit 223 :: nat_lit 224 :: nat_lit 226 :: nat_lit 227 :: nat_lit 228 :: nat_lit 230 :: nat_lit 231 :: nat_lit 233 :: nat_lit 234 :: nat_lit 235 :: nat_lit 237 :: nat_lit 238 :: nat_lit 240 :: nat_lit 241 :: nat_lit 242 :: nat_lit 244 :: nat_lit 245 :: nat_lit 247 :: nat_lit 248 :: nat_lit 249 :: nat_lit 252 :: nat_lit 253 :: []) = (heapK P).map (·.1) := by kernel_rfl
noncomputable def lawView : Program := view PySem.Challenge.pw_pq0390_01 [37]
noncomputable def looseNames : List Str := (["MachineFault","LANES","SIDE","MOST_LANE","RATE","SIZE","FIRST_PAD","LAST_PAD","FEEDBACK","logarithm","rotations","round_words","Sponge","padded_octets","keccak256","Keccak","_law_turns","_law_laid_on","_law_rounds","_law_widths","_law_no_widths","_law_lengths","_law_draw","_law_lanes","_law_by_bits","_law_by_lanes","_law_permuted","_law_absorbed","_law_text","_law_sponge","_law_is_permuted_right","_law_is_absorbed_right","_law_is_hashed_right"] : List String).map Str.ofString
noncomputable abbrev lawRow : RowW := PySem.Challenge.rw_pq0390_01.row.toRowW
noncomputable abbrev lawHook : Hook := kHook heapK _ keysK
set_option maxHeartbeats 0
theorem said : PySem.Challenge.rw_pq0390_01.wellSaid = true := by
  with_reducible unfold OpenLaw.wellSaid OpenRow.wellSaid OpenRow.partSaid looksOpen
  repeat' (with_reducible refine look_both ?_ ?_)
  all_goals decide +kernel
noncomputable def fnTm (x : Option (Arguments × List Stmt × Scope)) {a : Arguments} {b : List Stmt} {c : Scope} (_ : x = some (a, b, c)) (nm qn : Str) : Obj :=
  Obj.mk .none none (.func (.mk nm qn a (.stmts b) c 0 [] .none .none .none .none none .none .none 0)) #[]
noncomputable def ob0 (P : Params) : Obj := .mk (.type "tuple") none (.seq #[] 0) #[]
noncomputable def ob1 (P : Params) : Obj := .mk .none none (.fields #[]) #[]
noncomputable def ob2 (P : Params) : Obj := .mk (.type "code") none (.fields (List.toArray (.str "<module>" 182 :: .str "<module>" 183 :: .str "/claim/cut.py" 184 :: .int 1 0 :: .int 0 0 :: .int 0 0 :: .int 0 0 :: .int 0 0 :: .ref 11 :: .bool false :: .int 181 0 :: .ref 12 :: .none :: .none :: .none :: .none :: .int 185 0 :: .int 1 0 :: .str "/claim/cut.py" 186 :: []))) #[]
noncomputable def ob3 (P : Params) : Obj := .mk (.type "frame") none .plain (#[some (.ref 13),some (.ref 3),some (.ref 3),none,some (.str "__main__" 164),none,some (.ref 0)])
noncomputable def ob4 (P : Params) : Obj := .mk .none none (.dict (#[.mk (PyData.keyHash P "type.__subclasses__.Exception.0") (.str "type.__subclasses__.Exception.0" 214) (.int 31 0),.mk (PyData.keyHash P "type.__subclasses__.Exception.n") (.str "type.__subclasses__.Exception.n" 215) (.int 1 0)]) 2) #[]
noncomputable def ob5 (P : Params) : Obj := .mk (.type "dict") none (.dict (List.toArray (.mk (PyData.keyHash P "__name__") (.str "__name__" 165) (.str "gasledger.keccak" 218) :: .mk (PyData.keyHash P "__doc__") (.str "__doc__" 166) .none :: .mk (PyData.keyHash P "__package__") (.str "__package__" 167) .none :: .mk (PyData.keyHash P "__loader__") (.str "__loader__" 168) (.builtin "__main__.__loader__#\x6fpaque") :: .mk (PyData.keyHash P "__spec__") (.str "__spec__" 169) .none :: .mk (PyData.keyHash P "__annotations__") (.str "__annotations__" 170) (.ref 6) :: .mk (PyData.keyHash P "__builtins__") (.str "__builtins__" 171) (.ref 4) :: .mk (PyData.keyHash P "__file__") (.str "__file__" 173) (.str "/claim/cut.py" 172) :: .mk (PyData.keyHash P "__cached__") (.str "__cached__" 174) .none :: .mk (PyData.keyHash P "MachineFault") (.str "MachineFault" 217) (.ref 31) :: .mk (PyData.keyHash P "LANES") (.str "LANES" 221) (.int 25 220) :: .mk (PyData.keyHash P "SIDE") (.str "SIDE" 223) (.int 5 222) :: .mk (PyData.keyHash P "MOST_LANE") (.str "MOST_LANE" 225) (.int 64 224) :: .mk (PyData.keyHash P "RATE") (.str "RATE" 227) (.int 136 226) :: .mk (PyData.keyHash P "SIZE") (.str "SIZE" 229) (.int 32 228) :: .mk (PyData.keyHash P "FIRST_PAD") (.str "FIRST_PAD" 231) (.int 1 230) :: .mk (PyData.keyHash P "LAST_PAD") (.str "LAST_PAD" 233) (.int 128 232) :: .mk (PyData.keyHash P "FEEDBACK") (.str "FEEDBACK" 235) (.int 369 234) :: .mk (PyData.keyHash P "logarithm") (.str "logarithm" 243) (.ref 41) :: .mk (PyData.keyHash P "rotations") (.str "rotations" 255) (.ref 48) :: .mk (PyData.keyHash P "round_words") (.str "round_words" 268) (.ref 55) :: [])) 21) #[]
noncomputable def ob6 (P : Params) : Obj := .mk .none none (.fields (#[.int 2 0,.int 0 0,.ref 20,.int 16 0,.int 0 0,.ref 40,.int 21 0,.int 0 0,.ref 47,.int 29 0,.int 0 0,.ref 54])) #[]
noncomputable def ob7 (P : Params) : Obj := .mk (.type "tuple") none (.seq (#[.type "Exception"]) 0) #[]
noncomputable def ob8 (P : Params) : Obj := .mk (.type "builtin_function_or_method") none (.fields (#[.builtin "type.__prepare__",.type "type"])) #[]
noncomputable def ob9 (P : Params) : Obj := .mk (.type "dict") none (.dict (#[.mk (PyData.keyHash P "__module__") (.str "__module__" 196) (.str "gasledger.errors" 187),.mk (PyData.keyHash P "__qualname__") (.str "__qualname__" 198) (.str "MachineFault" 197),.mk (PyData.keyHash P "__firstlineno__") (.str "__firstlineno__" 200) (.int 2 199),.mk (PyData.keyHash P "__init__") (.str "__init__" 208) (.ref 28),.mk (PyData.keyHash P "__static_attributes__") (.str "__static_attributes__" 210) (.ref 29)]) 5) #[]
noncomputable def ob10 (P : Params) : Obj := .mk (.type "tuple") none (.seq #[] 0) #[]
noncomputable def ob11 (P : Params) : Obj := .mk .none none (.fields (#[.int 4 0,.int 4 0,.ref 27])) #[]
noncomputable def ob12 (P : Params) : Obj := .mk (.type "code") none (.fields (List.toArray (.str "MachineFault" 191 :: .str "MachineFault" 192 :: .str "/claim/cut.py" 193 :: .int 2 0 :: .int 0 0 :: .int 0 0 :: .int 0 0 :: .int 0 0 :: .ref 18 :: .bool false :: .int 181 0 :: .ref 19 :: .none :: .none :: .none :: .none :: .int 194 0 :: .int 2 0 :: .str "/claim/cut.py" 195 :: []))) #[]
noncomputable def ob13 (P : Params) : Obj := .mk (.type "frame") none .plain (#[some (.ref 20),some (.ref 3),some (.ref 17),none,some (.str "gasledger.errors" 187),none,some (.ref 0)])
noncomputable def ob14 (P : Params) : Obj := .mk (.type "tuple") none (.seq #[] 0) #[]
noncomputable def ob15 (P : Params) : Obj := .mk .none none (.fields #[]) #[]
noncomputable def ob16 (P : Params) : Obj := .mk (.type "tuple") none (.seq (#[.str "self" 204,.str "word" 205]) 0) #[]
noncomputable def ob17 (P : Params) : Obj := .mk (.type "tuple") none (.seq #[] 0) #[]
noncomputable def ob18 (P : Params) : Obj := fnTm (methAt 1 0) rfl "__init__" "MachineFault.__init__"
noncomputable def ob19 (P : Params) : Obj := .mk (.type "code") none (.fields (List.toArray (.str "__init__" 201 :: .str "MachineFault.__init__" 202 :: .str "/claim/cut.py" 203 :: .int 4 0 :: .int 2 0 :: .int 0 0 :: .int 0 0 :: .int 3 0 :: .ref 22 :: .bool true :: .int 181 0 :: .ref 23 :: .none :: .ref 24 :: .ref 25 :: .ref 26 :: .int 206 0 :: .int 4 0 :: .str "/claim/cut.py" 207 :: []))) #[]
noncomputable def ob20 (P : Params) : Obj := fnOb (methAt 1 0) rfl "__init__" "MachineFault.__init__" (.str "gasledger.errors" 187) 27
noncomputable def ob21 (P : Params) : Obj := .mk (.type "tuple") none (.seq (#[.str "word" 209]) 0) #[]
noncomputable def ob22 (P : Params) : Obj := .mk (.type "dict") none (.dict (#[.mk (PyData.keyHash P "__module__") (.str "__module__" 196) (.str "gasledger.errors" 187),.mk (PyData.keyHash P "__firstlineno__") (.str "__firstlineno__" 200) (.int 2 199),.mk (PyData.keyHash P "__init__") (.str "__init__" 208) (.ref 28),.mk (PyData.keyHash P "__static_attributes__") (.str "__static_attributes__" 210) (.ref 29),.mk (PyData.keyHash P "__weakref__") (.str "__weakref__" 212) (.ref 32),.mk (PyData.keyHash P "__doc__") (.str "__doc__" 213) .none]) 3) #[]
noncomputable def ob23 (P : Params) : Obj := .mk (.type "type") none (.cls (.mk "MachineFault" [.type "Exception"] [.ref 31,.type "Exception",.type "BaseException",.type "object"] 30 "MachineFault" true [] [] false none false)) (#[some (.ref 15),none,some (.str "MachineFault" 189),some (.str "MachineFault" 197),some (.builtin "Exception.__new__"),some (.bool true)])
noncomputable def ob24 (P : Params) : Obj := .mk (.type "getset_descriptor") none (.fields (#[.str "__weakref__" 211,.ref 31,.builtin "ExceptionGroup.__weakref__",.none])) #[]
noncomputable def ob25 (P : Params) : Obj := .mk (.type "super") none (.fields (#[.ref 31,.ref 31,.ref 31])) #[]
noncomputable def ob26 (P : Params) : Obj := .mk (.type "builtin_function_or_method") none (.fields (#[.builtin "object.__init_subclass__",.ref 31])) #[]
noncomputable def ob27 (P : Params) : Obj := .mk (.type "tuple") none (.seq #[] 0) #[]
noncomputable def ob28 (P : Params) : Obj := .mk .none none (.fields #[]) #[]
noncomputable def ob29 (P : Params) : Obj := .mk (.type "tuple") none (.seq (#[.str "lane" 239,.str "found" 240]) 0) #[]
noncomputable def ob30 (P : Params) : Obj := .mk (.type "tuple") none (.seq #[] 0) #[]
noncomputable def ob31 (P : Params) : Obj := fnTm (fnAt 11) rfl "logarithm" "logarithm"
noncomputable def ob32 (P : Params) : Obj := .mk (.type "code") none (.fields (List.toArray (.str "logarithm" 236 :: .str "logarithm" 237 :: .str "/claim/cut.py" 238 :: .int 16 0 :: .int 1 0 :: .int 0 0 :: .int 0 0 :: .int 3 0 :: .ref 35 :: .bool true :: .int 181 0 :: .ref 36 :: .none :: .ref 37 :: .ref 38 :: .ref 39 :: .int 241 0 :: .int 16 0 :: .str "/claim/cut.py" 242 :: []))) #[]
noncomputable def ob33 (P : Params) : Obj := fnOb (fnAt 11) rfl "logarithm" "logarithm" (.str "gasledger.keccak" 218) 40
noncomputable def ob34 (P : Params) : Obj := .mk (.type "tuple") none (.seq #[] 0) #[]
noncomputable def ob35 (P : Params) : Obj := .mk .none none (.fields #[]) #[]
noncomputable def ob36 (P : Params) : Obj := .mk (.type "tuple") none (.seq (#[.str "lane" 247,.str "found" 248,.str "x" 249,.str "y" 250,.str "number" 251,.str "later" 252]) 0) #[]
noncomputable def ob37 (P : Params) : Obj := .mk (.type "tuple") none (.seq #[] 0) #[]
noncomputable def ob38 (P : Params) : Obj := fnTm (fnAt 12) rfl "rotations" "rotations"
noncomputable def ob39 (P : Params) : Obj := .mk (.type "code") none (.fields (List.toArray (.str "rotations" 244 :: .str "rotations" 245 :: .str "/claim/cut.py" 246 :: .int 21 0 :: .int 1 0 :: .int 0 0 :: .int 0 0 :: .int 3 0 :: .ref 42 :: .bool true :: .int 181 0 :: .ref 43 :: .none :: .ref 44 :: .ref 45 :: .ref 46 :: .int 253 0 :: .int 21 0 :: .str "/claim/cut.py" 254 :: []))) #[]
noncomputable def ob40 (P : Params) : Obj := fnOb (fnAt 12) rfl "rotations" "rotations" (.str "gasledger.keccak" 218) 47
noncomputable def ob41 (P : Params) : Obj := .mk (.type "tuple") none (.seq #[] 0) #[]
noncomputable def ob42 (P : Params) : Obj := .mk .none none (.fields #[]) #[]
noncomputable def ob43 (P : Params) : Obj := .mk (.type "tuple") none (.seq (#[.str "length" 259,.str "rounds" 260,.str "found" 261,.str "register" 262,.str "number" 263,.str "word" 264,.str "place" 265]) 0) #[]
noncomputable def ob44 (P : Params) : Obj := .mk (.type "tuple") none (.seq #[] 0) #[]
noncomputable def ob45 (P : Params) : Obj := fnTm (fnAt 13) rfl "round_words" "round_words"
noncomputable def ob46 (P : Params) : Obj := .mk (.type "code") none (.fields (List.toArray (.str "round_words" 256 :: .str "round_words" 257 :: .str "/claim/cut.py" 258 :: .int 29 0 :: .int 2 0 :: .int 0 0 :: .int 0 0 :: .int 3 0 :: .ref 49 :: .bool true :: .int 181 0 :: .ref 50 :: .none :: .ref 51 :: .ref 52 :: .ref 53 :: .int 266 0 :: .int 29 0 :: .str "/claim/cut.py" 267 :: []))) #[]
noncomputable def ob47 (P : Params) : Obj := fnOb (fnAt 13) rfl "round_words" "round_words" (.str "gasledger.keccak" 218) 54
noncomputable def ob48 (P : Params) : Obj := .mk (.type "dict") none (.dict (List.toArray (.mk (PyData.keyHash P "__name__") (.str "__name__" 165) (.str "gasledger.keccak" 218) :: .mk (PyData.keyHash P "__doc__") (.str "__doc__" 166) .none :: .mk (PyData.keyHash P "__package__") (.str "__package__" 167) .none :: .mk (PyData.keyHash P "__loader__") (.str "__loader__" 168) (.builtin "__main__.__loader__#\x6fpaque") :: .mk (PyData.keyHash P "__spec__") (.str "__spec__" 169) .none :: .mk (PyData.keyHash P "__annotations__") (.str "__annotations__" 170) (.ref 6) :: .mk (PyData.keyHash P "__builtins__") (.str "__builtins__" 171) (.ref 4) :: .mk (PyData.keyHash P "__file__") (.str "__file__" 173) (.str "/claim/cut.py" 172) :: .mk (PyData.keyHash P "__cached__") (.str "__cached__" 174) .none :: .mk (PyData.keyHash P "MachineFault") (.str "MachineFault" 217) (.ref 31) :: .mk (PyData.keyHash P "LANES") (.str "LANES" 221) (.int 25 220) :: .mk (PyData.keyHash P "SIDE") (.str "SIDE" 223) (.int 5 222) :: .mk (PyData.keyHash P "MOST_LANE") (.str "MOST_LANE" 225) (.int 64 224) :: .mk (PyData.keyHash P "RATE") (.str "RATE" 227) (.int 136 226) :: .mk (PyData.keyHash P "SIZE") (.str "SIZE" 229) (.int 32 228) :: .mk (PyData.keyHash P "FIRST_PAD") (.str "FIRST_PAD" 231) (.int 1 230) :: .mk (PyData.keyHash P "LAST_PAD") (.str "LAST_PAD" 233) (.int 128 232) :: .mk (PyData.keyHash P "FEEDBACK") (.str "FEEDBACK" 235) (.int 369 234) :: .mk (PyData.keyHash P "logarithm") (.str "logarithm" 243) (.ref 41) :: .mk (PyData.keyHash P "rotations") (.str "rotations" 255) (.ref 48) :: .mk (PyData.keyHash P "round_words") (.str "round_words" 268) (.ref 55) :: .mk (PyData.keyHash P "Sponge") (.str "Sponge" 332) (.ref 96) :: [])) 22) #[]
noncomputable def ob49 (P : Params) : Obj := .mk .none none (.fields (#[.int 2 0,.int 0 0,.ref 20,.int 16 0,.int 0 0,.ref 40,.int 21 0,.int 0 0,.ref 47,.int 29 0,.int 0 0,.ref 54,.int 41 0,.int 0 0,.ref 61])) #[]
noncomputable def ob50 (P : Params) : Obj := .mk (.type "tuple") none (.seq #[] 0) #[]
noncomputable def ob51 (P : Params) : Obj := .mk (.type "builtin_function_or_method") none (.fields (#[.builtin "type.__prepare__",.type "type"])) #[]
noncomputable def ob52 (P : Params) : Obj := .mk (.type "dict") none (.dict (#[.mk (PyData.keyHash P "__module__") (.str "__module__" 276) (.str "gasledger.keccak" 218),.mk (PyData.keyHash P "__qualname__") (.str "__qualname__" 278) (.str "Sponge" 277),.mk (PyData.keyHash P "__firstlineno__") (.str "__firstlineno__" 280) (.int 41 279),.mk (PyData.keyHash P "__init__") (.str "__init__" 289) (.ref 69),.mk (PyData.keyHash P "turned") (.str "turned" 298) (.ref 76),.mk (PyData.keyHash P "mixed") (.str "mixed" 304) (.ref 81),.mk (PyData.keyHash P "permuted") (.str "permuted" 314) (.ref 88),.mk (PyData.keyHash P "absorbed") (.str "absorbed" 320) (.ref 93),.mk (PyData.keyHash P "__static_attributes__") (.str "__static_attributes__" 325) (.ref 94)]) 9) #[]
noncomputable def ob53 (P : Params) : Obj := .mk (.type "tuple") none (.seq #[] 0) #[]
noncomputable def ob54 (P : Params) : Obj := .mk .none none (.fields (#[.int 43 0,.int 4 0,.ref 68,.int 50 0,.int 4 0,.ref 75,.int 53 0,.int 4 0,.ref 80,.int 67 0,.int 4 0,.ref 87,.int 74 0,.int 4 0,.ref 92])) #[]
noncomputable def ob55 (P : Params) : Obj := .mk (.type "code") none (.fields (List.toArray (.str "Sponge" 271 :: .str "Sponge" 272 :: .str "/claim/cut.py" 273 :: .int 41 0 :: .int 0 0 :: .int 0 0 :: .int 0 0 :: .int 0 0 :: .ref 59 :: .bool false :: .int 181 0 :: .ref 60 :: .none :: .none :: .none :: .none :: .int 274 0 :: .int 41 0 :: .str "/claim/cut.py" 275 :: []))) #[]
noncomputable def ob56 (P : Params) : Obj := .mk (.type "frame") none .plain (#[some (.ref 61),some (.ref 3),some (.ref 58),none,some (.str "gasledger.keccak" 218),none,some (.ref 0)])
noncomputable def ob57 (P : Params) : Obj := .mk (.type "tuple") none (.seq #[] 0) #[]
noncomputable def ob58 (P : Params) : Obj := .mk .none none (.fields #[]) #[]
noncomputable def ob59 (P : Params) : Obj := .mk (.type "tuple") none (.seq (#[.str "self" 284,.str "lane" 285,.str "length" 286]) 0) #[]
noncomputable def ob60 (P : Params) : Obj := .mk (.type "tuple") none (.seq #[] 0) #[]
noncomputable def ob61 (P : Params) : Obj := fnTm (methAt 14 0) rfl "__init__" "Sponge.__init__"
noncomputable def ob62 (P : Params) : Obj := .mk (.type "code") none (.fields (List.toArray (.str "__init__" 281 :: .str "Sponge.__init__" 282 :: .str "/claim/cut.py" 283 :: .int 43 0 :: .int 2 0 :: .int 0 0 :: .int 0 0 :: .int 3 0 :: .ref 63 :: .bool true :: .int 181 0 :: .ref 64 :: .none :: .ref 65 :: .ref 66 :: .ref 67 :: .int 287 0 :: .int 43 0 :: .str "/claim/cut.py" 288 :: []))) #[]
noncomputable def ob63 (P : Params) : Obj := fnOb (methAt 14 0) rfl "__init__" "Sponge.__init__" (.str "gasledger.keccak" 218) 68
noncomputable def ob64 (P : Params) : Obj := .mk (.type "tuple") none (.seq #[] 0) #[]
noncomputable def ob65 (P : Params) : Obj := .mk .none none (.fields #[]) #[]
noncomputable def ob66 (P : Params) : Obj := .mk (.type "tuple") none (.seq (#[.str "self" 293,.str "word" 294,.str "by" 295]) 0) #[]
noncomputable def ob67 (P : Params) : Obj := .mk (.type "tuple") none (.seq #[] 0) #[]
noncomputable def ob68 (P : Params) : Obj := fnTm (methAt 14 1) rfl "turned" "Sponge.turned"
noncomputable def ob69 (P : Params) : Obj := .mk (.type "code") none (.fields (List.toArray (.str "turned" 290 :: .str "Sponge.turned" 291 :: .str "/claim/cut.py" 292 :: .int 50 0 :: .int 3 0 :: .int 0 0 :: .int 0 0 :: .int 3 0 :: .ref 70 :: .bool true :: .int 181 0 :: .ref 71 :: .none :: .ref 72 :: .ref 73 :: .ref 74 :: .int 296 0 :: .int 50 0 :: .str "/claim/cut.py" 297 :: []))) #[]
noncomputable def ob70 (P : Params) : Obj := fnOb (methAt 14 1) rfl "turned" "Sponge.turned" (.str "gasledger.keccak" 218) 75
noncomputable def ob71 (P : Params) : Obj := .mk (.type "tuple") none (.seq #[] 0) #[]
noncomputable def ob72 (P : Params) : Obj := .mk .none none (.fields #[]) #[]
noncomputable def ob73 (P : Params) : Obj := fnTm (methAt 14 2) rfl "mixed" "Sponge.mixed"
noncomputable def ob74 (P : Params) : Obj := .mk (.type "code") none (.fields (List.toArray (.str "mixed" 299 :: .str "Sponge.mixed" 300 :: .str "/claim/cut.py" 301 :: .int 53 0 :: .int 2 0 :: .int 0 0 :: .int 0 0 :: .int 3 0 :: .ref 77 :: .bool true :: .int 181 0 :: .ref 78 :: .none :: .none :: .none :: .ref 79 :: .int 302 0 :: .int 53 0 :: .str "/claim/cut.py" 303 :: []))) #[]
noncomputable def ob75 (P : Params) : Obj := fnOb (methAt 14 2) rfl "mixed" "Sponge.mixed" (.str "gasledger.keccak" 218) 80
noncomputable def ob76 (P : Params) : Obj := .mk (.type "tuple") none (.seq #[] 0) #[]
noncomputable def ob77 (P : Params) : Obj := .mk .none none (.fields #[]) #[]
noncomputable def ob78 (P : Params) : Obj := .mk (.type "tuple") none (.seq (#[.str "self" 308,.str "lanes" 309,.str "found" 310,.str "word" 311]) 0) #[]
noncomputable def ob79 (P : Params) : Obj := .mk (.type "tuple") none (.seq #[] 0) #[]
noncomputable def ob80 (P : Params) : Obj := fnTm (methAt 14 3) rfl "permuted" "Sponge.permuted"
noncomputable def ob81 (P : Params) : Obj := .mk (.type "code") none (.fields (List.toArray (.str "permuted" 305 :: .str "Sponge.permuted" 306 :: .str "/claim/cut.py" 307 :: .int 67 0 :: .int 2 0 :: .int 0 0 :: .int 0 0 :: .int 3 0 :: .ref 82 :: .bool true :: .int 181 0 :: .ref 83 :: .none :: .ref 84 :: .ref 85 :: .ref 86 :: .int 312 0 :: .int 67 0 :: .str "/claim/cut.py" 313 :: []))) #[]
noncomputable def ob82 (P : Params) : Obj := fnOb (methAt 14 3) rfl "permuted" "Sponge.permuted" (.str "gasledger.keccak" 218) 87
noncomputable def ob83 (P : Params) : Obj := .mk (.type "tuple") none (.seq #[] 0) #[]
noncomputable def ob84 (P : Params) : Obj := .mk .none none (.fields #[]) #[]
noncomputable def ob85 (P : Params) : Obj := fnTm (methAt 14 4) rfl "absorbed" "Sponge.absorbed"
noncomputable def ob86 (P : Params) : Obj := .mk (.type "code") none (.fields (List.toArray (.str "absorbed" 315 :: .str "Sponge.absorbed" 316 :: .str "/claim/cut.py" 317 :: .int 74 0 :: .int 5 0 :: .int 0 0 :: .int 0 0 :: .int 3 0 :: .ref 89 :: .bool true :: .int 181 0 :: .ref 90 :: .none :: .none :: .none :: .ref 91 :: .int 318 0 :: .int 74 0 :: .str "/claim/cut.py" 319 :: []))) #[]
noncomputable def ob87 (P : Params) : Obj := fnOb (methAt 14 4) rfl "absorbed" "Sponge.absorbed" (.str "gasledger.keccak" 218) 92
noncomputable def ob88 (P : Params) : Obj := .mk (.type "tuple") none (.seq (#[.str "lane" 321,.str "mask" 322,.str "turns" 323,.str "words" 324]) 0) #[]
noncomputable def ob89 (P : Params) : Obj := .mk (.type "dict") none (.dict (#[.mk (PyData.keyHash P "__module__") (.str "__module__" 276) (.str "gasledger.keccak" 218),.mk (PyData.keyHash P "__firstlineno__") (.str "__firstlineno__" 280) (.int 41 279),.mk (PyData.keyHash P "__init__") (.str "__init__" 289) (.ref 69),.mk (PyData.keyHash P "turned") (.str "turned" 298) (.ref 76),.mk (PyData.keyHash P "mixed") (.str "mixed" 304) (.ref 81),.mk (PyData.keyHash P "permuted") (.str "permuted" 314) (.ref 88),.mk (PyData.keyHash P "absorbed") (.str "absorbed" 320) (.ref 93),.mk (PyData.keyHash P "__static_attributes__") (.str "__static_attributes__" 325) (.ref 94),.mk (PyData.keyHash P "__dict__") (.str "__dict__" 327) (.ref 97),.mk (PyData.keyHash P "__weakref__") (.str "__weakref__" 329) (.ref 98),.mk (PyData.keyHash P "__doc__") (.str "__doc__" 330) .none]) 4) #[]
noncomputable def ob90 (P : Params) : Obj := .mk (.type "type") none (.cls (.mk "Sponge" [.type "object"] [.ref 96,.type "object"] 95 "Sponge" true [] [] false none false)) (#[none,none,some (.str "Sponge" 269),some (.str "Sponge" 277),some (.builtin "object.__new__"),some (.bool true)])
noncomputable def ob91 (P : Params) : Obj := .mk (.type "getset_descriptor") none (.fields (#[.str "__dict__" 326,.ref 96,.builtin "function.__dict__",.builtin "function.__dict__#set"])) #[]
noncomputable def ob92 (P : Params) : Obj := .mk (.type "getset_descriptor") none (.fields (#[.str "__weakref__" 328,.ref 96,.builtin "ExceptionGroup.__weakref__",.none])) #[]
noncomputable def ob93 (P : Params) : Obj := .mk (.type "super") none (.fields (#[.ref 96,.ref 96,.ref 96])) #[]
noncomputable def ob94 (P : Params) : Obj := .mk (.type "builtin_function_or_method") none (.fields (#[.builtin "object.__init_subclass__",.ref 96])) #[]
noncomputable def ob95 (P : Params) : Obj := .mk (.type "dict") none (.dict (List.toArray (.mk (PyData.keyHash P "__name__") (.str "__name__" 165) (.str "law_pq0390_01" 388) :: .mk (PyData.keyHash P "__doc__") (.str "__doc__" 166) .none :: .mk (PyData.keyHash P "__package__") (.str "__package__" 167) .none :: .mk (PyData.keyHash P "__loader__") (.str "__loader__" 168) (.builtin "__main__.__loader__#\x6fpaque") :: .mk (PyData.keyHash P "__spec__") (.str "__spec__" 169) .none :: .mk (PyData.keyHash P "__annotations__") (.str "__annotations__" 170) (.ref 6) :: .mk (PyData.keyHash P "__builtins__") (.str "__builtins__" 171) (.ref 4) :: .mk (PyData.keyHash P "__file__") (.str "__file__" 173) (.str "/claim/cut.py" 172) :: .mk (PyData.keyHash P "__cached__") (.str "__cached__" 174) .none :: .mk (PyData.keyHash P "MachineFault") (.str "MachineFault" 217) (.ref 31) :: .mk (PyData.keyHash P "LANES") (.str "LANES" 221) (.int 25 220) :: .mk (PyData.keyHash P "SIDE") (.str "SIDE" 223) (.int 5 222) :: .mk (PyData.keyHash P "MOST_LANE") (.str "MOST_LANE" 225) (.int 64 224) :: .mk (PyData.keyHash P "RATE") (.str "RATE" 227) (.int 136 226) :: .mk (PyData.keyHash P "SIZE") (.str "SIZE" 229) (.int 32 228) :: .mk (PyData.keyHash P "FIRST_PAD") (.str "FIRST_PAD" 231) (.int 1 230) :: .mk (PyData.keyHash P "LAST_PAD") (.str "LAST_PAD" 233) (.int 128 232) :: .mk (PyData.keyHash P "FEEDBACK") (.str "FEEDBACK" 235) (.int 369 234) :: .mk (PyData.keyHash P "logarithm") (.str "logarithm" 243) (.ref 41) :: .mk (PyData.keyHash P "rotations") (.str "rotations" 255) (.ref 48) :: .mk (PyData.keyHash P "round_words") (.str "round_words" 268) (.ref 55) :: .mk (PyData.keyHash P "Sponge") (.str "Sponge" 332) (.ref 96) :: .mk (PyData.keyHash P "padded_octets") (.str "padded_octets" 342) (.ref 107) :: .mk (PyData.keyHash P "keccak256") (.str "keccak256" 349) (.ref 114) :: .mk (PyData.keyHash P "Keccak") (.str "Keccak" 387) (.ref 138) :: .mk (PyData.keyHash P "_law_turns") (.str "_law_turns" 415) (.ref 148) :: .mk (PyData.keyHash P "_law_laid_on") (.str "_law_laid_on" 421) (.ref 155) :: [])) 27) #[]
noncomputable def ob96 (P : Params) : Obj := .mk .none none (.fields (List.toArray (.int 2 0 :: .int 0 0 :: .ref 20 :: .int 16 0 :: .int 0 0 :: .ref 40 :: .int 21 0 :: .int 0 0 :: .ref 47 :: .int 29 0 :: .int 0 0 :: .ref 54 :: .int 41 0 :: .int 0 0 :: .ref 61 :: .int 90 0 :: .int 0 0 :: .ref 106 :: .int 97 0 :: .int 0 0 :: .ref 113 :: .int 100 0 :: .int 0 0 :: .ref 120 :: .int 109 0 :: .int 0 0 :: .ref 154 :: []))) #[]
noncomputable def ob97 (P : Params) : Obj := .mk (.type "tuple") none (.seq #[] 0) #[]
noncomputable def ob98 (P : Params) : Obj := .mk .none none (.fields #[]) #[]
noncomputable def ob99 (P : Params) : Obj := .mk (.type "tuple") none (.seq (#[.str "octets" 336,.str "rate" 337,.str "pad" 338,.str "found" 339]) 0) #[]
noncomputable def ob100 (P : Params) : Obj := .mk (.type "tuple") none (.seq #[] 0) #[]
noncomputable def ob101 (P : Params) : Obj := fnTm (fnAt 15) rfl "padded_octets" "padded_octets"
noncomputable def ob102 (P : Params) : Obj := .mk (.type "code") none (.fields (List.toArray (.str "padded_octets" 333 :: .str "padded_octets" 334 :: .str "/claim/cut.py" 335 :: .int 90 0 :: .int 3 0 :: .int 0 0 :: .int 0 0 :: .int 3 0 :: .ref 101 :: .bool true :: .int 181 0 :: .ref 102 :: .none :: .ref 103 :: .ref 104 :: .ref 105 :: .int 340 0 :: .int 90 0 :: .str "/claim/cut.py" 341 :: []))) #[]
noncomputable def ob103 (P : Params) : Obj := fnOb (fnAt 15) rfl "padded_octets" "padded_octets" (.str "gasledger.keccak" 218) 106
noncomputable def ob104 (P : Params) : Obj := .mk (.type "tuple") none (.seq #[] 0) #[]
noncomputable def ob105 (P : Params) : Obj := .mk .none none (.fields #[]) #[]
noncomputable def ob106 (P : Params) : Obj := .mk (.type "tuple") none (.seq (#[.str "octets" 346]) 0) #[]
noncomputable def ob107 (P : Params) : Obj := .mk (.type "tuple") none (.seq #[] 0) #[]
noncomputable def ob108 (P : Params) : Obj := fnTm (fnAt 16) rfl "keccak256" "keccak256"
noncomputable def ob109 (P : Params) : Obj := .mk (.type "code") none (.fields (List.toArray (.str "keccak256" 343 :: .str "keccak256" 344 :: .str "/claim/cut.py" 345 :: .int 97 0 :: .int 1 0 :: .int 0 0 :: .int 0 0 :: .int 3 0 :: .ref 108 :: .bool true :: .int 181 0 :: .ref 109 :: .none :: .ref 110 :: .ref 111 :: .ref 112 :: .int 347 0 :: .int 97 0 :: .str "/claim/cut.py" 348 :: []))) #[]
noncomputable def ob110 (P : Params) : Obj := fnOb (fnAt 16) rfl "keccak256" "keccak256" (.str "gasledger.keccak" 218) 113
noncomputable def ob111 (P : Params) : Obj := .mk (.type "tuple") none (.seq #[] 0) #[]
noncomputable def ob112 (P : Params) : Obj := .mk (.type "builtin_function_or_method") none (.fields (#[.builtin "type.__prepare__",.type "type"])) #[]
noncomputable def ob113 (P : Params) : Obj := .mk (.type "dict") none (.dict (#[.mk (PyData.keyHash P "__module__") (.str "__module__" 359) (.str "gasledger.digests" 350),.mk (PyData.keyHash P "__qualname__") (.str "__qualname__" 361) (.str "Keccak" 360),.mk (PyData.keyHash P "__firstlineno__") (.str "__firstlineno__" 363) (.int 100 362),.mk (PyData.keyHash P "__init__") (.str "__init__" 370) (.ref 128),.mk (PyData.keyHash P "of") (.str "of" 378) (.ref 135),.mk (PyData.keyHash P "__static_attributes__") (.str "__static_attributes__" 380) (.ref 136)]) 6) #[]
noncomputable def ob114 (P : Params) : Obj := .mk (.type "tuple") none (.seq #[] 0) #[]
noncomputable def ob115 (P : Params) : Obj := .mk .none none (.fields (#[.int 102 0,.int 4 0,.ref 127,.int 105 0,.int 4 0,.ref 134])) #[]
noncomputable def ob116 (P : Params) : Obj := .mk (.type "code") none (.fields (List.toArray (.str "Keccak" 354 :: .str "Keccak" 355 :: .str "/claim/cut.py" 356 :: .int 100 0 :: .int 0 0 :: .int 0 0 :: .int 0 0 :: .int 0 0 :: .ref 118 :: .bool false :: .int 181 0 :: .ref 119 :: .none :: .none :: .none :: .none :: .int 357 0 :: .int 100 0 :: .str "/claim/cut.py" 358 :: []))) #[]
noncomputable def ob117 (P : Params) : Obj := .mk (.type "frame") none .plain (#[some (.ref 120),some (.ref 3),some (.ref 117),none,some (.str "gasledger.digests" 350),none,some (.ref 0)])
noncomputable def ob118 (P : Params) : Obj := .mk (.type "tuple") none (.seq #[] 0) #[]
noncomputable def ob119 (P : Params) : Obj := .mk .none none (.fields #[]) #[]
noncomputable def ob120 (P : Params) : Obj := .mk (.type "tuple") none (.seq (#[.str "self" 367]) 0) #[]
noncomputable def ob121 (P : Params) : Obj := .mk (.type "tuple") none (.seq #[] 0) #[]
noncomputable def ob122 (P : Params) : Obj := fnTm (methAt 18 0) rfl "__init__" "Keccak.__init__"
noncomputable def ob123 (P : Params) : Obj := .mk (.type "code") none (.fields (List.toArray (.str "__init__" 364 :: .str "Keccak.__init__" 365 :: .str "/claim/cut.py" 366 :: .int 102 0 :: .int 1 0 :: .int 0 0 :: .int 0 0 :: .int 3 0 :: .ref 122 :: .bool true :: .int 181 0 :: .ref 123 :: .none :: .ref 124 :: .ref 125 :: .ref 126 :: .int 368 0 :: .int 102 0 :: .str "/claim/cut.py" 369 :: []))) #[]
noncomputable def ob124 (P : Params) : Obj := fnOb (methAt 18 0) rfl "__init__" "Keccak.__init__" (.str "gasledger.digests" 350) 127
noncomputable def ob125 (P : Params) : Obj := .mk (.type "tuple") none (.seq #[] 0) #[]
noncomputable def ob126 (P : Params) : Obj := .mk .none none (.fields #[]) #[]
noncomputable def ob127 (P : Params) : Obj := .mk (.type "tuple") none (.seq (#[.str "self" 374,.str "octets" 375]) 0) #[]
noncomputable def ob128 (P : Params) : Obj := .mk (.type "tuple") none (.seq #[] 0) #[]
noncomputable def ob129 (P : Params) : Obj := fnTm (methAt 18 1) rfl "of" "Keccak.of"
noncomputable def ob130 (P : Params) : Obj := .mk (.type "code") none (.fields (List.toArray (.str "of" 371 :: .str "Keccak.of" 372 :: .str "/claim/cut.py" 373 :: .int 105 0 :: .int 2 0 :: .int 0 0 :: .int 0 0 :: .int 3 0 :: .ref 129 :: .bool true :: .int 181 0 :: .ref 130 :: .none :: .ref 131 :: .ref 132 :: .ref 133 :: .int 376 0 :: .int 105 0 :: .str "/claim/cut.py" 377 :: []))) #[]
noncomputable def ob131 (P : Params) : Obj := fnOb (methAt 18 1) rfl "of" "Keccak.of" (.str "gasledger.digests" 350) 134
noncomputable def ob132 (P : Params) : Obj := .mk (.type "tuple") none (.seq (#[.str "sponge" 379]) 0) #[]
noncomputable def ob133 (P : Params) : Obj := .mk (.type "dict") none (.dict (#[.mk (PyData.keyHash P "__module__") (.str "__module__" 359) (.str "gasledger.digests" 350),.mk (PyData.keyHash P "__firstlineno__") (.str "__firstlineno__" 363) (.int 100 362),.mk (PyData.keyHash P "__init__") (.str "__init__" 370) (.ref 128),.mk (PyData.keyHash P "of") (.str "of" 378) (.ref 135),.mk (PyData.keyHash P "__static_attributes__") (.str "__static_attributes__" 380) (.ref 136),.mk (PyData.keyHash P "__dict__") (.str "__dict__" 382) (.ref 139),.mk (PyData.keyHash P "__weakref__") (.str "__weakref__" 384) (.ref 140),.mk (PyData.keyHash P "__doc__") (.str "__doc__" 385) .none]) 4) #[]
noncomputable def ob134 (P : Params) : Obj := .mk (.type "type") none (.cls (.mk "Keccak" [.type "object"] [.ref 138,.type "object"] 137 "Keccak" true [] [] false none false)) (#[none,none,some (.str "Keccak" 352),some (.str "Keccak" 360),some (.builtin "object.__new__"),some (.bool true)])
noncomputable def ob135 (P : Params) : Obj := .mk (.type "getset_descriptor") none (.fields (#[.str "__dict__" 381,.ref 138,.builtin "function.__dict__",.builtin "function.__dict__#set"])) #[]
noncomputable def ob136 (P : Params) : Obj := .mk (.type "getset_descriptor") none (.fields (#[.str "__weakref__" 383,.ref 138,.builtin "ExceptionGroup.__weakref__",.none])) #[]
noncomputable def ob137 (P : Params) : Obj := .mk (.type "super") none (.fields (#[.ref 138,.ref 138,.ref 138])) #[]
noncomputable def ob138 (P : Params) : Obj := .mk (.type "builtin_function_or_method") none (.fields (#[.builtin "object.__init_subclass__",.ref 138])) #[]
noncomputable def ob139 (P : Params) : Obj := .mk (.type "list") none (.seq (#[.int 0 390,.int 36 391,.int 3 392,.int 41 393,.int 18 394]) 0) #[]
noncomputable def ob140 (P : Params) : Obj := .mk (.type "list") none (.seq (#[.int 1 395,.int 44 396,.int 10 397,.int 45 398,.int 2 399]) 0) #[]
noncomputable def ob141 (P : Params) : Obj := .mk (.type "list") none (.seq (#[.int 62 400,.int 6 401,.int 43 402,.int 15 403,.int 61 404]) 0) #[]
noncomputable def ob142 (P : Params) : Obj := .mk (.type "list") none (.seq (#[.int 28 405,.int 55 406,.int 25 407,.int 21 408,.int 56 409]) 0) #[]
noncomputable def ob143 (P : Params) : Obj := .mk (.type "list") none (.seq (#[.int 27 410,.int 20 411,.int 39 412,.int 8 413,.int 14 414]) 0) #[]
noncomputable def ob144 (P : Params) : Obj := .mk (.type "list") none (.seq (#[.ref 143,.ref 144,.ref 145,.ref 146,.ref 147]) 0) #[]
noncomputable def ob145 (P : Params) : Obj := .mk (.type "tuple") none (.seq #[] 0) #[]
noncomputable def ob146 (P : Params) : Obj := .mk .none none (.fields #[]) #[]
noncomputable def ob147 (P : Params) : Obj := .mk (.type "tuple") none (.seq #[] 0) #[]
noncomputable def ob148 (P : Params) : Obj := .mk (.type "tuple") none (.seq #[] 0) #[]
noncomputable def ob149 (P : Params) : Obj := fnTm (fnAt 21) rfl "_law_laid_on" "_law_laid_on"
noncomputable def ob150 (P : Params) : Obj := .mk (.type "code") none (.fields (List.toArray (.str "_law_laid_on" 416 :: .str "_law_laid_on" 417 :: .str "/claim/cut.py" 418 :: .int 109 0 :: .int 0 0 :: .int 0 0 :: .int 0 0 :: .int 3 0 :: .ref 149 :: .bool true :: .int 181 0 :: .ref 150 :: .none :: .ref 151 :: .ref 152 :: .ref 153 :: .int 419 0 :: .int 109 0 :: .str "/claim/cut.py" 420 :: []))) #[]
noncomputable def ob151 (P : Params) : Obj := fnOb (fnAt 21) rfl "_law_laid_on" "_law_laid_on" (.str "law_pq0390_01" 388) 154
noncomputable def ob152 (P : Params) : Obj := .mk (.type "dict") none (.dict (List.toArray (.mk (PyData.keyHash P "__name__") (.str "__name__" 165) (.str "law_pq0390_01" 388) :: .mk (PyData.keyHash P "__doc__") (.str "__doc__" 166) .none :: .mk (PyData.keyHash P "__package__") (.str "__package__" 167) .none :: .mk (PyData.keyHash P "__loader__") (.str "__loader__" 168) (.builtin "__main__.__loader__#\x6fpaque") :: .mk (PyData.keyHash P "__spec__") (.str "__spec__" 169) .none :: .mk (PyData.keyHash P "__annotations__") (.str "__annotations__" 170) (.ref 6) :: .mk (PyData.keyHash P "__builtins__") (.str "__builtins__" 171) (.ref 4) :: .mk (PyData.keyHash P "__file__") (.str "__file__" 173) (.str "/claim/cut.py" 172) :: .mk (PyData.keyHash P "__cached__") (.str "__cached__" 174) .none :: .mk (PyData.keyHash P "MachineFault") (.str "MachineFault" 217) (.ref 31) :: .mk (PyData.keyHash P "LANES") (.str "LANES" 221) (.int 25 220) :: .mk (PyData.keyHash P "SIDE") (.str "SIDE" 223) (.int 5 222) :: .mk (PyData.keyHash P "MOST_LANE") (.str "MOST_LANE" 225) (.int 64 224) :: .mk (PyData.keyHash P "RATE") (.str "RATE" 227) (.int 136 226) :: .mk (PyData.keyHash P "SIZE") (.str "SIZE" 229) (.int 32 228) :: .mk (PyData.keyHash P "FIRST_PAD") (.str "FIRST_PAD" 231) (.int 1 230) :: .mk (PyData.keyHash P "LAST_PAD") (.str "LAST_PAD" 233) (.int 128 232) :: .mk (PyData.keyHash P "FEEDBACK") (.str "FEEDBACK" 235) (.int 369 234) :: .mk (PyData.keyHash P "logarithm") (.str "logarithm" 243) (.ref 41) :: .mk (PyData.keyHash P "rotations") (.str "rotations" 255) (.ref 48) :: .mk (PyData.keyHash P "round_words") (.str "round_words" 268) (.ref 55) :: .mk (PyData.keyHash P "Sponge") (.str "Sponge" 332) (.ref 96) :: .mk (PyData.keyHash P "padded_octets") (.str "padded_octets" 342) (.ref 107) :: .mk (PyData.keyHash P "keccak256") (.str "keccak256" 349) (.ref 114) :: .mk (PyData.keyHash P "Keccak") (.str "Keccak" 387) (.ref 138) :: .mk (PyData.keyHash P "_law_turns") (.str "_law_turns" 415) (.ref 148) :: .mk (PyData.keyHash P "_law_laid_on") (.str "_law_laid_on" 421) (.ref 155) :: .mk (PyData.keyHash P "_law_rounds") (.str "_law_rounds" 443) (.ref 156) :: [])) 28) #[]
noncomputable def ob153 (P : Params) : Obj := .mk (.type "dict") none (.dict (#[.mk 1 (.int 1 422) (.int 12 423),.mk 2 (.int 2 424) (.int 14 425),.mk 4 (.int 4 426) (.int 16 427),.mk 8 (.int 8 428) (.int 18 429),.mk 16 (.int 16 430) (.int 20 431),.mk 32 (.int 32 432) (.int 22 433),.mk 64 (.int 64 434) (.int 24 435)]) 7) #[]
noncomputable def ob154 (P : Params) : Obj := .mk (.type "dict") none (.dict (List.toArray (.mk (PyData.keyHash P "__name__") (.str "__name__" 165) (.str "law_pq0390_01" 388) :: .mk (PyData.keyHash P "__doc__") (.str "__doc__" 166) .none :: .mk (PyData.keyHash P "__package__") (.str "__package__" 167) .none :: .mk (PyData.keyHash P "__loader__") (.str "__loader__" 168) (.builtin "__main__.__loader__#\x6fpaque") :: .mk (PyData.keyHash P "__spec__") (.str "__spec__" 169) .none :: .mk (PyData.keyHash P "__annotations__") (.str "__annotations__" 170) (.ref 6) :: .mk (PyData.keyHash P "__builtins__") (.str "__builtins__" 171) (.ref 4) :: .mk (PyData.keyHash P "__file__") (.str "__file__" 173) (.str "/claim/cut.py" 172) :: .mk (PyData.keyHash P "__cached__") (.str "__cached__" 174) .none :: .mk (PyData.keyHash P "MachineFault") (.str "MachineFault" 217) (.ref 31) :: .mk (PyData.keyHash P "LANES") (.str "LANES" 221) (.int 25 220) :: .mk (PyData.keyHash P "SIDE") (.str "SIDE" 223) (.int 5 222) :: .mk (PyData.keyHash P "MOST_LANE") (.str "MOST_LANE" 225) (.int 64 224) :: .mk (PyData.keyHash P "RATE") (.str "RATE" 227) (.int 136 226) :: .mk (PyData.keyHash P "SIZE") (.str "SIZE" 229) (.int 32 228) :: .mk (PyData.keyHash P "FIRST_PAD") (.str "FIRST_PAD" 231) (.int 1 230) :: .mk (PyData.keyHash P "LAST_PAD") (.str "LAST_PAD" 233) (.int 128 232) :: .mk (PyData.keyHash P "FEEDBACK") (.str "FEEDBACK" 235) (.int 369 234) :: .mk (PyData.keyHash P "logarithm") (.str "logarithm" 243) (.ref 41) :: .mk (PyData.keyHash P "rotations") (.str "rotations" 255) (.ref 48) :: .mk (PyData.keyHash P "round_words") (.str "round_words" 268) (.ref 55) :: .mk (PyData.keyHash P "Sponge") (.str "Sponge" 332) (.ref 96) :: .mk (PyData.keyHash P "padded_octets") (.str "padded_octets" 342) (.ref 107) :: .mk (PyData.keyHash P "keccak256") (.str "keccak256" 349) (.ref 114) :: .mk (PyData.keyHash P "Keccak") (.str "Keccak" 387) (.ref 138) :: .mk (PyData.keyHash P "_law_turns") (.str "_law_turns" 415) (.ref 148) :: .mk (PyData.keyHash P "_law_laid_on") (.str "_law_laid_on" 421) (.ref 155) :: .mk (PyData.keyHash P "_law_rounds") (.str "_law_rounds" 443) (.ref 156) :: .mk (PyData.keyHash P "_law_widths") (.str "_law_widths" 449) (.ref 163) :: .mk (PyData.keyHash P "_law_no_widths") (.str "_law_no_widths" 455) (.ref 170) :: .mk (PyData.keyHash P "_law_lengths") (.str "_law_lengths" 461) (.ref 177) :: .mk (PyData.keyHash P "_law_draw") (.str "_law_draw" 470) (.ref 184) :: .mk (PyData.keyHash P "_law_lanes") (.str "_law_lanes" 482) (.ref 191) :: .mk (PyData.keyHash P "_law_by_bits") (.str "_law_by_bits" 488) (.ref 196) :: .mk (PyData.keyHash P "_law_by_lanes") (.str "_law_by_lanes" 507) (.ref 203) :: .mk (PyData.keyHash P "_law_permuted") (.str "_law_permuted" 513) (.ref 208) :: .mk (PyData.keyHash P "_law_absorbed") (.str "_law_absorbed" 531) (.ref 215) :: .mk (PyData.keyHash P "_law_text") (.str "_law_text" 537) (.ref 220) :: .mk (PyData.keyHash P "_law_sponge") (.str "_law_sponge" 544) (.ref 227) :: .mk (PyData.keyHash P "_law_is_permuted_right") (.str "_law_is_permuted_right" 556) (.ref 234) :: .mk (PyData.keyHash P "_law_is_absorbed_right") (.str "_law_is_absorbed_right" 571) (.ref 241) :: .mk (PyData.keyHash P "_law_is_hashed_right") (.str "_law_is_hashed_right" 583) (.ref 248) :: .mk (PyData.keyHash P "law") (.str "law" 589) (.ref 253) :: [])) 43) #[]
noncomputable def ob155 (P : Params) : Obj := .mk .none none (.fields (List.toArray (.int 2 0 :: .int 0 0 :: .ref 20 :: .int 16 0 :: .int 0 0 :: .ref 40 :: .int 21 0 :: .int 0 0 :: .ref 47 :: .int 29 0 :: .int 0 0 :: .ref 54 :: .int 41 0 :: .int 0 0 :: .ref 61 :: .int 90 0 :: .int 0 0 :: .ref 106 :: .int 97 0 :: .int 0 0 :: .ref 113 :: .int 100 0 :: .int 0 0 :: .ref 120 :: .int 109 0 :: .int 0 0 :: .ref 154 :: .int 112 0 :: .int 0 0 :: .ref 162 :: .int 114 0 :: .int 0 0 :: .ref 169 :: .int 116 0 :: .int 0 0 :: .ref 176 :: .int 118 0 :: .int 0 0 :: .ref 183 :: .int 123 0 :: .int 0 0 :: .ref 190 :: .int 134 0 :: .int 0 0 :: .ref 195 :: .int 154 0 :: .int 0 0 :: .ref 202 :: .int 172 0 :: .int 0 0 :: .ref 207 :: .int 180 0 :: .int 0 0 :: .ref 214 :: .int 194 0 :: .int 0 0 :: .ref 219 :: .int 197 0 :: .int 0 0 :: .ref 226 :: .int 202 0 :: .int 0 0 :: .ref 233 :: .int 212 0 :: .int 0 0 :: .ref 240 :: .int 225 0 :: .int 0 0 :: .ref 247 :: .int 231 0 :: .int 0 0 :: .ref 252 :: []))) #[]
noncomputable def ob156 (P : Params) : Obj := .mk (.type "tuple") none (.seq #[] 0) #[]
noncomputable def ob157 (P : Params) : Obj := .mk .none none (.fields #[]) #[]
noncomputable def ob158 (P : Params) : Obj := .mk (.type "tuple") none (.seq #[] 0) #[]
noncomputable def ob159 (P : Params) : Obj := .mk (.type "tuple") none (.seq #[] 0) #[]
noncomputable def ob160 (P : Params) : Obj := fnTm (fnAt 23) rfl "_law_widths" "_law_widths"
noncomputable def ob161 (P : Params) : Obj := .mk (.type "code") none (.fields (List.toArray (.str "_law_widths" 444 :: .str "_law_widths" 445 :: .str "/claim/cut.py" 446 :: .int 112 0 :: .int 0 0 :: .int 0 0 :: .int 0 0 :: .int 3 0 :: .ref 157 :: .bool true :: .int 181 0 :: .ref 158 :: .none :: .ref 159 :: .ref 160 :: .ref 161 :: .int 447 0 :: .int 112 0 :: .str "/claim/cut.py" 448 :: []))) #[]
noncomputable def ob162 (P : Params) : Obj := fnOb (fnAt 23) rfl "_law_widths" "_law_widths" (.str "law_pq0390_01" 388) 162
noncomputable def ob163 (P : Params) : Obj := .mk (.type "tuple") none (.seq #[] 0) #[]
noncomputable def ob164 (P : Params) : Obj := .mk .none none (.fields #[]) #[]
noncomputable def ob165 (P : Params) : Obj := .mk (.type "tuple") none (.seq #[] 0) #[]
noncomputable def ob166 (P : Params) : Obj := .mk (.type "tuple") none (.seq #[] 0) #[]
noncomputable def ob167 (P : Params) : Obj := fnTm (fnAt 24) rfl "_law_no_widths" "_law_no_widths"
noncomputable def ob168 (P : Params) : Obj := .mk (.type "code") none (.fields (List.toArray (.str "_law_no_widths" 450 :: .str "_law_no_widths" 451 :: .str "/claim/cut.py" 452 :: .int 114 0 :: .int 0 0 :: .int 0 0 :: .int 0 0 :: .int 3 0 :: .ref 164 :: .bool true :: .int 181 0 :: .ref 165 :: .none :: .ref 166 :: .ref 167 :: .ref 168 :: .int 453 0 :: .int 114 0 :: .str "/claim/cut.py" 454 :: []))) #[]
noncomputable def ob169 (P : Params) : Obj := fnOb (fnAt 24) rfl "_law_no_widths" "_law_no_widths" (.str "law_pq0390_01" 388) 169
noncomputable def ob170 (P : Params) : Obj := .mk (.type "tuple") none (.seq #[] 0) #[]
noncomputable def ob171 (P : Params) : Obj := .mk .none none (.fields #[]) #[]
noncomputable def ob172 (P : Params) : Obj := .mk (.type "tuple") none (.seq #[] 0) #[]
noncomputable def ob173 (P : Params) : Obj := .mk (.type "tuple") none (.seq #[] 0) #[]
noncomputable def ob174 (P : Params) : Obj := fnTm (fnAt 25) rfl "_law_lengths" "_law_lengths"
noncomputable def ob175 (P : Params) : Obj := .mk (.type "code") none (.fields (List.toArray (.str "_law_lengths" 456 :: .str "_law_lengths" 457 :: .str "/claim/cut.py" 458 :: .int 116 0 :: .int 0 0 :: .int 0 0 :: .int 0 0 :: .int 3 0 :: .ref 171 :: .bool true :: .int 181 0 :: .ref 172 :: .none :: .ref 173 :: .ref 174 :: .ref 175 :: .int 459 0 :: .int 116 0 :: .str "/claim/cut.py" 460 :: []))) #[]
noncomputable def ob176 (P : Params) : Obj := fnOb (fnAt 25) rfl "_law_lengths" "_law_lengths" (.str "law_pq0390_01" 388) 176
noncomputable def ob177 (P : Params) : Obj := .mk (.type "tuple") none (.seq #[] 0) #[]
noncomputable def ob178 (P : Params) : Obj := .mk .none none (.fields #[]) #[]
noncomputable def ob179 (P : Params) : Obj := .mk (.type "tuple") none (.seq (#[.str "well" 465,.str "size" 466,.str "gotten" 467]) 0) #[]
noncomputable def ob180 (P : Params) : Obj := .mk (.type "tuple") none (.seq #[] 0) #[]
noncomputable def ob181 (P : Params) : Obj := fnTm (fnAt 26) rfl "_law_draw" "_law_draw"
noncomputable def ob182 (P : Params) : Obj := .mk (.type "code") none (.fields (List.toArray (.str "_law_draw" 462 :: .str "_law_draw" 463 :: .str "/claim/cut.py" 464 :: .int 118 0 :: .int 2 0 :: .int 0 0 :: .int 0 0 :: .int 3 0 :: .ref 178 :: .bool true :: .int 181 0 :: .ref 179 :: .none :: .ref 180 :: .ref 181 :: .ref 182 :: .int 468 0 :: .int 118 0 :: .str "/claim/cut.py" 469 :: []))) #[]
noncomputable def ob183 (P : Params) : Obj := fnOb (fnAt 26) rfl "_law_draw" "_law_draw" (.str "law_pq0390_01" 388) 183
noncomputable def ob184 (P : Params) : Obj := .mk (.type "tuple") none (.seq #[] 0) #[]
noncomputable def ob185 (P : Params) : Obj := .mk .none none (.fields #[]) #[]
noncomputable def ob186 (P : Params) : Obj := .mk (.type "tuple") none (.seq (#[.str "well" 474,.str "wide_by" 475,.str "way" 476,.str "seed" 477,.str "found" 478,.str "turn" 479]) 0) #[]
noncomputable def ob187 (P : Params) : Obj := .mk (.type "tuple") none (.seq #[] 0) #[]
noncomputable def ob188 (P : Params) : Obj := fnTm (fnAt 27) rfl "_law_lanes" "_law_lanes"
noncomputable def ob189 (P : Params) : Obj := .mk (.type "code") none (.fields (List.toArray (.str "_law_lanes" 471 :: .str "_law_lanes" 472 :: .str "/claim/cut.py" 473 :: .int 123 0 :: .int 2 0 :: .int 0 0 :: .int 0 0 :: .int 3 0 :: .ref 185 :: .bool true :: .int 181 0 :: .ref 186 :: .none :: .ref 187 :: .ref 188 :: .ref 189 :: .int 480 0 :: .int 123 0 :: .str "/claim/cut.py" 481 :: []))) #[]
noncomputable def ob190 (P : Params) : Obj := fnOb (fnAt 27) rfl "_law_lanes" "_law_lanes" (.str "law_pq0390_01" 388) 190
noncomputable def ob191 (P : Params) : Obj := .mk (.type "tuple") none (.seq #[] 0) #[]
noncomputable def ob192 (P : Params) : Obj := .mk .none none (.fields #[]) #[]
noncomputable def ob193 (P : Params) : Obj := fnTm (fnAt 28) rfl "_law_by_bits" "_law_by_bits"
noncomputable def ob194 (P : Params) : Obj := .mk (.type "code") none (.fields (List.toArray (.str "_law_by_bits" 483 :: .str "_law_by_bits" 484 :: .str "/claim/cut.py" 485 :: .int 134 0 :: .int 2 0 :: .int 0 0 :: .int 0 0 :: .int 3 0 :: .ref 192 :: .bool true :: .int 181 0 :: .ref 193 :: .none :: .none :: .none :: .ref 194 :: .int 486 0 :: .int 134 0 :: .str "/claim/cut.py" 487 :: []))) #[]
noncomputable def ob195 (P : Params) : Obj := fnOb (fnAt 28) rfl "_law_by_bits" "_law_by_bits" (.str "law_pq0390_01" 388) 195
noncomputable def ob196 (P : Params) : Obj := .mk (.type "tuple") none (.seq #[] 0) #[]
noncomputable def ob197 (P : Params) : Obj := .mk .none none (.fields #[]) #[]
noncomputable def ob198 (P : Params) : Obj := .mk (.type "tuple") none (.seq (#[.str "wide_by" 492,.str "lanes" 493,.str "size" 494,.str "now" 495,.str "number_on" 496,.str "columns" 497,.str "later" 498,.str "x" 499,.str "y" 500,.str "other" 501,.str "by" 502,.str "one" 503,.str "third" 504]) 0) #[]
noncomputable def ob199 (P : Params) : Obj := .mk (.type "tuple") none (.seq #[] 0) #[]
noncomputable def ob200 (P : Params) : Obj := fnTm (fnAt 29) rfl "_law_by_lanes" "_law_by_lanes"
noncomputable def ob201 (P : Params) : Obj := .mk (.type "code") none (.fields (List.toArray (.str "_law_by_lanes" 489 :: .str "_law_by_lanes" 490 :: .str "/claim/cut.py" 491 :: .int 154 0 :: .int 2 0 :: .int 0 0 :: .int 0 0 :: .int 3 0 :: .ref 197 :: .bool true :: .int 181 0 :: .ref 198 :: .none :: .ref 199 :: .ref 200 :: .ref 201 :: .int 505 0 :: .int 154 0 :: .str "/claim/cut.py" 506 :: []))) #[]
noncomputable def ob202 (P : Params) : Obj := fnOb (fnAt 29) rfl "_law_by_lanes" "_law_by_lanes" (.str "law_pq0390_01" 388) 202
noncomputable def ob203 (P : Params) : Obj := .mk (.type "tuple") none (.seq #[] 0) #[]
noncomputable def ob204 (P : Params) : Obj := .mk .none none (.fields #[]) #[]
noncomputable def ob205 (P : Params) : Obj := fnTm (fnAt 30) rfl "_law_permuted" "_law_permuted"
noncomputable def ob206 (P : Params) : Obj := .mk (.type "code") none (.fields (List.toArray (.str "_law_permuted" 508 :: .str "_law_permuted" 509 :: .str "/claim/cut.py" 510 :: .int 172 0 :: .int 3 0 :: .int 0 0 :: .int 0 0 :: .int 3 0 :: .ref 204 :: .bool true :: .int 181 0 :: .ref 205 :: .none :: .none :: .none :: .ref 206 :: .int 511 0 :: .int 172 0 :: .str "/claim/cut.py" 512 :: []))) #[]
noncomputable def ob207 (P : Params) : Obj := fnOb (fnAt 30) rfl "_law_permuted" "_law_permuted" (.str "law_pq0390_01" 388) 207
noncomputable def ob208 (P : Params) : Obj := .mk (.type "tuple") none (.seq #[] 0) #[]
noncomputable def ob209 (P : Params) : Obj := .mk .none none (.fields #[]) #[]
noncomputable def ob210 (P : Params) : Obj := .mk (.type "tuple") none (.seq (#[.str "sponge" 517,.str "octets_wide" 518,.str "octets" 519,.str "rate" 520,.str "many" 521,.str "first" 522,.str "octets_in" 523,.str "held" 524,.str "told_octets" 525,.str "place" 526,.str "octet" 527,.str "begin" 528]) 0) #[]
noncomputable def ob211 (P : Params) : Obj := .mk (.type "tuple") none (.seq #[] 0) #[]
noncomputable def ob212 (P : Params) : Obj := fnTm (fnAt 31) rfl "_law_absorbed" "_law_absorbed"
noncomputable def ob213 (P : Params) : Obj := .mk (.type "code") none (.fields (List.toArray (.str "_law_absorbed" 514 :: .str "_law_absorbed" 515 :: .str "/claim/cut.py" 516 :: .int 180 0 :: .int 6 0 :: .int 0 0 :: .int 0 0 :: .int 3 0 :: .ref 209 :: .bool true :: .int 181 0 :: .ref 210 :: .none :: .ref 211 :: .ref 212 :: .ref 213 :: .int 529 0 :: .int 180 0 :: .str "/claim/cut.py" 530 :: []))) #[]
noncomputable def ob214 (P : Params) : Obj := fnOb (fnAt 31) rfl "_law_absorbed" "_law_absorbed" (.str "law_pq0390_01" 388) 214
noncomputable def ob215 (P : Params) : Obj := .mk (.type "tuple") none (.seq #[] 0) #[]
noncomputable def ob216 (P : Params) : Obj := .mk .none none (.fields #[]) #[]
noncomputable def ob217 (P : Params) : Obj := fnTm (fnAt 32) rfl "_law_text" "_law_text"
noncomputable def ob218 (P : Params) : Obj := .mk (.type "code") none (.fields (List.toArray (.str "_law_text" 532 :: .str "_law_text" 533 :: .str "/claim/cut.py" 534 :: .int 194 0 :: .int 2 0 :: .int 0 0 :: .int 0 0 :: .int 3 0 :: .ref 216 :: .bool true :: .int 181 0 :: .ref 217 :: .none :: .none :: .none :: .ref 218 :: .int 535 0 :: .int 194 0 :: .str "/claim/cut.py" 536 :: []))) #[]
noncomputable def ob219 (P : Params) : Obj := fnOb (fnAt 32) rfl "_law_text" "_law_text" (.str "law_pq0390_01" 388) 219
noncomputable def ob220 (P : Params) : Obj := .mk (.type "tuple") none (.seq #[] 0) #[]
noncomputable def ob221 (P : Params) : Obj := .mk .none none (.fields #[]) #[]
noncomputable def ob222 (P : Params) : Obj := .mk (.type "tuple") none (.seq (#[.str "wide_by" 541]) 0) #[]
noncomputable def ob223 (P : Params) : Obj := .mk (.type "tuple") none (.seq #[] 0) #[]
noncomputable def ob224 (P : Params) : Obj := fnTm (fnAt 33) rfl "_law_sponge" "_law_sponge"
noncomputable def ob225 (P : Params) : Obj := .mk (.type "code") none (.fields (List.toArray (.str "_law_sponge" 538 :: .str "_law_sponge" 539 :: .str "/claim/cut.py" 540 :: .int 197 0 :: .int 1 0 :: .int 0 0 :: .int 0 0 :: .int 3 0 :: .ref 221 :: .bool true :: .int 181 0 :: .ref 222 :: .none :: .ref 223 :: .ref 224 :: .ref 225 :: .int 542 0 :: .int 197 0 :: .str "/claim/cut.py" 543 :: []))) #[]
noncomputable def ob226 (P : Params) : Obj := fnOb (fnAt 33) rfl "_law_sponge" "_law_sponge" (.str "law_pq0390_01" 388) 226
noncomputable def ob227 (P : Params) : Obj := .mk (.type "tuple") none (.seq #[] 0) #[]
noncomputable def ob228 (P : Params) : Obj := .mk .none none (.fields #[]) #[]
noncomputable def ob229 (P : Params) : Obj := .mk (.type "tuple") none (.seq (#[.str "well" 548,.str "wide_by" 549,.str "sponge" 550,.str "lanes" 551,.str "handed" 552,.str "due" 553]) 0) #[]
noncomputable def ob230 (P : Params) : Obj := .mk (.type "tuple") none (.seq #[] 0) #[]
noncomputable def ob231 (P : Params) : Obj := fnTm (fnAt 34) rfl "_law_is_permuted_right" "_law_is_permuted_right"
noncomputable def ob232 (P : Params) : Obj := .mk (.type "code") none (.fields (List.toArray (.str "_law_is_permuted_right" 545 :: .str "_law_is_permuted_right" 546 :: .str "/claim/cut.py" 547 :: .int 202 0 :: .int 1 0 :: .int 0 0 :: .int 0 0 :: .int 3 0 :: .ref 228 :: .bool true :: .int 181 0 :: .ref 229 :: .none :: .ref 230 :: .ref 231 :: .ref 232 :: .int 554 0 :: .int 202 0 :: .str "/claim/cut.py" 555 :: []))) #[]
noncomputable def ob233 (P : Params) : Obj := fnOb (fnAt 34) rfl "_law_is_permuted_right" "_law_is_permuted_right" (.str "law_pq0390_01" 388) 233
noncomputable def ob234 (P : Params) : Obj := .mk (.type "tuple") none (.seq #[] 0) #[]
noncomputable def ob235 (P : Params) : Obj := .mk .none none (.fields #[]) #[]
noncomputable def ob236 (P : Params) : Obj := .mk (.type "tuple") none (.seq (#[.str "well" 560,.str "wide_by" 561,.str "sponge" 562,.str "rate" 563,.str "many" 564,.str "first" 565,.str "octets" 566,.str "is_let" 567,.str "found" 568]) 0) #[]
noncomputable def ob237 (P : Params) : Obj := .mk (.type "tuple") none (.seq #[] 0) #[]
noncomputable def ob238 (P : Params) : Obj := fnTm (fnAt 35) rfl "_law_is_absorbed_right" "_law_is_absorbed_right"
noncomputable def ob239 (P : Params) : Obj := .mk (.type "code") none (.fields (List.toArray (.str "_law_is_absorbed_right" 557 :: .str "_law_is_absorbed_right" 558 :: .str "/claim/cut.py" 559 :: .int 212 0 :: .int 1 0 :: .int 0 0 :: .int 0 0 :: .int 3 0 :: .ref 235 :: .bool true :: .int 181 0 :: .ref 236 :: .none :: .ref 237 :: .ref 238 :: .ref 239 :: .int 569 0 :: .int 212 0 :: .str "/claim/cut.py" 570 :: []))) #[]
noncomputable def ob240 (P : Params) : Obj := fnOb (fnAt 35) rfl "_law_is_absorbed_right" "_law_is_absorbed_right" (.str "law_pq0390_01" 388) 240
noncomputable def ob241 (P : Params) : Obj := .mk (.type "tuple") none (.seq #[] 0) #[]
noncomputable def ob242 (P : Params) : Obj := .mk .none none (.fields #[]) #[]
noncomputable def ob243 (P : Params) : Obj := .mk (.type "tuple") none (.seq (#[.str "well" 575,.str "pick_here" 576,.str "is_object" 577,.str "many" 578,.str "octets" 579,.str "found" 580]) 0) #[]
noncomputable def ob244 (P : Params) : Obj := .mk (.type "tuple") none (.seq #[] 0) #[]
noncomputable def ob245 (P : Params) : Obj := fnTm (fnAt 36) rfl "_law_is_hashed_right" "_law_is_hashed_right"
noncomputable def ob246 (P : Params) : Obj := .mk (.type "code") none (.fields (List.toArray (.str "_law_is_hashed_right" 572 :: .str "_law_is_hashed_right" 573 :: .str "/claim/cut.py" 574 :: .int 225 0 :: .int 1 0 :: .int 0 0 :: .int 0 0 :: .int 3 0 :: .ref 242 :: .bool true :: .int 181 0 :: .ref 243 :: .none :: .ref 244 :: .ref 245 :: .ref 246 :: .int 581 0 :: .int 225 0 :: .str "/claim/cut.py" 582 :: []))) #[]
noncomputable def ob247 (P : Params) : Obj := fnOb (fnAt 36) rfl "_law_is_hashed_right" "_law_is_hashed_right" (.str "law_pq0390_01" 388) 247
noncomputable def ob248 (P : Params) : Obj := .mk (.type "tuple") none (.seq #[] 0) #[]
noncomputable def ob249 (P : Params) : Obj := .mk .none none (.fields #[]) #[]
noncomputable def ob250 (P : Params) : Obj := fnTm (fnAt 37) rfl "law" "law"
noncomputable def ob251 (P : Params) : Obj := .mk (.type "code") none (.fields (List.toArray (.str "law" 584 :: .str "law" 585 :: .str "/claim/cut.py" 586 :: .int 231 0 :: .int 1 0 :: .int 0 0 :: .int 0 0 :: .int 3 0 :: .ref 249 :: .bool true :: .int 181 0 :: .ref 250 :: .none :: .none :: .none :: .ref 251 :: .int 587 0 :: .int 231 0 :: .str "/claim/cut.py" 588 :: []))) #[]
noncomputable def ob252 (P : Params) : Obj := fnOb (fnAt 37) rfl "law" "law" (.str "law_pq0390_01" 388) 252
noncomputable abbrev lifeB : Life := .mk [] [] [] 0 [] [] false #[] [] 0 false false false 0 [2000,10,10] false 0 true [] [] 0 false
noncomputable abbrev drawnB : Drawn := .mk 0 0 0 0
noncomputable def hpSa : Params → Heap := fun P => Heap.mk (Array.mk (boot_o_0 P :: boot_o_1 P :: boot_o_2 P :: boot_o_3 P :: boot_o_4 P :: boot_o_5 P :: boot_o_6 P :: boot_o_7 P :: boot_o_8 P :: boot_o_9 P :: boot_o_10 P :: ob0 P :: ob1 P :: ob2 P :: ob3 P :: [])) lifeB
noncomputable def hpS1 : Params → Heap := fun P => Heap.mk (Array.mk (boot_o_0 P :: boot_o_1 P :: ob4 P :: ob5 P :: boot_o_4 P :: boot_o_5 P :: boot_o_6 P :: boot_o_7 P :: boot_o_8 P :: boot_o_9 P :: boot_o_10 P :: ob0 P :: ob6 P :: ob2 P :: ob3 P :: ob7 P :: ob8 P :: ob9 P :: ob10 P :: ob11 P :: ob12 P :: ob13 P :: ob14 P :: ob15 P :: ob16 P :: ob17 P :: ob18 P :: ob19 P :: ob20 P :: ob21 P :: ob22 P :: ob23 P :: ob24 P :: ob25 P :: ob26 P :: ob27 P :: ob28 P :: ob29 P :: ob30 P :: ob31 P :: ob32 P :: ob33 P :: ob34 P :: ob35 P :: ob36 P :: ob37 P :: ob38 P :: ob39 P :: ob40 P :: ob41 P :: ob42 P :: ob43 P :: ob44 P :: ob45 P :: ob46 P :: ob47 P :: [])) lifeB
noncomputable def hpS2 : Params → Heap := fun P => Heap.mk (Array.mk (boot_o_0 P :: boot_o_1 P :: ob4 P :: ob48 P :: boot_o_4 P :: boot_o_5 P :: boot_o_6 P :: boot_o_7 P :: boot_o_8 P :: boot_o_9 P :: boot_o_10 P :: ob0 P :: ob49 P :: ob2 P :: ob3 P :: ob7 P :: ob8 P :: ob9 P :: ob10 P :: ob11 P :: ob12 P :: ob13 P :: ob14 P :: ob15 P :: ob16 P :: ob17 P :: ob18 P :: ob19 P :: ob20 P :: ob21 P :: ob22 P :: ob23 P :: ob24 P :: ob25 P :: ob26 P :: ob27 P :: ob28 P :: ob29 P :: ob30 P :: ob31 P :: ob32 P :: ob33 P :: ob34 P :: ob35 P :: ob36 P :: ob37 P :: ob38 P :: ob39 P :: ob40 P :: ob41 P :: ob42 P :: ob43 P :: ob44 P :: ob45 P :: ob46 P :: ob47 P :: ob50 P :: ob51 P :: ob52 P :: ob53 P :: ob54 P :: ob55 P :: ob56 P :: ob57 P :: ob58 P :: ob59 P :: ob60 P :: ob61 P :: ob62 P :: ob63 P :: ob64 P :: ob65 P :: ob66 P :: ob67 P :: ob68 P :: ob69 P :: ob70 P :: ob71 P :: ob72 P :: ob73 P :: ob74 P :: ob75 P :: ob76 P :: ob77 P :: ob78 P :: ob79 P :: ob80 P :: ob81 P :: ob82 P :: ob83 P :: ob84 P :: ob85 P :: ob86 P :: ob87 P :: ob88 P :: ob89 P :: ob90 P :: ob91 P :: ob92 P :: ob93 P :: ob94 P :: [])) lifeB
noncomputable def hpS3 : Params → Heap := fun P => Heap.mk (Array.mk (boot_o_0 P :: boot_o_1 P :: ob4 P :: ob95 P :: boot_o_4 P :: boot_o_5 P :: boot_o_6 P :: boot_o_7 P :: boot_o_8 P :: boot_o_9 P :: boot_o_10 P :: ob0 P :: ob96 P :: ob2 P :: ob3 P :: ob7 P :: ob8 P :: ob9 P :: ob10 P :: ob11 P :: ob12 P :: ob13 P :: ob14 P :: ob15 P :: ob16 P :: ob17 P :: ob18 P :: ob19 P :: ob20 P :: ob21 P :: ob22 P :: ob23 P :: ob24 P :: ob25 P :: ob26 P :: ob27 P :: ob28 P :: ob29 P :: ob30 P :: ob31 P :: ob32 P :: ob33 P :: ob34 P :: ob35 P :: ob36 P :: ob37 P :: ob38 P :: ob39 P :: ob40 P :: ob41 P :: ob42 P :: ob43 P :: ob44 P :: ob45 P :: ob46 P :: ob47 P :: ob50 P :: ob51 P :: ob52 P :: ob53 P :: ob54 P :: ob55 P :: ob56 P :: ob57 P :: ob58 P :: ob59 P :: ob60 P :: ob61 P :: ob62 P :: ob63 P :: ob64 P :: ob65 P :: ob66 P :: ob67 P :: ob68 P :: ob69 P :: ob70 P :: ob71 P :: ob72 P :: ob73 P :: ob74 P :: ob75 P :: ob76 P :: ob77 P :: ob78 P :: ob79 P :: ob80 P :: ob81 P :: ob82 P :: ob83 P :: ob84 P :: ob85 P :: ob86 P :: ob87 P :: ob88 P :: ob89 P :: ob90 P :: ob91 P :: ob92 P :: ob93 P :: ob94 P :: ob97 P :: ob98 P :: ob99 P :: ob100 P :: ob101 P :: ob102 P :: ob103 P :: ob104 P :: ob105 P :: ob106 P :: ob107 P :: ob108 P :: ob109 P :: ob110 P :: ob111 P :: ob112 P :: ob113 P :: ob114 P :: ob115 P :: ob116 P :: ob117 P :: ob118 P :: ob119 P :: ob120 P :: ob121 P :: ob122 P :: ob123 P :: ob124 P :: ob125 P :: ob126 P :: ob127 P :: ob128 P :: ob129 P :: ob130 P :: ob131 P :: ob132 P :: ob133 P :: ob134 P :: ob135 P :: ob136 P :: ob137 P :: ob138 P :: ob139 P :: ob140 P :: ob141 P :: ob142 P :: ob143 P :: ob144 P :: ob145 P :: ob146 P :: ob147 P :: ob148 P :: ob149 P :: ob150 P :: ob151 P :: [])) lifeB
noncomputable def hpS4 : Params → Heap := fun P => Heap.mk (Array.mk (boot_o_0 P :: boot_o_1 P :: ob4 P :: ob152 P :: boot_o_4 P :: boot_o_5 P :: boot_o_6 P :: boot_o_7 P :: boot_o_8 P :: boot_o_9 P :: boot_o_10 P :: ob0 P :: ob96 P :: ob2 P :: ob3 P :: ob7 P :: ob8 P :: ob9 P :: ob10 P :: ob11 P :: ob12 P :: ob13 P :: ob14 P :: ob15 P :: ob16 P :: ob17 P :: ob18 P :: ob19 P :: ob20 P :: ob21 P :: ob22 P :: ob23 P :: ob24 P :: ob25 P :: ob26 P :: ob27 P :: ob28 P :: ob29 P :: ob30 P :: ob31 P :: ob32 P :: ob33 P :: ob34 P :: ob35 P :: ob36 P :: ob37 P :: ob38 P :: ob39 P :: ob40 P :: ob41 P :: ob42 P :: ob43 P :: ob44 P :: ob45 P :: ob46 P :: ob47 P :: ob50 P :: ob51 P :: ob52 P :: ob53 P :: ob54 P :: ob55 P :: ob56 P :: ob57 P :: ob58 P :: ob59 P :: ob60 P :: ob61 P :: ob62 P :: ob63 P :: ob64 P :: ob65 P :: ob66 P :: ob67 P :: ob68 P :: ob69 P :: ob70 P :: ob71 P :: ob72 P :: ob73 P :: ob74 P :: ob75 P :: ob76 P :: ob77 P :: ob78 P :: ob79 P :: ob80 P :: ob81 P :: ob82 P :: ob83 P :: ob84 P :: ob85 P :: ob86 P :: ob87 P :: ob88 P :: ob89 P :: ob90 P :: ob91 P :: ob92 P :: ob93 P :: ob94 P :: ob97 P :: ob98 P :: ob99 P :: ob100 P :: ob101 P :: ob102 P :: ob103 P :: ob104 P :: ob105 P :: ob106 P :: ob107 P :: ob108 P :: ob109 P :: ob110 P :: ob111 P :: ob112 P :: ob113 P :: ob114 P :: ob115 P :: ob116 P :: ob117 P :: ob118 P :: ob119 P :: ob120 P :: ob121 P :: ob122 P :: ob123 P :: ob124 P :: ob125 P :: ob126 P :: ob127 P :: ob128 P :: ob129 P :: ob130 P :: ob131 P :: ob132 P :: ob133 P :: ob134 P :: ob135 P :: ob136 P :: ob137 P :: ob138 P :: ob139 P :: ob140 P :: ob141 P :: ob142 P :: ob143 P :: ob144 P :: ob145 P :: ob146 P :: ob147 P :: ob148 P :: ob149 P :: ob150 P :: ob151 P :: ob153 P :: [])) lifeB
noncomputable def hpS5 : Params → Heap := fun P => Heap.mk (Array.mk (boot_o_0 P :: boot_o_1 P :: ob4 P :: ob154 P :: boot_o_4 P :: boot_o_5 P :: boot_o_6 P :: boot_o_7 P :: boot_o_8 P :: boot_o_9 P :: boot_o_10 P :: ob0 P :: ob155 P :: ob2 P :: ob3 P :: ob7 P :: ob8 P :: ob9 P :: ob10 P :: ob11 P :: ob12 P :: ob13 P :: ob14 P :: ob15 P :: ob16 P :: ob17 P :: ob18 P :: ob19 P :: ob20 P :: ob21 P :: ob22 P :: ob23 P :: ob24 P :: ob25 P :: ob26 P :: ob27 P :: ob28 P :: ob29 P :: ob30 P :: ob31 P :: ob32 P :: ob33 P :: ob34 P :: ob35 P :: ob36 P :: ob37 P :: ob38 P :: ob39 P :: ob40 P :: ob41 P :: ob42 P :: ob43 P :: ob44 P :: ob45 P :: ob46 P :: ob47 P :: ob50 P :: ob51 P :: ob52 P :: ob53 P :: ob54 P :: ob55 P :: ob56 P :: ob57 P :: ob58 P :: ob59 P :: ob60 P :: ob61 P :: ob62 P :: ob63 P :: ob64 P :: ob65 P :: ob66 P :: ob67 P :: ob68 P :: ob69 P :: ob70 P :: ob71 P :: ob72 P :: ob73 P :: ob74 P :: ob75 P :: ob76 P :: ob77 P :: ob78 P :: ob79 P :: ob80 P :: ob81 P :: ob82 P :: ob83 P :: ob84 P :: ob85 P :: ob86 P :: ob87 P :: ob88 P :: ob89 P :: ob90 P :: ob91 P :: ob92 P :: ob93 P :: ob94 P :: ob97 P :: ob98 P :: ob99 P :: ob100 P :: ob101 P :: ob102 P :: ob103 P :: ob104 P :: ob105 P :: ob106 P :: ob107 P :: ob108 P :: ob109 P :: ob110 P :: ob111 P :: ob112 P :: ob113 P :: ob114 P :: ob115 P :: ob116 P :: ob117 P :: ob118 P :: ob119 P :: ob120 P :: ob121 P :: ob122 P :: ob123 P :: ob124 P :: ob125 P :: ob126 P :: ob127 P :: ob128 P :: ob129 P :: ob130 P :: ob131 P :: ob132 P :: ob133 P :: ob134 P :: ob135 P :: ob136 P :: ob137 P :: ob138 P :: ob139 P :: ob140 P :: ob141 P :: ob142 P :: ob143 P :: ob144 P :: ob145 P :: ob146 P :: ob147 P :: ob148 P :: ob149 P :: ob150 P :: ob151 P :: ob153 P :: ob156 P :: ob157 P :: ob158 P :: ob159 P :: ob160 P :: ob161 P :: ob162 P :: ob163 P :: ob164 P :: ob165 P :: ob166 P :: ob167 P :: ob168 P :: ob169 P :: ob170 P :: ob171 P :: ob172 P :: ob173 P :: ob174 P :: ob175 P :: ob176 P :: ob177 P :: ob178 P :: ob179 P :: ob180 P :: ob181 P :: ob182 P :: ob183 P :: ob184 P :: ob185 P :: ob186 P :: ob187 P :: ob188 P :: ob189 P :: ob190 P :: ob191 P :: ob192 P :: ob193 P :: ob194 P :: ob195 P :: ob196 P :: ob197 P :: ob198 P :: ob199 P :: ob200 P :: ob201 P :: ob202 P :: ob203 P :: ob204 P :: ob205 P :: ob206 P :: ob207 P :: ob208 P :: ob209 P :: ob210 P :: ob211 P :: ob212 P :: ob213 P :: ob214 P :: ob215 P :: ob216 P :: ob217 P :: ob218 P :: ob219 P :: ob220 P :: ob221 P :: ob222 P :: ob223 P :: ob224 P :: ob225 P :: ob226 P :: ob227 P :: ob228 P :: ob229 P :: ob230 P :: ob231 P :: ob232 P :: ob233 P :: ob234 P :: ob235 P :: ob236 P :: ob237 P :: ob238 P :: ob239 P :: ob240 P :: ob241 P :: ob242 P :: ob243 P :: ob244 P :: ob245 P :: ob246 P :: ob247 P :: ob248 P :: ob249 P :: ob250 P :: ob251 P :: ob252 P :: [])) lifeB
noncomputable abbrev pwL : Program := PySem.Challenge.pw_pq0390_01
noncomputable abbrev bodyB : List Stmt := behindTheImports pwL
noncomputable abbrev envB : Env := { scope := pwL.main.scope, locals := mainNs, globals := mainNs, cells := [], code := .ref 13, frame := some 14 }
noncomputable abbrev codeB : Code := .body bodyB envB
noncomputable abbrev annB : Option Value := some (.ref 6)
noncomputable abbrev stB : List Frame := [topFrame ⟨0, 0, 0, 0⟩]
noncomputable abbrev slB (a n : Nat) : List Stmt := (bodyB.drop a).take n
noncomputable abbrev shB (h : Params → Heap) (k : Nat) (w : World) (os : OsState) : Shared := ⟨h w.params, ⟨[]⟩, drawnB, k, os⟩
noncomputable abbrev lookX : Shared → Bool := fun s => xlAt lawView [] s && recOk (RowW.records lawRow) s
theorem preP (w : World) (os : OsState) : topGo treeTable pwL w 11 annB 12 ⟨boot_heap w.params, ⟨[]⟩, boot_drawn, boot_toks, os⟩ (topStub pwL) = some (shB hpSa 187 w os, ⟨denote treeTable codeB, codeB, ⟨0, 0, 0, 0⟩, stB⟩) := by kernel_rfl
theorem blockP (w : World) (os : OsState) : segRun treeTable pwL w 11 annB 1 1 (shB hpSa 187 w os) (blockOf bodyB envB codeB ⟨0, 0, 0, 0⟩ stB) = some (.next, shB hpSa 187 w os, codeB, ⟨0, 0, 0, 0⟩) := by kernel_rfl
theorem pieceA (w : World) (os : OsState) : segRun treeTable pwL w 11 annB 1 440 (shB hpSa 187 w os) (piecesOf (slB 0 14) envB codeB ⟨0, 0, 0, 0⟩ stB) = some (.next, shB hpS1 269 w os, codeB, ⟨29, 0, 40, 16⟩) := by kernel_rfl
theorem pieceB (w : World) (os : OsState) : segRun treeTable pwL w 11 annB 1 350 (shB hpS1 269 w os) (piecesOf (slB 14 1) envB codeB ⟨29, 0, 40, 16⟩ stB) = some (.next, shB hpS2 333 w os, codeB, ⟨41, 0, 89, 34⟩) := by kernel_rfl
theorem pieceC (w : World) (os : OsState) : segRun treeTable pwL w 11 annB 1 410 (shB hpS2 333 w os) (piecesOf (slB 15 7) envB codeB ⟨41, 0, 89, 34⟩ stB) = some (.next, shB hpS3 422 w os, codeB, ⟨109, 0, 110, 378⟩) := by kernel_rfl
theorem pieceD0 (w : World) (os : OsState) : segRun treeTable pwL (w.withFollow "special-get-raises" false) 11 annB 1 110 (shB hpS3 422 (w.withFollow "special-get-raises" false) os) (piecesOf (slB 22 1) envB codeB ⟨109, 0, 110, 378⟩ stB) = some (.next, shB hpS4 444 (w.withFollow "special-get-raises" false) os, codeB, ⟨111, 0, 111, 11⟩) := by kernel_rfl
theorem pieceD1 (w : World) (os : OsState) : segRun treeTable pwL (w.withFollow "special-get-raises" true) 11 annB 1 110 (shB hpS3 422 (w.withFollow "special-get-raises" true) os) (piecesOf (slB 22 1) envB codeB ⟨109, 0, 110, 378⟩ stB) = some (.next, shB hpS4 444 (w.withFollow "special-get-raises" true) os, codeB, ⟨111, 0, 111, 11⟩) := by kernel_rfl
theorem pieceD (w : World) (os : OsState) : segRun treeTable pwL w 11 annB 1 110 (shB hpS3 422 w os) (piecesOf (slB 22 1) envB codeB ⟨109, 0, 110, 378⟩ stB) = some (.next, shB hpS4 444 w os, codeB, ⟨111, 0, 111, 11⟩) :=
  byRow2 "special-get-raises" (P := fun w => ∀ os, segRun treeTable pwL w 11 annB 1 110 (shB hpS3 422 w os) (piecesOf (slB 22 1) envB codeB ⟨109, 0, 110, 378⟩ stB) = some (.next, shB hpS4 444 w os, codeB, ⟨111, 0, 111, 11⟩)) pieceD0 pieceD1 w os
theorem pieceE (w : World) (os : OsState) : segRun treeTable pwL w 11 annB 1 490 (shB hpS4 444 w os) (piecesOf (slB 23 15) envB codeB ⟨111, 0, 111, 11⟩ stB) = some (.next, shB hpS5 590 w os, codeB, ⟨231, 0, 236, 83⟩) := by kernel_rfl
theorem finP (w : World) (os : OsState) : topRun treeTable pwL w 11 annB 2 (shB hpS5 590 w os) ⟨doneF .next, codeB, ⟨231, 0, 236, 83⟩, stB⟩ = some (shB hpS5 590 w os) := by kernel_rfl
theorem bodySplit : bodyB = slB 0 14 ++ (slB 14 1 ++ (slB 15 7 ++ (slB 22 1 ++ (slB 23 15 ++ [])))) := by kernel_rfl
theorem runP (w : World) (os : OsState) : topRun treeTable pwL w 11 annB (12 + (1 + (440 + (350 + (410 + (110 + (490 + 2))))))) ⟨boot_heap w.params, ⟨[]⟩, boot_drawn, boot_toks, os⟩ (topStub pwL) = some (shB hpS5 590 w os) :=
  go_top (preP w os) (piece_block (blockP w os) ((congrArg (fun b => topRun treeTable pwL w 11 annB (440 + (350 + (410 + (110 + (490 + 2))))) (shB hpSa 187 w os) (restOf b envB codeB ⟨0, 0, 0, 0⟩ stB)) bodySplit).trans
    (piece_app (pieceA w os) (piece_app (pieceB w os) (piece_app (pieceC w os) (piece_app (pieceD w os) (piece_app (pieceE w os) (piece_nil (finP w os)))))))))
theorem openP : ∀ w : World, (fencedOpening treeTable pwL w 3606).map (fun s => (s.heap, s.gens, s.drawn, s.toks)) = some (boot_heap w.params, Array.mk [], boot_drawn, boot_toks) :=
  boot_open (by kernel_rfl) (by kernel_rfl) fun s => by kernel_rfl
theorem sizeP (w : World) : ((boot_heap w.params).isNs mainGlobals && (Array.mk [] : Array GenState).size == 0, (boot_heap w.params).objs.size, (boot_heap w.params).nsMap mainGlobals "__annotations__") = (true, 11, annB) := by kernel_rfl
theorem looksP (w : World) : (fun os : OsState => ((staticsOk (importedModules pwL.main.body) (boot_heap w.params) (hpS5 w.params) && namesBound pwL (hpS5 w.params) && gensDone (shB hpS5 590 w os) && laidKept (boot_heap w.params) (hpS5 w.params)),
    openSeen lawView looseNames (importedModules pwL.main.body) lookX true (shB hpS5 590 w os), lawHook.obs (shB hpS5 590 w os))) = fun _ => (true, openGood lawView looseNames, lawHook.val w) := by kernel_rfl
theorem left : LeftO pwL lawView looseNames lookX lawHook.obs lawHook.val 3606 :=
  LeftO.of_pieces (H₀ := boot_heap) (H₁ := hpS5) openP sizeP runP (by kernel_rfl) looksP
set_option maxHeartbeats 4000000
end Kx
set_option Elab.async false
set_option maxRecDepth 100000
set_option linter.unusedVariables false
set_option maxHeartbeats 4000000
set_option compiler.extract_closed false
open PySem PySem.W PyProof.Rows

section -- J1
open PySem PySem.W PyProof.Rows
set_option Elab.async false
set_option maxRecDepth 100000
namespace Kx

noncomputable abbrev FH := Addr → Option Obj

inductive AV where
  | int (i : Int)
  | bool (b : Bool)
  | none
  | bytes (b : Array UInt8)
  | str (s : Str)
  | ref (a : Addr)
  | typ (n : String)
  | blt (n : String)
  | rng (a b c : Int)
  | lst (xs : List AV)
  | tup (xs : List AV)
  | obj (C : Addr) (names : List Str) (xs : List AV)
  | inst (C dx : Addr)

noncomputable abbrev tupOf (its : Array Value) (n : Nat) : Obj := { cls := .type "tuple", data := .seq its n }

noncomputable def EsAre : List Str → List DictEntry → List Value → Prop
  | [], [], [] => True
  | n :: ns, e :: es, v :: vs => (∃ t, e.key = .str n t) ∧ e.val = v ∧ EsAre ns es vs
  | _, _, _ => False

mutual
noncomputable def R (Φ : FH) : AV → Value → Prop
  | .int i, v => ∃ t, v = .int i t
  | .bool b, v => v = .bool b
  | .none, v => v = .none
  | .bytes b, v => ∃ t, v = .bytes b t
  | .str s, v => ∃ t, v = .str s t
  | .ref a, v => v = .ref a
  | .typ n, v => v = .type n
  | .blt n, v => v = .builtin n
  | .rng a b c, v => ∃ x t u q, v = .ref x ∧ Φ x = some { cls := .type "range", dict := none, data := .fields #[.int a t, .int b u, .int c q], slots := #[] }
  | .lst xs, v => ∃ a vs n, v = .ref a ∧ Φ a = some (listOf vs.toArray n) ∧ Rs Φ xs vs
  | .tup xs, v => ∃ a vs n, v = .ref a ∧ Φ a = some (tupOf vs.toArray n) ∧ Rs Φ xs vs
  | .obj C names xs, v => ∃ x dx es vs n, v = .ref x ∧ Φ x = some (instObj C dx) ∧ Φ dx = some (dictOf es n) ∧ EsAre names es vs ∧ Rs Φ xs vs
  | .inst C dx, v => ∃ x, v = .ref x ∧ Φ x = some (instObj C dx)
noncomputable def Rs (Φ : FH) : List AV → List Value → Prop
  | [], [] => True
  | x :: xs, v :: vs => R Φ x v ∧ Rs Φ xs vs
  | _, _ => False
end

noncomputable def Le (Φ Ψ : FH) : Prop := ∀ a o, Φ a = some o → Ψ a = some o
theorem Le.refl (Φ : FH) : Le Φ Φ := fun _ _ e => e
theorem Le.trans {Φ Ψ Χ : FH} (h : Le Φ Ψ) (k : Le Ψ Χ) : Le Φ Χ := fun a o e => k a o (h a o e)

mutual
theorem R.mono {Φ Ψ : FH} (h : Le Φ Ψ) : ∀ {x : AV} {v : Value}, R Φ x v → R Ψ x v
  | .int _, _, r => r
  | .bool _, _, r => r
  | .none, _, r => r
  | .bytes _, _, r => r
  | .str _, _, r => r
  | .ref _, _, r => r
  | .typ _, _, r => r
  | .blt _, _, r => r
  | .rng _ _ _, _, r => let ⟨x, t, u, q, e, f⟩ := r; ⟨x, t, u, q, e, h _ _ f⟩
  | .lst _, _, r => let ⟨a, vs, n, e, f, g⟩ := r; ⟨a, vs, n, e, h _ _ f, Rs.mono h g⟩
  | .tup _, _, r => let ⟨a, vs, n, e, f, g⟩ := r; ⟨a, vs, n, e, h _ _ f, Rs.mono h g⟩
  | .obj _ _ _, _, r => let ⟨x, dx, es, vs, n, e, f, f', k, g⟩ := r; ⟨x, dx, es, vs, n, e, h _ _ f, h _ _ f', k, Rs.mono h g⟩
  | .inst _ _, _, r => let ⟨x, e, f⟩ := r; ⟨x, e, h _ _ f⟩
theorem Rs.mono {Φ Ψ : FH} (h : Le Φ Ψ) : ∀ {xs : List AV} {vs : List Value}, Rs Φ xs vs → Rs Ψ xs vs
  | [], [], _ => trivial
  | _ :: _, _ :: _, r => ⟨R.mono h r.1, Rs.mono h r.2⟩
  | [], _ :: _, r => r.elim
  | _ :: _, [], r => r.elim
end

theorem Rs.length {Φ : FH} : ∀ {xs : List AV} {vs : List Value}, Rs Φ xs vs → vs.length = xs.length
  | [], [], _ => rfl
  | _ :: _, _ :: _, r => by rw [List.length_cons, List.length_cons, Rs.length r.2]
  | [], _ :: _, r => r.elim
  | _ :: _, [], r => r.elim
theorem Rs.get {Φ : FH} : ∀ {xs : List AV} {vs : List Value}, Rs Φ xs vs → ∀ (i : Nat) (x : AV), xs[i]? = some x → ∃ v, vs[i]? = some v ∧ R Φ x v
  | [], _, _, i, x, e => by simp at e
  | _ :: _, [], r, _, _, _ => r.elim
  | y :: ys, v :: vs, r, 0, x, e => by simp at e; subst e; exact ⟨v, rfl, r.1⟩
  | y :: ys, v :: vs, r, i + 1, x, e => by
    have e' : ys[i]? = some x := by simpa using e
    obtain ⟨v', h, h'⟩ := Rs.get r.2 i x e'
    exact ⟨v', by simpa using h, h'⟩
theorem Rs.append {Φ : FH} : ∀ {xs ys : List AV} {vs us : List Value}, Rs Φ xs vs → Rs Φ ys us → Rs Φ (xs ++ ys) (vs ++ us)
  | [], _, [], _, _, k => k
  | _ :: _, _, _ :: _, _, h, k => ⟨h.1, Rs.append h.2 k⟩
  | [], _, _ :: _, _, h, _ => h.elim
  | _ :: _, _, [], _, h, _ => h.elim
theorem Rs.set {Φ : FH} : ∀ {xs : List AV} {vs : List Value}, Rs Φ xs vs → ∀ (i : Nat) {x : AV} {v : Value}, R Φ x v → Rs Φ (xs.set i x) (vs.set i v)
  | [], [], _, _, _, _, _ => trivial
  | _ :: _, _ :: _, h, 0, _, _, k => ⟨k, h.2⟩
  | _ :: _, _ :: _, h, i + 1, _, _, k => ⟨h.1, Rs.set h.2 i k⟩
  | [], _ :: _, r, _, _, _, _ => r.elim
  | _ :: _, [], r, _, _, _, _ => r.elim
theorem Rs.ofGet {Φ : FH} : ∀ {xs : List AV} {vs : List Value}, vs.length = xs.length → (∀ (i : Nat) (x : AV) (v : Value), xs[i]? = some x → vs[i]? = some v → R Φ x v) → Rs Φ xs vs
  | [], [], _, _ => trivial
  | x :: xs, v :: vs, hl, h => ⟨h 0 x v rfl rfl, Rs.ofGet (by simpa using hl) fun i y u e f => h (i + 1) y u (by simpa using e) (by simpa using f)⟩
  | [], _ :: _, hl, _ => by simp at hl
  | _ :: _, [], hl, _ => by simp at hl

noncomputable def grow (Φ : FH) (s s' : Shared) : FH := fun a => if (s.heap.get? a).isSome then Φ a else s'.heap.get? a

theorem grow_le {Φ : FH} {s s' : Shared} (hf : ∀ a o, Φ a = some o → s.heap.get? a = some o) : Le Φ (grow Φ s s') := fun a o e => by
  unfold grow; rw [if_pos (by rw [hf a o e]; rfl)]; exact e
theorem grow_heap {Φ : FH} {s s' : Shared} (hk : ∀ a o, s.heap.get? a = some o → s'.heap.get? a = some o) (hf : ∀ a o, Φ a = some o → s.heap.get? a = some o) :
    ∀ a o, grow Φ s s' a = some o → s'.heap.get? a = some o := fun a o e => by
  unfold grow at e
  split at e
  · exact hk a o (hf a o e)
  · exact e
theorem grow_grow {Φ : FH} {s s₁ s₂ : Shared} (h₁ : ∀ a o, s.heap.get? a = some o → s₁.heap.get? a = some o) (h₂ : ∀ a o, s₁.heap.get? a = some o → s₂.heap.get? a = some o) :
    Le (grow (grow Φ s s₁) s₁ s₂) (grow Φ s s₂) := fun a o e => by
  unfold grow at e ⊢
  by_cases h : (s.heap.get? a).isSome
  · rw [if_pos h]
    obtain ⟨o', ho'⟩ := Option.isSome_iff_exists.mp h
    rw [if_pos (by rw [h₁ a o' ho']; rfl), if_pos h] at e
    exact e
  · rw [if_neg h]
    split at e
    · exact h₂ a o e
    · exact e
theorem grow_le2 {Φ : FH} {s s₁ s₂ : Shared} (h₂ : ∀ a o, s₁.heap.get? a = some o → s₂.heap.get? a = some o) :
    Le (grow Φ s s₁) (grow Φ s s₂) := fun a o e => by
  unfold grow at e ⊢
  split at e
  · rename_i h; rw [if_pos h]; exact e
  · rename_i h; rw [if_neg h]; exact h₂ a o e

theorem Keeps.keep {s s' : Shared} (h : Keeps s s') : ∀ a o, s.heap.get? a = some o → s'.heap.get? a = some o := by
  obtain ⟨h', tk, rfl, k⟩ := h; exact k
theorem Keeps.rfl' {s : Shared} : Keeps s s := ⟨s.heap, s.toks, rfl, fun _ _ e => e⟩
theorem Keeps.tr {s s₁ s₂ : Shared} (h : Keeps s s₁) (k : Keeps s₁ s₂) : Keeps s s₂ := by
  obtain ⟨h', tk, rfl, k₁⟩ := h
  obtain ⟨h'', tk', rfl, k₂⟩ := k
  exact ⟨h'', tk', rfl, fun a o e => k₂ a o (k₁ a o e)⟩
theorem Keeps.tok {s : Shared} (n : Nat) : Keeps s { s with toks := n } := ⟨s.heap, n, rfl, fun _ _ e => e⟩
theorem Keeps.push {s : Shared} (o : Obj) (n : Nat) : Keeps s { s with heap := s.heap.push o, toks := n } := ⟨_, n, rfl, fun _ _ e => Heap.get?_push_of_some _ e⟩

inductive MO where
  | lst (xs : List AV)
  | bta (b : Array UInt8)
  | dct (ks : List (Nat × Nat)) (xs : List AV)
  | ins (names : List Str) (xs : List AV)
  | raw (o : Obj)

noncomputable def pairHash (k : Nat × Nat) : Int := reduceHash (Builtin.Tuple.tupleHashOf [hashInt (k.1 : Int), hashInt (k.2 : Int)])
inductive KsAre (Φ : FH) : List (Nat × Nat) → List DictEntry → List Value → Prop where
  | nil : KsAre Φ [] [] []
  | cons {k : Nat × Nat} {ks : List (Nat × Nat)} {e : DictEntry} {es : List DictEntry} {vs : List Value} {a : Addr} {t u : Tok} {n : Nat} (hk : e.key = .ref a) (ha : Φ a = some (tupOf #[.int (k.1 : Int) t, .int (k.2 : Int) u] n))
      (hh : e.hash = pairHash k) (h : KsAre Φ ks es vs) : KsAre Φ (k :: ks) (e :: es) (e.val :: vs)
theorem KsAre.mono {Φ Ψ : FH} (h : Le Φ Ψ) {ks : List (Nat × Nat)} {es : List DictEntry} {vs : List Value} (r : KsAre Φ ks es vs) : KsAre Ψ ks es vs := by
  induction r with
  | nil => exact .nil
  | cons hk ha hh _ ih => exact .cons hk (h _ _ ha) hh ih

noncomputable def MR (Φ : FH) : MO → Obj → Prop
  | .lst xs, o => ∃ vs n, o = listOf (List.toArray vs) n ∧ Rs Φ xs vs
  | .bta b, o => o = { cls := .type "bytearray", data := .bytearray b 0 }
  | .dct ks xs, o => ∃ es vs n, o = dictOf es n ∧ KsAre Φ ks es vs ∧ Rs Φ xs vs ∧ ks.Nodup
  | .ins names xs, o => ∃ es vs n, o = dictOf es n ∧ EsAre names es vs ∧ Rs Φ xs vs
  | .raw x, o => o = x
theorem MR.mono {Φ Ψ : FH} (h : Le Φ Ψ) : ∀ {m : MO} {o : Obj}, MR Φ m o → MR Ψ m o
  | .lst _, _, r => let ⟨vs, n, e, f⟩ := r; ⟨vs, n, e, Rs.mono h f⟩
  | .bta _, _, r => r
  | .dct _ _, _, r => let ⟨es, vs, n, e, f, g, nd⟩ := r; ⟨es, vs, n, e, f.mono h, Rs.mono h g, nd⟩
  | .ins _ _, _, r => let ⟨es, vs, n, e, f, g⟩ := r; ⟨es, vs, n, e, f, Rs.mono h g⟩
  | .raw _, _, r => r

noncomputable def Slot (env : Env) (h : Heap) (x : Str) (kd : NameKind) (v : Value) : Prop := match kd with
  | .local => ∃ m, h.Ns env.locals m ∧ m x = some v
  | .cell => ∃ c, env.cells.lookup x = some c ∧ h.IsCell c (some v)
  | _ => False
theorem Slot.keeps {env : Env} {h h' : Heap} {x : Str} {kd : NameKind} {v : Value} (hk : ∀ a o, h.get? a = some o → h'.get? a = some o) (y : Slot env h x kd v) : Slot env h' x kd v := by
  cases kd <;> first
    | exact (let ⟨m, a, b⟩ := y; ⟨m, a.keeps hk, b⟩)
    | exact (let ⟨c, a, b⟩ := y; ⟨c, a, b.keeps hk⟩)
    | exact y.elim

structure EnvOk (env : Env) (ns : List (Str × NameKind)) : Prop where
  names : env.scope.names = ns
  nodup : (ns.map (·.1)).Nodup
  kind : env.scope.kind = .function
  globals : env.globals = mainGlobals
  builtins : env.builtins = builtinsNs

theorem lookup_of_nodup : ∀ {ns : List (Str × NameKind)} {x : Str} {k : NameKind} {i : Nat}, (ns.map (·.1)).Nodup → ns[i]? = some (x, k) → ns.lookup x = some k
  | [], _, _, _, _, e => by simp at e
  | (y, k') :: r, x, k, 0, _, e => by simp at e; obtain ⟨rfl, rfl⟩ := e; simp
  | (y, k') :: r, x, k, i + 1, nd, e => by
    have e' : r[i]? = some (x, k) := by simpa using e
    rw [List.map_cons, List.nodup_cons] at nd
    have hne : (x == y) = false := beq_eq_false_iff_ne.mpr (by
      rintro rfl
      exact nd.1 (List.mem_map.mpr ⟨(x, k), List.mem_of_getElem? e', rfl⟩))
    rw [List.lookup_cons, hne]
    exact lookup_of_nodup nd.2 e'
theorem EnvOk.kindOf {env : Env} {ns : List (Str × NameKind)} (ok : EnvOk env ns) {x : Str} {k : NameKind} {i : Nat} (e : ns[i]? = some (x, k)) : env.kindOf x = some k := by
  unfold Env.kindOf; rw [ok.names]; exact lookup_of_nodup ok.nodup e

structure RelR (hB : Heap) (env : Env) (ns : List (Str × NameKind)) (Φ : FH) (vals : List (Option AV)) (own : List (Addr × MO)) (h : Heap) : Prop where
  ok : EnvOk env ns
  base : ∀ a o, hB.get? a = some o → Φ a = some o
  frz : ∀ a o, Φ a = some o → h.get? a = some o
  vars : ∀ (i : Nat) x k av, ns[i]? = some (x, k) → vals[i]? = some (some av) → ∃ v, Slot env h x k v ∧ R Φ av v
  own : ∀ a mo, (a, mo) ∈ own → ∃ o, h.get? a = some o ∧ MR Φ mo o

section
variable {hB : Heap} {env : Env} {ns : List (Str × NameKind)} {Φ : FH} {vals : List (Option AV)} {own : List (Addr × MO)} {s s' : Shared}
theorem RelR.step (r : RelR hB env ns Φ vals own s.heap) (k : Keeps s s') : RelR hB env ns (grow Φ s s') vals own s'.heap where
  ok := r.ok
  base := fun a o e => grow_le r.frz a o (r.base a o e)
  frz := grow_heap (Keeps.keep k) r.frz
  vars := fun i x kd av e f => let ⟨v, a, b⟩ := r.vars i x kd av e f; ⟨v, a.keeps (Keeps.keep k), b.mono (grow_le r.frz)⟩
  own := fun a mo e => let ⟨o, x, y⟩ := r.own a mo e; ⟨o, Keeps.keep k a o x, y.mono (grow_le r.frz)⟩
theorem RelR.base' (r : RelR hB env ns Φ vals own s.heap) : ∀ a o, hB.get? a = some o → s.heap.get? a = some o := fun a o e => r.frz a o (r.base a o e)
end

structure AOk (D : Nat) (A : Around) : Prop where
  handled : A.handled = none
  depth : A.depth + D < recursionLimit
  units : A.units + 10 * D < cLine

theorem AOk.le {D D' : Nat} {A : Around} (h : AOk D A) (hd : D' ≤ D) : AOk D' A := ⟨h.handled, by have := h.depth; (first | lia | omega), by have := h.units; (first | lia | omega)⟩
theorem AOk.deeper {D : Nat} {A : Around} (env : Env) (h : AOk (D + 1) A) : AOk D (A.deeper env) :=
  ⟨h.handled, by have := h.depth; show A.depth + 1 + D < _; (first | lia | omega), by have := h.units; show A.units + 3 + 10 * D < _; (first | lia | omega)⟩
structure GH (K : Frag) (hB : Heap) : Prop where
  kin : K.In hB
  g : ∃ mg, hB.Ns mainGlobals mg
  b : ∃ mb : Str → Option Value, hB.Ns builtinsNs mb ∧ ∀ x : Str, x ≠ "__name__" → mb x = bootBuiltins x
  lim : hB.NoLimit

section
variable (prog : Program) (w : World) (hB : Heap)
noncomputable def Gives (D : Nat) (Φ : FH) (t : Sem Value) (s : Shared) (av : AV) : Prop :=
  ∀ A E, AOk D A → wpAny (model prog w) A t (fun v s' => Keeps s s' ∧ R (grow Φ s s') av v) E s
noncomputable def Ev (D : Nat) (env : Env) (ns : List (Str × NameKind)) (vals : List (Option AV)) (own : List (Addr × MO)) (e : Expr) (av : AV) : Prop :=
  ∀ Φ s, RelR hB env ns Φ vals own s.heap → Gives prog w D Φ (eval e env) s av
noncomputable def EvT (D : Nat) (env : Env) (ns : List (Str × NameKind)) (vals : List (Option AV)) (own : List (Addr × MO)) (e : Expr) (b : Bool) : Prop :=
  ∀ Φ s, RelR hB env ns Φ vals own s.heap → ∀ A E, AOk D A → wpAny (model prog w) A (isTrue e env (eval e env)) (fun v s' => Keeps s s' ∧ v = b) E s
end
end Kx
end

section -- J2
open PySem PySem.W PyProof.Rows
set_option Elab.async false
set_option maxRecDepth 100000
set_option linter.unusedVariables false
namespace Kx
section
variable {prog : Program} {w : World} {hB : Heap} {K : Frag} {D : Nat} {env : Env} {ns : List (Str × NameKind)} {vals : List (Option AV)} {own : List (Addr × MO)}

theorem fin {Φ : FH} {s s₁ s₂ : Shared} {av : AV} {v : Value} (k : Keeps s s₁) (h : Keeps s₁ s₂ ∧ R (grow (grow Φ s s₁) s₁ s₂) av v) : Keeps s s₂ ∧ R (grow Φ s s₂) av v :=
  ⟨Keeps.tr k h.1, R.mono (grow_grow (Keeps.keep k) (Keeps.keep h.1)) h.2⟩

theorem Ev.eq {e : Expr} {av av' : AV} (h : Ev prog w hB D env ns vals own e av) (he : av = av') : Ev prog w hB D env ns vals own e av' := he ▸ h
theorem EvT.eq {e : Expr} {b b' : Bool} (h : EvT prog w hB D env ns vals own e b) (he : b = b') : EvT prog w hB D env ns vals own e b' := he ▸ h

theorem Ev.int {i : Int} {k : Nat} {pos : Pos} : Ev prog w hB D env ns vals own (.Constant (.int i) k pos) (.int i) :=
  fun _ _ _ _ _ _ => wpAny_Constant_int ⟨Keeps.tok _, _, rfl⟩
theorem Ev.nat {i : Int} {n : Nat} {k : Nat} {pos : Pos} (h : i = (n : Int)) : Ev prog w hB D env ns vals own (.Constant (.int i) k pos) (.int n) := h ▸ Ev.int
theorem Ev.cNone {k : Nat} {pos : Pos} : Ev prog w hB D env ns vals own (.Constant .none k pos) .none :=
  fun _ s _ _ _ _ => wpAny_pure (a := Value.none) ⟨Keeps.rfl', rfl⟩
theorem Ev.str {x : Str} {k : Nat} {pos : Pos} : Ev prog w hB D env ns vals own (.Constant (.str x) k pos) (.str x) :=
  fun _ s _ _ _ _ => wpAny_mkText ⟨Keeps.tok _, _, rfl⟩
theorem Ev.bytes {x : List UInt8} {k : Nat} {pos : Pos} : Ev prog w hB D env ns vals own (.Constant (.bytes x) k pos) (.bytes x.toArray) :=
  fun _ s _ _ _ _ => wpAny_bind (wpAny_fresh (wpAny_pure ⟨Keeps.tok _, _, rfl⟩))

inductive At {α : Type} : List α → Nat → α → Prop where
  | head {x : α} {l : List α} : At (x :: l) 0 x
  | tail {x y : α} {l : List α} {i : Nat} : At l i x → At (y :: l) (i + 1) x
theorem At.get {α : Type} {l : List α} {i : Nat} {x : α} (h : At l i x) : l[i]? = some x := by
  induction h with
  | head => rfl
  | tail _ ih => simpa using ih

theorem Ev.loc {x : Str} {pos : Pos} {i : Nat} {av : AV} (hx : At ns i (x, .local)) (hv : At vals i (some av))
    (hd : (x == ("__debug__" : Str)) = false := by rfl) : Ev prog w hB D env ns vals own (.Name x pos) av := fun Φ s r A E ok => by
  obtain ⟨v, ⟨m, hn, hm⟩, hr⟩ := r.vars i x _ av hx.get hv.get
  exact wpAny_Name (wpAny_loadName_local r.ok.kind (r.ok.kindOf hx.get) hn hm ⟨Keeps.rfl', R.mono (grow_le r.frz) hr⟩) hd
theorem Ev.cel {x : Str} {pos : Pos} {i : Nat} {av : AV} (hx : At ns i (x, .cell)) (hv : At vals i (some av))
    (hd : (x == ("__debug__" : Str)) = false := by rfl) : Ev prog w hB D env ns vals own (.Name x pos) av := fun Φ s r A E ok => by
  obtain ⟨v, ⟨c, hc, hn⟩, hr⟩ := r.vars i x _ av hx.get hv.get
  exact wpAny_Name (wpAny_loadName_cell r.ok.kind (r.ok.kindOf hx.get) hc hn ⟨Keeps.rfl', R.mono (grow_le r.frz) hr⟩) hd
theorem Ev.glob {x : Str} {pos : Pos} {i : Nat} {v : Value} {av : AV} (G : GH K hB) (hx : At ns i (x, .globalImplicit)) (e : nsIn K mainGlobals x = some (some v))
    (hr : ∀ Φ : FH, (∀ a o, hB.get? a = some o → Φ a = some o) → R Φ av v) (hd : (x == ("__debug__" : Str)) = false := by rfl) : Ev prog w hB D env ns vals own (.Name x pos) av := fun Φ s r A E ok => by
  obtain ⟨mg, hg⟩ := G.g
  refine Calls.Name_function_global r.ok.kind (r.ok.kindOf hx.get) (Calls.loadGlobal_global (mg := mg) (by rw [r.ok.globals]; exact hg.keeps r.base') (mg_of G.kin hg e) ?_) hd
  exact ⟨Keeps.rfl', R.mono (grow_le r.frz) (hr Φ r.base)⟩
theorem Ev.blt {x : Str} {pos : Pos} {i : Nat} {v : Value} {av : AV} (G : GH K hB) (hx : At ns i (x, .globalImplicit)) (e : nsIn K mainGlobals x = some Option.none) (hb : bootBuiltins x = some v) (hn : x ≠ "__name__")
    (hr : ∀ Φ : FH, R Φ av v) (hd : (x == ("__debug__" : Str)) = false := by rfl) : Ev prog w hB D env ns vals own (.Name x pos) av := fun Φ s r A E ok => by
  obtain ⟨mg, hg⟩ := G.g
  obtain ⟨mb, hmb, hbb⟩ := G.b
  refine Calls.Name_function_global r.ok.kind (r.ok.kindOf hx.get) (Calls.loadGlobal_builtin (mg := mg) (mb := mb) (by rw [r.ok.globals]; exact hg.keeps r.base') (mg_none_of G.kin hg e) (by rw [r.ok.builtins]; exact hmb.keeps r.base') ((hbb x hn).trans hb) ?_) hd
  exact ⟨Keeps.rfl', hr _⟩

noncomputable def OpG (prog : Program) (w : World) (op : Operator) (a b c : AV) : Prop := ∀ (Φ : FH) s va vb A E, (∀ x o, Φ x = some o → s.heap.get? x = some o) → AOk 1 A → R Φ a va → R Φ b vb →
  wpAny (model prog w) A (binaryOp op va vb) (fun v s' => Keeps s s' ∧ R (grow Φ s s') c v) E s
noncomputable def InG (prog : Program) (w : World) (op : Operator) (a b c : AV) : Prop := ∀ (Φ : FH) s va vb A E, (∀ x o, Φ x = some o → s.heap.get? x = some o) → AOk 1 A → R Φ a va → R Φ b vb →
  wpAny (model prog w) A (inplaceOp op va vb) (fun v s' => Keeps s s' ∧ R (grow Φ s s') c v) E s
noncomputable def CmG (prog : Program) (w : World) (op : CmpOp) (a b : AV) (c : Bool) : Prop := ∀ (Φ : FH) s va vb A E, (∀ x o, Φ x = some o → s.heap.get? x = some o) → AOk 1 A → R Φ a va → R Φ b vb →
  wpAny (model prog w) A (compareOp op va vb) (fun v s' => Keeps s s' ∧ v = .bool c) E s

theorem Ev.bin {op : Operator} {l r : Expr} {pos : Pos} {a b c : AV} (hl : Ev prog w hB (D + 1) env ns vals own l a) (hr : Ev prog w hB (D + 1) env ns vals own r b) (hop : OpG prog w op a b c) :
    Ev prog w hB (D + 1) env ns vals own (.BinOp l op r pos) c := fun Φ s q A E ok => by
  refine wpAny_BinOp (wpAny_mono (hl Φ s q A E ok) (fun va s₁ h₁ => wpAny_mono (hr _ s₁ (q.step h₁.1) A E ok) (fun vb s₂ h₂ => ?_) fun _ _ e => e) fun _ _ e => e)
  have q₁ := q.step h₁.1
  have q₂ := q₁.step h₂.1
  exact wpAny_mono (hop _ s₂ va vb A E q₂.frz (ok.le (by (first | lia | omega))) (R.mono (grow_le q₁.frz) h₁.2) h₂.2) (fun v s₃ h₃ => fin h₁.1 (fin h₂.1 h₃)) fun _ _ e => e

theorem Ev.cmp {op : CmpOp} {l r : Expr} {pos : Pos} {a b : AV} {c : Bool} (hl : Ev prog w hB (D + 1) env ns vals own l a) (hr : Ev prog w hB (D + 1) env ns vals own r b) (hop : CmG prog w op a b c)
    (hm : behindInMarks op r = false := by with_unfolding_all rfl) : Ev prog w hB (D + 1) env ns vals own (.Compare l [op] [r] pos) (.bool c) := fun Φ s q A E ok => by
  refine wpAny_Compare1 (wpAny_mono (hl Φ s q A E ok) (fun va s₁ h₁ => wpAny_mono (hr _ s₁ (q.step h₁.1) A E ok) (fun vb s₂ h₂ => ?_) fun _ _ e => e) fun _ _ e => e) hm
  have q₁ := q.step h₁.1
  have q₂ := q₁.step h₂.1
  exact wpAny_mono (hop _ s₂ va vb A E q₂.frz (ok.le (by (first | lia | omega))) (R.mono (grow_le q₁.frz) h₁.2) h₂.2) (fun v s₃ h₃ => ⟨Keeps.tr h₁.1 (Keeps.tr h₂.1 h₃.1), h₃.2⟩) fun _ _ e => e
theorem EvT.cmp {op : CmpOp} {l r : Expr} {pos : Pos} {a b : AV} {c : Bool} (hl : Ev prog w hB (D + 1) env ns vals own l a) (hr : Ev prog w hB (D + 1) env ns vals own r b) (hop : CmG prog w op a b c)
    (hm : behindInMarks op r = false := by with_unfolding_all rfl) : EvT prog w hB (D + 1) env ns vals own (.Compare l [op] [r] pos) c := fun Φ s q A E ok => by
  refine wpAny_isTrue_Compare1 (wpAny_mono (hl Φ s q A E ok) (fun va s₁ h₁ => wpAny_mono (hr _ s₁ (q.step h₁.1) A E ok) (fun vb s₂ h₂ => ?_) fun _ _ e => e) fun _ _ e => e) hm
  have q₁ := q.step h₁.1
  have q₂ := q₁.step h₂.1
  refine wpAny_mono (hop _ s₂ va vb A E q₂.frz (ok.le (by (first | lia | omega))) (R.mono (grow_le q₁.frz) h₁.2) h₂.2) (fun v s₃ h₃ => ?_) fun _ _ e => e
  obtain ⟨k₃, rfl⟩ := h₃
  exact wpAny_truthy_bool ⟨Keeps.tr h₁.1 (Keeps.tr h₂.1 k₃), rfl⟩
theorem EvT.cmp2 {op₁ op₂ : CmpOp} {l r₁ r₂ : Expr} {pos : Pos} {a b d : AV} {c₁ c₂ : Bool} (hl : Ev prog w hB (D + 1) env ns vals own l a) (hr₁ : Ev prog w hB (D + 1) env ns vals own r₁ b)
    (ho₁ : CmG prog w op₁ a b c₁) (hr₂ : Ev prog w hB (D + 1) env ns vals own r₂ d) (ho₂ : CmG prog w op₂ b d c₂)
    (hm : lastMarks [op₁, op₂] [r₁, r₂] = false := by with_unfolding_all rfl) : EvT prog w hB (D + 1) env ns vals own (.Compare l [op₁, op₂] [r₁, r₂] pos) (c₁ && c₂) := fun Φ s q A E ok => by
  refine isTrue_chain (wpAny_mono (hl Φ s q A E ok) (fun va s₁ h₁ => ?_) fun _ _ e => e) hm
  have q₁ := q.step h₁.1
  refine test_link (wpAny_mono (hr₁ _ s₁ q₁ A E ok) (fun vb s₂ h₂ => ?_) fun _ _ e => e)
  have q₂ := q₁.step h₂.1
  refine wpAny_mono (ho₁ _ s₂ va vb A E q₂.frz (ok.le (by (first | lia | omega))) (R.mono (grow_le q₁.frz) h₁.2) h₂.2) (fun v s₃ h₃ => ?_) fun _ _ e => e
  obtain ⟨k₃, rfl⟩ := h₃
  have q₃ := q₂.step k₃
  refine wpAny_truthy_bool ?_
  cases c₁ with
  | false => exact ⟨Keeps.tr h₁.1 (Keeps.tr h₂.1 k₃), rfl⟩
  | true =>
    refine test_last (wpAny_mono (hr₂ _ s₃ q₃ A E ok) (fun vd s₄ h₄ => ?_) fun _ _ e => e)
    have q₄ := q₃.step h₄.1
    refine wpAny_mono (ho₂ _ s₄ vb vd A E q₄.frz (ok.le (by (first | lia | omega))) (R.mono (grow_le q₃.frz) (R.mono (grow_le q₂.frz) h₂.2)) h₄.2) (fun v s₅ h₅ => ?_) fun _ _ e => e
    obtain ⟨k₅, rfl⟩ := h₅
    exact wpAny_truthy_bool ⟨Keeps.tr h₁.1 (Keeps.tr h₂.1 (Keeps.tr k₃ (Keeps.tr h₄.1 k₅))), by simp⟩
theorem Ev.cmp2 {op₁ op₂ : CmpOp} {l r₁ r₂ : Expr} {pos : Pos} {a b d : AV} {c₁ c₂ : Bool} (hl : Ev prog w hB (D + 1) env ns vals own l a) (hr₁ : Ev prog w hB (D + 1) env ns vals own r₁ b)
    (ho₁ : CmG prog w op₁ a b c₁) (hr₂ : Ev prog w hB (D + 1) env ns vals own r₂ d) (ho₂ : CmG prog w op₂ b d c₂)
    (hm : lastMarks [op₁, op₂] [r₁, r₂] = false := by with_unfolding_all rfl) : Ev prog w hB (D + 1) env ns vals own (.Compare l [op₁, op₂] [r₁, r₂] pos) (.bool (c₁ && c₂)) := fun Φ s q A E ok => by
  refine Compare_chain (wpAny_mono (hl Φ s q A E ok) (fun va s₁ h₁ => ?_) fun _ _ e => e) hm
  have q₁ := q.step h₁.1
  refine chain_link (wpAny_mono (hr₁ _ s₁ q₁ A E ok) (fun vb s₂ h₂ => ?_) fun _ _ e => e)
  have q₂ := q₁.step h₂.1
  refine wpAny_mono (ho₁ _ s₂ va vb A E q₂.frz (ok.le (by (first | lia | omega))) (R.mono (grow_le q₁.frz) h₁.2) h₂.2) (fun v s₃ h₃ => ?_) fun _ _ e => e
  obtain ⟨k₃, rfl⟩ := h₃
  have q₃ := q₂.step k₃
  refine wpAny_truthy_bool ?_
  cases c₁ with
  | false => exact ⟨Keeps.tr h₁.1 (Keeps.tr h₂.1 k₃), rfl⟩
  | true =>
    refine chain_last (wpAny_mono (hr₂ _ s₃ q₃ A E ok) (fun vd s₄ h₄ => ?_) fun _ _ e => e)
    have q₄ := q₃.step h₄.1
    refine wpAny_mono (ho₂ _ s₄ vb vd A E q₄.frz (ok.le (by (first | lia | omega))) (R.mono (grow_le q₃.frz) (R.mono (grow_le q₂.frz) h₂.2)) h₄.2) (fun v s₅ h₅ => ?_) fun _ _ e => e
    obtain ⟨k₅, rfl⟩ := h₅
    exact ⟨Keeps.tr h₁.1 (Keeps.tr h₂.1 (Keeps.tr k₃ (Keeps.tr h₄.1 k₅))), by simp [R]⟩

theorem Ev.neg {x : Expr} {pos : Pos} {a : Int} (hx : Ev prog w hB D env ns vals own x (.int a)) : Ev prog w hB D env ns vals own (.UnaryOp .USub x pos) (.int (-a)) := fun Φ s q A E ok => by
  refine wpAny_UnaryOp (wpAny_mono (hx Φ s q A E ok) (fun v s₁ h₁ => ?_) fun _ _ e => e)
  obtain ⟨k₁, t, rfl⟩ := h₁
  exact neg_int ⟨Keeps.tr k₁ (Keeps.tok _), _, rfl⟩
theorem EvT.not {x : Expr} {pos : Pos} {b : Bool} (hx : EvT prog w hB D env ns vals own x b) : EvT prog w hB D env ns vals own (.UnaryOp .Not x pos) (!b) := fun Φ s q A E ok => by
  refine isTrue_not (wpAny_mono (hx Φ s q A E ok) (fun v s₁ h₁ => ?_) fun _ _ e => e)
  obtain ⟨k₁, rfl⟩ := h₁
  exact ⟨k₁, rfl⟩
theorem Ev.ite {t x y : Expr} {pos : Pos} {b : Bool} {av : AV} (ht : EvT prog w hB D env ns vals own t b) (hx : b = true → Ev prog w hB D env ns vals own x av) (hy : b = false → Ev prog w hB D env ns vals own y av) :
    Ev prog w hB D env ns vals own (.IfExp t x y pos) av := fun Φ s q A E ok => by
  refine wpAny_IfExp (wpAny_mono (ht Φ s q A E ok) (fun v s₁ h₁ => ?_) fun _ _ e => e)
  obtain ⟨k₁, rfl⟩ := h₁
  cases v with
  | true => exact wpAny_mono (hx rfl _ s₁ (q.step k₁) A E ok) (fun v s₂ h₂ => fin k₁ h₂) fun _ _ e => e
  | false => exact wpAny_mono (hy rfl _ s₁ (q.step k₁) A E ok) (fun v s₂ h₂ => fin k₁ h₂) fun _ _ e => e
theorem EvT.and2 {x y : Expr} {pos : Pos} {b c : Bool} (hx : EvT prog w hB D env ns vals own x b) (hy : b = true → EvT prog w hB D env ns vals own y c) :
    EvT prog w hB D env ns vals own (.BoolOp .And [x, y] pos) (b && c) := fun Φ s q A E ok => by
  refine isTrue_and (wpAny_mono (hx Φ s q A E ok) (fun v s₁ h₁ => ?_) fun _ _ e => e)
  obtain ⟨k₁, rfl⟩ := h₁
  cases v with
  | false => exact ⟨k₁, rfl⟩
  | true =>
    refine isTrue_and (wpAny_mono (hy rfl _ s₁ (q.step k₁) A E ok) (fun v s₂ h₂ => ?_) fun _ _ e => e)
    obtain ⟨k₂, rfl⟩ := h₂
    cases v with
    | false => exact ⟨Keeps.tr k₁ k₂, rfl⟩
    | true => exact isTrue_and_nil ⟨Keeps.tr k₁ k₂, rfl⟩
theorem EvT.or2 {x y : Expr} {pos : Pos} {b c : Bool} (hx : EvT prog w hB D env ns vals own x b) (hy : b = false → EvT prog w hB D env ns vals own y c) :
    EvT prog w hB D env ns vals own (.BoolOp .Or [x, y] pos) (b || c) := fun Φ s q A E ok => by
  refine isTrue_or (wpAny_mono (hx Φ s q A E ok) (fun v s₁ h₁ => ?_) fun _ _ e => e)
  obtain ⟨k₁, rfl⟩ := h₁
  cases v with
  | true => exact ⟨k₁, rfl⟩
  | false =>
    refine isTrue_or (wpAny_mono (hy rfl _ s₁ (q.step k₁) A E ok) (fun v s₂ h₂ => ?_) fun _ _ e => e)
    obtain ⟨k₂, rfl⟩ := h₂
    cases v with
    | true => exact ⟨Keeps.tr k₁ k₂, rfl⟩
    | false => exact isTrue_or_nil ⟨Keeps.tr k₁ k₂, rfl⟩
theorem Ev.and2 {x y : Expr} {pos : Pos} {b c : Bool} (hx : Ev prog w hB D env ns vals own x (.bool b)) (hy : b = true → Ev prog w hB D env ns vals own y (.bool c)) :
    Ev prog w hB D env ns vals own (.BoolOp .And [x, y] pos) (.bool (b && c)) := fun Φ s q A E ok => by
  refine BoolOp_and (wpAny_mono (hx Φ s q A E ok) (fun v s₁ h₁ => ?_) fun _ _ e => e)
  obtain ⟨k₁, rfl⟩ := h₁
  refine wpAny_truthy_bool ?_
  cases b with
  | false => exact ⟨k₁, rfl⟩
  | true =>
    refine BoolOp_one (wpAny_mono (hy rfl _ s₁ (q.step k₁) A E ok) (fun v s₂ h₂ => ?_) fun _ _ e => e)
    rw [Bool.true_and]
    exact fin k₁ h₂
theorem EvT.ofBool {e : Expr} {b : Bool} (h : Ev prog w hB D env ns vals own e (.bool b)) (he : ∀ whole, isTrue e env whole = (do let v ← whole; standAt e.pos; holding [v] (truthy v)) := by intro _; rfl) :
    EvT prog w hB D env ns vals own e b := fun Φ s q A E ok => by
  refine isTrue_plain (wpAny_mono (h Φ s q A E ok) (fun v s₁ h₁ => ?_) fun _ _ e => e) (he _)
  obtain ⟨k₁, rfl⟩ := h₁
  exact wpAny_truthy_bool ⟨k₁, rfl⟩

theorem og_add {a b : Int} : OpG prog w .Add (.int a) (.int b) (.int (a + b)) := fun Φ s va vb A E _ _ ⟨_, ha⟩ ⟨_, hb⟩ => by subst ha hb; exact add_int ⟨Keeps.tok _, _, rfl⟩
theorem og_sub {a b : Int} : OpG prog w .Sub (.int a) (.int b) (.int (a - b)) := fun Φ s va vb A E _ _ ⟨_, ha⟩ ⟨_, hb⟩ => by subst ha hb; exact sub_int' ⟨Keeps.tok _, _, rfl⟩
theorem og_mul {a b : Int} (h : IntMulOk a b) : OpG prog w .Mult (.int a) (.int b) (.int (a * b)) := fun Φ s va vb A E _ _ ⟨_, ha⟩ ⟨_, hb⟩ => by subst ha hb; exact mul_int ⟨Keeps.tok _, _, rfl⟩ h
theorem og_mod {a b : Int} (h : 0 < b) : OpG prog w .Mod (.int a) (.int b) (.int (a % b)) := fun Φ s va vb A E _ _ ⟨_, ha⟩ ⟨_, hb⟩ => by
  subst ha hb; rw [← Int.fmod_eq_emod_of_nonneg _ (Int.le_of_lt h)]; exact mod_int' (by (first | lia | omega)) ⟨Keeps.tok _, _, rfl⟩
theorem og_div {a b : Int} (h : 0 < b) (hb : b.natAbs.log2 < 9000) : OpG prog w .FloorDiv (.int a) (.int b) (.int (a / b)) := fun Φ s va vb A E _ _ ⟨_, ha⟩ ⟨_, hb'⟩ => by
  subst ha hb'; rw [← Int.fdiv_eq_ediv_of_nonneg _ (Int.le_of_lt h)]; exact floordiv_int (by (first | lia | omega)) ⟨Keeps.tok _, _, rfl⟩ (.inl (PyProof.noPylong_of_log2 hb))
theorem og_shl {a b : Int} (h : 0 ≤ b) (hb : b ≤ 1000000) (ha : a.natAbs < 2 ^ 64) : OpG prog w .LShift (.int a) (.int b) (.int (a * 2 ^ b.toNat)) := fun Φ s va vb A E _ _ ⟨_, ha'⟩ ⟨_, hb'⟩ => by
  subst ha' hb'; exact lshift_int_small h hb ha ⟨Keeps.tok _, _, rfl⟩
theorem og_shr {a b : Int} (h : 0 ≤ b) : OpG prog w .RShift (.int a) (.int b) (.int (a / 2 ^ b.toNat)) := fun Φ s va vb A E _ _ ⟨_, ha'⟩ ⟨_, hb'⟩ => by
  subst ha' hb'; rw [← Int.fdiv_eq_ediv_of_nonneg _ (Int.le_of_lt (by exact_mod_cast Nat.two_pow_pos b.toNat))]; exact rshift_int h ⟨Keeps.tok _, _, rfl⟩
theorem nat_or_and : ∀ (n a b : Nat), a < n → (a ||| b) + (a &&& b) = a + b
  | 0, _, _, h => absurd h (Nat.not_lt_zero _)
  | n + 1, a, b, h => by
    by_cases ha : a = 0
    · subst ha; simp
    · have ih := nat_or_and n (a / 2) (b / 2) (by (first | lia | omega))
      rw [← Nat.or_div_two, ← Nat.and_div_two] at ih
      have h1 := Nat.or_mod_two_pow (a := a) (b := b) (n := 1)
      have h2 := Nat.and_mod_two_pow (a := a) (b := b) (n := 1)
      simp only [Nat.pow_one] at h1 h2
      have key : ∀ p q : Nat, p < 2 → q < 2 → (p ||| q) + (p &&& q) = p + q := by
        intro p q hp hq
        have h0 : p = 0 ∨ p = 1 := by (first | lia | omega)
        have h1 : q = 0 ∨ q = 1 := by (first | lia | omega)
        rcases h0 with rfl | rfl <;> rcases h1 with rfl | rfl <;> rfl
      have hk := key (a % 2) (b % 2) (Nat.mod_lt _ (by decide)) (Nat.mod_lt _ (by decide))
      (first | lia | omega)
theorem nat_xor_and : ∀ (n a b : Nat), a < n → (a ^^^ b) + 2 * (a &&& b) = a + b
  | 0, _, _, h => absurd h (Nat.not_lt_zero _)
  | n + 1, a, b, h => by
    by_cases ha : a = 0
    · subst ha; simp
    · have ih := nat_xor_and n (a / 2) (b / 2) (by (first | lia | omega))
      rw [← Nat.xor_div_two, ← Nat.and_div_two] at ih
      have h1 := Nat.xor_mod_two_pow (a := a) (b := b) (n := 1)
      have h2 := Nat.and_mod_two_pow (a := a) (b := b) (n := 1)
      simp only [Nat.pow_one] at h1 h2
      have key : ∀ p q : Nat, p < 2 → q < 2 → (p ^^^ q) + 2 * (p &&& q) = p + q := by
        intro p q hp hq
        have h0 : p = 0 ∨ p = 1 := by (first | lia | omega)
        have h1 : q = 0 ∨ q = 1 := by (first | lia | omega)
        rcases h0 with rfl | rfl <;> rcases h1 with rfl | rfl <;> rfl
      have hk := key (a % 2) (b % 2) (Nat.mod_lt _ (by decide)) (Nat.mod_lt _ (by decide))
      (first | lia | omega)
theorem bitAnd_nn {a b : Nat} : Builtin.bitAnd (a : Int) (b : Int) = ((a &&& b : Nat) : Int) := by
  rw [bitAnd_pp (Int.natCast_nonneg a) (Int.natCast_nonneg b)]; rfl
theorem bitOr_nn {a b : Nat} : Builtin.bitOr (a : Int) (b : Int) = ((a ||| b : Nat) : Int) := by
  rw [bitOr_and, bitAnd_nn]; have := nat_or_and (a + 1) a b (by (first | lia | omega)); (first | lia | omega)
theorem bitXor_nn {a b : Nat} : Builtin.bitXor (a : Int) (b : Int) = ((a ^^^ b : Nat) : Int) := by
  rw [bitXor_and, bitAnd_nn]; have := nat_xor_and (a + 1) a b (by (first | lia | omega)); (first | lia | omega)
theorem og_and {a b : Nat} : OpG prog w .BitAnd (.int a) (.int b) (.int ((a &&& b : Nat) : Int)) := fun Φ s va vb A E _ _ ⟨_, ha⟩ ⟨_, hb⟩ => by
  subst ha hb; rw [← bitAnd_nn]; exact and_int ⟨Keeps.tok _, _, rfl⟩
theorem og_or {a b : Nat} : OpG prog w .BitOr (.int a) (.int b) (.int ((a ||| b : Nat) : Int)) := fun Φ s va vb A E _ _ ⟨_, ha⟩ ⟨_, hb⟩ => by
  subst ha hb; rw [← bitOr_nn]; exact or_int ⟨Keeps.tok _, _, rfl⟩
theorem og_xor {a b : Nat} : OpG prog w .BitXor (.int a) (.int b) (.int ((a ^^^ b : Nat) : Int)) := fun Φ s va vb A E _ _ ⟨_, ha⟩ ⟨_, hb⟩ => by
  subst ha hb; rw [← bitXor_nn]; exact xor_int ⟨Keeps.tok _, _, rfl⟩
theorem og_pow {a b : Int} (h : 0 ≤ b) (hb : b ≤ 1000000) (ha : a.natAbs < 2 ^ 64) : OpG prog w .Pow (.int a) (.int b) (.int (a ^ b.toNat)) := fun Φ s va vb A E _ _ ⟨_, ha'⟩ ⟨_, hb'⟩ => by
  subst ha' hb'; exact pow_int_small h hb ha ⟨Keeps.tok _, _, rfl⟩
theorem ig_add {a b : Int} : InG prog w .Add (.int a) (.int b) (.int (a + b)) := fun Φ s va vb A E _ _ ⟨_, ha⟩ ⟨_, hb⟩ => by subst ha hb; exact iadd_int ⟨Keeps.tok _, _, rfl⟩
theorem ig_mul {a b : Int} (h : IntMulOk a b) : InG prog w .Mult (.int a) (.int b) (.int (a * b)) := fun Φ s va vb A E _ _ ⟨_, ha⟩ ⟨_, hb⟩ => by subst ha hb; exact imul_int ⟨Keeps.tok _, _, rfl⟩ h
theorem ig_xor {a b : Nat} : InG prog w .BitXor (.int a) (.int b) (.int ((a ^^^ b : Nat) : Int)) := fun Φ s va vb A E _ _ ⟨_, ha⟩ ⟨_, hb⟩ => by
  subst ha hb; rw [← bitXor_nn]; exact ixor_int ⟨Keeps.tok _, _, rfl⟩
theorem cg_eq {a b : Int} : CmG prog w .Eq (.int a) (.int b) (a == b) := fun Φ s va vb A E _ _ ⟨_, ha⟩ ⟨_, hb⟩ => by subst ha hb; exact eq_int ⟨Keeps.rfl', rfl⟩
theorem cg_ne {a b : Int} : CmG prog w .NotEq (.int a) (.int b) (a != b) := fun Φ s va vb A E _ _ ⟨_, ha⟩ ⟨_, hb⟩ => by subst ha hb; exact ne_int ⟨Keeps.rfl', rfl⟩
theorem cg_lt {a b : Int} : CmG prog w .Lt (.int a) (.int b) (decide (a < b)) := fun Φ s va vb A E _ _ ⟨_, ha⟩ ⟨_, hb⟩ => by subst ha hb; exact lt_int ⟨Keeps.rfl', rfl⟩
theorem cg_le {a b : Int} : CmG prog w .LtE (.int a) (.int b) (decide (a ≤ b)) := fun Φ s va vb A E _ _ ⟨_, ha⟩ ⟨_, hb⟩ => by subst ha hb; exact le_int ⟨Keeps.rfl', rfl⟩
theorem cg_gt {a b : Int} : CmG prog w .Gt (.int a) (.int b) (decide (b < a)) := fun Φ s va vb A E _ _ ⟨_, ha⟩ ⟨_, hb⟩ => by subst ha hb; exact gt_int ⟨Keeps.rfl', rfl⟩
theorem cg_ge {a b : Int} : CmG prog w .GtE (.int a) (.int b) (decide (b ≤ a)) := fun Φ s va vb A E _ _ ⟨_, ha⟩ ⟨_, hb⟩ => by subst ha hb; exact ge_int ⟨Keeps.rfl', rfl⟩
noncomputable def AV.isNone : AV → Bool
  | .none => true
  | _ => false
theorem cg_isNone {a : AV} (ha : (∃ C n x, a = .obj C n x) ∨ a = .none) : CmG prog w .Is a .none a.isNone := fun Φ s va vb A E _ _ ra rb => by
  cases rb
  rcases ha with ⟨C, n, x, rfl⟩ | rfl
  · obtain ⟨x, dx, es, vs, n, rfl, _⟩ := ra
    exact is_ref_none ⟨Keeps.rfl', rfl⟩
  · cases ra
    exact wpAny_is_self rfl ⟨Keeps.rfl', rfl⟩
end
end Kx
end

section -- J3
open PySem PySem.W PyProof.Rows
set_option Elab.async false
set_option maxRecDepth 100000
set_option linter.unusedVariables false
namespace Kx
section
variable {prog : Program} {w : World} {hB : Heap} {K : Frag} {D : Nat} {env : Env} {ns : List (Str × NameKind)} {vals : List (Option AV)} {own : List (Addr × MO)}

inductive LV (own : List (Addr × MO)) : AV → List AV → Prop where
  | frz {xs : List AV} : LV own (.lst xs) xs
  | own {a : Addr} {xs : List AV} (h : (a, MO.lst xs) ∈ own) : LV own (.ref a) xs

theorem LV.get {Φ Ψ : FH} {h : Heap} {av : AV} {xs : List AV} {v : Value} (l : LV own av xs) (q : RelR hB env ns Φ vals own h) (hle : Le Φ Ψ) (hf : ∀ a o, Ψ a = some o → h.get? a = some o) (r : R Ψ av v) :
    ∃ a vs n, v = .ref a ∧ h.get? a = some (listOf vs.toArray n) ∧ Rs Ψ xs vs := by
  cases l with
  | frz => obtain ⟨a, vs, n, e, f, g⟩ := r; exact ⟨a, vs, n, e, hf _ _ f, g⟩
  | own hm =>
    obtain ⟨o, ho, vs, n, rfl, g⟩ := q.own _ _ hm
    cases r
    exact ⟨_, vs, n, rfl, ho, g.mono hle⟩

theorem isList_of {h : Heap} {a : Addr} {vs : List Value} {n : Nat} (e : h.get? a = some (listOf vs.toArray n)) : h.IsList a vs.toArray := ⟨_, e, rfl, n, rfl⟩
theorem isTup_of {h : Heap} {a : Addr} {vs : List Value} {n : Nat} (e : h.get? a = some (tupOf vs.toArray n)) : IsTup h a vs.toArray := ⟨_, e, rfl, n, rfl⟩

theorem Ev.item {v sl : Expr} {pos : Pos} {av x : AV} {xs : List AV} {k : Int} (hv : Ev prog w hB D env ns vals own v av) (hl : LV own av xs) (hi : Ev prog w hB D env ns vals own sl (.int k))
    (h0 : 0 ≤ k) (hk : k < 2 ^ 63) (hx : xs[k.toNat]? = some x)
    (hs : ∀ o i, subscripted sl false o i = operate [o, i] (getItem o i) := by intro _ _; rfl) : Ev prog w hB D env ns vals own (.Subscript v sl pos) x := fun Φ s q A E ok => by
  refine Subscript_ (wpAny_mono (hv Φ s q A E ok) (fun va s₁ h₁ => wpAny_mono (hi _ s₁ (q.step h₁.1) A E ok) (fun vb s₂ h₂ => ?_) fun _ _ e => e) fun _ _ e => e)
  have q₁ := q.step h₁.1
  have q₂ := q₁.step h₂.1
  obtain ⟨k₂, t, rfl⟩ := h₂
  obtain ⟨a, vs, n, rfl, ha, hr⟩ := hl.get q₂ (Le.refl _) q₂.frz (R.mono (grow_le q₁.frz) h₁.2)
  obtain ⟨val, hval, hR⟩ := hr.get _ _ hx
  exact tail_any (isList_of ha).typeIs slot_list_getitem.lookup (wpAny_getItem_list (isList_of ha) h0 hk (by simpa using hval) (fin h₁.1 (fin k₂ ⟨Keeps.rfl', R.mono (grow_le q₂.frz) hR⟩))) (hs _ _)
theorem Ev.itemNeg {v sl : Expr} {pos : Pos} {av x : AV} {xs : List AV} {k : Int} (hv : Ev prog w hB D env ns vals own v av) (hl : LV own av xs) (hi : Ev prog w hB D env ns vals own sl (.int k))
    (h0 : k < 0) (h1 : -(xs.length : Int) ≤ k) (hk : -(2 ^ 63) ≤ k) (hx : xs[(k + xs.length).toNat]? = some x)
    (hs : ∀ o i, subscripted sl false o i = operate [o, i] (getItem o i) := by intro _ _; rfl) : Ev prog w hB D env ns vals own (.Subscript v sl pos) x := fun Φ s q A E ok => by
  refine Subscript_ (wpAny_mono (hv Φ s q A E ok) (fun va s₁ h₁ => wpAny_mono (hi _ s₁ (q.step h₁.1) A E ok) (fun vb s₂ h₂ => ?_) fun _ _ e => e) fun _ _ e => e)
  have q₁ := q.step h₁.1
  have q₂ := q₁.step h₂.1
  obtain ⟨k₂, t, rfl⟩ := h₂
  obtain ⟨a, vs, n, rfl, ha, hr⟩ := hl.get q₂ (Le.refl _) q₂.frz (R.mono (grow_le q₁.frz) h₁.2)
  obtain ⟨val, hval, hR⟩ := hr.get _ _ hx
  have hlen : vs.toArray.size = xs.length := by rw [List.size_toArray, hr.length]
  exact tail_any (isList_of ha).typeIs slot_list_getitem.lookup (wpAny_getItem_list_neg (isList_of ha) h0 (by rw [hlen]; exact h1) hk (by rw [hlen]; simpa using hval) (fin h₁.1 (fin k₂ ⟨Keeps.rfl', R.mono (grow_le q₂.frz) hR⟩))) (hs _ _)
theorem Ev.itemTup {v sl : Expr} {pos : Pos} {x : AV} {xs : List AV} {k : Nat} (hv : Ev prog w hB D env ns vals own v (.tup xs)) (hi : Ev prog w hB D env ns vals own sl (.int k))
    (hk : k < 2 ^ 62) (hx : xs[k]? = some x)
    (hs : ∀ o i, subscripted sl false o i = operate [o, i] (getItem o i) := by intro _ _; rfl) : Ev prog w hB D env ns vals own (.Subscript v sl pos) x := fun Φ s q A E ok => by
  refine Subscript_ (wpAny_mono (hv Φ s q A E ok) (fun va s₁ h₁ => wpAny_mono (hi _ s₁ (q.step h₁.1) A E ok) (fun vb s₂ h₂ => ?_) fun _ _ e => e) fun _ _ e => e)
  have q₁ := q.step h₁.1
  have q₂ := q₁.step h₂.1
  obtain ⟨k₂, t, rfl⟩ := h₂
  obtain ⟨k₁, a, vs, n, rfl, ha, hr⟩ := h₁
  have ha₂ := q₂.frz _ _ (grow_le q₁.frz _ _ ha)
  obtain ⟨val, hval, hR⟩ := hr.get _ _ hx
  have hlt : k < vs.length := by
    rcases Nat.lt_or_ge k vs.length with h | h
    · exact h
    · rw [List.getElem?_eq_none h] at hval; cases hval
  exact item_tupleT (isTup_of ha₂) (by (first | lia | omega)) (by (first | lia | omega)) (by unfold seqIndex?; simp; (first | lia | omega)) hval (fin k₁ (fin k₂ ⟨Keeps.rfl', R.mono (grow_le q₂.frz) (R.mono (grow_le q₁.frz) hR)⟩)) (hs _ _)

noncomputable def EvL (prog : Program) (w : World) (hB : Heap) (D : Nat) (env : Env) (ns : List (Str × NameKind)) (vals : List (Option AV)) (own : List (Addr × MO)) (es : List Expr) (avs : List AV) : Prop :=
  (∀ pos, (backTo pos (starEach es env)).any (·.1) = false) ∧ ∀ Φ s, RelR hB env ns Φ vals own s.heap → ∀ A E pos, AOk D A → wpAny (model prog w) A (spliced (backTo pos (starEach es env))) (fun vs s' => Keeps s s' ∧ Rs (grow Φ s s') avs vs) E s
theorem EvL.nil : EvL prog w hB D env ns vals own [] [] := ⟨fun _ => rfl, fun Φ s q A E pos ok => Calls.spliced_nil ⟨Keeps.rfl', trivial⟩⟩
theorem EvL.cons {e : Expr} {es : List Expr} {av : AV} {avs : List AV} (h : Ev prog w hB D env ns vals own e av) (k : EvL prog w hB D env ns vals own es avs)
    (he : starEach (e :: es) env = (false, eval e env) :: starEach es env := by rfl) : EvL prog w hB D env ns vals own (e :: es) (av :: avs) := by
  refine ⟨fun pos => ?_, fun Φ s q A E pos ok => ?_⟩
  · rw [he]; show (false || (backTo pos (starEach es env)).any (·.1)) = false; rw [k.1 pos]; rfl
  · rw [he]
    refine Calls.spliced_cons (wpAny_mono (h Φ s q A E ok) (fun v s₁ h₁ => wpAny_mono (k.2 _ s₁ (q.step h₁.1) A E pos ok) (fun vs s₂ h₂ => ?_) fun _ _ e => e) fun _ _ e => e)
    have q₁ := q.step h₁.1
    exact ⟨Keeps.tr h₁.1 h₂.1, R.mono (grow_le2 (Keeps.keep h₂.1)) h₁.2, Rs.mono (grow_grow (Keeps.keep h₁.1) (Keeps.keep h₂.1)) h₂.2⟩

theorem grow_new {Φ : FH} {s : Shared} {o : Obj} {n : Nat} (ho : o.isFreed = false) : grow Φ s { s with heap := s.heap.push o, toks := n } s.heap.objs.size = some o := by
  have : s.heap.get? s.heap.objs.size = none := by
    cases e : s.heap.get? s.heap.objs.size with
    | none => rfl
    | some o => exact absurd (Heap.lt_size e) (Nat.lt_irrefl _)
  unfold grow
  rw [this]
  exact Heap.get?_push_size _ ho
theorem get_size (h : Heap) : h.get? h.objs.size = none := by
  cases e : h.get? h.objs.size with
  | none => rfl
  | some o => exact absurd (Heap.lt_size e) (Nat.lt_irrefl _)

theorem Ev.tuple {es : List Expr} {avs : List AV} {k : Nat} {pos : Pos} (h : EvL prog w hB D env ns vals own es avs) (hl : avs.length ≤ sizeLine) : Ev prog w hB D env ns vals own (.Tuple es k pos) (.tup avs) := fun Φ s q A E ok => by
  refine Tuple_ (wpAny_mono (h.2 Φ s q A E pos ok) (fun vs s₁ h₁ => ?_) fun _ _ e => e)
  refine wpAny_newObj_type (fin h₁.1 ⟨Keeps.push _ _, s₁.heap.objs.size, vs, 0, rfl, grow_new rfl, Rs.mono (grow_le (q.step h₁.1).frz) h₁.2⟩) ?_
  show vs.toArray.size ≤ sizeLine
  rw [List.size_toArray, Rs.length h₁.2]; exact hl

noncomputable def hide (Φ : FH) (a : Addr) : FH := fun b => if b = a then none else Φ b
theorem hide_le {Φ : FH} {a : Addr} : Le (hide Φ a) Φ := fun b o e => by unfold hide at e; split at e <;> first | cases e | exact e
theorem hide_mono {Φ Ψ : FH} {a : Addr} (h : Le Φ Ψ) : Le (hide Φ a) (hide Ψ a) := fun b o e => by
  unfold hide at e ⊢; split at e
  · cases e
  · rename_i hne; rw [if_neg hne]; exact h b o e
theorem le_hide {Φ Ψ : FH} {a : Addr} (h : Le Φ Ψ) (ha : Φ a = none) : Le Φ (hide Ψ a) := fun b o e => by
  unfold hide; rw [if_neg (by rintro rfl; rw [ha] at e; cases e)]; exact h b o e
noncomputable def EvN (prog : Program) (w : World) (hB : Heap) (D : Nat) (env : Env) (ns : List (Str × NameKind)) (vals : List (Option AV)) (own : List (Addr × MO)) (e : Expr) (mo : MO) : Prop :=
  ∀ Φ s, RelR hB env ns Φ vals own s.heap → ∀ A E, AOk D A → wpAny (model prog w) A (eval e env)
    (fun v s' => Keeps s s' ∧ ∃ a o, v = .ref a ∧ s.heap.get? a = none ∧ s'.heap.get? a = some o ∧ MR (hide (grow Φ s s') a) mo o) E s
theorem EvN.toEv {e : Expr} {xs : List AV} (h : EvN prog w hB D env ns vals own e (.lst xs)) : Ev prog w hB D env ns vals own e (.lst xs) := fun Φ s q A E ok =>
  wpAny_mono (h Φ s q A E ok) (fun v s' h' => by
    obtain ⟨k, a, o, rfl, hn, ho, vs, n, rfl, hr⟩ := h'
    refine ⟨k, a, vs, n, rfl, ?_, hr.mono hide_le⟩
    unfold grow; rw [hn]; exact ho) fun _ _ e => e
theorem EvN.eq {e : Expr} {mo mo' : MO} (h : EvN prog w hB D env ns vals own e mo) (he : mo = mo') : EvN prog w hB D env ns vals own e mo' := he ▸ h

theorem EvN.list {es : List Expr} {avs : List AV} {pos : Pos} (h : EvL prog w hB D env ns vals own es avs) (hl : avs.length ≤ sizeLine) : EvN prog w hB D env ns vals own (.List es pos) (.lst avs) := fun Φ s q A E ok => by
  refine List_ (wpAny_mono (h.2 Φ s q A E pos ok) (fun vs s₁ h₁ => ?_) fun _ _ e => e)
  have q₁ := q.step h₁.1
  have hn : s.heap.get? s₁.heap.objs.size = none := by
    cases e : s.heap.get? s₁.heap.objs.size with
    | none => rfl
    | some o => have := Keeps.keep h₁.1 _ _ e; rw [get_size] at this; cases this
  refine wpAny_newObj_type ⟨Keeps.tr h₁.1 (Keeps.push _ _), s₁.heap.objs.size, _, rfl, hn, Heap.get?_push_size _ rfl, vs, 0, rfl, ?_⟩ ?_
  · refine Rs.mono (le_hide (grow_le2 fun _ _ e => Heap.get?_push_of_some _ e) ?_) h₁.2
    cases e : grow Φ s s₁ s₁.heap.objs.size with
    | none => rfl
    | some o => have := q₁.frz _ _ e; rw [get_size] at this; cases this
  · show vs.toArray.size ≤ sizeLine
    rw [List.size_toArray, Rs.length h₁.2]; exact hl

noncomputable def fresh (hB : Heap) (s s' : Shared) : FH := fun a => match hB.get? a with
  | some o => some o
  | none => if (s.heap.get? a).isSome then none else s'.heap.get? a
theorem fresh_le {Φ : FH} {s s' : Shared} (hb : ∀ a o, hB.get? a = some o → Φ a = some o) (hf : ∀ a o, Φ a = some o → s.heap.get? a = some o) : Le (fresh hB s s') (grow Φ s s') := fun a o e => by
  unfold fresh at e
  cases h : hB.get? a with
  | some o' => rw [h] at e; cases e; exact grow_le hf _ _ (hb _ _ h)
  | none =>
    rw [h] at e
    simp only at e
    unfold grow
    split at e
    · cases e
    · rename_i hn; rw [if_neg hn]; exact e

noncomputable def FnP (prog : Program) (w : World) (hB : Heap) (D : Nat) (f : Addr) (args : List AV) (res : AV) : Prop :=
  ∀ A s vs, AOk D A → (∀ a o, hB.get? a = some o → s.heap.get? a = some o) → Rs s.heap.get? args vs →
    codeAny (model prog w) A (.call (.ref f) ⟨vs, []⟩) (fun r s' => ∃ val, r = .ok (.ret val) ∧ Keeps s s' ∧ R (fresh hB s s') res val) s
noncomputable def FnN (prog : Program) (w : World) (hB : Heap) (D : Nat) (f : Addr) (args : List AV) (mo : MO) : Prop :=
  ∀ A s vs, AOk D A → (∀ a o, hB.get? a = some o → s.heap.get? a = some o) → Rs s.heap.get? args vs →
    codeAny (model prog w) A (.call (.ref f) ⟨vs, []⟩) (fun r s' => ∃ a o, r = .ok (.ret (.ref a)) ∧ Keeps s s' ∧ s.heap.get? a = none ∧ s'.heap.get? a = some o ∧ MR (hide (fresh hB s s') a) mo o) s

inductive Hnd (own : List (Addr × MO)) : AV → AV → Prop where
  | same {av : AV} : Hnd own av av
  | own {a : Addr} {xs : List AV} (h : (a, MO.lst xs) ∈ own) : Hnd own (.ref a) (.lst xs)
inductive Hnds (own : List (Addr × MO)) : List AV → List AV → Prop where
  | nil : Hnds own [] []
  | cons {a b : AV} {as bs : List AV} (h : Hnd own a b) (k : Hnds own as bs) : Hnds own (a :: as) (b :: bs)
theorem Hnd.get {Φ Ψ : FH} {h : Heap} {av bv : AV} {v : Value} (l : Hnd own av bv) (q : RelR hB env ns Φ vals own h) (hle : Le Φ Ψ) (hf : ∀ a o, Ψ a = some o → h.get? a = some o) (r : R Ψ av v) : R h.get? bv v := by
  cases l with
  | same => exact r.mono hf
  | own hm =>
    obtain ⟨o, ho, vs, n, rfl, g⟩ := q.own _ _ hm
    cases r
    exact ⟨_, vs, n, rfl, ho, g.mono fun a o e => hf a o (hle a o e)⟩
theorem Hnds.get {Φ Ψ : FH} {h : Heap} (q : RelR hB env ns Φ vals own h) (hle : Le Φ Ψ) (hf : ∀ a o, Ψ a = some o → h.get? a = some o) : ∀ {as bs : List AV} {vs : List Value}, Hnds own as bs → Rs Ψ as vs → Rs h.get? bs vs
  | [], [], [], _, _ => trivial
  | _ :: _, _ :: _, _ :: _, .cons a k, r => ⟨a.get q hle hf r.1, Hnds.get q hle hf k r.2⟩
  | [], _, _ :: _, _, r => r.elim
  | _ :: _, _, [], _, r => r.elim

theorem Call_Name_ {x : Str} {p pos : Pos} {es : List Expr} {M : Model} {A : Around} {E : Value → Shared → Prop} {s : Shared} {Q : Value → Shared → Prop}
    (h : wpAny M A (eval (.Name x p) env) (fun f s₁ => wpAny M A (callWith pos f [] (backTo pos (starEach es env)) []) Q E s₁) E s) : wpAny M A (eval (.Call (.Name x p) es [] pos) env) Q E s := Call_Name rfl h

theorem evalArgs_any {M : Model} {A : Around} {E : Value → Shared → Prop} {s : Shared} {f : Value} {ts : List (Bool × Sem Value)} {Q : Args → Shared → Prop} (hp : ts.any (·.1) = false)
    (h : wpAny M A (spliced ts) (fun vs s' => Q ⟨vs, []⟩ s') E s) : wpAny M A (evalArgs f true ts []) Q E s := by
  cases ts with
  | nil =>
    unfold evalArgs
    show wpAny M A (spliced [] >>= _) Q E s
    refine wpAny_bind (wpAny_mono h (fun vs s' h' => ?_) fun _ _ x => x)
    refine wpAny_holding ?_
    exact wpAny_bind (m := evalAll []) (wpAny_pure (a := ([] : List Value)) (wpAny_bind (wpAny_pure (a := vs) (wpAny_pure h'))))
  | cons t ts =>
    obtain ⟨b, t⟩ := t
    cases b with
    | true => simp at hp
    | false => exact Calls.evalArgs_plain h

theorem callWith_fn {M : Model} {A : Around} {E : Value → Shared → Prop} {s : Shared} {pos : Pos} {f : Value} {first : List Value} {ts : List (Bool × Sem Value)} {Q : Value → Shared → Prop} (hk : keepIn K f = true) (hp : ts.any (·.1) = false)
    (h : wpAny M A (spliced ts) (fun vs s₁ => K.In s₁.heap ∧ wpAny M A (call f (first ++ vs)) Q E s₁) E s) : wpAny M A (callWith pos f first ts []) Q E s :=
  callWith_of (by rw [hp]; rfl) (keeps_K hk) (evalArgs_any hp h)

theorem Ev.call {x : Str} {p pos : Pos} {es : List Expr} {f : Addr} {avs args : List AV} {res : AV} {D' : Nat} (G : GH K hB) (hk : keepIn K (.ref f) = true) (hf : Ev prog w hB D env ns vals own (.Name x p) (.ref f))
    (hes : EvL prog w hB D env ns vals own es avs) (ha : Hnds own avs args) (F : FnP prog w hB D' f args res) (hd : D' ≤ D) : Ev prog w hB D env ns vals own (.Call (.Name x p) es [] pos) res := fun Φ s q A E ok => by
  refine Call_Name_ (wpAny_mono (hf Φ s q A E ok) (fun v s₁ h₁ => ?_) fun _ _ e => e)
  obtain ⟨k₁, rfl⟩ := h₁
  have q₁ := q.step k₁
  refine callWith_fn hk (hes.1 pos) (wpAny_mono (hes.2 _ s₁ q₁ A E pos ok) (fun vs s₂ h₂ => ?_) fun _ _ e => e)
  have q₂ := q₁.step h₂.1
  refine ⟨fun a o e => q₂.base' _ _ (G.kin a o e), wpAny_call (codeAny_mono (F A s₂ vs (ok.le hd) q₂.base' (ha.get q₂ (Le.refl _) q₂.frz h₂.2)) fun r s₃ h₃ => ?_)⟩
  obtain ⟨val, rfl, k₃, r₃⟩ := h₃
  exact fin k₁ (fin h₂.1 ⟨k₃, R.mono (fresh_le q₂.base q₂.frz) r₃⟩)
end
end Kx
end

section -- J4
open PySem PySem.W PyProof.Rows
set_option Elab.async false
set_option maxRecDepth 100000
set_option linter.unusedVariables false
namespace Kx

inductive SetAt {α : Type} : List α → Nat → α → List α → Prop where
  | head {x y : α} {l : List α} : SetAt (y :: l) 0 x (x :: l)
  | tail {x y : α} {l l' : List α} {i : Nat} (h : SetAt l i x l') : SetAt (y :: l) (i + 1) x (y :: l')
theorem SetAt.get {α : Type} {l l' : List α} {i : Nat} {x : α} (h : SetAt l i x l') : ∀ j, l'[j]? = if j = i then some x else l[j]? := by
  induction h with
  | head => intro j; cases j <;> simp
  | tail _ ih => intro j; cases j with
    | zero => simp
    | succ j => simpa using ih j

noncomputable def Val (env : Env) (m cm : Str → Option Value) (x : Str) (k : NameKind) (v : Value) : Prop := match k with
  | .local => m x = some v
  | .cell => cm x = some v
  | _ => False

structure Ent where
  s : Shared
  P : Addr → Prop

structure Rel (hB : Heap) (ε : Ent) (env : Env) (ns : List (Str × NameKind)) (Φ : FH) (vals : List (Option AV)) (own : List (Addr × MO)) (s : Shared) : Prop where
  ok : EnvOk env ns
  allCells : ∀ x, env.kindOf x = some .cell → (env.cells.lookup x).isSome = true
  inn : ∃ m cm, InCallC ε.s env.locals m env.cells cm s ∧ ∀ (i : Nat) x k av, ns[i]? = some (x, k) → vals[i]? = some (some av) → ∃ v, Val env m cm x k v ∧ R Φ av v
  base : ∀ a o, hB.get? a = some o → Φ a = some o
  frz : ∀ a o, Φ a = some o → s.heap.get? a = some o
  nw : ∀ a o, Φ a = some o → ε.P a ∨ ε.s.heap.get? a = none
  lo : Φ env.locals = none
  ce : ∀ x c, env.cells.lookup x = some c → Φ c = none
  owns : ∀ a mo, (a, mo) ∈ own → Φ a = none ∧ ε.s.heap.get? a = none ∧ a ≠ env.locals ∧ (∀ x c, env.cells.lookup x = some c → a ≠ c) ∧ ∃ o, s.heap.get? a = some o ∧ MR Φ mo o
  ownd : (own.map (·.1)).Nodup

section
variable {prog : Program} {w : World} {hB : Heap} {K : Frag} {D : Nat} {env : Env} {ns : List (Str × NameKind)} {vals vals' : List (Option AV)} {own own' : List (Addr × MO)} {ε : Ent} {s₀ s s' : Shared} {Φ : FH}

theorem Rel.toR (q : Rel hB ε env ns Φ vals own s) : RelR hB env ns Φ vals own s.heap where
  ok := q.ok
  base := q.base
  frz := q.frz
  vars := fun i x k av e f => by
    obtain ⟨m, cm, I, h⟩ := q.inn
    obtain ⟨v, hv, hr⟩ := h i x k av e f
    refine ⟨v, ?_, hr⟩
    cases k with
    | «local» => exact ⟨m, I.toInCall.ns, hv⟩
    | cell =>
      obtain ⟨c, hc⟩ := Option.isSome_iff_exists.mp (q.allCells x (q.ok.kindOf e))
      exact ⟨c, hc, (show cm x = some v from hv) ▸ I.cell x c hc⟩
    | _ => exact hv.elim
  own := fun a mo e => (q.owns a mo e).2.2.2.2

theorem InCallC.kept' {L : Addr} {m cm : Str → Option Value} {cs : List (Str × Addr)} (x : InCallC s₀ L m cs cm s) (k : Keeps s s') : InCallC s₀ L m cs cm s' := by
  obtain ⟨h', tk, rfl, hk⟩ := k
  exact x.kept hk

theorem Rel.step (q : Rel hB ε env ns Φ vals own s) (k : Keeps s s') : Rel hB ε env ns (grow Φ s s') vals own s' where
  ok := q.ok
  allCells := q.allCells
  inn := by
    obtain ⟨m, cm, I, h⟩ := q.inn
    exact ⟨m, cm, InCallC.kept' I k, fun i x kd av e f => let ⟨v, a, b⟩ := h i x kd av e f; ⟨v, a, b.mono (grow_le q.frz)⟩⟩
  base := fun a o e => grow_le q.frz a o (q.base a o e)
  frz := grow_heap (Keeps.keep k) q.frz
  nw := fun a o e => by
    unfold grow at e
    split at e
    · exact q.nw a o e
    · rename_i hn
      obtain ⟨m, cm, I, h⟩ := q.inn
      refine .inr ?_
      cases e' : ε.s.heap.get? a with
      | none => rfl
      | some o' => exact absurd (by rw [I.toInCall.keep a o' e']; rfl) hn
  lo := by
    obtain ⟨m, cm, I, h⟩ := q.inn
    obtain ⟨o, _, _, ho, _⟩ := I.toInCall.ns
    unfold grow; rw [if_pos (by rw [ho]; rfl)]; exact q.lo
  ce := fun x c hc => by
    obtain ⟨m, cm, I, h⟩ := q.inn
    obtain ⟨o, ho, _⟩ := I.cell x c hc
    unfold grow; rw [if_pos (by rw [ho]; rfl)]; exact q.ce x c hc
  owns := fun a mo e => by
    obtain ⟨h1, h2, h3, h4, o, ho, hr⟩ := q.owns a mo e
    refine ⟨?_, h2, h3, h4, o, Keeps.keep k a o ho, hr.mono (grow_le q.frz)⟩
    unfold grow; rw [if_pos (by rw [ho]; rfl)]; exact h1
  ownd := q.ownd

theorem Rel.weak {Ψ : FH} (q : Rel hB ε env ns Φ vals own s) (hΨ : Le Ψ Φ) (hb : ∀ a o, hB.get? a = some o → Ψ a = some o)
    (hv : ∀ (i : Nat) x k av v, ns[i]? = some (x, k) → vals'[i]? = some (some av) → (∀ av', vals[i]? = some (some av') → R Φ av' v → R Ψ av v) ∧ ∃ av', vals[i]? = some (some av'))
    (ho : ∀ a mo, (a, mo) ∈ own' → ((a, mo) ∈ own ∧ ∀ o, MR Φ mo o → MR Ψ mo o)) (hd : (own'.map (·.1)).Nodup) : Rel hB ε env ns Ψ vals' own' s where
  ok := q.ok
  allCells := q.allCells
  inn := by
    obtain ⟨m, cm, I, h⟩ := q.inn
    refine ⟨m, cm, I, fun i x k av e f => ?_⟩
    obtain ⟨av', e'⟩ := (hv i x k av .none e f).2
    obtain ⟨v, a, b⟩ := h i x k av' e e'
    exact ⟨v, a, (hv i x k av v e f).1 av' e' b⟩
  base := hb
  frz := fun a o e => q.frz a o (hΨ a o e)
  nw := fun a o e => q.nw a o (hΨ a o e)
  lo := by cases e : Ψ env.locals with | none => rfl | some o => have := hΨ _ _ e; rw [q.lo] at this; cases this
  ce := fun x c hc => by cases e : Ψ c with | none => rfl | some o => have := hΨ _ _ e; rw [q.ce x c hc] at this; cases this
  owns := fun a mo e => by
    obtain ⟨e', hm⟩ := ho a mo e
    obtain ⟨h1, h2, h3, h4, o, h5, hr⟩ := q.owns a mo e'
    refine ⟨?_, h2, h3, h4, o, h5, hm o hr⟩
    cases e : Ψ a with | none => rfl | some o => have := hΨ _ _ e; rw [h1] at this; cases this
  ownd := hd

theorem Rel.adopt {a : Addr} {o : Obj} {mo : MO} (q : Rel hB ε env ns Φ vals own s) (ha : s.heap.get? a = none) (k : Keeps s s') (ho : s'.heap.get? a = some o) (hr : MR (hide (grow Φ s s') a) mo o) :
    Rel hB ε env ns (hide (grow Φ s s') a) vals ((a, mo) :: own) s' := by
  have q' := q.step k
  have hla : Le Φ (hide (grow Φ s s') a) := le_hide (grow_le q.frz) (by cases e : Φ a with | none => rfl | some o => have := q.frz _ _ e; rw [ha] at this; cases this)
  obtain ⟨m, cm, I, h⟩ := q.inn
  refine ⟨q'.ok, q'.allCells, ⟨m, cm, InCallC.kept' I k, fun i x kd av e f => let ⟨v, a, b⟩ := h i x kd av e f; ⟨v, a, b.mono hla⟩⟩, fun b ob e => hla _ _ (q.base b ob e), fun b ob e => q'.frz _ _ (hide_le _ _ e), fun b ob e => q'.nw _ _ (hide_le _ _ e), ?_, ?_, ?_, ?_⟩
  · cases e : hide (grow Φ s s') a env.locals with | none => rfl | some o => have := hide_le _ _ e; rw [q'.lo] at this; cases this
  · intro x c hc; cases e : hide (grow Φ s s') a c with | none => rfl | some o => have := hide_le _ _ e; rw [q'.ce x c hc] at this; cases this
  · intro b mo' hm
    rcases List.mem_cons.mp hm with e | hm
    · cases e
      refine ⟨by unfold hide; rw [if_pos rfl], ?_, ?_, fun x c hc => ?_, o, ho, hr⟩
      · cases e : ε.s.heap.get? a with | none => rfl | some o => have := I.toInCall.keep _ _ e; rw [ha] at this; cases this
      · rintro rfl; obtain ⟨o, _, _, ho, _⟩ := I.toInCall.ns; rw [ha] at ho; cases ho
      · rintro rfl; obtain ⟨o, ho, _⟩ := I.cell x a hc; rw [ha] at ho; cases ho
    · obtain ⟨h1, h2, h3, h4, ob, h5, hr'⟩ := q.owns b mo' hm
      refine ⟨?_, h2, h3, h4, ob, Keeps.keep k _ _ h5, hr'.mono hla⟩
      cases e : hide (grow Φ s s') a b with
      | none => rfl
      | some o' =>
        have := hide_le _ _ e
        unfold grow at this
        rw [if_pos (by rw [h5]; rfl), h1] at this; cases this
  · rw [List.map_cons, List.nodup_cons]
    refine ⟨fun hm => ?_, q.ownd⟩
    obtain ⟨p, hp, rfl⟩ := List.mem_map.mp hm
    obtain ⟨_, _, _, _, ob, h5, _⟩ := q.owns p.1 p.2 hp
    rw [ha] at h5; cases h5

theorem Rel.freeze {a : Addr} {xs : List AV} (q : Rel hB ε env ns Φ vals own s) (hm : (a, MO.lst xs) ∈ own)
    (hv : ∀ (i : Nat) av, vals'[i]? = some (some av) → vals[i]? = some (some av) ∨ (vals[i]? = some (some (.ref a)) ∧ av = .lst xs))
    (ho : ∀ b mo, (b, mo) ∈ own' → (b, mo) ∈ own ∧ b ≠ a) (hd : (own'.map (·.1)).Nodup) : ∃ Ψ, Le Φ Ψ ∧ Rel hB ε env ns Ψ vals' own' s := by
  obtain ⟨h1, h2, h3, h4, o, h5, vs, n, rfl, hr⟩ := q.owns a _ hm
  let Ψ : FH := fun b => if b = a then some (listOf vs.toArray n) else Φ b
  have hle : Le Φ Ψ := fun b ob e => by
    show (if b = a then _ else Φ b) = some ob
    rw [if_neg (by rintro rfl; rw [h1] at e; cases e)]; exact e
  refine ⟨Ψ, hle, q.ok, q.allCells, ?_, fun b ob e => hle _ _ (q.base b ob e), fun b ob e => ?_, fun b ob e => ?_, ?_, fun x c hc => ?_, fun b mo hb => ?_, hd⟩
  · obtain ⟨m, cm, I, h⟩ := q.inn
    refine ⟨m, cm, I, fun i x k av e f => ?_⟩
    rcases hv i av f with f' | ⟨f', rfl⟩
    · obtain ⟨v, p, r⟩ := h i x k av e f'
      exact ⟨v, p, r.mono hle⟩
    · obtain ⟨v, p, r⟩ := h i x k _ e f'
      cases r
      exact ⟨_, p, a, vs, n, rfl, if_pos rfl, hr.mono hle⟩
  · have e' : (if b = a then some (listOf vs.toArray n) else Φ b) = some ob := e
    split at e'
    · rename_i hb; subst hb; cases e'; exact h5
    · exact q.frz _ _ e'
  · have e' : (if b = a then some (listOf vs.toArray n) else Φ b) = some ob := e
    split at e'
    · rename_i hb; subst hb; exact .inr h2
    · exact q.nw _ _ e'
  · show (if env.locals = a then _ else Φ _) = none
    rw [if_neg (fun e => h3 e.symm)]; exact q.lo
  · show (if c = a then _ else Φ _) = none
    rw [if_neg (fun e => h4 x c hc e.symm)]; exact q.ce x c hc
  · obtain ⟨hb', hne⟩ := ho b mo hb
    obtain ⟨g1, g2, g3, g4, ob, g5, gr⟩ := q.owns b mo hb'
    refine ⟨?_, g2, g3, g4, ob, g5, gr.mono hle⟩
    show (if b = a then _ else Φ _) = none
    rw [if_neg hne]; exact g1

theorem Rel.stLocal {x : Str} {i : Nat} {v : Value} {av : AV} (q : Rel hB ε env ns Φ vals own s) (hx : At ns i (x, .local)) (hs : SetAt vals i (some av) vals') (hr : R Φ av v) {Q : Unit → Shared → Prop} {M : Model} {A : Around} {E : Value → Shared → Prop}
    (h : ∀ s', Rel hB ε env ns Φ vals' own s' → Q () s') : wpAny M A (storeName env x v) Q E s := by
  obtain ⟨m, cm, I, hv⟩ := q.inn
  refine wpAny_storeName_local (q.ok.kindOf hx.get) I.toInCall.ns (fun h' hn' hs' => h _ ?_) (by rw [q.ok.kind]; rfl)
  have up : ∀ b ob, b ≠ env.locals → s.heap.get? b = some ob → h'.get? b = some ob := fun b ob hne e => hs'.extBut b ob hne e
  refine ⟨q.ok, q.allCells, ⟨_, cm, ⟨⟨?_, hn', fun b o e => ?_, I.toInCall.fresh⟩, fun k c hc => (I.cell k c hc).sameBut hs' (Nat.ne_of_gt (I.above k c (mem_of_lookup hc))), I.apart, I.above⟩, fun j y k bv e f => ?_⟩, q.base, fun b ob e => up b ob (by rintro rfl; rw [q.lo] at e; cases e) (q.frz b ob e), q.nw, q.lo, q.ce, fun b mo hb => ?_, q.ownd⟩
  · obtain ⟨h₁, tk, rfl⟩ := I.toInCall.same
    exact ⟨h', _, rfl⟩
  · exact up b o (Nat.ne_of_lt (Nat.lt_of_lt_of_le (Heap.lt_size e) I.toInCall.fresh)) (I.toInCall.keep b o e)
  · rw [hs.get j] at f
    split at f
    · rename_i hj; subst hj; cases f
      rw [hx.get] at e; cases e
      exact ⟨v, by show (if x = x then some v else _) = some v; rw [if_pos rfl], hr⟩
    · rename_i hj
      obtain ⟨u, hu, hru⟩ := hv j y k bv e f
      refine ⟨u, ?_, hru⟩
      cases k with
      | «local» =>
        show (if y = x then some v else m y) = some u
        rw [if_neg]; · exact hu
        rintro rfl
        exact hj (nodup_place q.ok.nodup e hx.get)
      | _ => exact hu
  · obtain ⟨g1, g2, g3, g4, ob, g5, gr⟩ := q.owns b mo hb
    exact ⟨g1, g2, g3, g4, ob, up b ob g3 g5, gr⟩
where
  nodup_place {l : List (Str × NameKind)} {j i : Nat} {y : Str} {k k' : NameKind} (nd : (l.map (·.1)).Nodup) (e : l[j]? = some (y, k)) (f : l[i]? = some (y, k')) : j = i := by
    have e' : (l.map (·.1))[j]? = some y := by rw [List.getElem?_map, e]; rfl
    have f' : (l.map (·.1))[i]? = some y := by rw [List.getElem?_map, f]; rfl
    obtain ⟨hj, e''⟩ := List.getElem?_eq_some_iff.mp e'
    obtain ⟨hi, f''⟩ := List.getElem?_eq_some_iff.mp f'
    exact (List.getElem?_inj hj nd).mp (e'.trans f'.symm)
theorem Rel.stCell {x : Str} {i : Nat} {v : Value} {av : AV} (q : Rel hB ε env ns Φ vals own s) (hx : At ns i (x, .cell)) (hs : SetAt vals i (some av) vals') (hr : R Φ av v) {Q : Unit → Shared → Prop} {M : Model} {A : Around} {E : Value → Shared → Prop}
    (h : ∀ s', Rel hB ε env ns Φ vals' own s' → Q () s') : wpAny M A (storeName env x v) Q E s := by
  obtain ⟨m, cm, I, hv⟩ := q.inn
  obtain ⟨c, hc⟩ := Option.isSome_iff_exists.mp (q.allCells x (q.ok.kindOf hx.get))
  have hLc := I.above x c (mem_of_lookup hc)
  refine wpAny_storeName_cell q.ok.kind (q.ok.kindOf hx.get) hc (I.cell x c hc) fun h' hc' hs' => h _ ?_
  have up : ∀ b ob, b ≠ c → s.heap.get? b = some ob → h'.get? b = some ob := fun b ob hne e => hs'.extBut b ob hne e
  refine ⟨q.ok, q.allCells, ⟨m, fun y => if y = x then some v else cm y, ⟨⟨?_, I.toInCall.ns.sameBut hs' (Nat.ne_of_lt hLc), fun b o e => ?_, I.toInCall.fresh⟩, fun k c' hk' => ?_, I.apart, I.above⟩, fun j y k bv e f => ?_⟩, q.base, fun b ob e => up b ob (by rintro rfl; rw [q.ce x b hc] at e; cases e) (q.frz b ob e), q.nw, q.lo, q.ce, fun b mo hb => ?_, q.ownd⟩
  · obtain ⟨h₁, tk, rfl⟩ := I.toInCall.same
    exact ⟨h', _, rfl⟩
  · exact up b o (Nat.ne_of_lt (Nat.lt_trans (Nat.lt_of_lt_of_le (Heap.lt_size e) I.toInCall.fresh) hLc)) (I.toInCall.keep b o e)
  · by_cases hkn : k = x
    · subst hkn; rw [hc] at hk'; cases hk'; simpa using hc'
    · rw [if_neg hkn]; exact (I.cell k c' hk').sameBut hs' fun e => hkn (name_of_addr I.apart (mem_of_lookup hk') (e ▸ mem_of_lookup hc))
  · rw [hs.get j] at f
    split at f
    · rename_i hj; subst hj; cases f
      rw [hx.get] at e; cases e
      exact ⟨v, by show (if x = x then some v else _) = some v; rw [if_pos rfl], hr⟩
    · rename_i hj
      obtain ⟨u, hu, hru⟩ := hv j y k bv e f
      refine ⟨u, ?_, hru⟩
      cases k with
      | cell =>
        show (if y = x then some v else cm y) = some u
        rw [if_neg]; · exact hu
        rintro rfl
        exact hj (Rel.stLocal.nodup_place q.ok.nodup e hx.get)
      | _ => exact hu
  · obtain ⟨g1, g2, g3, g4, ob, g5, gr⟩ := q.owns b mo hb
    exact ⟨g1, g2, g3, g4, ob, up b ob (g4 x c hc) g5, gr⟩

theorem SetAt.mem {α : Type} {l l' : List α} {i : Nat} {x y z : α} (h : SetAt l i x l') (hy : At l i y) (hz : z ∈ l') : z = x ∨ ∃ j, j ≠ i ∧ l[j]? = some z := by
  obtain ⟨j, hj⟩ := List.getElem?_of_mem hz
  rw [h.get j] at hj
  split at hj
  · cases hj; exact .inl rfl
  · rename_i hne; exact .inr ⟨j, hne, hj⟩
theorem At.mem {α : Type} {l : List α} {i : Nat} {x : α} (h : At l i x) : x ∈ l := List.mem_of_getElem? h.get
theorem SetAt.map {α β : Type} {f : α → β} {l l' : List α} {i : Nat} {x y : α} (h : SetAt l i x l') (hy : At l i y) (e : f x = f y) : l'.map f = l.map f := by
  induction h with
  | head => cases hy; rw [List.map_cons, List.map_cons, e]
  | tail _ ih => cases hy with | tail hy => rw [List.map_cons, List.map_cons, ih hy e]

theorem Rel.change {a : Addr} {mo mo' : MO} {h' : Heap} {o' : Obj} {n i : Nat} (q : Rel hB ε env ns Φ vals own s) (hi : At own i (a, mo)) (hi' : SetAt own i (a, mo') own') (hs : Heap.SameBut a s.heap h') (ho : h'.get? a = some o') (hr : MR Φ mo' o') :
    Rel hB ε env ns Φ vals own' { s with heap := h', toks := n } := by
  obtain ⟨m, cm, I, hv⟩ := q.inn
  obtain ⟨f1, f2, f3, f4, of, f5, fr⟩ := q.owns a mo hi.mem
  have up : ∀ b ob, b ≠ a → s.heap.get? b = some ob → h'.get? b = some ob := fun b ob hne e => hs.extBut b ob hne e
  refine ⟨q.ok, q.allCells, ⟨m, cm, ⟨⟨?_, I.toInCall.ns.sameBut hs (Ne.symm f3), fun b o e => ?_, I.toInCall.fresh⟩, fun k c hc => (I.cell k c hc).sameBut hs (Ne.symm (f4 k c hc)), I.apart, I.above⟩, hv⟩, q.base, fun b ob e => up b ob (by rintro rfl; rw [f1] at e; cases e) (q.frz b ob e), q.nw, q.lo, q.ce, fun b mo₁ hb => ?_, ?_⟩
  · obtain ⟨h₁, tk, rfl⟩ := I.toInCall.same
    exact ⟨h', _, rfl⟩
  · exact up b o (by rintro rfl; rw [f2] at e; cases e) (I.toInCall.keep b o e)
  · rcases hi'.mem hi hb with e | ⟨j, hne, e⟩
    · cases e
      exact ⟨f1, f2, f3, f4, o', ho, hr⟩
    · obtain ⟨g1, g2, g3, g4, ob, g5, gr⟩ := q.owns b mo₁ (List.mem_of_getElem? e)
      refine ⟨g1, g2, g3, g4, ob, up b ob ?_ g5, gr⟩
      rintro rfl
      refine hne ?_
      have e1 : (own.map (·.1))[j]? = some b := by rw [List.getElem?_map, e]; rfl
      have e2 : (own.map (·.1))[i]? = some b := by rw [List.getElem?_map, hi.get]; rfl
      exact (List.getElem?_inj (List.getElem?_eq_some_iff.mp e1).1 q.ownd).mp (e1.trans e2.symm)
  · rw [hi'.map hi rfl]; exact q.ownd
theorem Rel.perm (q : Rel hB ε env ns Φ vals own s) (hp : own.Perm own') : Rel hB ε env ns Φ vals own' s :=
  ⟨q.ok, q.allCells, q.inn, q.base, q.frz, q.nw, q.lo, q.ce, fun a mo h => q.owns a mo (hp.mem_iff.mpr h), (hp.map _).nodup_iff.mp q.ownd⟩
end

inductive Flw where
  | next
  | ret (av : AV)
noncomputable def FlR (Φ : FH) : Flw → Flow → Prop
  | .next, f => f = .next
  | .ret av, f => ∃ v, f = .ret v ∧ R Φ av v

section
variable (prog : Program) (w : World) (hB : Heap) (D : Nat) (ε : Ent) (env : Env) (ns : List (Str × NameKind))
noncomputable def Ex (ss : List Stmt) (vals : List (Option AV)) (own : List (Addr × MO)) (Q : Flw → List (Option AV) → List (Addr × MO) → Prop) : Prop :=
  ∀ Φ s, Rel hB ε env ns Φ vals own s → ∀ A E, AOk D A → wpAny (model prog w) A (execs ss env) (fun f s' => ∃ Φ' vals' own' fl, Le Φ Φ' ∧ Rel hB ε env ns Φ' vals' own' s' ∧ FlR Φ' fl f ∧ Q fl vals' own') E s
noncomputable def St (st : Stmt) (vals : List (Option AV)) (own : List (Addr × MO)) (Q : Flw → List (Option AV) → List (Addr × MO) → Prop) : Prop :=
  ∀ Φ s, Rel hB ε env ns Φ vals own s → ∀ A E, AOk D A → wpAny (model prog w) A (exec st env) (fun f s' => ∃ Φ' vals' own' fl, Le Φ Φ' ∧ Rel hB ε env ns Φ' vals' own' s' ∧ FlR Φ' fl f ∧ Q fl vals' own') E s
end
end Kx
end

section -- J5
open PySem PySem.W PyProof.Rows
set_option Elab.async false
set_option maxRecDepth 100000
set_option linter.unusedVariables false
namespace Kx
section
variable {prog : Program} {w : World} {hB : Heap} {K : Frag} {D : Nat} {env : Env} {ns : List (Str × NameKind)} {vals vals' : List (Option AV)} {own own' : List (Addr × MO)} {ε : Ent} {s₀ s s' : Shared} {Φ : FH}
variable {Q Q' : Flw → List (Option AV) → List (Addr × MO) → Prop}

theorem St.conseq {st : Stmt} (h : St prog w hB D ε env ns st vals own Q) (k : ∀ fl v o, Q fl v o → Q' fl v o) : St prog w hB D ε env ns st vals own Q' := fun Φ s q A E ok =>
  wpAny_mono (h Φ s q A E ok) (fun f s' ⟨Φ', v, o, fl, a, b, c, d⟩ => ⟨Φ', v, o, fl, a, b, c, k _ _ _ d⟩) fun _ _ e => e
theorem Ex.nil (h : Q .next vals own) : Ex prog w hB D ε env ns [] vals own Q := fun Φ s q A E ok => wpAny_execs_nil ⟨Φ, vals, own, .next, Le.refl _, q, rfl, h⟩
noncomputable def Then (prog : Program) (w : World) (hB : Heap) (D : Nat) (ε : Ent) (env : Env) (ns : List (Str × NameKind)) (rest : List Stmt) (Q : Flw → List (Option AV) → List (Addr × MO) → Prop) : Flw → List (Option AV) → List (Addr × MO) → Prop
  | .next, v, o => Ex prog w hB D ε env ns rest v o Q
  | .ret av, v, o => Q (.ret av) v o
theorem Ex.cons {st : Stmt} {rest : List Stmt} (h : St prog w hB D ε env ns st vals own (Then prog w hB D ε env ns rest Q)) : Ex prog w hB D ε env ns (st :: rest) vals own Q := fun Φ s q A E ok => by
  refine wpAny_execs_cons (wpAny_mono (h Φ s q A E ok) (fun f s₁ h₁ => ?_) fun _ _ e => e)
  obtain ⟨Φ', v, o, fl, a, b, c, d⟩ := h₁
  cases fl with
  | next =>
    cases c
    exact wpAny_mono (d Φ' s₁ b A E ok) (fun f s₂ ⟨Φ₂, v₂, o₂, fl₂, a₂, b₂, c₂, d₂⟩ => ⟨Φ₂, v₂, o₂, fl₂, a.trans a₂, b₂, c₂, d₂⟩) fun _ _ e => e
  | ret av =>
    obtain ⟨u, rfl, hu⟩ := c
    exact ⟨Φ', v, o, .ret av, a, b, ⟨u, rfl, hu⟩, d⟩

theorem Ex.weak {ss : List Stmt} (h : Ex prog w hB D ε env ns ss vals' own' Q)
    (hv : ∀ (i : Nat) av, vals'[i]? = some (some av) → vals[i]? = some (some av)) (ho : ∀ p ∈ own', p ∈ own) (hd : (own.map (·.1)).Nodup → (own'.map (·.1)).Nodup) : Ex prog w hB D ε env ns ss vals own Q := fun Φ s q A E ok => by
  refine h Φ s ?_ A E ok
  refine q.weak (Le.refl _) q.base (fun i x k av v e f => ⟨fun av' f' r => ?_, av, hv i av f⟩) (fun a mo hm => ⟨ho _ hm, fun _ r => r⟩) (hd q.ownd)
  rw [hv i av f] at f'; cases f'; exact r
inductive Del {α : Type} : List α → α → List α → Prop where
  | head {x : α} {l : List α} : Del (x :: l) x l
  | tail {x y : α} {l l' : List α} (h : Del l x l') : Del (y :: l) x (y :: l')
theorem Del.perm {α : Type} {l l' : List α} {x : α} (h : Del l x l') : l.Perm (x :: l') := by
  induction h with
  | head => exact .refl _
  | tail _ ih => exact (ih.cons _).trans (.swap _ _ _)
theorem Ex.freeze {ss : List Stmt} {a : Addr} {xs : List AV} (h : Ex prog w hB D ε env ns ss vals' own' Q) (hd : Del own (a, .lst xs) own') (hv : ∀ (i : Nat) av, vals'[i]? = some (some av) → vals[i]? = some (some av) ∨ (vals[i]? = some (some (.ref a)) ∧ av = .lst xs)) :
    Ex prog w hB D ε env ns ss vals own Q := fun Φ s q₀ A E ok => by
  have q := q₀.perm hd.perm
  have nd := q.ownd
  rw [List.map_cons, List.nodup_cons] at nd
  obtain ⟨Ψ, hle, q'⟩ := q.freeze (.head _) (vals' := vals') (own' := own') hv (fun b mo hb => ⟨.tail _ hb, fun e => nd.1 (List.mem_map.mpr ⟨(b, mo), hb, e⟩)⟩) nd.2
  exact wpAny_mono (h Ψ s q' A E ok) (fun f s₂ ⟨Φ₂, v₂, o₂, fl₂, a₂, b₂, c₂, d₂⟩ => ⟨Φ₂, v₂, o₂, fl₂, hle.trans a₂, b₂, c₂, d₂⟩) fun _ _ e => e

theorem St.ret {e : Expr} {pos : Pos} {av : AV} (h : Ev prog w hB D env ns vals own e av) (k : Q (.ret av) vals own) : St prog w hB D ε env ns (.Return (some e) pos) vals own Q := fun Φ s q A E ok =>
  wpAny_Return_some (wpAny_mono (h Φ s q.toR A E ok) (fun v s₁ h₁ => ⟨_, vals, own, .ret av, grow_le q.frz, q.step h₁.1, ⟨v, rfl, h₁.2⟩, k⟩) fun _ _ e => e)
theorem St.retN {e : Expr} {pos : Pos} {mo : MO} (h : EvN prog w hB D env ns vals own e mo) (k : ∀ a, Q (.ret (.ref a)) vals ((a, mo) :: own)) : St prog w hB D ε env ns (.Return (some e) pos) vals own Q := fun Φ s q A E ok =>
  wpAny_Return_some (wpAny_mono (h Φ s q.toR A E ok) (fun v s₁ h₁ => by
    obtain ⟨k₁, a, o, rfl, hn, ho, hr⟩ := h₁
    exact ⟨_, vals, _, .ret (.ref a), le_hide (grow_le q.frz) (by cases e : Φ a with | none => rfl | some o => have := q.frz _ _ e; rw [hn] at this; cases this), q.adopt hn k₁ ho hr, ⟨_, rfl, rfl⟩, k a⟩) fun _ _ e => e)
theorem St.if {t : Expr} {body orelse : List Stmt} {pos : Pos} {b : Bool} (h : EvT prog w hB D env ns vals own t b) (hT : b = true → Ex prog w hB D ε env ns body vals own Q) (hF : b = false → Ex prog w hB D ε env ns orelse vals own Q) :
    St prog w hB D ε env ns (.If t body orelse pos) vals own Q := fun Φ s q A E ok => by
  refine wpAny_If (wpAny_mono (h Φ s q.toR A E ok) (fun v s₁ h₁ => ?_) fun _ _ e => e)
  obtain ⟨k₁, rfl⟩ := h₁
  have hle : Le Φ (grow Φ s s₁) := grow_le q.frz
  cases v with
  | true => exact wpAny_mono (hT rfl _ s₁ (q.step k₁) A E ok) (fun f s₂ ⟨Φ₂, v₂, o₂, fl₂, a₂, b₂, c₂, d₂⟩ => ⟨Φ₂, v₂, o₂, fl₂, hle.trans a₂, b₂, c₂, d₂⟩) fun _ _ e => e
  | false => exact wpAny_mono (hF rfl _ s₁ (q.step k₁) A E ok) (fun f s₂ ⟨Φ₂, v₂, o₂, fl₂, a₂, b₂, c₂, d₂⟩ => ⟨Φ₂, v₂, o₂, fl₂, hle.trans a₂, b₂, c₂, d₂⟩) fun _ _ e => e

theorem Rel.stName {x : Str} {i : Nat} {k : NameKind} {v : Value} {av : AV} (q : Rel hB ε env ns Φ vals own s) (hx : At ns i (x, k)) (hk : k = .local ∨ k = .cell) (hs : SetAt vals i (some av) vals') (hr : R Φ av v) {Q : Unit → Shared → Prop} {M : Model} {A : Around} {E : Value → Shared → Prop}
    (h : ∀ s', Rel hB ε env ns Φ vals' own s' → Q () s') : wpAny M A (storeName env x v) Q E s := by
  rcases hk with rfl | rfl
  · exact q.stLocal hx hs hr h
  · exact q.stCell hx hs hr h

theorem St.assign {x : Str} {p pos : Pos} {e : Expr} {i : Nat} {k : NameKind} {av : AV} (h : Ev prog w hB D env ns vals own e av) (hx : At ns i (x, k)) (hk : k = .local ∨ k = .cell) (hs : SetAt vals i (some av) vals') (kq : Q .next vals' own)
    (hsw : swapsWith e (some (.Name x p)) pos.line env = pure false := by rfl) : St prog w hB D ε env ns (.Assign [.Name x p] e pos) vals own Q := fun Φ s q A E ok => by
  refine wpAny_Assign_Name (wpAny_mono (h Φ s q.toR A E ok) (fun v s₁ h₁ => ?_) fun _ _ e => e) hsw
  exact (q.step h₁.1).stName hx hk hs h₁.2 fun s₂ q₂ => ⟨_, vals', own, .next, grow_le q.frz, q₂, rfl, kq⟩
theorem St.assignN {x : Str} {p pos : Pos} {e : Expr} {i : Nat} {k : NameKind} {mo : MO} {vals' : Addr → List (Option AV)} (h : EvN prog w hB D env ns vals own e mo) (hx : At ns i (x, k)) (hk : k = .local ∨ k = .cell) (hs : ∀ a, SetAt vals i (some (.ref a)) (vals' a)) (kq : ∀ a, Q .next (vals' a) ((a, mo) :: own))
    (hsw : swapsWith e (some (.Name x p)) pos.line env = pure false := by rfl) : St prog w hB D ε env ns (.Assign [.Name x p] e pos) vals own Q := fun Φ s q A E ok => by
  refine wpAny_Assign_Name (wpAny_mono (h Φ s q.toR A E ok) (fun v s₁ h₁ => ?_) fun _ _ e => e) hsw
  obtain ⟨k₁, a, o, rfl, hn, ho, hr⟩ := h₁
  have hle : Le Φ (hide (grow Φ s s₁) a) := le_hide (grow_le q.frz) (by cases e : Φ a with | none => rfl | some o => have := q.frz _ _ e; rw [hn] at this; cases this)
  exact (q.adopt hn k₁ ho hr).stName hx hk (hs a) rfl fun s₂ q₂ => ⟨_, vals' a, _, .next, hle, q₂, rfl, kq a⟩

theorem Rel.load {x : Str} {i : Nat} {k : NameKind} {av : AV} (q : Rel hB ε env ns Φ vals own s) (hx : At ns i (x, k)) (hk : k = .local ∨ k = .cell) (hv : At vals i (some av)) {Q : Value → Shared → Prop} {M : Model} {A : Around} {E : Value → Shared → Prop}
    (h : ∀ v, R Φ av v → Q v s) : wpAny M A (loadName env x) Q E s := by
  obtain ⟨v, hs, hr⟩ := q.toR.vars i x k av hx.get hv.get
  rcases hk with rfl | rfl
  · obtain ⟨m, hn, hm⟩ := hs
    exact wpAny_loadName_local q.ok.kind (q.ok.kindOf hx.get) hn hm (h v hr)
  · obtain ⟨c, hc, hn⟩ := hs
    exact wpAny_loadName_cell q.ok.kind (q.ok.kindOf hx.get) hc hn (h v hr)
theorem St.aug {x : Str} {p pos : Pos} {op : Operator} {e : Expr} {i : Nat} {k : NameKind} {a b c : AV} (hx : At ns i (x, k)) (hk : k = .local ∨ k = .cell) (ha : At vals i (some a)) (h : Ev prog w hB (D + 1) env ns vals own e b) (ho : InG prog w op a b c) (hs : SetAt vals i (some c) vals') (kq : Q .next vals' own) :
    St prog w hB (D + 1) ε env ns (.AugAssign (.Name x p) op e pos) vals own Q := fun Φ s q A E ok => by
  refine wpAny_AugAssign_Name (q.load hx hk ha fun va ra => wpAny_mono (h Φ s q.toR A E ok) (fun v s₁ h₁ => ?_) fun _ _ e => e)
  have q₁ := q.step h₁.1
  refine wpAny_mono (ho _ s₁ va v A E q₁.frz (ok.le (by (first | lia | omega))) (ra.mono (grow_le q.frz)) h₁.2) (fun r s₂ h₂ => ?_) fun _ _ e => e
  exact (q₁.step h₂.1).stName hx hk hs h₂.2 fun s₃ q₃ => ⟨_, vals', own, .next, (grow_le q.frz).trans (grow_le q₁.frz), q₃, rfl, kq⟩
end
end Kx
end

section -- J6
open PySem PySem.W PyProof.Rows
set_option Elab.async false
set_option maxRecDepth 100000
set_option linter.unusedVariables false
namespace Kx
section
variable {prog : Program} {w : World} {hB : Heap} {K : Frag} {D : Nat}

theorem bindL_mem {kindOf : Str → Option NameKind} {x : Str} {v : Value} : ∀ {binds : List (Str × Value)} {m : Str → Option Value}, (binds.map (·.1)).Nodup → (x, v) ∈ binds → kindOf x = some .local → bindL kindOf binds m x = some v
  | (y, u) :: r, m, nd, hm, hk => by
    rw [List.map_cons, List.nodup_cons] at nd
    rcases List.mem_cons.mp hm with e | hm
    · cases e
      unfold bindL
      rw [if_pos hk]
      exact keep r nd.1
    · unfold bindL; exact bindL_mem nd.2 hm hk
where
  keep : ∀ (r : List (Str × Value)) {m : Str → Option Value}, x ∉ r.map (·.1) → bindL kindOf r (fun y => if y = x then some v else m y) x = some v
    | [], m, _ => by show (if x = x then some v else _) = some v; rw [if_pos rfl]
    | (y, u) :: r, m, h => by
      rw [List.map_cons, List.mem_cons, not_or] at h
      unfold bindL
      by_cases hy : kindOf y = some .local
      · rw [if_pos hy]
        have : (fun z => if z = y then some u else if z = x then some v else m z) = fun z => if z = x then some v else if z = y then some u else m z := by
          funext z
          by_cases h1 : z = y
          · subst h1; rw [if_pos rfl, if_neg (fun e => h.1 e.symm), if_pos rfl]
          · rw [if_neg h1]; by_cases h2 : z = x
            · rw [if_pos h2, if_pos h2]
            · rw [if_neg h2, if_neg h2, if_neg h1]
        rw [this]; exact keep r h.2
      · rw [if_neg hy]; exact keep r h.2
theorem bindC_mem {kindOf : Str → Option NameKind} {x : Str} {v : Value} : ∀ {binds : List (Str × Value)} {m : Str → Option Value}, (binds.map (·.1)).Nodup → (x, v) ∈ binds → kindOf x ≠ some .local → bindC kindOf binds m x = some v
  | (y, u) :: r, m, nd, hm, hk => by
    rw [List.map_cons, List.nodup_cons] at nd
    rcases List.mem_cons.mp hm with e | hm
    · cases e
      unfold bindC
      rw [if_neg hk]
      exact keep r nd.1
    · unfold bindC; exact bindC_mem nd.2 hm hk
where
  keep : ∀ (r : List (Str × Value)) {m : Str → Option Value}, x ∉ r.map (·.1) → bindC kindOf r (fun y => if y = x then some v else m y) x = some v
    | [], m, _ => by show (if x = x then some v else _) = some v; rw [if_pos rfl]
    | (y, u) :: r, m, h => by
      rw [List.map_cons, List.mem_cons, not_or] at h
      unfold bindC
      by_cases hy : kindOf y = some .local
      · rw [if_pos hy]; exact keep r h.2
      · rw [if_neg hy]
        have : (fun z => if z = y then some u else if z = x then some v else m z) = fun z => if z = x then some v else if z = y then some u else m z := by
          funext z
          by_cases h1 : z = y
          · subst h1; rw [if_pos rfl, if_neg (fun e => h.1 e.symm), if_pos rfl]
          · rw [if_neg h1]; by_cases h2 : z = x
            · rw [if_pos h2, if_pos h2]
            · rw [if_neg h2, if_neg h2, if_neg h1]
        rw [this]; exact keep r h.2

noncomputable def initVals (n : Nat) (args : List AV) : List (Option AV) := args.map some ++ List.replicate n Option.none
theorem initVals_get {n : Nat} {args : List AV} {i : Nat} {av : AV} (h : (initVals n args)[i]? = some (some av)) : args[i]? = some av := by
  unfold initVals at h
  rw [List.getElem?_append] at h
  split at h
  · rw [List.getElem?_map] at h
    cases e : args[i]? with
    | none => rw [e] at h; cases h
    | some a => rw [e] at h; cases h; rfl
  · rw [List.getElem?_replicate] at h
    split at h <;> cases h
theorem Rs.zip {Φ : FH} : ∀ {ps : List Str} {args : List AV} {vs : List Value} {i : Nat} {x : Str} {av : AV}, Rs Φ args vs → ps[i]? = some x → args[i]? = some av → ∃ v, (x, v) ∈ ps.zip vs ∧ R Φ av v
  | [], _, _, _, _, _, _, e, _ => by simp at e
  | _ :: _, [], _, _, _, _, _, _, e => by simp at e
  | _ :: _, _ :: _, [], _, _, _, r, _, _ => r.elim
  | p :: ps, a :: args, v :: vs, 0, x, av, r, e, f => by
    simp at e f; subst e f
    exact ⟨v, .head _, r.1⟩
  | p :: ps, a :: args, v :: vs, i + 1, x, av, r, e, f => by
    obtain ⟨u, hu, hr⟩ := Rs.zip (i := i) (ps := ps) r.2 (by simpa using e) (by simpa using f)
    exact ⟨u, .tail _ hu, hr⟩
theorem zip_names : ∀ {ps : List Str} {vs : List Value}, ((ps.zip vs).map (·.1)).Sublist ps
  | [], _ => by simp
  | _ :: _, [] => by simp
  | p :: ps, v :: vs => by rw [List.zip_cons_cons, List.map_cons]; exact (zip_names).cons_cons p

noncomputable def namesOk (ns : List (Str × NameKind)) (ps : List Str) : Bool :=
  decide ((ns.map (·.1)).Nodup) && (ns.map (·.1)).take ps.length == ps && (ns.take ps.length).all fun p => p.2 == .local || p.2 == .cell
structure DefOk (fd : FuncData) (ns : List (Str × NameKind)) (ps : List Str) : Prop where
  names : fd.scope.names = ns
  kind : fd.scope.kind = .function
  globals : fd.globals = mainGlobals
  builtins : fd.builtins = builtinsNs
  closure : fd.closure = []
  co : fd.scope.isCoroutine = false
  gen : fd.scope.isGenerator = false
  good : namesOk ns ps = true
section
variable {fd : FuncData} {ns : List (Str × NameKind)} {ps : List Str} (ok : DefOk fd ns ps)
include ok
theorem DefOk.split : (ns.map (·.1)).Nodup ∧ (ns.map (·.1)).take ps.length = ps ∧ ∀ p ∈ ns.take ps.length, p.2 = .local ∨ p.2 = .cell := by
  have := ok.good
  unfold namesOk at this
  simp only [Bool.and_eq_true, decide_eq_true_eq, beq_iff_eq, List.all_eq_true, Bool.or_eq_true] at this
  exact ⟨this.1.1, this.1.2, this.2⟩
theorem DefOk.psn : ps.Nodup := by
  have h := ok.split
  rw [← h.2.1]
  exact List.Sublist.nodup (List.take_sublist _ _) h.1
theorem DefOk.place {i : Nat} {x : Str} {k : NameKind} (e : ns[i]? = some (x, k)) (hi : i < ps.length) : ps[i]? = some x ∧ (k = .local ∨ k = .cell) := by
  have h := ok.split
  refine ⟨?_, h.2.2 (x, k) ?_⟩
  · rw [← h.2.1, List.getElem?_take, if_pos hi, List.getElem?_map, e]; rfl
  · refine List.mem_of_getElem? (i := i) ?_
    rw [List.getElem?_take, if_pos hi]; exact e
theorem DefOk.mem {x : Str} (hx : x ∈ ps) : ∃ (k : NameKind) (i : Nat), ns[i]? = some (x, k) ∧ (k = .local ∨ k = .cell) := by
  have h := ok.split
  rw [← h.2.1] at hx
  obtain ⟨i, hi⟩ := List.getElem?_of_mem hx
  rw [List.getElem?_take] at hi
  split at hi
  · rename_i hlt
    rw [List.getElem?_map] at hi
    cases e : ns[i]? with
    | none => rw [e] at hi; cases hi
    | some p =>
      rw [e] at hi
      obtain ⟨y, k⟩ := p
      cases hi
      exact ⟨k, i, e, (ok.place e hlt).2⟩
  · cases hi
end

noncomputable def Scal : AV → Bool
  | .int _ | .bool _ | .none | .bytes _ | .str _ | .ref _ | .typ _ | .blt _ => true
  | _ => false
theorem Scal.any {Φ Ψ : FH} : ∀ {av : AV} {v : Value}, Scal av = true → R Φ av v → R Ψ av v
  | .int _, _, _, r => r
  | .bool _, _, _, r => r
  | .none, _, _, r => r
  | .bytes _, _, _, r => r
  | .str _, _, _, r => r
  | .ref _, _, _, r => r
  | .typ _, _, _, r => r
  | .blt _, _, _, r => r
  | .rng _ _ _, _, h, _ => by cases h
  | .lst _, _, h, _ => by cases h
  | .tup _, _, h, _ => by cases h
  | .obj _ _ _, _, h, _ => by cases h
  | .inst _ _, _, h, _ => by cases h
theorem Scal.all {Φ Ψ : FH} : ∀ {xs : List AV} {vs : List Value}, (∀ x ∈ xs, Scal x = true) → Rs Φ xs vs → Rs Ψ xs vs
  | [], [], _, _ => trivial
  | _ :: _, _ :: _, h, r => ⟨Scal.any (h _ (.head _)) r.1, Scal.all (fun x hx => h x (.tail _ hx)) r.2⟩
  | [], _ :: _, _, r => r.elim
  | _ :: _, [], _, r => r.elim

theorem enter {fd : FuncData} {ns : List (Str × NameKind)} {ps : List Str} {body : List Stmt} {f : Addr} {o : Obj} {args : List AV} {A : Around} {s : Shared} {vs : List Value} {R' : Result → Shared → Prop} {P : Addr → Prop} {Φ₀ : FH} {nz : Nat}
    (G : GH K hB) (ok : DefOk fd ns ps) (hA : AOk (D + 1) A) (ho : s.heap.get? f = some o) (hd : o.data = .func fd) (hcd : s.heap.CodeRec fd.code fd.qualname) (hbody : fd.body = .stmts body) (hl : ps.length = args.length)
    (hb : ∀ a o, hB.get? a = some o → s.heap.get? a = some o) (hbind : bindArgs fd ⟨vs, []⟩ = pure (ps.zip vs)) (hr : Rs Φ₀ args vs)
    (hΦb : ∀ a o, hB.get? a = some o → Φ₀ a = some o) (hΦ : ∀ a o, Φ₀ a = some o → s.heap.get? a = some o) (hP : ∀ a o, Φ₀ a = some o → P a)
    (h : ∀ s₁ env, env = callEnvC fd s.heap.objs.size f → Rel hB ⟨s, P⟩ env ns Φ₀ (initVals nz args) [] s₁ → AOk D (A.deeper env) → wpAny (model prog w) (A.deeper env) (execs body env) (fun f s' => R' (.ok (.ret (match f with | .ret v => v | _ => .none))) s')
        (fun e s' => wpAny (model prog w) (A.deeper env) (leaving env e) (fun _ s'' => R' (.error e) s'') (fun e' s'' => R' (.error e') s'') s') s₁) :
    codeAny (model prog w) A (.call (.ref f) ⟨vs, []⟩) R' s := by
  have hkind : ∀ x ∈ ps.zip vs, fd.scope.names.lookup x.1 = some .local ∨ (fd.scope.names.lookup x.1 = some .cell ∧ ((cellsFrom (s.heap.objs.size + 1) fd.scope.names []).lookup x.1).isSome = true) := by
    intro x hx
    have hp : x.1 ∈ ps := List.Sublist.subset zip_names (List.mem_map_of_mem hx)
    obtain ⟨k, i, e, hk⟩ := ok.mem hp
    have e' := lookup_of_nodup ok.split.1 e
    rw [ok.names]
    rcases hk with rfl | rfl
    · exact .inl e'
    · exact .inr ⟨e', cellsFrom_some _ _ _ (.inl e')⟩
  have hlt : A.depth < recursionLimit := by have := hA.depth; (first | lia | omega)
  refine codeAny_call_cells hlt ho hd (G.lim.keeps hb) hcd hbody hbind ok.closure hkind (fun s₁ I => h s₁ _ rfl ?_ (hA.deeper _)) ok.co ok.gen ok.kind
  have hkd : ∀ x, (callEnvC fd s.heap.objs.size f).kindOf x = ns.lookup x := fun x => by show List.lookup x fd.scope.names = _; rw [ok.names]
  have hLs : (callEnvC fd s.heap.objs.size f).locals = s.heap.objs.size := rfl
  refine ⟨⟨ok.names, ok.split.1, ok.kind, ok.globals, ok.builtins⟩, fun x hx => ?_, ⟨_, _, I, fun i x k av e e' => ?_⟩, hΦb, fun a o e => I.toInCall.keep a o (hΦ a o e), fun a o e => .inl (hP a o e), ?_, fun x c hc => ?_, fun a mo hm => (nomatch hm), .nil⟩
  · rw [hkd] at hx
    exact cellsFrom_some _ _ _ (.inl (by rw [ok.names]; exact hx))
  · have e2 := initVals_get e'
    have hi : i < ps.length := by
      rw [hl]
      rcases Nat.lt_or_ge i args.length with h | h
      · exact h
      · rw [List.getElem?_eq_none h] at e2; cases e2
    obtain ⟨hps, hk⟩ := ok.place e hi
    obtain ⟨v, hv, hR⟩ := hr.zip hps e2
    have hlk := lookup_of_nodup ok.split.1 e
    have nd : ((ps.zip vs).map (·.1)).Nodup := List.Sublist.nodup zip_names ok.psn
    refine ⟨v, ?_, hR⟩
    rcases hk with rfl | rfl
    · exact bindL_mem nd hv (by rw [hkd]; exact hlk)
    · exact bindC_mem nd hv (by rw [hkd, hlk]; decide)
  · cases e : Φ₀ (callEnvC fd s.heap.objs.size f).locals with
    | none => rfl
    | some o => have := hΦ _ _ e; rw [hLs, get_size] at this; cases this
  · have := I.above x c (mem_of_lookup hc)
    cases e : Φ₀ c with
    | none => rfl
    | some o => have h1 := hΦ _ _ e; rw [hLs] at this; exact absurd (Heap.lt_size h1) (Nat.not_lt.mpr (Nat.le_of_lt this))

theorem Rel.keeps {ε : Ent} {env : Env} {ns : List (Str × NameKind)} {Φ : FH} {vals : List (Option AV)} {own : List (Addr × MO)} {s : Shared} (q : Rel hB ε env ns Φ vals own s) : Keeps ε.s s := by
  obtain ⟨m, cm, I, _⟩ := q.inn
  obtain ⟨h, tk, e⟩ := I.toInCall.same
  exact ⟨h, tk, e, by have := I.toInCall.keep; rw [e] at this; exact this⟩

theorem FnP.scal {fd : FuncData} {ns : List (Str × NameKind)} {ps : List Str} {body : List Stmt} {f : Addr} {o : Obj} {args : List AV} {res : AV} {nz : Nat} (G : GH K hB) (ok : DefOk fd ns ps) (ho : hB.get? f = some o) (hd : o.data = .func fd) (hcd : hB.CodeRec fd.code fd.qualname)
    (hbody : fd.body = .stmts body) (hl : ps.length = args.length) (hbind : ∀ vs : List Value, vs.length = ps.length → bindArgs fd ⟨vs, []⟩ = pure (ps.zip vs)) (hres : Scal res = true)
    (h : ∀ ε L, Ex prog w hB D ε (callEnvC fd L f) ns body (initVals nz args) [] (fun fl _ _ => fl = .ret res)) : FnP prog w hB (D + 1) f args res := fun A s vs hA hb hr => by
  refine enter (nz := nz) (P := fun _ => True) (Φ₀ := s.heap.get?) G ok hA (hb _ _ ho) hd (hcd.keeps hb) hbody hl hb (hbind vs (by rw [hr.length, hl])) hr hb (fun _ _ e => e) (fun _ _ _ => trivial) fun s₁ env he q hA' => ?_
  subst he
  refine wpAny_mono (h _ _ _ s₁ q _ _ hA') (fun fl s' h' => ?_) fun _ _ e => e
  obtain ⟨Φ', vals', own', fl', hle, q', hf, rfl⟩ := h'
  obtain ⟨v, rfl, hv⟩ := hf
  exact ⟨v, rfl, q'.keeps, Scal.any hres hv⟩
theorem FnN.flat {fd : FuncData} {ns : List (Str × NameKind)} {ps : List Str} {body : List Stmt} {f : Addr} {o : Obj} {args : List AV} {xs : List AV} {nz : Nat} (G : GH K hB) (ok : DefOk fd ns ps) (ho : hB.get? f = some o) (hd : o.data = .func fd) (hcd : hB.CodeRec fd.code fd.qualname)
    (hbody : fd.body = .stmts body) (hl : ps.length = args.length) (hbind : ∀ vs : List Value, vs.length = ps.length → bindArgs fd ⟨vs, []⟩ = pure (ps.zip vs)) (hres : ∀ x ∈ xs, Scal x = true)
    (h : ∀ ε L, Ex prog w hB D ε (callEnvC fd L f) ns body (initVals nz args) [] (fun fl _ own => ∃ a, fl = .ret (.ref a) ∧ (a, MO.lst xs) ∈ own)) : FnN prog w hB (D + 1) f args (.lst xs) := fun A s vs hA hb hr => by
  refine enter (nz := nz) (P := fun _ => True) (Φ₀ := s.heap.get?) G ok hA (hb _ _ ho) hd (hcd.keeps hb) hbody hl hb (hbind vs (by rw [hr.length, hl])) hr hb (fun _ _ e => e) (fun _ _ _ => trivial) fun s₁ env he q hA' => ?_
  subst he
  refine wpAny_mono (h _ _ _ s₁ q _ _ hA') (fun fl s' h' => ?_) fun _ _ e => e
  obtain ⟨Φ', vals', own', fl', hle, q', hf, a, rfl, hm⟩ := h'
  obtain ⟨v, rfl, rfl⟩ := hf
  obtain ⟨h1, h2, h3, h4, o, h5, us, n, rfl, h6⟩ := q'.owns a _ hm
  exact ⟨a, _, rfl, q'.keeps, h2, h5, us, n, rfl, Scal.all hres h6⟩
theorem FnN.deep {fd : FuncData} {ns : List (Str × NameKind)} {ps : List Str} {body : List Stmt} {f : Addr} {o : Obj} {args : List AV} {xs : List AV} {nz : Nat} (G : GH K hB) (ok : DefOk fd ns ps) (ho : hB.get? f = some o) (hd : o.data = .func fd) (hcd : hB.CodeRec fd.code fd.qualname)
    (hbody : fd.body = .stmts body) (hl : ps.length = args.length) (hbind : ∀ vs : List Value, vs.length = ps.length → bindArgs fd ⟨vs, []⟩ = pure (ps.zip vs)) (hargs : ∀ x ∈ args, Scal x = true)
    (h : ∀ ε L, Ex prog w hB D ε (callEnvC fd L f) ns body (initVals nz args) [] (fun fl _ own => ∃ a, fl = .ret (.ref a) ∧ (a, MO.lst xs) ∈ own)) : FnN prog w hB (D + 1) f args (.lst xs) := fun A s vs hA hb hr => by
  refine enter (nz := nz) (P := fun a => (hB.get? a).isSome = true) (Φ₀ := hB.get?) G ok hA (hb _ _ ho) hd (hcd.keeps hb) hbody hl hb (hbind vs (by rw [hr.length, hl])) (Scal.all hargs hr) (fun _ _ e => e) hb (fun a o e => by rw [e]; rfl) fun s₁ env he q hA' => ?_
  subst he
  refine wpAny_mono (h _ _ _ s₁ q _ _ hA') (fun fl s' h' => ?_) fun _ _ e => e
  obtain ⟨Φ', vals', own', fl', hle, q', hf, a, rfl, hm⟩ := h'
  obtain ⟨v, rfl, rfl⟩ := hf
  obtain ⟨h1, h2, h3, h4, o, h5, us, n, rfl, h6⟩ := q'.owns a _ hm
  refine ⟨a, _, rfl, q'.keeps, h2, h5, us, n, rfl, h6.mono fun b ob e => ?_⟩
  have hne : b ≠ a := by rintro rfl; rw [h1] at e; cases e
  unfold hide fresh
  rw [if_neg hne]
  cases hh : hB.get? b with
  | some o' => have e1 := q'.base b o' hh; rw [e] at e1; exact e1.symm
  | none =>
    rcases q'.nw b ob e with hp | hp
    · have hp' : (hB.get? b).isSome = true := hp
      rw [hh] at hp'; cases hp'
    · show (if (s.heap.get? b).isSome then none else s'.heap.get? b) = some ob
      rw [if_neg (by rw [show s.heap.get? b = none from hp]; decide)]
      exact q'.frz b ob e

theorem EvN.call {env : Env} {ns : List (Str × NameKind)} {vals : List (Option AV)} {own : List (Addr × MO)} {x : Str} {p pos : Pos} {es : List Expr} {f : Addr} {avs args : List AV} {mo : MO} {D' : Nat} (G : GH K hB) (hk : keepIn K (.ref f) = true) (hf : Ev prog w hB D env ns vals own (.Name x p) (.ref f))
    (hes : EvL prog w hB D env ns vals own es avs) (ha : Hnds own avs args) (F : FnN prog w hB D' f args mo) (hd : D' ≤ D) : EvN prog w hB D env ns vals own (.Call (.Name x p) es [] pos) mo := fun Φ s q A E ok => by
  refine Call_Name_ (wpAny_mono (hf Φ s q A E ok) (fun v s₁ h₁ => ?_) fun _ _ e => e)
  obtain ⟨k₁, rfl⟩ := h₁
  have q₁ := q.step k₁
  refine callWith_fn hk (hes.1 pos) (wpAny_mono (hes.2 _ s₁ q₁ A E pos ok) (fun vs s₂ h₂ => ?_) fun _ _ e => e)
  have q₂ := q₁.step h₂.1
  refine ⟨fun a o e => q₂.base' _ _ (G.kin a o e), wpAny_call (codeAny_mono (F A s₂ vs (ok.le hd) q₂.base' (ha.get q₂ (Le.refl _) q₂.frz h₂.2)) fun r s₃ h₃ => ?_)⟩
  obtain ⟨a, o, rfl, k₃, hn, ho, hr⟩ := h₃
  exact newFin k₁ h₂.1 k₃ q hn ho (hr.mono (hide_mono (fresh_le q₂.base q₂.frz)))
where
  newFin {env : Env} {ns : List (Str × NameKind)} {vals : List (Option AV)} {own : List (Addr × MO)} {Φ : FH} {s s₁ s₂ s₃ : Shared} {a : Addr} {o : Obj} {mo : MO} (k₁ : Keeps s s₁) (k₂ : Keeps s₁ s₂) (k₃ : Keeps s₂ s₃) (q : RelR hB env ns Φ vals own s.heap) (hn : s₂.heap.get? a = none) (ho : s₃.heap.get? a = some o)
      (hr : MR (hide (grow (grow (grow Φ s s₁) s₁ s₂) s₂ s₃) a) mo o) : Keeps s s₃ ∧ ∃ b o', Value.ref a = .ref b ∧ s.heap.get? b = none ∧ s₃.heap.get? b = some o' ∧ MR (hide (grow Φ s s₃) b) mo o' := by
    refine ⟨Keeps.tr k₁ (Keeps.tr k₂ k₃), a, o, rfl, ?_, ho, hr.mono (hide_mono ?_)⟩
    · cases e : s.heap.get? a with
      | none => rfl
      | some o' => have := Keeps.keep k₂ _ _ (Keeps.keep k₁ _ _ e); rw [hn] at this; cases this
    · exact (grow_grow (Keeps.keep k₂) (Keeps.keep k₃)).trans (grow_grow (Keeps.keep k₁) (Keeps.keep (Keeps.tr k₂ k₃)))
end
end Kx
end

section -- J7
open PySem PySem.W PyProof.Rows
set_option Elab.async false
set_option maxRecDepth 100000
set_option linter.unusedVariables false
namespace Kx
section
variable {prog : Program} {w : World} {hB : Heap} {K : Frag} {D : Nat} {env : Env} {ns : List (Str × NameKind)} {vals vals' : List (Option AV)} {own own' : List (Addr × MO)} {s₀ s s' : Shared} {Φ : FH}

theorem EsAre.get : ∀ {names : List Str} {es : List DictEntry} {vs : List Value} {i : Nat} {x : Str}, EsAre names es vs → names.Nodup → names[i]? = some x → ∃ v, vs[i]? = some v ∧ ∃ e, es.find? (·.key.isStr x) = some e ∧ e.val = v
  | [], _, _, _, _, _, _, h => by simp at h
  | n :: ns, [], _, _, _, h, _, _ => h.elim
  | n :: ns, _ :: _, [], _, _, h, _, _ => h.elim
  | n :: ns, e :: es, v :: vs, 0, x, h, _, hx => by
    simp at hx; subst hx
    obtain ⟨⟨t, hk⟩, hv, _⟩ := h
    refine ⟨v, rfl, e, ?_, hv⟩
    rw [List.find?_cons, hk]
    simp [Value.isStr]
  | n :: ns, e :: es, v :: vs, i + 1, x, h, nd, hx => by
    have hx' : ns[i]? = some x := by simpa using hx
    obtain ⟨⟨t, hk⟩, hv, hr⟩ := h
    rw [List.nodup_cons] at nd
    obtain ⟨u, hu, e', he', hve⟩ := EsAre.get hr nd.2 hx'
    refine ⟨u, by simpa using hu, e', ?_, hve⟩
    have hne : (Value.str n t).isStr x = false := beq_eq_false_iff_ne.mpr (by rintro rfl; exact nd.1 (List.mem_of_getElem? hx'))
    rw [List.find?_cons, hk, hne]; exact he'
theorem EsAre.miss : ∀ {names : List Str} {es : List DictEntry} {vs : List Value} {x : Str}, EsAre names es vs → x ∉ names → es.find? (·.key.isStr x) = none ∧ es.any (·.refKey) = false
  | [], [], [], _, _, _ => ⟨rfl, rfl⟩
  | [], _ :: _, _, _, h, _ => h.elim
  | [], [], _ :: _, _, h, _ => h.elim
  | n :: ns, [], _, _, h, _ => h.elim
  | n :: ns, _ :: _, [], _, h, _ => h.elim
  | n :: ns, e :: es, v :: vs, x, h, hx => by
    obtain ⟨⟨t, hk⟩, hv, hr⟩ := h
    rw [List.mem_cons, not_or] at hx
    obtain ⟨h1, h2⟩ := EsAre.miss hr hx.2
    have hne : (Value.str n t).isStr x = false := beq_eq_false_iff_ne.mpr (fun e => hx.1 e.symm)
    refine ⟨?_, ?_⟩
    · rw [List.find?_cons, hk, hne]; exact h1
    · rw [List.any_cons, h2, Bool.or_false]
      unfold DictEntry.refKey; rw [hk]

structure ClsOk (K : Frag) (C : Addr) : Prop where
  ga : findIn K (.ref C) "__getattribute__" = some (some (.builtin "object.__getattribute__"))
  gk : findIn K (.ref C) "__getattr__" = some none
  cd : ∃ cd, clsIn K C = some cd ∧ cd.hasDict = true

theorem Ev.attr {value : Expr} {attr : Str} {apos : Pos} {C : Addr} {names : List Str} {xs : List AV} {av : AV} {i : Nat} (G : GH K hB) (hc : ClsOk K C) (hv : Ev prog w hB (D + 1) env ns vals own value (.obj C names xs))
    (hm : findIn K (.ref C) attr = some none) (nd : names.Nodup) (hn : At names i attr) (hx : At xs i av) (hh : ∀ (Φ : FH) v, R Φ av v → handedIn v = true)
    (he : eval (.Attribute value attr apos) env = (do
      let o ← eval value env
      standAt apos.atName
      let r ← holding [o] (getAttr o attr true)
      letTemporaryGo value o r
      pure r) := by rfl) : Ev prog w hB (D + 1) env ns vals own (.Attribute value attr apos) av := fun Φ s q A E ok => by
  refine Attribute_any_ (wpAny_mono (hv Φ s q A E ok) (fun o s₁ h₁ => ?_) fun _ _ e => e) he
  obtain ⟨k₁, x, dx, es, vs, n, rfl, hx1, hx2, hes, hrs⟩ := h₁
  have q₁ := q.step k₁
  have X : K.In s₁.heap := fun a o e => q₁.base' _ _ (G.kin a o e)
  obtain ⟨v, hvv, e, hf, rfl⟩ := hes.get nd hn.get
  obtain ⟨v', hv', hr'⟩ := hrs.get _ _ hx.get
  rw [hvv] at hv'; cases hv'
  obtain ⟨cd, hcd, hdict⟩ := hc.cd
  have I : InstAt s₁.heap x (instObj C dx) C (some (dictOf es n)) := ⟨q₁.frz _ _ hx1, rfl, rfl, q₁.frz _ _ hx2⟩
  have hlk : lookIn attr (dictOf es n) = some (some e.val) := by
    unfold lookIn; dsimp only; rw [hf]
  have hfo : findObj K C (some (dictOf es n)) attr = some (.value e.val) := by
    unfold findObj
    rw [hcd, hm]
    simp only [Option.bind_some, PySem.W.ownOf, hdict, if_true, hlk]
  exact get_value X I hc.ga hfo (hh _ _ hr') (fin k₁ ⟨Keeps.tok _, R.mono (grow_le q₁.frz) hr'⟩)

theorem handed_int {i : Int} : ∀ (Φ : FH) v, R Φ (.int i) v → handedIn v = true := fun _ _ ⟨_, e⟩ => by subst e; rfl
theorem handed_lst {xs : List AV} : ∀ (Φ : FH) v, R Φ (.lst xs) v → handedIn v = true := fun _ _ ⟨_, _, _, e, _⟩ => by subst e; rfl
theorem handed_obj {C : Addr} {names : List Str} {xs : List AV} : ∀ (Φ : FH) v, R Φ (.obj C names xs) v → handedIn v = true := fun _ _ ⟨_, _, _, _, _, e, _⟩ => by subst e; rfl

theorem meth_core {o : Expr} {name : Str} {apos pos : Pos} {es : List Expr} {C f : Addr} {names : List Str} {xs avs args : List AV} {pl : Sem Bool} (G : GH K hB) (hc : ClsOk K C) (hk : keepIn K (.ref f) = true) (ho : Ev prog w hB D env ns vals own o (.obj C names xs))
    (hm : findIn K (.ref C) name = some (some (.ref f))) (ht : typeIn K (.ref f) = some (.type "function")) (hn : names.contains name = false) (hes : EvL prog w hB D env ns vals own es avs) (ha : Hnds own avs args)
    {A : Around} {E : Value → Shared → Prop} {Q : Value → Shared → Prop} (q : RelR hB env ns Φ vals own s.heap) (ok : AOk D A)
    (h : ∀ s₁ s₂ v vs, Keeps s s₁ → Keeps s₁ s₂ → RelR hB env ns (grow (grow Φ s s₁) s₁ s₂) vals own s₂.heap → Rs s₂.heap.get? (.obj C names xs :: args) (v :: vs) → wpAny (model prog w) A (call (.ref f) (v :: vs)) Q E s₂)
    (he : eval (.Call (.Attribute o name apos) es [] pos) env = (do
      let ov ← eval o env
      standAt apos.atName
      let (f, first) ← holding [ov] (getMethod ov name pl)
      callWith pos f first (backTo pos (starEach es env)) (backToKw pos (keywordEach [] env))) := by rfl) : wpAny (model prog w) A (eval (.Call (.Attribute o name apos) es [] pos) env) Q E s := by
  refine methodCall_KW (pl := pl) (wpAny_mono (ho Φ s q A E ok) (fun ov s₁ h₁ => ?_) fun _ _ e => e) he
  have hr₁ := h₁.2
  obtain ⟨k₁, x, dx, es', vs', n, rfl, hx1, hx2, hes', hrs⟩ := h₁
  have q₁ := q.step k₁
  have X : K.In s₁.heap := fun a o e => q₁.base' _ _ (G.kin a o e)
  have I : InstAt s₁.heap x (instObj C dx) C (some (dictOf es' n)) := ⟨q₁.frz _ _ hx1, rfl, rfl, q₁.frz _ _ hx2⟩
  have hms := hes'.miss (x := name) (by simpa using hn)
  have hsh : shadowIn (some (dictOf es' n)) name = some false := by
    unfold shadowIn lookIn; dsimp only; rw [hms.1]; simp only [hms.2]; rfl
  refine method_fn X I hc.ga hc.gk hm ht hsh ?_
  show wpAny _ _ (callWith pos (.ref f) [.ref x] (backTo pos (starEach es env)) []) _ _ _
  refine callWith_fn hk (hes.1 pos) (wpAny_mono (hes.2 _ s₁ q₁ A E pos ok) (fun vs s₂ h₂ => ?_) fun _ _ e => e)
  have q₂ := q₁.step h₂.1
  exact ⟨fun a o e => q₂.base' _ _ (G.kin a o e), h s₁ s₂ (.ref x) vs k₁ h₂.1 q₂ ⟨(hr₁.mono (grow_le q₁.frz)).mono q₂.frz, ha.get q₂ (Le.refl _) q₂.frz h₂.2⟩⟩

theorem Ev.meth {o : Expr} {name : Str} {apos pos : Pos} {es : List Expr} {C f : Addr} {names : List Str} {xs avs args : List AV} {res : AV} {D' : Nat} {pl : Sem Bool} (G : GH K hB) (hc : ClsOk K C) (hk : keepIn K (.ref f) = true) (ho : Ev prog w hB D env ns vals own o (.obj C names xs))
    (hm : findIn K (.ref C) name = some (some (.ref f))) (ht : typeIn K (.ref f) = some (.type "function")) (hn : names.contains name = false) (hes : EvL prog w hB D env ns vals own es avs) (ha : Hnds own avs args)
    (F : FnP prog w hB D' f (.obj C names xs :: args) res) (hd : D' ≤ D)
    (he : eval (.Call (.Attribute o name apos) es [] pos) env = (do
      let ov ← eval o env
      standAt apos.atName
      let (f, first) ← holding [ov] (getMethod ov name pl)
      callWith pos f first (backTo pos (starEach es env)) (backToKw pos (keywordEach [] env))) := by rfl) : Ev prog w hB D env ns vals own (.Call (.Attribute o name apos) es [] pos) res := fun Φ s q A E ok => by
  refine meth_core G hc hk ho hm ht hn hes ha q ok (fun s₁ s₂ v vs k₁ k₂ q₂ hr => ?_) he
  refine wpAny_call (codeAny_mono (F A s₂ _ (ok.le hd) q₂.base' hr) fun r s₃ h₃ => ?_)
  obtain ⟨val, rfl, k₃, r₃⟩ := h₃
  exact fin k₁ (fin k₂ ⟨k₃, R.mono (fresh_le q₂.base q₂.frz) r₃⟩)
theorem EvN.meth {o : Expr} {name : Str} {apos pos : Pos} {es : List Expr} {C f : Addr} {names : List Str} {xs avs args : List AV} {mo : MO} {D' : Nat} {pl : Sem Bool} (G : GH K hB) (hc : ClsOk K C) (hk : keepIn K (.ref f) = true) (ho : Ev prog w hB D env ns vals own o (.obj C names xs))
    (hm : findIn K (.ref C) name = some (some (.ref f))) (ht : typeIn K (.ref f) = some (.type "function")) (hn : names.contains name = false) (hes : EvL prog w hB D env ns vals own es avs) (ha : Hnds own avs args)
    (F : FnN prog w hB D' f (.obj C names xs :: args) mo) (hd : D' ≤ D)
    (he : eval (.Call (.Attribute o name apos) es [] pos) env = (do
      let ov ← eval o env
      standAt apos.atName
      let (f, first) ← holding [ov] (getMethod ov name pl)
      callWith pos f first (backTo pos (starEach es env)) (backToKw pos (keywordEach [] env))) := by rfl) : EvN prog w hB D env ns vals own (.Call (.Attribute o name apos) es [] pos) mo := fun Φ s q A E ok => by
  refine meth_core G hc hk ho hm ht hn hes ha q ok (fun s₁ s₂ v vs k₁ k₂ q₂ hr => ?_) he
  refine wpAny_call (codeAny_mono (F A s₂ _ (ok.le hd) q₂.base' hr) fun r s₃ h₃ => ?_)
  obtain ⟨a, o, rfl, k₃, hn, ho, hr⟩ := h₃
  exact EvN.call.newFin k₁ k₂ k₃ q hn ho (hr.mono (hide_mono (fresh_le q₂.base q₂.frz)))

theorem defIn {f : Addr} {name qual : Str} {params : Arguments} {body : List Stmt} {scope : Scope} {dV kV doc pm cdv ct oc : Value} {an od : Option Addr} {osl : Array (Option Value)} (G : GH K hB)
    (ho : K.lookup f = some ⟨oc, od, .func (fnOf name qual params body scope dV kV doc pm an cdv ct), osl⟩) (hcd : codeIn K cdv qual = true) :
    hB.get? f = some ⟨oc, od, .func (fnOf name qual params body scope dV kV doc pm an cdv ct), osl⟩ ∧ hB.CodeRec cdv qual := ⟨G.kin _ _ ho, codeRec_of G.kin hcd⟩

noncomputable abbrev scopeOf (ns : List (Str × NameKind)) (more : List (Str × Const)) : Scope := { kind := .function, names := ns, isGenerator := false, isCoroutine := false, more := more }
noncomputable abbrev parsOf (as : List Arg) : Arguments := { posonlyargs := [], args := as, vararg := Option.none, kwonlyargs := [], kw_defaults := [], kwarg := Option.none, defaults := [] }
theorem defOk_of {name qual : Str} {as : List Arg} {body : List Stmt} {more : List (Str × Const)} {dV kV doc pm cdv ct : Value} {an : Option Addr} {ns : List (Str × NameKind)} (h : namesOk ns (as.map (·.arg)) = true) :
    DefOk (fnOf name qual (parsOf as) body (scopeOf ns more) dV kV doc pm an cdv ct) ns (as.map (·.arg)) := ⟨rfl, rfl, rfl, rfl, rfl, rfl, rfl, h⟩

noncomputable abbrev frameOf (name qual : Str) (as : List Arg) (body : List Stmt) (ns : List (Str × NameKind)) (more : List (Str × Const)) (pm cdv ct : Value) (L f : Addr) : Env :=
  callEnvC (fnOf name qual (parsOf as) body (scopeOf ns more) .none .none .none pm Option.none cdv ct) L f

section
variable {f : Addr} {name qual : Str} {as : List Arg} {body : List Stmt} {more : List (Str × Const)} {pm cdv ct oc : Value} {od : Option Addr} {osl : Array (Option Value)} {ns' : List (Str × NameKind)} {args : List AV} {nz : Nat}
theorem binds_ok {vs : List Value} (hv : vs.length = (as.map (·.arg)).length) (hb : ∀ vs : List Value, vs.length = as.length → bindArgs (fnOf name qual (parsOf as) body (scopeOf ns' more) .none .none .none pm Option.none cdv ct) ⟨vs, []⟩ = pure ((as.map (·.arg)).zip vs)) :
    bindArgs (fnOf name qual (parsOf as) body (scopeOf ns' more) .none .none .none pm Option.none cdv ct) ⟨vs, []⟩ = pure ((as.map (·.arg)).zip vs) := hb vs (by simpa using hv)
theorem FnP.scalK {res : AV} (G : GH K hB)
    (ho : K.lookup f = some ⟨oc, od, .func (fnOf name qual (parsOf as) body (scopeOf ns' more) .none .none .none pm Option.none cdv ct), osl⟩) (hcd : codeIn K cdv qual = true) (hok : namesOk ns' (as.map (·.arg)) = true) (hl : as.length = args.length)
    (hb : ∀ vs : List Value, vs.length = as.length → bindArgs (fnOf name qual (parsOf as) body (scopeOf ns' more) .none .none .none pm Option.none cdv ct) ⟨vs, []⟩ = pure ((as.map (·.arg)).zip vs)) (hres : Scal res = true)
    (h : ∀ ε L, Ex prog w hB D ε (frameOf name qual as body ns' more pm cdv ct L f) ns' body (initVals nz args) [] (fun fl _ _ => fl = .ret res)) : FnP prog w hB (D + 1) f args res :=
  FnP.scal G (defOk_of hok) (defIn G ho hcd).1 rfl (defIn G ho hcd).2 rfl (by simpa using hl) (fun vs hv => binds_ok hv hb) hres h
theorem FnN.flatK {xs : List AV} (G : GH K hB)
    (ho : K.lookup f = some ⟨oc, od, .func (fnOf name qual (parsOf as) body (scopeOf ns' more) .none .none .none pm Option.none cdv ct), osl⟩) (hcd : codeIn K cdv qual = true) (hok : namesOk ns' (as.map (·.arg)) = true) (hl : as.length = args.length)
    (hb : ∀ vs : List Value, vs.length = as.length → bindArgs (fnOf name qual (parsOf as) body (scopeOf ns' more) .none .none .none pm Option.none cdv ct) ⟨vs, []⟩ = pure ((as.map (·.arg)).zip vs)) (hres : ∀ x ∈ xs, Scal x = true)
    (h : ∀ ε L, Ex prog w hB D ε (frameOf name qual as body ns' more pm cdv ct L f) ns' body (initVals nz args) [] (fun fl _ own => ∃ a, fl = .ret (.ref a) ∧ (a, MO.lst xs) ∈ own)) : FnN prog w hB (D + 1) f args (.lst xs) :=
  FnN.flat G (defOk_of hok) (defIn G ho hcd).1 rfl (defIn G ho hcd).2 rfl (by simpa using hl) (fun vs hv => binds_ok hv hb) hres h
theorem FnN.deepK {xs : List AV} (G : GH K hB)
    (ho : K.lookup f = some ⟨oc, od, .func (fnOf name qual (parsOf as) body (scopeOf ns' more) .none .none .none pm Option.none cdv ct), osl⟩) (hcd : codeIn K cdv qual = true) (hok : namesOk ns' (as.map (·.arg)) = true) (hl : as.length = args.length)
    (hb : ∀ vs : List Value, vs.length = as.length → bindArgs (fnOf name qual (parsOf as) body (scopeOf ns' more) .none .none .none pm Option.none cdv ct) ⟨vs, []⟩ = pure ((as.map (·.arg)).zip vs)) (hargs : ∀ x ∈ args, Scal x = true)
    (h : ∀ ε L, Ex prog w hB D ε (frameOf name qual as body ns' more pm cdv ct L f) ns' body (initVals nz args) [] (fun fl _ own => ∃ a, fl = .ret (.ref a) ∧ (a, MO.lst xs) ∈ own)) : FnN prog w hB (D + 1) f args (.lst xs) :=
  FnN.deep G (defOk_of hok) (defIn G ho hcd).1 rfl (defIn G ho hcd).2 rfl (by simpa using hl) (fun vs hv => binds_ok hv hb) hargs h
end

theorem og_addN {a b : Nat} : OpG prog w .Add (.int a) (.int b) (.int ((a + b : Nat) : Int)) := og_add
theorem og_subN {a b : Nat} (h : b ≤ a) : OpG prog w .Sub (.int a) (.int b) (.int ((a - b : Nat) : Int)) := by rw [show ((a - b : Nat) : Int) = (a : Int) - b by (first | lia | omega)]; exact og_sub
theorem og_mulN {a b : Nat} (h : IntMulOk a b) : OpG prog w .Mult (.int a) (.int b) (.int ((a * b : Nat) : Int)) := by rw [Int.natCast_mul]; exact og_mul h
theorem og_modN {a b : Nat} (h : 0 < b) : OpG prog w .Mod (.int a) (.int b) (.int ((a % b : Nat) : Int)) := og_mod (by (first | lia | omega))
theorem og_divN {a b : Nat} (h : 0 < b) (hb : b.log2 < 9000) : OpG prog w .FloorDiv (.int a) (.int b) (.int ((a / b : Nat) : Int)) := og_div (by (first | lia | omega)) (by simpa using hb)
theorem og_shlN {a b : Nat} (hb : b ≤ 1000000) (ha : a < 2 ^ 64) : OpG prog w .LShift (.int a) (.int b) (.int ((a <<< b : Nat) : Int)) := by
  rw [Nat.shiftLeft_eq, Int.natCast_mul, Int.natCast_pow]; exact og_shl (by (first | lia | omega)) (by (first | lia | omega)) (by simpa using ha)
theorem og_shrN {a b : Nat} : OpG prog w .RShift (.int a) (.int b) (.int ((a >>> b : Nat) : Int)) := by
  rw [Nat.shiftRight_eq_div_pow, Int.natCast_ediv, Int.natCast_pow]; exact og_shr (by (first | lia | omega))
theorem og_powN {a b : Nat} (hb : b ≤ 1000000) (ha : a < 2 ^ 64) : OpG prog w .Pow (.int a) (.int b) (.int ((a ^ b : Nat) : Int)) := by
  rw [Int.natCast_pow]; exact og_pow (by (first | lia | omega)) (by (first | lia | omega)) (by simpa using ha)
section
variable {l r : Expr} {pos : Pos} {a b : Nat}
theorem Ev.addN (hl : Ev prog w hB (D + 1) env ns vals own l (.int a)) (hr : Ev prog w hB (D + 1) env ns vals own r (.int b))  : Ev prog w hB (D + 1) env ns vals own (.BinOp l .Add r pos) (.int ((a + b : Nat) : Int)) := Ev.bin hl hr og_addN
theorem Ev.subN (hl : Ev prog w hB (D + 1) env ns vals own l (.int a)) (hr : Ev prog w hB (D + 1) env ns vals own r (.int b)) (h : b ≤ a) : Ev prog w hB (D + 1) env ns vals own (.BinOp l .Sub r pos) (.int ((a - b : Nat) : Int)) := Ev.bin hl hr (og_subN h)
theorem Ev.mulN (hl : Ev prog w hB (D + 1) env ns vals own l (.int a)) (hr : Ev prog w hB (D + 1) env ns vals own r (.int b)) (h : IntMulOk a b) : Ev prog w hB (D + 1) env ns vals own (.BinOp l .Mult r pos) (.int ((a * b : Nat) : Int)) := Ev.bin hl hr (og_mulN h)
theorem Ev.modN (hl : Ev prog w hB (D + 1) env ns vals own l (.int a)) (hr : Ev prog w hB (D + 1) env ns vals own r (.int b)) (h : 0 < b) : Ev prog w hB (D + 1) env ns vals own (.BinOp l .Mod r pos) (.int ((a % b : Nat) : Int)) := Ev.bin hl hr (og_modN h)
theorem Ev.divN (hl : Ev prog w hB (D + 1) env ns vals own l (.int a)) (hr : Ev prog w hB (D + 1) env ns vals own r (.int b)) (h : 0 < b) (k : b.log2 < 9000) : Ev prog w hB (D + 1) env ns vals own (.BinOp l .FloorDiv r pos) (.int ((a / b : Nat) : Int)) := Ev.bin hl hr (og_divN h k)
theorem Ev.shlN (hl : Ev prog w hB (D + 1) env ns vals own l (.int a)) (hr : Ev prog w hB (D + 1) env ns vals own r (.int b)) (h : b ≤ 1000000) (k : a < 2 ^ 64) : Ev prog w hB (D + 1) env ns vals own (.BinOp l .LShift r pos) (.int ((a <<< b : Nat) : Int)) := Ev.bin hl hr (og_shlN h k)
theorem Ev.shrN (hl : Ev prog w hB (D + 1) env ns vals own l (.int a)) (hr : Ev prog w hB (D + 1) env ns vals own r (.int b))  : Ev prog w hB (D + 1) env ns vals own (.BinOp l .RShift r pos) (.int ((a >>> b : Nat) : Int)) := Ev.bin hl hr og_shrN
theorem Ev.andN (hl : Ev prog w hB (D + 1) env ns vals own l (.int a)) (hr : Ev prog w hB (D + 1) env ns vals own r (.int b))  : Ev prog w hB (D + 1) env ns vals own (.BinOp l .BitAnd r pos) (.int ((a &&& b : Nat) : Int)) := Ev.bin hl hr og_and
theorem Ev.orN (hl : Ev prog w hB (D + 1) env ns vals own l (.int a)) (hr : Ev prog w hB (D + 1) env ns vals own r (.int b))  : Ev prog w hB (D + 1) env ns vals own (.BinOp l .BitOr r pos) (.int ((a ||| b : Nat) : Int)) := Ev.bin hl hr og_or
theorem Ev.xorN (hl : Ev prog w hB (D + 1) env ns vals own l (.int a)) (hr : Ev prog w hB (D + 1) env ns vals own r (.int b))  : Ev prog w hB (D + 1) env ns vals own (.BinOp l .BitXor r pos) (.int ((a ^^^ b : Nat) : Int)) := Ev.bin hl hr og_xor
theorem Ev.powN (hl : Ev prog w hB (D + 1) env ns vals own l (.int a)) (hr : Ev prog w hB (D + 1) env ns vals own r (.int b)) (h : b ≤ 1000000) (k : a < 2 ^ 64) : Ev prog w hB (D + 1) env ns vals own (.BinOp l .Pow r pos) (.int ((a ^ b : Nat) : Int)) := Ev.bin hl hr (og_powN h k)
theorem cg_eqN : CmG prog w .Eq (.int (a : Int)) (.int (b : Int)) (a == b) := by
  have h : (a == b : Bool) = ((a : Int) == b) := by rw [Bool.eq_iff_iff]; simp <;> (first | lia | omega)
  rw [h]; exact cg_eq
theorem cg_neN : CmG prog w .NotEq (.int (a : Int)) (.int (b : Int)) (a != b) := by
  have h : (a != b : Bool) = ((a : Int) != b) := by rw [Bool.eq_iff_iff]; simp <;> (first | lia | omega)
  rw [h]; exact cg_ne
theorem cg_ltN : CmG prog w .Lt (.int (a : Int)) (.int (b : Int)) (decide (a < b)) := by
  have h : (decide (a < b) : Bool) = (decide ((a : Int) < b)) := by rw [Bool.eq_iff_iff]; simp <;> (first | lia | omega)
  rw [h]; exact cg_lt
theorem cg_leN : CmG prog w .LtE (.int (a : Int)) (.int (b : Int)) (decide (a ≤ b)) := by
  have h : (decide (a ≤ b) : Bool) = (decide ((a : Int) ≤ b)) := by rw [Bool.eq_iff_iff]; simp <;> (first | lia | omega)
  rw [h]; exact cg_le
theorem cg_gtN : CmG prog w .Gt (.int (a : Int)) (.int (b : Int)) (decide (b < a)) := by
  have h : (decide (b < a) : Bool) = (decide ((b : Int) < a)) := by rw [Bool.eq_iff_iff]; simp <;> (first | lia | omega)
  rw [h]; exact cg_gt
theorem cg_geN : CmG prog w .GtE (.int (a : Int)) (.int (b : Int)) (decide (b ≤ a)) := by
  have h : (decide (b ≤ a) : Bool) = (decide ((b : Int) ≤ a)) := by rw [Bool.eq_iff_iff]; simp <;> (first | lia | omega)
  rw [h]; exact cg_ge
end
end
end Kx
end

section -- J8
open PySem PySem.W PyProof.Rows
set_option Elab.async false
set_option maxRecDepth 100000
set_option linter.unusedVariables false
namespace Kx
section
variable {prog : Program} {w : World} {hB : Heap} {K : Frag} {D : Nat} {env : Env} {ns : List (Str × NameKind)} {vals vals' : List (Option AV)} {own own' : List (Addr × MO)} {ε : Ent} {s₀ s s' : Shared} {Φ : FH}
variable {Q Q' : Flw → List (Option AV) → List (Addr × MO) → Prop}

theorem Ex.freezeAt {ss : List Stmt} {a : Addr} {xs : List AV} {i : Nat} (ha : At vals i (some (.ref a))) (hd : Del own (a, .lst xs) own') (hs : SetAt vals i (some (.lst xs)) vals') (h : Ex prog w hB D ε env ns ss vals' own' Q) :
    Ex prog w hB D ε env ns ss vals own Q := h.freeze hd fun j av e => by
  rw [hs.get j] at e
  split at e
  · rename_i hj; subst hj; cases e; exact .inr ⟨ha.get, rfl⟩
  · exact .inl e

noncomputable def less (Φ : FH) (wr : List Addr) : FH := fun b => if b ∈ wr then none else Φ b
theorem less_le {Φ : FH} {wr : List Addr} : Le (less Φ wr) Φ := fun b o e => by unfold less at e; split at e <;> first | cases e | exact e

noncomputable def EvIt (prog : Program) (w : World) (hB : Heap) (D : Nat) (env : Env) (ns : List (Str × NameKind)) (vals : List (Option AV)) (own : List (Addr × MO)) (e : Expr) (items : List AV) : Prop :=
  ∀ Φ s, RelR hB env ns Φ vals own s.heap → ∀ A E, AOk D A → wpAny (model prog w) A (eval e env) (fun xv s₁ => wpAny (model prog w) A (pyIter xv) (fun it s₂ => Keeps s s₂ ∧ ∃ I fp wr P St, it = .ref I ∧
    Walks prog w A I fp wr items.length P St ∧ St 0 s₂.heap ∧ wr.Nodup ∧ (∀ b ∈ wr, s.heap.get? b = none) ∧ (∀ i h, St i h → ∀ b ∈ wr, ∃ o, h.get? b = some o) ∧
    (∀ b ∈ fp, b ∈ wr ∨ ∃ o, grow Φ s s₂ b = some o) ∧ (∀ i v, i < items.length → P i v → ∃ av, items[i]? = some av ∧ R (less (grow Φ s s₂) wr) av v)) E s₁) E s

noncomputable def Off (ε : Ent) (env : Env) (Φ : FH) (own : List (Addr × MO)) (b : Addr) : Prop :=
  Φ b = none ∧ ε.s.heap.get? b = none ∧ b ≠ env.locals ∧ (∀ x c, env.cells.lookup x = some c → b ≠ c) ∧ ∀ mo, (b, mo) ∉ own

theorem Rel.keepBut {h' : Heap} {n : Nat} {wr : List Addr} (q : Rel hB ε env ns Φ vals own s) (hw : ∀ b ∈ wr, Off ε env Φ own b) (hk : ∀ b o, b ∉ wr → s.heap.get? b = some o → h'.get? b = some o) :
    Rel hB ε env ns Φ vals own { s with heap := h', toks := n } := by
  obtain ⟨m, cm, I, hv⟩ := q.inn
  have hL : env.locals ∉ wr := fun h => (hw _ h).2.2.1 rfl
  refine ⟨q.ok, q.allCells, ⟨m, cm, ⟨⟨?_, I.toInCall.ns.at' fun o e => hk _ o hL e, fun b o e => hk b o (fun h => by rw [(hw b h).2.1] at e; cases e) (I.toInCall.keep b o e), I.toInCall.fresh⟩, fun k c hc => ?_, I.apart, I.above⟩, hv⟩, q.base, fun b ob e => hk b ob (fun h => by rw [(hw b h).1] at e; cases e) (q.frz b ob e), q.nw, q.lo, q.ce, fun b mo hb => ?_, q.ownd⟩
  · obtain ⟨h₁, tk, rfl⟩ := I.toInCall.same
    exact ⟨h', _, rfl⟩
  · obtain ⟨o, ho, hd⟩ := I.cell k c hc
    exact ⟨o, hk c o (fun h => (hw c h).2.2.2.1 k c hc rfl) ho, hd⟩
  · obtain ⟨g1, g2, g3, g4, ob, g5, gr⟩ := q.owns b mo hb
    exact ⟨g1, g2, g3, g4, ob, hk b ob (fun h => (hw b h).2.2.2.2 mo hb) g5, gr⟩

theorem Rel.drop {rw : List (Addr × MO)} (q : Rel hB ε env ns Φ vals (own ++ rw) s) : Rel hB ε env ns Φ vals own s :=
  ⟨q.ok, q.allCells, q.inn, q.base, q.frz, q.nw, q.lo, q.ce, fun a mo h => q.owns a mo (List.mem_append_left _ h), by have := q.ownd; rw [List.map_append, List.nodup_append] at this; exact this.1⟩
theorem Rel.raw {wr : List Addr} {f : Addr → Obj} (q : Rel hB ε env ns Φ vals own s) (hw : ∀ b ∈ wr, Off ε env Φ own b ∧ s.heap.get? b = some (f b)) (hd : wr.Nodup) :
    Rel hB ε env ns Φ vals (own ++ wr.map fun b => (b, MO.raw (f b))) s := by
  refine ⟨q.ok, q.allCells, q.inn, q.base, q.frz, q.nw, q.lo, q.ce, fun a mo h => ?_, ?_⟩
  · rcases List.mem_append.mp h with h | h
    · exact q.owns a mo h
    · obtain ⟨b, hb, e⟩ := List.mem_map.mp h
      injection e with e1 e2
      subst e1 e2
      obtain ⟨⟨h1, h2, h3, h4, h5⟩, h6⟩ := hw _ hb
      exact ⟨h1, h2, h3, h4, _, h6, rfl⟩
  · rw [List.map_append, List.nodup_append]
    refine ⟨q.ownd, ?_, fun a ha b hb => ?_⟩
    · rw [List.map_map, show ((fun x : Addr × MO => x.1) ∘ fun b => (b, MO.raw (f b))) = id from rfl, List.map_id]; exact hd
    · rintro rfl
      rw [List.map_map] at hb
      obtain ⟨c, hc, rfl⟩ := List.mem_map.mp hb
      obtain ⟨p, hp, e⟩ := List.mem_map.mp ha
      have e' : p.1 = c := e
      exact (hw c hc).1.2.2.2.2 p.2 (by rw [← e']; exact hp)

theorem Rel.stepTo {Ψ : FH} (q : Rel hB ε env ns Φ vals own s) (k : Keeps s s') (h1 : Le Φ Ψ) (h2 : Le Ψ (grow Φ s s')) : Rel hB ε env ns Ψ vals own s' := by
  have q' := q.step k
  obtain ⟨m, cm, I, h⟩ := q.inn
  refine ⟨q'.ok, q'.allCells, ⟨m, cm, InCallC.kept' I k, fun i x kd av e f => let ⟨v, a, b⟩ := h i x kd av e f; ⟨v, a, b.mono h1⟩⟩, fun b o e => h1 _ _ (q.base b o e), fun b o e => q'.frz _ _ (h2 _ _ e), fun b o e => q'.nw _ _ (h2 _ _ e), ?_, fun x c hc => ?_, fun a mo hm => ?_, q.ownd⟩
  · cases e : Ψ env.locals with | none => rfl | some o => have := h2 _ _ e; rw [q'.lo] at this; cases this
  · cases e : Ψ c with | none => rfl | some o => have := h2 _ _ e; rw [q'.ce x c hc] at this; cases this
  · obtain ⟨g1, g2, g3, g4, ob, g5, gr⟩ := q.owns a mo hm
    obtain ⟨g1', _⟩ := q'.owns a mo hm
    refine ⟨?_, g2, g3, g4, ob, Keeps.keep k _ _ g5, gr.mono h1⟩
    cases e : Ψ a with | none => rfl | some o => have := h2 _ _ e; rw [g1'] at this; cases this

theorem SetAt.of_lt {α : Type} {x : α} : ∀ {l : List α} {i : Nat}, i < l.length → SetAt l i x (l.set i x)
  | [], _, h => absurd h (Nat.not_lt_zero _)
  | _ :: _, 0, _ => .head
  | _ :: _, i + 1, h => .tail (SetAt.of_lt (by simpa using h))

theorem St.for {x : Str} {p pos : Pos} {e : Expr} {body : List Stmt} {ix : Nat} {k : NameKind} {items : List AV} (Inv : Nat → List (Option AV) → List (Addr × MO) → Prop)
    (hit : EvIt prog w hB D env ns vals own e items) (hx : At ns ix (x, k)) (hk : k = .local ∨ k = .cell) (h0 : Inv 0 vals own) (hlen : ∀ i v o, Inv i v o → ix < v.length)
    (hstep : ∀ i av v o rw, items[i]? = some av → Inv i v o → Ex prog w hB D ε env ns body (v.set ix (some av)) (o ++ rw) (fun fl v' o' => ∃ o'', o' = o'' ++ rw ∧ match fl with | .next => Inv (i + 1) v' o'' | .ret a => Q (.ret a) v' o''))
    (hdone : ∀ v o, Inv items.length v o → Q .next v o) (hs : ∀ x, foldedSetIterable e env x = pure x := by intro _; rfl) :
    St prog w hB D ε env ns (.For (.Name x p) e body [] pos) vals own Q := fun Φ s q A E ok => by
  refine wpAny_For (wpAny_mono (hit Φ s q.toR A E ok) (fun xv s₁ h₁ => wpAny_mono h₁ (fun it s₂ h₂ => ?_) fun _ _ e => e) fun _ _ e => e) hs
  obtain ⟨k₂, I, fp, wr, P, St, rfl, W, hst, hnd, hwr, hpres, hfp, hP⟩ := h₂
  have q₂ := q.step k₂
  have off0 : ∀ b ∈ wr, Off ε env (less (grow Φ s s₂) wr) own b := fun b hb => by
    obtain ⟨m, cm, J, _⟩ := q.inn
    have hn := hwr b hb
    refine ⟨by unfold less; rw [if_pos hb], ?_, ?_, fun x c hc => ?_, fun mo hm => ?_⟩
    · cases e : ε.s.heap.get? b with | none => rfl | some o => have := J.toInCall.keep _ _ e; rw [hn] at this; cases this
    · rintro rfl; obtain ⟨o, _, _, ho, _⟩ := J.toInCall.ns; rw [hn] at ho; cases ho
    · rintro rfl; obtain ⟨o, ho, _⟩ := J.cell x b hc; rw [hn] at ho; cases ho
    · obtain ⟨_, _, _, _, o, ho, _⟩ := q.owns b mo hm; rw [hn] at ho; cases ho
  have hle0 : Le Φ (less (grow Φ s s₂) wr) := fun b o e => by
    unfold less
    rw [if_neg (fun hb => by have := q.frz b o e; rw [hwr b hb] at this; cases this)]
    exact grow_le q.frz b o e
  have q₂' : Rel hB ε env ns (less (grow Φ s s₂) wr) vals own s₂ := q.stepTo k₂ hle0 less_le
  generalize hΦs : less (grow Φ s s₂) wr = Φs at off0 hle0 q₂' hP
  have hfr : ∀ b ∈ fp, b ∉ wr → ∃ o, Φs b = some o := fun b hb hn => by
    rcases hfp b hb with h | ⟨o, h⟩
    · exact absurd h hn
    · refine ⟨o, ?_⟩; rw [← hΦs]; unfold less; rw [if_neg hn]; exact h
  refine codeAny_forLoop_any (fun n s' => ∃ i Φi v o, n + i = items.length + 1 ∧ i ≤ items.length ∧ Rel hB ε env ns Φi v o s' ∧ Le Φs Φi ∧ St i s'.heap ∧ (∀ b ∈ wr, Off ε env Φi o b) ∧ Inv i v o) ?_ (items.length + 1)
    ⟨0, _, vals, own, by (first | lia | omega), Nat.zero_le _, q₂', Le.refl _, hst, off0, h0⟩
  rintro n s' ⟨i, Φi, v, o, hn, hi, qi, hle, hsti, offi, hInv⟩
  by_cases hlt : i < items.length
  · refine W.item i s' _ _ hlt hsti fun val h' tk hPv hst' hk' => ?_
    refine wpAny_pure (a := ()) ?_
    obtain ⟨av, hav, hR⟩ := hP i val hlt hPv
    have hpr : ∀ b ∈ wr, ∃ ob, h'.get? b = some ob := hpres _ _ hst'
    have q' := (qi.keepBut (n := tk) offi hk').raw (wr := wr) (f := fun b => (h'.get? b).getD default) (fun b hb => ⟨offi b hb, by obtain ⟨ob, e⟩ := hpr b hb; show h'.get? b = _; rw [e]; rfl⟩) hnd
    generalize hrw : (wr.map fun b => (b, MO.raw ((h'.get? b).getD default))) = rws at q'
    have fr : ∀ (Φ' : FH) (v' : List (Option AV)) (o' : List (Addr × MO)) (s₄ : Shared), Le Φi Φ' → Rel hB ε env ns Φ' v' (o' ++ rws) s₄ → St (i + 1) s₄.heap ∧ ∀ b ∈ wr, Off ε env Φ' o' b := fun Φ' v' o' s₄ hle' q₄ => by
      have hraw : ∀ b ∈ wr, (b, MO.raw ((h'.get? b).getD default)) ∈ rws := fun b hb => by rw [← hrw]; exact List.mem_map.mpr ⟨b, hb, rfl⟩
      refine ⟨W.frame _ h' _ hst' fun b hb ob e => ?_, fun b hb => ?_⟩
      · by_cases hbw : b ∈ wr
        · obtain ⟨_, _, _, _, o₄, h₄, hm⟩ := q₄.owns b _ (List.mem_append_right _ (hraw b hbw))
          have hm' : o₄ = (h'.get? b).getD default := hm
          rw [h₄, hm', e]; rfl
        · obtain ⟨ob', hb'⟩ := hfr b hb hbw
          have e1 := q'.frz b ob' (hle b ob' hb')
          have e2 := q₄.frz b ob' (hle' b ob' (hle b ob' hb'))
          have e1' : h'.get? b = some ob' := e1
          rw [e1'] at e; cases e; exact e2
      · obtain ⟨g1, g2, g3, g4, _⟩ := q₄.owns b _ (List.mem_append_right _ (hraw b hb))
        refine ⟨g1, g2, g3, g4, fun mo hm => ?_⟩
        have nd := q₄.ownd
        rw [List.map_append, List.nodup_append] at nd
        exact nd.2.2 b (List.mem_map.mpr ⟨_, hm, rfl⟩) b (List.mem_map.mpr ⟨_, hraw b hb, rfl⟩) rfl
    refine wpAny_assign_Name (q'.stName hx hk (SetAt.of_lt (hlen i v o hInv)) (hR.mono hle) fun s₃ q₃ => ?_)
    refine wpAny_mono (hstep i av v o rws hav hInv Φi s₃ q₃ A _ ok) (fun f s₄ h₄ => ?_) fun _ _ e => e
    obtain ⟨Φ', v', o', fl, hle', q₄, hf, o'', rfl, hq⟩ := h₄
    cases fl with
    | next =>
      cases hf
      obtain ⟨a1, a2⟩ := fr Φ' v' o'' s₄ hle' q₄
      exact ⟨n - 1, by (first | lia | omega), i + 1, Φ', v', o'', by (first | lia | omega), by (first | lia | omega), q₄.drop, hle.trans hle', a1, a2, hq⟩
    | ret ra =>
      obtain ⟨rv, rfl, hrv⟩ := hf
      exact ⟨Φ', v', o'', .ret ra, hle0.trans (hle.trans hle'), q₄.drop, ⟨rv, rfl, hrv⟩, hq⟩
  · have hie : i = items.length := by (first | lia | omega)
    subst hie
    refine W.done s' _ _ hsti fun h' tk hk' => ?_
    exact wpAny_execs_nil ⟨Φi, v, o, .next, hle0.trans hle, qi.keepBut offi hk', rfl, hdone v o hInv⟩
end
end Kx
end

section -- J9
open PySem PySem.W PyProof.Rows
set_option Elab.async false
set_option maxRecDepth 100000
set_option linter.unusedVariables false
namespace Kx
section
variable {prog : Program} {w : World} {hB : Heap} {K : Frag} {D : Nat} {env : Env} {ns : List (Str × NameKind)} {vals vals' : List (Option AV)} {own own' : List (Addr × MO)} {ε : Ent} {s₀ s s' : Shared} {Φ : FH}

theorem callWith_typ {M : Model} {A : Around} {E : Value → Shared → Prop} {s : Shared} {pos : Pos} {T : String} {ts : List (Bool × Sem Value)} {Q : Value → Shared → Prop} (hp : ts.any (·.1) = false)
    (h : wpAny M A (spliced ts) (fun vs s₁ => wpAny M A (call (.type T) vs) Q E s₁) E s) : wpAny M A (callWith pos (.type T) [] ts []) Q E s :=
  PyProof.Rows.callWith_type hp (evalArgs_any hp (wpAny_mono h (fun vs s₁ h₁ => h₁) fun _ _ e => e))
theorem callWith_blt {M : Model} {A : Around} {E : Value → Shared → Prop} {s : Shared} {pos : Pos} {id : String} {first : List Value} {ts : List (Bool × Sem Value)} {Q : Value → Shared → Prop} (hp : ts.any (·.1) = false)
    (h : wpAny M A (spliced ts) (fun vs s₁ => wpAny M A (call (.builtin id) (first ++ vs)) Q E s₁) E s) : wpAny M A (callWith pos (.builtin id) first ts []) Q E s :=
  Calls.callWith_builtin hp (evalArgs_any hp (wpAny_mono h (fun vs s₁ h₁ => h₁) fun _ _ e => e))

noncomputable def TyG (prog : Program) (w : World) (T : String) (avs : List AV) (res : AV) : Prop := ∀ (Φ : FH) s vs A E, (∀ x o, Φ x = some o → s.heap.get? x = some o) → AOk 1 A → Rs Φ avs vs →
  wpAny (model prog w) A (call (.type T) vs) (fun v s' => Keeps s s' ∧ R (grow Φ s s') res v) E s
noncomputable def BlG (prog : Program) (w : World) (id : String) (avs : List AV) (res : AV) : Prop := ∀ (Φ : FH) s vs A E, (∀ x o, Φ x = some o → s.heap.get? x = some o) → AOk 1 A → Rs Φ avs vs →
  wpAny (model prog w) A (call (.builtin id) vs) (fun v s' => Keeps s s' ∧ R (grow Φ s s') res v) E s
theorem Ev.callTy {x : Str} {p pos : Pos} {es : List Expr} {T : String} {avs : List AV} {res : AV} (hf : Ev prog w hB (D + 1) env ns vals own (.Name x p) (.typ T)) (hes : EvL prog w hB (D + 1) env ns vals own es avs) (F : TyG prog w T avs res) :
    Ev prog w hB (D + 1) env ns vals own (.Call (.Name x p) es [] pos) res := fun Φ s q A E ok => by
  refine Call_Name_ (wpAny_mono (hf Φ s q A E ok) (fun v s₁ h₁ => ?_) fun _ _ e => e)
  obtain ⟨k₁, rfl⟩ := h₁
  have q₁ := q.step k₁
  refine callWith_typ (hes.1 pos) (wpAny_mono (hes.2 _ s₁ q₁ A E pos ok) (fun vs s₂ h₂ => ?_) fun _ _ e => e)
  have q₂ := q₁.step h₂.1
  exact wpAny_mono (F _ s₂ vs A E q₂.frz (ok.le (by (first | lia | omega))) h₂.2) (fun v s₃ h₃ => fin k₁ (fin h₂.1 h₃)) fun _ _ e => e
theorem Ev.callBl {x : Str} {p pos : Pos} {es : List Expr} {id : String} {avs : List AV} {res : AV} (hf : Ev prog w hB (D + 1) env ns vals own (.Name x p) (.blt id)) (hes : EvL prog w hB (D + 1) env ns vals own es avs) (F : BlG prog w id avs res) :
    Ev prog w hB (D + 1) env ns vals own (.Call (.Name x p) es [] pos) res := fun Φ s q A E ok => by
  refine Call_Name_ (wpAny_mono (hf Φ s q A E ok) (fun v s₁ h₁ => ?_) fun _ _ e => e)
  obtain ⟨k₁, rfl⟩ := h₁
  have q₁ := q.step k₁
  refine callWith_blt (hes.1 pos) (wpAny_mono (hes.2 _ s₁ q₁ A E pos ok) (fun vs s₂ h₂ => ?_) fun _ _ e => e)
  have q₂ := q₁.step h₂.1
  exact wpAny_mono (F _ s₂ vs A E q₂.frz (ok.le (by (first | lia | omega))) h₂.2) (fun v s₃ h₃ => fin k₁ (fin h₂.1 h₃)) fun _ _ e => e

theorem Rs.one {Φ : FH} {a : AV} {vs : List Value} (h : Rs Φ [a] vs) : ∃ v, vs = [v] ∧ R Φ a v := by
  match vs, h with
  | [v], h => exact ⟨v, rfl, h.1⟩
theorem Rs.two {Φ : FH} {a b : AV} {vs : List Value} (h : Rs Φ [a, b] vs) : ∃ u v, vs = [u, v] ∧ R Φ a u ∧ R Φ b v := by
  match vs, h with
  | [u, v], h => exact ⟨u, v, rfl, h.1, h.2.1⟩
theorem Rs.three {Φ : FH} {a b c : AV} {vs : List Value} (h : Rs Φ [a, b, c] vs) : ∃ u v w, vs = [u, v, w] ∧ R Φ a u ∧ R Φ b v ∧ R Φ c w := by
  match vs, h with
  | [u, v, w], h => exact ⟨u, v, w, rfl, h.1, h.2.1, h.2.2.1⟩

theorem ty_range1 {n : Int} : TyG prog w "range" [.int n] (.rng 0 n 1) := fun Φ s vs A E hf ok hr => by
  obtain ⟨v, rfl, t, rfl⟩ := hr.one
  exact call_range_1 ⟨Keeps.push _ _, _, _, _, _, rfl, grow_new rfl⟩
theorem ty_range3 {a b c : Int} (hc : c ≠ 0) (hl : c.natAbs.log2 < 9000) : TyG prog w "range" [.int a, .int b, .int c] (.rng a b c) := fun Φ s vs A E hf ok hr => by
  obtain ⟨u, v, x, rfl, ⟨t, rfl⟩, ⟨t', rfl⟩, t'', rfl⟩ := hr.three
  exact call_range_3 hc ⟨Keeps.push _ _, _, _, _, _, rfl, grow_new rfl⟩ (.inl (PyProof.noPylong_of_log2 hl))

theorem EvIt.list {e : Expr} {xs : List AV} (h : Ev prog w hB D env ns vals own e (.lst xs)) : EvIt prog w hB D env ns vals own e xs := fun Φ s q A E ok => by
  refine wpAny_mono (h Φ s q A E ok) (fun v s₁ h₁ => ?_) fun _ _ e => e
  obtain ⟨k₁, a, vs, n, rfl, ha, hr⟩ := h₁
  have q₁ := q.step k₁
  have hl := isList_of (q₁.frz _ _ ha)
  have hlt : a < s₁.heap.objs.size := Heap.lt_size (q₁.frz _ _ ha)
  have W := Walks.list (prog := prog) (w := w) ok.handled s₁.heap.objs.size a (Nat.ne_of_lt hlt) vs.toArray
  rw [show vs.toArray.size = xs.length by rw [List.size_toArray, hr.length]] at W
  refine wpAny_pyIter_list hl ⟨Keeps.tr k₁ (Keeps.push _ _), s₁.heap.objs.size, _, _, _, _, rfl, W, ⟨⟨_, Heap.get?_push_size _ rfl, rfl, rfl⟩, hl.push _⟩, by simp, fun b hb => ?_, fun i h st b hb => ?_, fun b hb => ?_, fun i v hin hi => ?_⟩
  · have : b = s₁.heap.objs.size := by simpa using hb
    subst this
    cases e : s.heap.get? s₁.heap.objs.size with
    | none => rfl
    | some o => have := Keeps.keep k₁ _ _ e; rw [get_size] at this; cases this
  · have : b = s₁.heap.objs.size := by simpa using hb
    subst this
    obtain ⟨o, ho, _⟩ := st.1; exact ⟨o, ho⟩
  · rcases List.mem_cons.mp hb with rfl | hb
    · exact .inl (by simp)
    · have : b = a := by simpa using hb
      subst this
      exact .inr ⟨_, grow_le2 (fun _ _ e => Heap.get?_push_of_some _ e) _ _ ha⟩
  · have hi' : vs[i]? = some v := by simpa using hi
    have hlt' : i < xs.length := by
      rcases Nat.lt_or_ge i xs.length with h | h
      · exact h
      · rw [List.getElem?_eq_none (by rw [hr.length]; exact h)] at hi'; cases hi'
    obtain ⟨v', hv', hR⟩ := hr.get i xs[i] (List.getElem?_eq_getElem hlt')
    rw [hi'] at hv'; cases hv'
    refine ⟨xs[i], List.getElem?_eq_getElem hlt', hR.mono fun b o e => ?_⟩
    unfold less
    rw [if_neg (fun hb => by
      have : b = s₁.heap.objs.size := by simpa using hb
      subst this
      have := q₁.frz _ _ e; rw [get_size] at this; cases this)]
    exact grow_le2 (fun _ _ e => Heap.get?_push_of_some _ e) _ _ e

theorem EvIt.rng {e : Expr} {a b c : Int} {n : Nat} (h : Ev prog w hB D env ns vals own e (.rng a b c)) (hs : Builtin.Range.small a b c = true) (hn : Builtin.Range.rangeSize a b c = n) :
    EvIt prog w hB D env ns vals own e ((List.range n).map fun i : Nat => AV.int (a + (i : Int) * c)) := fun Φ s q A E ok => by
  refine wpAny_mono (h Φ s q A E ok) (fun v s₁ h₁ => ?_) fun _ _ e => e
  obtain ⟨k₁, x, t, u, r, rfl, hx⟩ := h₁
  have q₁ := q.step k₁
  refine wpAny_pyIter_range (q₁.frz _ _ hx) hs ⟨Keeps.tr k₁ (Keeps.push _ _), s₁.heap.objs.size, _, _, _, _, rfl, by rw [List.length_map, List.length_range]; exact Walks.range ok.handled s₁.heap.objs.size a c n, ?_, by simp, fun b hb => ?_, fun i h st b hb => ?_, fun b hb => .inl hb, fun i v hin hi => ?_⟩
  · rw [hn]
    show IsRangeIter _ _ (a + ((0 : Nat) : Int) * c) ((n : Int) - ((0 : Nat) : Int)) c
    rw [show a + ((0 : Nat) : Int) * c = a by simp, show (n : Int) - ((0 : Nat) : Int) = n by simp]
    exact Heap.get?_push_size _ rfl
  · have : b = s₁.heap.objs.size := by simpa using hb
    subst this
    cases e : s.heap.get? s₁.heap.objs.size with
    | none => rfl
    | some o => have := Keeps.keep k₁ _ _ e; rw [get_size] at this; cases this
  · have : b = s₁.heap.objs.size := by simpa using hb
    subst this; exact ⟨_, st⟩
  · obtain ⟨tk, rfl⟩ := hi
    rw [List.length_map, List.length_range] at hin
    refine ⟨AV.int (a + (i : Int) * c), ?_, tk, rfl⟩
    rw [List.getElem?_map, List.getElem?_range hin]; rfl
theorem EvIt.eq {e : Expr} {xs ys : List AV} (h : EvIt prog w hB D env ns vals own e xs) (he : xs = ys) : EvIt prog w hB D env ns vals own e ys := he ▸ h
theorem small_nat {a b c : Nat} (ha : a < 2 ^ 60) (hb : b < 2 ^ 60) (hc : 0 < c) (hc' : c < 2 ^ 60) : Builtin.Range.small a b c = true ∧ Builtin.Range.rangeSize a b c = (((b - a + c - 1) / c : Nat) : Int) := by
  have e : Builtin.Range.rangeSize a b c = (((b - a + c - 1) / c : Nat) : Int) := by
    unfold Builtin.Range.rangeSize
    rw [if_pos (by (first | lia | omega))]
    split
    · rename_i h
      have h1 : b - a + c - 1 = (b - a - 1) + c := by (first | lia | omega)
      rw [h1, Nat.add_div_right _ hc]
      have h2 : (b : Int) - a - 1 = ((b - a - 1 : Nat) : Int) := by (first | lia | omega)
      rw [h2]; simp
    · rename_i h
      have h1 : b - a + c - 1 = c - 1 := by (first | lia | omega)
      rw [h1, Nat.div_eq_of_lt (by (first | lia | omega))]; rfl
  refine ⟨?_, e⟩
  have hle : (b - a + c - 1) / c ≤ b - a + c - 1 := Nat.div_le_self _ _
  unfold Builtin.Range.small
  rw [e]
  generalize (b - a + c - 1) / c = q at hle
  simp only [Builtin.Range.rangeFitsLong, Bool.and_eq_true, Bool.or_eq_true, decide_eq_true_eq]
  refine ⟨⟨⟨⟨⟨by (first | lia | omega), by (first | lia | omega)⟩, by (first | lia | omega), by (first | lia | omega)⟩, by (first | lia | omega), by (first | lia | omega)⟩, by (first | lia | omega), by (first | lia | omega)⟩, .inr ?_⟩
  rw [if_pos (by (first | lia | omega))]
  simp only [Bool.and_eq_true, decide_eq_true_eq]
  exact ⟨by (first | lia | omega), by (first | lia | omega)⟩
theorem EvIt.rngN {e : Expr} {a b c : Nat} (h : Ev prog w hB D env ns vals own e (.rng a b c)) (ha : a < 2 ^ 60) (hb : b < 2 ^ 60) (hc : 0 < c) (hc' : c < 2 ^ 60) :
    EvIt prog w hB D env ns vals own e ((List.range ((b - a + c - 1) / c)).map fun i : Nat => AV.int ((a + i * c : Nat) : Int)) :=
  (EvIt.rng h (small_nat ha hb hc hc').1 (small_nat ha hb hc hc').2).eq (List.map_congr_left fun i _ => by rw [Int.natCast_add, Int.natCast_mul])
theorem EvIt.rng0 {e : Expr} {n : Nat} (h : Ev prog w hB D env ns vals own e (.rng 0 n 1)) (hn : n < 2 ^ 60) :
    EvIt prog w hB D env ns vals own e ((List.range n).map fun i : Nat => AV.int (i : Int)) :=
  (EvIt.rngN (a := 0) (c := 1) h (by decide) hn (by decide) (by decide)).eq (by simp)
end
end Kx
end

section -- J10
open PySem PySem.W PyProof.Rows
set_option Elab.async false
set_option maxRecDepth 100000
set_option linter.unusedVariables false
namespace Kx
section
variable {prog : Program} {w : World} {hB : Heap} {K : Frag} {D : Nat} {env : Env} {ns ns' : List (Str × NameKind)} {vals vals' : List (Option AV)} {own own' : List (Addr × MO)} {ε : Ent} {s₀ s s' : Shared} {Φ : FH}

noncomputable def closL (cells : List (Str × Addr)) : List (Str × NameKind) → List (Str × Addr) → List (Str × Addr)
  | [], acc => acc
  | (n, k) :: r, acc => if k == .free then closL cells r ((n, ((cells.lookup n).getD 0)) :: acc) else closL cells r acc
theorem closL_app (cells : List (Str × Addr)) : ∀ (names : List (Str × NameKind)) (acc : List (Str × Addr)), closL cells names acc = closL cells names [] ++ acc
  | [], _ => rfl
  | (n, k) :: r, acc => by
    unfold closL
    split
    · rw [closL_app cells r ((n, _) :: acc), closL_app cells r [(n, _)]]; simp
    · exact closL_app cells r acc
theorem closureFor_eq {scope : Scope} {env : Env} (h : ∀ y, (y, NameKind.free) ∈ scope.names → (env.cells.lookup y).isSome = true) : closureFor scope env = pure (closL env.cells scope.names []) := by
  have key : ∀ (names : List (Str × NameKind)) (acc : List (Str × Addr)), (∀ y, (y, NameKind.free) ∈ names → (env.cells.lookup y).isSome = true) →
      (forIn names acc fun (x : Str × NameKind) (cs : List (Str × Addr)) => match x with
        | (name, kind) => if (kind == NameKind.free) = true then (do let a ← cellOf env name; pure (ForInStep.yield ((name, a) :: cs))) else pure (ForInStep.yield cs) : Sem (List (Str × Addr))) = pure (closL env.cells names acc) := by
    intro names
    induction names with
    | nil => intro acc _; rw [List.forIn_nil]; rfl
    | cons p r ih =>
      intro acc hh
      obtain ⟨n, k⟩ := p
      rw [List.forIn_cons]
      unfold closL
      by_cases hk : (k == NameKind.free) = true
      · obtain rfl := beq_iff_eq.mp hk
        obtain ⟨c, hc⟩ := Option.isSome_iff_exists.mp (hh n (.head _))
        have hc' : cellOf env n = pure c := by unfold cellOf; rw [hc]
        simp only [beq_self_eq_true, if_true, hc', pure_bind, hc, Option.getD_some]
        exact ih _ fun y hy => hh y (.tail _ hy)
      · simp only [hk, if_false, Bool.false_eq_true, pure_bind]
        exact ih _ fun y hy => hh y (.tail _ hy)
  have := key scope.names [] h
  unfold closureFor
  exact congrArg (fun m : Sem (List (Str × Addr)) => m >>= fun cs => pure cs) this

theorem lookup_append' {α β : Type} [BEq α] (a b : List (α × β)) (x : α) : (a ++ b).lookup x = (a.lookup x).or (b.lookup x) := List.lookup_append
theorem closL_lookup {cells : List (Str × Addr)} : ∀ {names : List (Str × NameKind)} {y : Str} {c : Addr}, (names.map (·.1)).Nodup → (y, NameKind.free) ∈ names → cells.lookup y = some c → (closL cells names []).lookup y = some c
  | (n, k) :: r, y, c, nd, hm, hc => by
    rw [List.map_cons, List.nodup_cons] at nd
    unfold closL
    rcases List.mem_cons.mp hm with e | hm'
    · cases e
      simp only [beq_self_eq_true, if_true, hc, Option.getD_some]
      rw [closL_app, lookup_append', out nd.1]; simp
    · split
      · rw [closL_app, lookup_append', closL_lookup nd.2 hm' hc]; rfl
      · exact closL_lookup nd.2 hm' hc
where
  out {cells : List (Str × Addr)} {y : Str} : ∀ {names : List (Str × NameKind)}, y ∉ names.map (·.1) → (closL cells names []).lookup y = none
    | [], _ => rfl
    | (n, k) :: r, h => by
      rw [List.map_cons, List.mem_cons, not_or] at h
      unfold closL
      split
      · rw [closL_app, lookup_append', out h.2]
        simp [List.lookup_cons, beq_eq_false_iff_ne.mpr h.1]
      · exact out h.2
theorem cellsFrom_app : ∀ (names : List (Str × NameKind)) (n : Nat) (acc : List (Str × Addr)), cellsFrom n names acc = cellsFrom n names [] ++ acc
  | [], _, _ => rfl
  | (y, k) :: r, n, acc => by
    unfold cellsFrom
    split
    · rw [cellsFrom_app r (n + 1) ((y, n) :: acc), cellsFrom_app r (n + 1) [(y, n)]]; simp
    · exact cellsFrom_app r n acc
theorem cellsFrom_out {y : Str} : ∀ {names : List (Str × NameKind)} {n : Nat}, (y, NameKind.cell) ∉ names → (cellsFrom n names []).lookup y = none
  | [], _, _ => rfl
  | (z, k) :: r, n, h => by
    rw [List.mem_cons, not_or] at h
    unfold cellsFrom
    split
    · rename_i hk
      obtain rfl := beq_iff_eq.mp hk
      rw [cellsFrom_app, lookup_append', cellsFrom_out h.2]
      have : (y == z) = false := beq_eq_false_iff_ne.mpr (by rintro rfl; exact h.1 rfl)
      simp [List.lookup_cons, this]
    · exact cellsFrom_out h.2
theorem cellsFrom_in {y : Str} : ∀ {names : List (Str × NameKind)} {n : Nat}, (y, NameKind.cell) ∈ names → ∃ c, (cellsFrom n names []).lookup y = some c
  | (z, k) :: r, n, h => by
    unfold cellsFrom
    split
    · rename_i hk
      rw [cellsFrom_app, lookup_append']
      by_cases hr : (y, NameKind.cell) ∈ r
      · obtain ⟨c, hc⟩ := cellsFrom_in (n := n + 1) hr
        exact ⟨c, by rw [hc]; rfl⟩
      · rcases List.mem_cons.mp h with e | h'
        · cases e; exact ⟨n, by rw [cellsFrom_out hr]; simp⟩
        · exact absurd h' hr
    · rename_i hk
      rcases List.mem_cons.mp h with e | h'
      · cases e; simp at hk
      · exact cellsFrom_in h'

noncomputable def blockEnv (scope : Scope) (C : Addr) (env : Env) : Env :=
  { scope := relabel scope env, locals := C, globals := env.globals, cells := cellsFrom (C + 1) scope.names (closL env.cells scope.names []), qual := env.qual, func := Option.none, code := env.code, frame := env.frame, builtins := env.builtins }

theorem newBlockEnv {M : Model} {A : Around} {E : Value → Shared → Prop} {s : Shared} {scope : Scope} {cl : List (Str × Addr)} {Q : Env → Shared → Prop}
    (h : ∀ cenv, { cenv with scope := relabel scope env } = ({ scope := relabel scope env, locals := s.heap.objs.size, globals := env.globals, cells := cellsFrom (s.heap.objs.size + 1) scope.names cl, qual := env.qual, func := Option.none, code := env.code, frame := env.frame, builtins := env.builtins } : Env) →
      cenv.locals = s.heap.objs.size → Q cenv { s with heap := pushCells (s.heap.push { cls := .type "dict", data := .dict #[] }) scope.names }) :
    wpAny M A (newFunctionEnv scope env.globals cl [] env.qual Option.none .none (some env)) Q E s := by
  simp only [newFunctionEnv, Option.isSome_some, if_true]
  refine wpAny_bind (wpAny_alloc ?_)
  refine wpAny_bind (wpAny_layCells _ (fun name kind cells => by cases hkc : kind == NameKind.cell <;> simp [hkc]) _ _ _ _ ?_)
  refine wpAny_bind (m := forIn [] _ _) ?_
  rw [List.forIn_nil]
  refine wpAny_pure (wpAny_pure (h _ ?_ rfl))
  rw [show ({ s with heap := s.heap.push { cls := .type "dict", data := .dict #[] } } : Shared).heap.objs.size = s.heap.objs.size + 1 from Heap.size_push ..]

inductive Cap (ns : List (Str × NameKind)) (vals : List (Option AV)) : List (Str × NameKind) → List (Str × NameKind) → List (Option AV) → Prop where
  | nil : Cap ns vals [] [] []
  | glob {y : Str} {r r' : List (Str × NameKind)} {cv : List (Option AV)} (h : Cap ns vals r r' cv) : Cap ns vals ((y, .globalImplicit) :: r) ((y, .globalImplicit) :: r') (Option.none :: cv)
  | loc {y : Str} {r r' : List (Str × NameKind)} {cv : List (Option AV)} (h : Cap ns vals r r' cv) : Cap ns vals ((y, .local) :: r) ((y, .local) :: r') (Option.none :: cv)
  | cell {y : Str} {r r' : List (Str × NameKind)} {cv : List (Option AV)} (h : Cap ns vals r r' cv) : Cap ns vals ((y, .cell) :: r) ((y, .cell) :: r') (Option.none :: cv)
  | free {y : Str} {r r' : List (Str × NameKind)} {cv : List (Option AV)} {j : Nat} {av : AV} (hj : At ns j (y, .cell)) (hv : At vals j (some av)) (h : Cap ns vals r r' cv) : Cap ns vals ((y, .free) :: r) ((y, .cell) :: r') (some av :: cv)

theorem Cap.names {r r' : List (Str × NameKind)} {cv : List (Option AV)} (h : Cap ns vals r r' cv) : r'.map (·.1) = r.map (·.1) := by
  induction h with
  | nil => rfl
  | _ => simp_all
theorem Cap.relabel {r r' : List (Str × NameKind)} {cv : List (Option AV)} (h : Cap ns vals r r' cv) (ok : EnvOk env ns) : (r.map fun (n, k) => if (k == NameKind.free && env.scope.kind == .function && env.kindOf n == some .cell) then (n, NameKind.cell) else (n, k)) = r' := by
  induction h with
  | nil => rfl
  | free hj hv h ih =>
    rw [List.map_cons, ih]
    have := ok.kindOf hj.get
    simp [this, ok.kind]
  | _ h ih => rw [List.map_cons, ih]; rfl
theorem Cap.free' {r r' : List (Str × NameKind)} {cv : List (Option AV)} (h : Cap ns vals r r' cv) {y : Str} (hy : (y, NameKind.free) ∈ r) : ∃ j av, At ns j (y, .cell) ∧ At vals j (some av) := by
  induction h with
  | nil => cases hy
  | free hj hv h ih =>
    rcases List.mem_cons.mp hy with e | e
    · cases e; exact ⟨_, _, hj, hv⟩
    · exact ih e
  | _ h ih =>
    rcases List.mem_cons.mp hy with e | e
    · cases e
    · exact ih e
theorem Cap.get {r r' : List (Str × NameKind)} {cv : List (Option AV)} (h : Cap ns vals r r' cv) {i : Nat} {y : Str} {k : NameKind} {av : AV} (hy : r'[i]? = some (y, k)) (hv : cv[i]? = some (some av)) :
    k = .cell ∧ (y, NameKind.free) ∈ r ∧ ∃ j, At ns j (y, .cell) ∧ At vals j (some av) := by
  induction h generalizing i with
  | nil => cases hy
  | free hj hv' h ih =>
    cases i with
    | zero => cases hy; cases hv; exact ⟨rfl, .head _, _, hj, hv'⟩
    | succ i => obtain ⟨a, b, c⟩ := ih (by simpa using hy) (by simpa using hv); exact ⟨a, .tail _ b, c⟩
  | _ h ih =>
    cases i with
    | zero => simp at hv
    | succ i => obtain ⟨a, b, c⟩ := ih (by simpa using hy) (by simpa using hv); exact ⟨a, .tail _ b, c⟩
end
end Kx
end

section -- J11
open PySem PySem.W PyProof.Rows
set_option Elab.async false
set_option maxRecDepth 100000
set_option linter.unusedVariables false
namespace Kx
section
variable {prog : Program} {w : World} {hB : Heap} {K : Frag} {D : Nat} {env : Env} {ns ns' : List (Str × NameKind)} {vals vals' : List (Option AV)} {own own' : List (Addr × MO)} {ε : Ent} {s₀ s s' : Shared} {Φ : FH}

theorem names_once {scope : Scope} (h : (scope.names.map (·.1)).Nodup) : ∀ y ∈ scope.names, y.2 = NameKind.local → scope.names.lookup y.1 = some .local := fun y hy hl => by
  obtain ⟨i, hi⟩ := List.getElem?_of_mem hy
  obtain ⟨n, k⟩ := y
  obtain rfl : k = NameKind.local := hl
  exact lookup_of_nodup h hi

structure BRel (Φ₂ Ψ : FH) (s₂ : Shared) (C L : Addr) (cs : List (Str × Addr)) (wr : List Addr) (avs : List AV) (s' : Shared) : Prop where
  same : ∃ h tk, s' = { s₂ with heap := h, toks := tk }
  ns : ∃ m, s'.heap.Ns C m
  cell : ∀ y c, cs.lookup y = some c → ∃ v, s'.heap.IsCell c v
  list : ∃ ys n, s'.heap.get? L = some (listOf (List.toArray ys) n) ∧ Rs Ψ avs ys
  le : Le Φ₂ Ψ
  frz : ∀ b o, Ψ b = some o → s'.heap.get? b = some o
  nw : ∀ b o, Ψ b = some o → Φ₂ b = some o ∨ s₂.heap.get? b = none
  offL : Ψ L = none
  offC : Ψ C = none
  offc : ∀ y c, cs.lookup y = some c → Ψ c = none
  offw : ∀ b ∈ wr, Ψ b = none
  keep : ∀ b o, b ∉ wr → s₂.heap.get? b = some o → s'.heap.get? b = some o

theorem comp_gen {elt iter : Expr} {x : Str} {px pos cpos : Pos} {scope : Scope} {ix : Nat} {kx : NameKind} {items : List AV} {f : Nat → AV} {cv : List (Option AV)} {use : Option (Value → Sem Unit)} {Qf : Value → Shared → Prop} {A : Around} {E : Value → Shared → Prop}
    (hit : EvIt prog w hB D env ns vals own iter items) (hsz : items.length ≤ sizeLine) (hcap : Cap ns vals scope.names ns' cv) (hnd : (scope.names.map (·.1)).Nodup) (hkind : scope.kind = .function)
    (hx : At ns' ix (x, kx)) (hk : kx = .local ∨ (kx = .cell ∧ (x, NameKind.cell) ∈ scope.names)) (hlx : (x, NameKind.free) ∉ scope.names)
    (helt : ∀ i av C, items[i]? = some av → Ev prog w hB D (blockEnv scope C env) ns' (cv.set ix (some av)) own elt (f i)) (hs : ∀ x, foldedSetIterable iter env x = pure x) (q : RelR hB env ns Φ vals own s.heap) (ok : AOk D A)
    (hend : ∀ (Ψ : FH) (sf : Shared) (L C : Addr) (ys : List Value) (nn : Nat) (m : Str → Option Value) (fl : Flow), Keeps s sf → s.heap.get? L = none → s.heap.get? C = none → L ≠ C → sf.heap.get? L = some (listOf (List.toArray ys) nn) → sf.heap.Ns C m → Rs Ψ ((List.range items.length).map f) ys →
      Le Ψ (grow Φ s sf) → Ψ L = none → Ψ C = none → compPost (model prog w) A E use Qf (.ref L) C (.ok fl) sf) :
    wpAny (model prog w) A (comprehension (.ListComp elt [⟨.Name x px, iter, [], 0⟩] scope pos) scope env cpos (newList []) false (eval iter env) use) Qf E s := by
  have hfree : ∀ y, (y, NameKind.free) ∈ scope.names → ∃ c, env.cells.lookup y = some c := fun y hy => by
    obtain ⟨j, av, hj, hv⟩ := hcap.free' hy
    obtain ⟨v, ⟨c, hc, _⟩, _⟩ := q.vars j y _ av hj.get hv.get
    exact ⟨c, hc⟩
  refine wpAny_comprehension_free (use := use) rfl hs (closureFor_eq fun y hy => by obtain ⟨c, hc⟩ := hfree y hy; rw [hc]; rfl) hkind (names_once hnd)
    (wpAny_mono (hit Φ s q A E ok) (fun xv s₁ h₁ => wpAny_mono h₁ (fun it s₂ h₂ => ?_) fun _ _ e => e) fun _ _ e => e)
  obtain ⟨k₂, I, fp, wr, P, St, rfl, W, hst, hwnd, hwr, hpres, hfp, hP⟩ := h₂
  -- the list, the frame, the cells
  refine wpAny_newObj_type ?_ (by show (#[] : Array Value).size ≤ sizeLine; decide)
  refine newBlockEnv fun cenv he hC => ?_
  have hb : ({ cenv with scope := relabel scope env } : Env) = blockEnv scope (s₂.heap.push { cls := .type "list", data := .seq ([] : List Value).toArray }).objs.size env := he
  rw [hb, hC]
  clear hb he hC cenv
  dsimp only
  generalize hH3 : s₂.heap.push { cls := .type "list", data := .seq ([] : List Value).toArray } = H3
  have hC3 : H3.objs.size = s₂.heap.objs.size + 1 := by rw [← hH3, Heap.size_push]
  generalize hCC : H3.objs.size = C at hC3
  have hfresh : ∀ a, s₂.heap.objs.size ≤ a → s₂.heap.get? a = none := fun a ha => by
    cases e : s₂.heap.get? a with
    | none => rfl
    | some o => exact absurd (Heap.lt_size e) (Nat.not_lt.mpr ha)
  have hLn : s₂.heap.get? s₂.heap.objs.size = none := hfresh _ (Nat.le_refl _)
  have hCn : s₂.heap.get? C = none := hfresh _ (by rw [hC3]; exact Nat.le_succ _)
  have hLC : s₂.heap.objs.size ≠ C := by rw [hC3]; exact Nat.ne_of_lt (Nat.lt_succ_self _)
  generalize hL : s₂.heap.objs.size = L at hLn hLC hC3
  have cok := cellsFrom_ok scope.names (H3.push { cls := .type "dict", data := .dict #[] }) (C + 1) [] ⟨fun _ _ hm => (nomatch hm), List.Pairwise.nil⟩ (by rw [Heap.size_push, hCC]; exact Nat.le_refl _)
  rw [Heap.size_push, hCC] at cok
  generalize hcs : cellsFrom (C + 1) scope.names [] = cs at cok
  have csn : ∀ y c, cs.lookup y = some c → s₂.heap.get? c = none ∧ c ≠ L ∧ c ≠ C := fun y c hc => by
    have h1 := (cok.empty y c (mem_of_lookup hc)).2
    refine ⟨hfresh c ?_, ?_, ?_⟩
    · rw [hL]; exact Nat.le_trans (by rw [hC3]; exact Nat.le_succ_of_le (Nat.le_succ _)) h1
    · exact Nat.ne_of_gt (Nat.lt_of_lt_of_le (by rw [hC3]; exact Nat.lt_succ_of_lt (Nat.lt_succ_self _)) h1)
    · exact Nat.ne_of_gt (Nat.lt_of_lt_of_le (Nat.lt_succ_self _) h1)
  have keep4 : ∀ b o, s₂.heap.get? b = some o → (pushCells (H3.push { cls := .type "dict", data := .dict #[] }) scope.names).get? b = some o := fun b o e => by
    refine pushCells_keeps _ _ b o (Heap.get?_push_of_some _ ?_)
    rw [← hH3]; exact Heap.get?_push_of_some _ e
  have hL4 : (pushCells (H3.push { cls := .type "dict", data := .dict #[] }) scope.names).get? L = some (listOf #[] 0) := by
    refine pushCells_keeps _ _ _ _ (Heap.get?_push_of_some _ ?_)
    rw [← hH3, ← hL]; exact Heap.get?_push_size _ rfl
  have hC4 : (pushCells (H3.push { cls := .type "dict", data := .dict #[] }) scope.names).Ns C fun _ => none := by
    rw [← hCC]; exact (Heap.Ns.new H3 (.type "dict")).keeps (pushCells_keeps _ _)
  generalize hH4 : pushCells (H3.push { cls := .type "dict", data := .dict #[] }) scope.names = H4 at keep4 hL4 hC4 cok
  -- what stands
  have q₂ := q.step k₂
  have hwp : ∀ b ∈ wr, ∃ o, s₂.heap.get? b = some o := hpres 0 _ hst
  have wn : ∀ b, s₂.heap.get? b = none → b ∉ wr := fun b hn hm => by obtain ⟨o, e⟩ := hwp b hm; rw [hn] at e; cases e
  have wo : ∀ b o, s.heap.get? b = some o → b ∉ wr := fun b o e hm => by rw [hwr b hm] at e; cases e
  have fpp : ∀ b ∈ fp, ∃ o, s₂.heap.get? b = some o := fun b hb => by
    rcases hfp b hb with h | ⟨o, h⟩
    · exact hwp b h
    · exact ⟨o, q₂.frz b o h⟩
  have hΦ : Le Φ (less (grow Φ s s₂) wr) := fun b o e => by
    unfold less
    rw [if_neg (wo b o (q.frz b o e))]
    exact grow_le q.frz b o e
  have h2frz : ∀ b o, less (grow Φ s s₂) wr b = some o → s₂.heap.get? b = some o := fun b o e => q₂.frz b o (less_le b o e)
  have hoff : ∀ b ∈ wr, less (grow Φ s s₂) wr b = none := fun b hb => by unfold less; rw [if_pos hb]
  have hin : ∀ b o, less (grow Φ s s₂) wr b = some o → ∀ o', s.heap.get? b = some o' → Φ b = some o := fun b o e o' e' => by
    have := less_le b o e
    unfold grow at this
    rw [if_pos (by rw [e']; rfl)] at this; exact this
  generalize hΦ2 : less (grow Φ s s₂) wr = Φ₂ at hP hΦ h2frz hoff hin
  have none_of : ∀ b, s₂.heap.get? b = none → Φ₂ b = none := fun b hn => by
    cases e : Φ₂ b with
    | none => rfl
    | some o => have := h2frz b o e; rw [hn] at this; cases this
  have hcells : ∀ y, (blockEnv scope C env).cells.lookup y = (cs.lookup y).or ((closL env.cells scope.names []).lookup y) := fun y => by
    show (cellsFrom (C + 1) scope.names (closL env.cells scope.names [])).lookup y = _
    rw [cellsFrom_app, lookup_append', hcs]
  have bok : EnvOk (blockEnv scope C env) ns' := ⟨hcap.relabel q.ok, by rw [hcap.names]; exact hnd, hkind, q.ok.globals, q.ok.builtins⟩
  have hkx := bok.kindOf hx.get
  -- a turn's store
  have store : ∀ (i : Nat) (Ψ : FH) (avs : List AV) (s₁' : Shared) (v : Value) (Q : Unit → Shared → Prop) (E : Value → Shared → Prop), BRel Φ₂ Ψ s₂ C L cs wr avs s₁' → St i s₁'.heap →
      (∀ s₂', BRel Φ₂ Ψ s₂ C L cs wr avs s₂' → St i s₂'.heap → Slot (blockEnv scope C env) s₂'.heap x kx v → Q () s₂') → wpAny (model prog w) A (storeName (blockEnv scope C env) x v) Q E s₁' := by
    intro i Ψ avs s₁' v Q E B hsti hQ
    rcases hk with rfl | ⟨rfl, hxc⟩
    · obtain ⟨m, hm⟩ := B.ns
      refine wpAny_storeName_local (env := blockEnv scope C env) hkx hm (fun h' hn' hs' => hQ _ ?_ ?_ ⟨_, hn', by simp⟩) (by show (scope.kind == .class || (scope.kind == .module && _)) = false; rw [hkind]; rfl)
      · have up : ∀ b ob, b ≠ C → s₁'.heap.get? b = some ob → h'.get? b = some ob := fun b ob hne e => hs'.extBut b ob hne e
        obtain ⟨ys, n, hy, hr⟩ := B.list
        exact ⟨by obtain ⟨h, tk, rfl⟩ := B.same; exact ⟨_, _, rfl⟩, ⟨_, hn'⟩, fun y c hc => by obtain ⟨u, hu⟩ := B.cell y c hc; exact ⟨u, hu.sameBut hs' (csn y c hc).2.2⟩,
          ⟨ys, n, up _ _ hLC hy, hr⟩, B.le, fun b o e => up b o (by rintro rfl; rw [B.offC] at e; cases e) (B.frz b o e), B.nw, B.offL, B.offC, B.offc, B.offw, fun b o hb e => up b o (by rintro rfl; rw [hCn] at e; cases e) (B.keep b o hb e)⟩
      · refine W.frame _ _ _ hsti fun b hb o e => hs'.extBut b o ?_ e
        intro hbC
        obtain ⟨o, e⟩ := fpp _ hb
        have hbC' : b = C := hbC
        have e' : s₂.heap.get? C = some o := by rw [← hbC']; exact e
        rw [hCn] at e'; cases e'
    · obtain ⟨cx, hcx⟩ := cellsFrom_in (n := C + 1) hxc
      rw [hcs] at hcx
      obtain ⟨u, hu⟩ := B.cell x cx hcx
      have hl : (blockEnv scope C env).cells.lookup x = some cx := by rw [hcells, hcx]; rfl
      obtain ⟨c1, c2, c3⟩ := csn x cx hcx
      refine wpAny_storeName_cell (env := blockEnv scope C env) bok.kind hkx hl hu fun h' hc' hs' => hQ _ ?_ ?_ ⟨cx, hl, hc'⟩
      · have up : ∀ b ob, b ≠ cx → s₁'.heap.get? b = some ob → h'.get? b = some ob := fun b ob hne e => hs'.extBut b ob hne e
        obtain ⟨ys, n, hy, hr⟩ := B.list
        obtain ⟨m, hm⟩ := B.ns
        refine ⟨by obtain ⟨h, tk, rfl⟩ := B.same; exact ⟨_, _, rfl⟩, ⟨m, hm.sameBut hs' (Ne.symm c3)⟩, fun y c hc => ?_,
          ⟨ys, n, up _ _ (Ne.symm c2) hy, hr⟩, B.le, fun b o e => up b o (by rintro rfl; rw [B.offc x b hcx] at e; cases e) (B.frz b o e), B.nw, B.offL, B.offC, B.offc, B.offw, fun b o hb e => up b o (by rintro rfl; rw [c1] at e; cases e) (B.keep b o hb e)⟩
        by_cases hcc : c = cx
        · subst hcc; exact ⟨_, hc'⟩
        · obtain ⟨u', hu'⟩ := B.cell y c hc; exact ⟨u', hu'.sameBut hs' hcc⟩
      · refine W.frame _ _ _ hsti fun b hb o e => hs'.extBut b o ?_ e
        rintro rfl
        obtain ⟨o, e⟩ := fpp _ hb
        rw [c1] at e; cases e
  have loop : ∀ S4 : Shared, S4 = { s₂ with heap := H4 } → codeAny (model prog w) A (.compLoop (.ListComp elt [⟨.Name x px, iter, [], 0⟩] scope pos) 0 (.ref I) (.ref L) (blockEnv scope C env))
      (compPost (model prog w) A E use Qf (.ref L) C) S4 := by
    rintro S4 rfl
    refine codeAny_compLoop_tests (fun n s' => ∃ i Ψ, n + i = items.length + 1 ∧ i ≤ items.length ∧ St i s'.heap ∧ BRel Φ₂ Ψ s₂ C L cs wr ((List.range i).map f) s') ?_ (items.length + 1)
      ⟨0, Φ₂, by (first | lia | omega), Nat.zero_le _, W.frame _ _ _ hst fun b _ o e => keep4 b o e, ⟨⟨_, _, rfl⟩, ⟨_, hC4⟩, fun y c hc => ⟨_, (cok.empty y c (mem_of_lookup hc)).1⟩, ⟨[], 0, hL4, trivial⟩, Le.refl _, fun b o e => keep4 b o (h2frz b o e), fun b o e => .inl e, none_of _ hLn, none_of _ hCn, fun y c hc => none_of _ (csn y c hc).1, hoff, fun b o _ e => keep4 b o e⟩⟩
    rintro n s' ⟨i, Ψ, hn, hi, hsti, B⟩
    by_cases hlt : i < items.length
    · refine W.item i s' _ _ hlt hsti fun v h₁ tk₁ hPv hst₁ hk₁ => ?_
      obtain ⟨av, hav, hR⟩ := hP i v hlt hPv
      have B₁ : BRel Φ₂ Ψ s₂ C L cs wr ((List.range i).map f) { s' with heap := h₁, toks := tk₁ } := by
        obtain ⟨m, hm⟩ := B.ns
        obtain ⟨ys, nn, hy, hr⟩ := B.list
        exact ⟨by obtain ⟨h, tk, rfl⟩ := B.same; exact ⟨_, _, rfl⟩, ⟨m, hm.at' fun o e => hk₁ _ o (wn C hCn) e⟩, fun y c hc => by obtain ⟨u, o, ho, hd⟩ := B.cell y c hc; exact ⟨u, o, hk₁ c o (wn c (csn y c hc).1) ho, hd⟩,
          ⟨ys, nn, hk₁ L _ (wn L hLn) hy, hr⟩, B.le, fun b o e => hk₁ b o (fun hb => by rw [B.offw b hb] at e; cases e) (B.frz b o e), B.nw, B.offL, B.offC, B.offc, B.offw, fun b o hb e => hk₁ b o hb (B.keep b o hb e)⟩
      refine wpAny_assign_Name (store (i + 1) Ψ _ _ v _ _ B₁ hst₁ fun s₂' B₂ hst₂ slot => ?_)
      rw [List.forIn_nil]
      refine wpAny_pure ?_
      rw [if_pos rfl]
      have qr : RelR hB (blockEnv scope C env) ns' Ψ (cv.set ix (some av)) own s₂'.heap := by
        refine ⟨bok, fun a o e => B₂.le _ _ (hΦ _ _ (q.base a o e)), B₂.frz, fun j y k av' e f' => ?_, fun a mo hm => ?_⟩
        · by_cases hj : j = ix
          · subst hj
            rw [hx.get] at e; cases e
            rw [List.getElem?_set] at f'
            split at f'
            · split at f'
              · cases f'; exact ⟨v, slot, hR.mono B₂.le⟩
              · cases f'
            · rename_i hne; exact absurd rfl hne
          · rw [List.getElem?_set_ne (Ne.symm hj)] at f'
            obtain ⟨rfl, hyf, j', hj', hv'⟩ := hcap.get e f'
            obtain ⟨u, ⟨c, hc, o, ho, hd⟩, hRu⟩ := q.vars j' y _ av' hj'.get hv'.get
            have hyc : (y, NameKind.cell) ∉ scope.names := fun h => by
              obtain ⟨a1, e1⟩ := List.getElem?_of_mem hyf
              obtain ⟨a2, e2⟩ := List.getElem?_of_mem h
              have l1 := lookup_of_nodup hnd e1
              have l2 := lookup_of_nodup hnd e2
              rw [l1] at l2; cases l2
            refine ⟨u, ⟨c, ?_, o, B₂.keep c o (wo c o ho) (Keeps.keep k₂ c o ho), hd⟩, (hRu.mono hΦ).mono B₂.le⟩
            rw [hcells, ← hcs, cellsFrom_out hyc]
            exact closL_lookup hnd hyf hc
        · obtain ⟨o, ho, hm'⟩ := q.own a mo hm
          exact ⟨o, B₂.keep a o (wo a o ho) (Keeps.keep k₂ a o ho), (hm'.mono hΦ).mono B₂.le⟩
      refine wpAny_mono (helt i av C hav Ψ s₂' qr A _ ok) (fun y s₃ h₃ => ?_) fun _ _ e => e
      obtain ⟨k₃, hRy⟩ := h₃
      obtain ⟨ys, nn, hy, hr⟩ := B₂.list
      have hlen : ys.length = i := by rw [hr.length, List.length_map, List.length_range]
      have same : ∀ b o, s₂'.heap.get? b = some o → grow Ψ s₂' s₃ b = Ψ b := fun b o e => by unfold grow; rw [if_pos (by rw [e]; rfl)]
      have hwp' : ∀ b ∈ wr, ∃ o, s₂'.heap.get? b = some o := hpres _ _ hst₂
      have goffL : grow Ψ s₂' s₃ L = none := by rw [same L _ hy]; exact B₂.offL
      refine append_at (hsz := by rw [List.size_toArray, hlen]; exact Nat.le_trans hi hsz) (Keeps.keep k₃ _ _ hy) fun h₄ hs₄ ho₄ => ?_
      have up : ∀ b ob, b ≠ L → s₃.heap.get? b = some ob → h₄.get? b = some ob := fun b ob hne e => hs₄.extBut b ob hne e
      obtain ⟨m, hm⟩ := B₂.ns
      refine ⟨n - 1, by (first | lia | omega), i + 1, grow Ψ s₂' s₃, by (first | lia | omega), by (first | lia | omega), W.frame _ _ _ hst₂ fun b hb o e => up b o ?_ (Keeps.keep k₃ b o e), ?_⟩
      · intro hbL
        obtain ⟨o', e'⟩ := fpp b hb
        rw [hbL, hLn] at e'; cases e'
      · refine ⟨?_, ⟨m, (hm.keeps (Keeps.keep k₃)).sameBut hs₄ (Ne.symm hLC)⟩, fun y c hc => ?_, ⟨ys ++ [y], nn + 1, by rw [ho₄]; simp, ?_⟩, B₂.le.trans (grow_le B₂.frz), fun b o e => up b o (fun hbL => by rw [hbL, goffL] at e; cases e) (grow_heap (Keeps.keep k₃) B₂.frz b o e), fun b o e => ?_, goffL, ?_, fun y c hc => ?_, fun b hb => ?_, fun b o hb e => up b o (fun hbL => by rw [hbL, hLn] at e; cases e) (Keeps.keep k₃ b o (B₂.keep b o hb e))⟩
        · obtain ⟨h, tk, rfl⟩ := B₂.same
          obtain ⟨h', tk', rfl, _⟩ := k₃
          exact ⟨_, _, rfl⟩
        · obtain ⟨u, hu⟩ := B₂.cell y c hc
          exact ⟨u, (hu.keeps (Keeps.keep k₃)).sameBut hs₄ (csn y c hc).2.1⟩
        · rw [List.range_succ, List.map_append]
          exact Rs.append (hr.mono (grow_le B₂.frz)) ⟨hRy, trivial⟩
        · unfold grow at e
          split at e
          · exact B₂.nw b o e
          · rename_i hnn
            refine .inr ?_
            cases e2 : s₂.heap.get? b with
            | none => rfl
            | some o2 =>
              exfalso
              by_cases hbw : b ∈ wr
              · obtain ⟨o3, e3⟩ := hwp' b hbw
                exact hnn (by rw [e3]; rfl)
              · exact hnn (by rw [B₂.keep b o2 hbw e2]; rfl)
        · obtain ⟨oC, _, _, hoC, _⟩ := hm
          rw [same C _ hoC]; exact B₂.offC
        · obtain ⟨u, o, ho, _⟩ := B₂.cell y c hc
          rw [same c _ ho]; exact B₂.offc y c hc
        · obtain ⟨o, ho⟩ := hwp' b hb
          rw [same b _ ho]; exact B₂.offw b hb
    · have hie : i = items.length := by (first | lia | omega)
      subst hie
      refine W.done s' _ _ hsti fun h₁ tk₁ hk₁ => ?_
      obtain ⟨m, hm⟩ := B.ns
      obtain ⟨ys, nn, hy, hr⟩ := B.list
      have hsL : s.heap.get? L = none := by
        cases e : s.heap.get? L with
        | none => rfl
        | some o => have := Keeps.keep k₂ _ _ e; rw [hLn] at this; cases this
      have hsC : s.heap.get? C = none := by
        cases e : s.heap.get? C with
        | none => rfl
        | some o => have := Keeps.keep k₂ _ _ e; rw [hCn] at this; cases this
      have kk : ∀ b o, s.heap.get? b = some o → h₁.get? b = some o := fun b o e => hk₁ b o (wo b o e) (B.keep b o (wo b o e) (Keeps.keep k₂ b o e))
      refine hend Ψ { s' with heap := h₁, toks := tk₁ } L C ys nn m _ ?_ hsL hsC hLC (hk₁ L _ (wn L hLn) hy) (hm.at' fun o e => hk₁ _ o (wn C hCn) e) hr (fun b o e => ?_) B.offL B.offC
      · obtain ⟨h, tk, rfl⟩ := B.same
        obtain ⟨h2, tk2, rfl, _⟩ := k₂
        exact ⟨h₁, tk₁, rfl, kk⟩
      · have e' := hk₁ b o (fun hb => by rw [B.offw b hb] at e; cases e) (B.frz b o e)
        unfold grow
        split
        · rename_i hss
          obtain ⟨o', ho'⟩ := Option.isSome_iff_exists.mp hss
          rcases B.nw b o e with h | h
          · exact hin b o h o' ho'
          · have := Keeps.keep k₂ b o' ho'; rw [h] at this; cases this
        · exact e'
  exact codeAny_compStart_list (loop _ rfl) (W.self 0 _ _ _ (W.frame _ _ _ hst fun b _ o e => keep4 b o e) (loop _ rfl))
theorem EvN.comp {elt iter : Expr} {x : Str} {px pos : Pos} {scope : Scope} {ix : Nat} {kx : NameKind} {items : List AV} {f : Nat → AV} {cv : List (Option AV)}
    (hit : EvIt prog w hB D env ns vals own iter items) (hsz : items.length ≤ sizeLine) (hcap : Cap ns vals scope.names ns' cv) (hnd : (scope.names.map (·.1)).Nodup) (hkind : scope.kind = .function)
    (hx : At ns' ix (x, kx)) (hk : kx = .local ∨ (kx = .cell ∧ (x, NameKind.cell) ∈ scope.names)) (hlx : (x, NameKind.free) ∉ scope.names)
    (helt : ∀ i av C, items[i]? = some av → Ev prog w hB D (blockEnv scope C env) ns' (cv.set ix (some av)) own elt (f i)) (hs : ∀ x, foldedSetIterable iter env x = pure x := by intro _; rfl) :
    EvN prog w hB D env ns vals own (.ListComp elt [⟨.Name x px, iter, [], 0⟩] scope pos) (.lst ((List.range items.length).map f)) := fun Φ s q A E ok => by
  rw [eval_ListComp]
  refine comp_gen (use := none) hit hsz hcap hnd hkind hx hk hlx helt hs q ok fun Ψ sf L C ys nn m fl k hL hC hne hl hn hr hle h1 h2 => ⟨m, hn, fun h' hs' => ?_⟩
  have kk : ∀ b o, s.heap.get? b = some o → h'.get? b = some o := fun b o e => hs'.extBut b o (by rintro rfl; rw [hC] at e; cases e) (Keeps.keep k b o e)
  refine ⟨?_, L, _, rfl, hL, hs'.extBut L _ hne hl, ys, nn, rfl, hr.mono fun b o e => ?_⟩
  · obtain ⟨h, tk, rfl, _⟩ := k
    exact ⟨h', tk, rfl, kk⟩
  · have hbL : b ≠ L := by rintro rfl; rw [h1] at e; cases e
    have hbC : b ≠ C := by rintro rfl; rw [h2] at e; cases e
    have e' := hle b o e
    unfold hide
    rw [if_neg hbL]
    unfold grow at e' ⊢
    split at e'
    · rename_i hss; rw [if_pos hss]; exact e'
    · rename_i hss; rw [if_neg hss]; exact hs'.extBut b o hbC e'
end
end Kx
end

section -- J12
open PySem PySem.W PyProof.Rows
set_option Elab.async false
set_option maxRecDepth 100000
set_option linter.unusedVariables false
namespace Kx
section
variable {prog : Program} {w : World} {hB : Heap} {K : Frag} {D : Nat} {env : Env} {ns ns' : List (Str × NameKind)} {vals vals' : List (Option AV)} {own own' : List (Addr × MO)} {ε : Ent} {s₀ s s' : Shared} {Φ : FH}
variable {Q Q' : Flw → List (Option AV) → List (Addr × MO) → Prop}

noncomputable def SetG (prog : Program) (w : World) (k : AV) (mo : MO) (v : AV) (mo' : MO) : Prop := ∀ (Φ : FH) s a o vk vv A E (Q : Unit → Shared → Prop), (∀ x o, Φ x = some o → s.heap.get? x = some o) → AOk 1 A → s.heap.get? a = some o → MR Φ mo o → R Φ k vk → R Φ v vv →
  (∀ h' o' tk, Heap.SameBut a s.heap h' → h'.get? a = some o' → MR Φ mo' o' → Q () { s with heap := h', toks := tk }) → wpAny (model prog w) A (setItem (.ref a) vk vv) Q E s

theorem sg_list {xs : List AV} {k : Int} {v : AV} (h0 : 0 ≤ k) (h1 : k < xs.length) (h2 : k < 2 ^ 63) : SetG prog w (.int k) (.lst xs) v (.lst (xs.set k.toNat v)) := fun Φ s a o vk vv A E Q hf ok ho hm hk hv h => by
  obtain ⟨vs, n, rfl, hr⟩ := hm
  obtain ⟨t, rfl⟩ := hk
  refine ki_setAt ho h0 h2 (by rw [List.size_toArray, hr.length]; exact h1) (h _ _ _ (Heap.SameBut.update ..) (Heap.get?_update_self _ ho rfl) ⟨vs.set k.toNat vv, n, ?_, hr.set _ hv⟩)
  show (⟨_, _, .seq (vs.toArray.setIfInBounds k.toNat vv) (if (vs.toArray.setIfInBounds k.toNat vv).size == vs.toArray.size then n else n + 1), _⟩ : Obj) = _
  simp
theorem sg_listNeg {xs : List AV} {k : Int} {v : AV} (h0 : k < 0) (h1 : -(xs.length : Int) ≤ k) (h2 : -(2 ^ 63) ≤ k) : SetG prog w (.int k) (.lst xs) v (.lst (xs.set (k + xs.length).toNat v)) := fun Φ s a o vk vv A E Q hf ok ho hm hk hv h => by
  obtain ⟨vs, n, rfl, hr⟩ := hm
  obtain ⟨t, rfl⟩ := hk
  have hl : vs.toArray.size = xs.length := by rw [List.size_toArray, hr.length]
  refine ki_setBack ho h0 (by rw [hl]; exact h1) h2 (h _ _ _ (Heap.SameBut.update ..) (Heap.get?_update_self _ ho rfl) ⟨vs.set (k + xs.length).toNat vv, n, ?_, hr.set _ hv⟩)
  show (⟨_, _, .seq (vs.toArray.setIfInBounds (k + vs.toArray.size).toNat vv) (if (vs.toArray.setIfInBounds (k + vs.toArray.size).toNat vv).size == vs.toArray.size then n else n + 1), _⟩ : Obj) = _
  rw [hl]
  simp [hr.length]

theorem St.setItem {o i value : Expr} {p pos : Pos} {a : Addr} {j : Nat} {k v : AV} {mo mo' : MO} (hv : Ev prog w hB (D + 1) env ns vals own value v) (ho : Ev prog w hB (D + 1) env ns vals own o (.ref a)) (hi : Ev prog w hB (D + 1) env ns vals own i k)
    (hj : At own j (a, mo)) (hs : SetG prog w k mo v mo') (hset : SetAt own j (a, mo') own') (kq : Q .next vals own') (hsw : swapsWith value (some (.Subscript o i p)) pos.line env = pure false := by rfl) :
    St prog w hB (D + 1) ε env ns (.Assign [.Subscript o i p] value pos) vals own Q := fun Φ s q A E ok => by
  refine wpAny_Assign_Subscript (wpAny_mono (hv Φ s q.toR A E ok) (fun vv s₁ h₁ => ?_) fun _ _ e => e) hsw
  have q₁ := q.step h₁.1
  refine wpAny_mono (ho _ s₁ q₁.toR A E ok) (fun vo s₂ h₂ => ?_) fun _ _ e => e
  have q₂ := q₁.step h₂.1
  refine wpAny_mono (hi _ s₂ q₂.toR A E ok) (fun vk s₃ h₃ => ?_) fun _ _ e => e
  have q₃ := q₂.step h₃.1
  obtain ⟨k₂, rfl⟩ := h₂
  obtain ⟨_, _, _, _, ob, hob, hm⟩ := q₃.owns a mo hj.mem
  refine hs _ s₃ a ob vk vv A E _ q₃.frz (ok.le (by (first | lia | omega))) hob hm h₃.2 ((h₁.2.mono (grow_le q₁.frz)).mono (grow_le q₂.frz)) fun h' o' tk hsb ho' hr' => ?_
  exact ⟨_, vals, own', .next, ((grow_le q.frz).trans (grow_le q₁.frz)).trans (grow_le q₂.frz), q₃.change hj hset hsb ho' hr', rfl, kq⟩

noncomputable def GetG (prog : Program) (w : World) (k : AV) (mo : MO) (v : AV) : Prop := ∀ (Φ : FH) s a o vk A E, (∀ x o, Φ x = some o → s.heap.get? x = some o) → AOk 1 A → s.heap.get? a = some o → MR Φ mo o → R Φ k vk →
  wpAny (model prog w) A (getItem (.ref a) vk) (fun v' s' => Keeps s s' ∧ R (grow Φ s s') v v') E s
theorem gg_list {xs : List AV} {k : Int} {v : AV} (h0 : 0 ≤ k) (h2 : k < 2 ^ 63) (hx : xs[k.toNat]? = some v) : GetG prog w (.int k) (.lst xs) v := fun Φ s a o vk A E hf ok ho hm hk => by
  obtain ⟨vs, n, rfl, hr⟩ := hm
  obtain ⟨t, rfl⟩ := hk
  obtain ⟨u, hu, hR⟩ := hr.get _ _ hx
  exact wpAny_getItem_list (isList_of ho) h0 h2 (by simpa using hu) ⟨Keeps.rfl', hR.mono (grow_le hf)⟩

theorem exec_AugSub {o i value : Expr} {op : Operator} {p pos : Pos} (hi : ∀ ov iv new, augStore i ov iv new = (do holding [new, ov, iv] (setItem ov iv new); release [new, ov, iv] []; pure .next)) : exec (.AugAssign (.Subscript o i p) op value pos) env = (do
    standAt pos
    let ov ← eval o env
    let iv ← holding [ov] (eval i env)
    let new ← holding [ov, iv] do
      standAt p
      let old ← getItem ov iv
      let v ← holding [old] (eval value env)
      standAt pos
      operate [old, v] (inplaceOp op old v)
    standAt p
    holding [new, ov, iv] (setItem ov iv new)
    release [new, ov, iv] []
    pure .next) := by
  have e : exec (.AugAssign (.Subscript o i p) op value pos) env = (do
    standAt pos
    let ov ← eval o env
    let iv ← holding [ov] (eval i env)
    let new ← holding [ov, iv] do
      standAt p
      let old ← getItem ov iv
      let v ← holding [old] (eval value env)
      standAt pos
      operate [old, v] (inplaceOp op old v)
    standAt p
    augStore i ov iv new) := rfl
  rw [e]
  simp only [hi]
theorem St.augItem {o i value : Expr} {op : Operator} {p pos : Pos} {a : Addr} {j : Nat} {k v old new : AV} {mo mo' : MO} (ho : Ev prog w hB (D + 1) env ns vals own o (.ref a)) (hi : Ev prog w hB (D + 1) env ns vals own i k)
    (hj : At own j (a, mo)) (hg : GetG prog w k mo old) (hv : Ev prog w hB (D + 1) env ns vals own value v) (hop : InG prog w op old v new) (hs : SetG prog w k mo new mo') (hset : SetAt own j (a, mo') own') (kq : Q .next vals own')
    (haug : ∀ ov iv new, augStore i ov iv new = (do holding [new, ov, iv] (PySem.setItem ov iv new); release [new, ov, iv] []; pure .next) := by intro _ _ _; rfl) :
    St prog w hB (D + 1) ε env ns (.AugAssign (.Subscript o i p) op value pos) vals own Q := fun Φ s q A E ok => by
  rw [exec_AugSub haug]
  refine wpAny_bind (wpAny_standAt (wpAny_bind (wpAny_mono (ho Φ s q.toR A E ok) (fun vo s₁ h₁ => ?_) fun _ _ e => e)))
  have q₁ := q.step h₁.1
  obtain ⟨k₁, rfl⟩ := h₁
  refine wpAny_bind (wpAny_holding (wpAny_mono (hi _ s₁ q₁.toR A E ok) (fun vk s₂ h₂ => ?_) fun _ _ e => e))
  have q₂ := q₁.step h₂.1
  obtain ⟨_, _, _, _, ob, hob, hm⟩ := q₂.owns a mo hj.mem
  refine wpAny_bind (wpAny_holding (wpAny_bind (wpAny_standAt (wpAny_bind (wpAny_mono (hg _ s₂ a ob vk A E q₂.frz (ok.le (by (first | lia | omega))) hob hm h₂.2) (fun vold s₃ h₃ => ?_) fun _ _ e => e)))))
  have q₃ := q₂.step h₃.1
  refine wpAny_bind (wpAny_holding (wpAny_mono (hv _ s₃ q₃.toR A E ok) (fun vv s₄ h₄ => ?_) fun _ _ e => e))
  have q₄ := q₃.step h₄.1
  refine wpAny_bind (wpAny_standAt (wpAny_operate' (wpAny_mono (hop _ s₄ vold vv A E q₄.frz (ok.le (by (first | lia | omega))) (h₃.2.mono (grow_le q₃.frz)) h₄.2) (fun vnew s₅ h₅ => ?_) fun _ _ e => e)))
  have q₅ := q₄.step h₅.1
  obtain ⟨_, _, _, _, ob', hob', hm'⟩ := q₅.owns a mo hj.mem
  refine wpAny_bind (wpAny_standAt (wpAny_bind (wpAny_holding (hs _ s₅ a ob' vk vnew A E _ q₅.frz (ok.le (by (first | lia | omega))) hob' hm' (((h₂.2.mono (grow_le q₂.frz)).mono (grow_le q₃.frz)).mono (grow_le q₄.frz)) h₅.2 fun h' o' tk hsb ho' hr' => ?_))))
  refine wpAny_bind (wpAny_release' (wpAny_pure ?_))
  exact ⟨_, vals, own', .next, ((((grow_le q.frz).trans (grow_le q₁.frz)).trans (grow_le q₂.frz)).trans (grow_le q₃.frz)).trans (grow_le q₄.frz), q₅.change hj hset hsb ho' hr', rfl, kq⟩

noncomputable def MeG (prog : Program) (w : World) (id : String) (mo : MO) (avs : List AV) (mo' : MO) : Prop := ∀ (Φ : FH) s a o vs A E (Q : Value → Shared → Prop), (∀ x o, Φ x = some o → s.heap.get? x = some o) → AOk 1 A → s.heap.get? a = some o → MR Φ mo o → Rs Φ avs vs → Φ a = none →
  (∀ h' o' tk, Heap.SameBut a s.heap h' → h'.get? a = some o' → MR Φ mo' o' → Q .none { s with heap := h', toks := tk }) → wpAny (model prog w) A (call (.builtin id) (.ref a :: vs)) Q E s
noncomputable def NmG (prog : Program) (w : World) (name : Str) (mo : MO) (id : String) : Prop := ∀ (Φ : FH) s a o A E pl (Q : Value × List Value → Shared → Prop), s.heap.get? a = some o → MR Φ mo o → Q (.builtin id, [.ref a]) s → wpAny (model prog w) A (getMethod (.ref a) name pl) Q E s

theorem ng_list {name : Str} {id : String} {xs : List AV} (slot : PySem.Slot "list" name id) (hty : typeOf (.builtin id) = pure (.type "method_descriptor")) : NmG prog w name (.lst xs) id := fun Φ s a o A E pl Q ho hm h => by
  obtain ⟨vs, n, rfl, _⟩ := hm
  exact getMethod_builtin ⟨_, ho, rfl⟩ PySem.F.plainAttrs_list slot hty (fun a e => by cases e; exact ⟨_, ho, rfl⟩) h

theorem mg_append {xs : List AV} {v : AV} (hl : xs.length ≤ sizeLine) : MeG prog w "list.append" (.lst xs) [v] (.lst (xs ++ [v])) := fun Φ s a o vs A E Q hf ok ho hm hr hΦ h => by
  obtain ⟨us, n, rfl, hu⟩ := hm
  obtain ⟨u, rfl, hv⟩ := hr.one
  exact append_at (hsz := by rw [List.size_toArray, hu.length]; exact hl) ho fun h' hs ho' => h h' _ _ hs ho' ⟨us ++ [u], n + 1, by simp, hu.append ⟨hv, trivial⟩⟩
theorem mg_extend {xs ys : List AV} (hl : xs.length + ys.length ≤ sizeLine) : MeG prog w "list.extend" (.lst xs) [.lst ys] (.lst (xs ++ ys)) := fun Φ s a o vs A E Q hf ok ho hm hr hΦ h => by
  obtain ⟨us, n, rfl, hu⟩ := hm
  obtain ⟨u, rfl, b, ws, m, rfl, hb, hw⟩ := hr.one
  have e1 : us.toArray.size = xs.length := by rw [List.size_toArray, hu.length]
  have e2 : ws.toArray.size = ys.length := by rw [List.size_toArray, hw.length]
  refine call_meets PySem.F.slot_list_extend ⟨_, ho, rfl⟩ PySem.F.entry_list_extend (PySem.F.args_list_extend_2 _ _) (PySem.AutoSeq1.list_extend_list_list_0 a us.toArray n b ws.toArray m (extend_door (by rw [e1, e2]; exact hl)) (by rw [e1]; (first | lia | omega)) (by rw [e1, e2]; (first | lia | omega))) ⟨ho, hf _ _ hb, h _ _ _ (Heap.SameBut.update ..) (Heap.get?_update_self _ ho rfl) ⟨us ++ ws, (if (us.toArray ++ ws.toArray).size == us.toArray.size then n else n + 1), ?_, hu.append hw⟩⟩
  show (⟨_, _, .seq (us.toArray ++ ws.toArray) (if (us.toArray ++ ws.toArray).size == us.toArray.size then n else n + 1), _⟩ : Obj) = _
  simp

theorem St.meth {o : Expr} {name : Str} {apos pos epos : Pos} {es : List Expr} {a : Addr} {j : Nat} {avs : List AV} {mo mo' : MO} {id : String} {pl : Sem Bool} (ho : Ev prog w hB (D + 1) env ns vals own o (.ref a)) (hj : At own j (a, mo)) (hn : NmG prog w name mo id)
    (hes : EvL prog w hB (D + 1) env ns vals own es avs) (F : MeG prog w id mo avs mo') (hset : SetAt own j (a, mo') own') (kq : Q .next vals own')
    (hi : interactive env = false) (hs : swapsWith (.Call (.Attribute o name apos) es [] pos) none epos.line env = pure false)
    (he : eval (.Call (.Attribute o name apos) es [] pos) env = (do
      let ov ← eval o env
      standAt apos.atName
      let (f, first) ← holding [ov] (getMethod ov name pl)
      callWith pos f first (backTo pos (starEach es env)) (backToKw pos (keywordEach [] env)))) : St prog w hB (D + 1) ε env ns (.Expr (.Call (.Attribute o name apos) es [] pos) epos) vals own Q := fun Φ s q A E ok => by
  refine wpAny_Expr (methodCall_KW (pl := pl) (wpAny_mono (ho Φ s q.toR A E ok) (fun ov s₁ h₁ => ?_) fun _ _ e => e) he) hi hs
  have q₁ := q.step h₁.1
  obtain ⟨k₁, rfl⟩ := h₁
  obtain ⟨_, _, _, _, ob, hob, hm⟩ := q₁.owns a mo hj.mem
  refine hn _ s₁ a ob A E pl _ hob hm ?_
  show wpAny _ _ (callWith pos (.builtin id) [.ref a] (backTo pos (starEach es env)) []) _ _ _
  refine callWith_blt (hes.1 pos) (wpAny_mono (hes.2 _ s₁ q₁.toR A E pos ok) (fun vs s₂ h₂ => ?_) fun _ _ e => e)
  have q₂ := q₁.step h₂.1
  obtain ⟨hn', _, _, _, ob', hob', hm'⟩ := q₂.owns a mo hj.mem
  refine F _ s₂ a ob' vs A E _ q₂.frz (ok.le (by (first | lia | omega))) hob' hm' h₂.2 hn' fun h' o' tk hsb ho' hr' => ?_
  exact ⟨_, vals, own', .next, (grow_le q.frz).trans (grow_le q₁.frz), q₂.change hj hset hsb ho' hr', rfl, kq⟩
end
end Kx
end

section -- J13
open PySem PySem.W PyProof.Rows
set_option Elab.async false
set_option maxRecDepth 100000
set_option linter.unusedVariables false
namespace Kx
section
variable {prog : Program} {w : World} {hB : Heap} {K : Frag} {D : Nat} {env : Env} {ns ns' : List (Str × NameKind)} {vals vals' : List (Option AV)} {own own' : List (Addr × MO)} {ε : Ent} {s₀ s s' : Shared} {Φ : FH}
variable {Q Q' : Flw → List (Option AV) → List (Addr × MO) → Prop}

noncomputable def EvS (prog : Program) (w : World) (hB : Heap) (D : Nat) (ε : Ent) (env : Env) (ns : List (Str × NameKind)) (vals : List (Option AV)) (own : List (Addr × MO)) (e : Expr) (P : AV → List (Addr × MO) → Prop) : Prop :=
  ∀ Φ s, Rel hB ε env ns Φ vals own s → ∀ A E, AOk D A → wpAny (model prog w) A (eval e env) (fun v s' => ∃ Φ' av own', Le Φ Φ' ∧ Rel hB ε env ns Φ' vals own' s' ∧ R Φ' av v ∧ P av own') E s
noncomputable def EvsS (prog : Program) (w : World) (hB : Heap) (D : Nat) (ε : Ent) (env : Env) (ns : List (Str × NameKind)) (vals : List (Option AV)) (own : List (Addr × MO)) (es : List Expr) (P : List AV → List (Addr × MO) → Prop) : Prop :=
  (∀ pos, (backTo pos (starEach es env)).any (·.1) = false) ∧ ∀ Φ s, Rel hB ε env ns Φ vals own s → ∀ A E pos, AOk D A → wpAny (model prog w) A (spliced (backTo pos (starEach es env))) (fun vs s' => ∃ Φ' avs own', Le Φ Φ' ∧ Rel hB ε env ns Φ' vals own' s' ∧ Rs Φ' avs vs ∧ P avs own') E s

theorem EvS.conseq {e : Expr} {P P' : AV → List (Addr × MO) → Prop} (h : EvS prog w hB D ε env ns vals own e P) (k : ∀ av o, P av o → P' av o) : EvS prog w hB D ε env ns vals own e P' := fun Φ s q A E ok =>
  wpAny_mono (h Φ s q A E ok) (fun v s' ⟨Φ', av, o, a, b, c, d⟩ => ⟨Φ', av, o, a, b, c, k _ _ d⟩) fun _ _ e => e
theorem EvS.ofEv {e : Expr} {av : AV} {P : AV → List (Addr × MO) → Prop} (h : Ev prog w hB D env ns vals own e av) (k : P av own) : EvS prog w hB D ε env ns vals own e P := fun Φ s q A E ok =>
  wpAny_mono (h Φ s q.toR A E ok) (fun v s' h' => ⟨_, av, own, grow_le q.frz, q.step h'.1, h'.2, k⟩) fun _ _ e => e
theorem EvS.ofEvN {e : Expr} {mo : MO} {P : AV → List (Addr × MO) → Prop} (h : EvN prog w hB D env ns vals own e mo) (k : ∀ a, P (.ref a) ((a, mo) :: own)) : EvS prog w hB D ε env ns vals own e P := fun Φ s q A E ok =>
  wpAny_mono (h Φ s q.toR A E ok) (fun v s₁ h₁ => by
    obtain ⟨k₁, a, o, rfl, hn, ho, hr⟩ := h₁
    exact ⟨_, .ref a, _, le_hide (grow_le q.frz) (by cases e : Φ a with | none => rfl | some o => have := q.frz _ _ e; rw [hn] at this; cases this), q.adopt hn k₁ ho hr, rfl, k a⟩) fun _ _ e => e
theorem EvS.ite {t x y : Expr} {pos : Pos} {b : Bool} {P : AV → List (Addr × MO) → Prop} (ht : EvT prog w hB D env ns vals own t b) (hx : b = true → EvS prog w hB D ε env ns vals own x P) (hy : b = false → EvS prog w hB D ε env ns vals own y P) :
    EvS prog w hB D ε env ns vals own (.IfExp t x y pos) P := fun Φ s q A E ok => by
  refine wpAny_IfExp (wpAny_mono (ht Φ s q.toR A E ok) (fun v s₁ h₁ => ?_) fun _ _ e => e)
  obtain ⟨k₁, rfl⟩ := h₁
  have hle : Le Φ (grow Φ s s₁) := grow_le q.frz
  cases v with
  | true => exact wpAny_mono (hx rfl _ s₁ (q.step k₁) A E ok) (fun v s₂ ⟨Φ₂, av, o, a, b, c⟩ => ⟨Φ₂, av, o, hle.trans a, b, c⟩) fun _ _ e => e
  | false => exact wpAny_mono (hy rfl _ s₁ (q.step k₁) A E ok) (fun v s₂ ⟨Φ₂, av, o, a, b, c⟩ => ⟨Φ₂, av, o, hle.trans a, b, c⟩) fun _ _ e => e
theorem EvsS.nil {P : List AV → List (Addr × MO) → Prop} (k : P [] own) : EvsS prog w hB D ε env ns vals own [] P := ⟨fun _ => rfl, fun Φ s q A E pos ok => Calls.spliced_nil ⟨Φ, [], own, Le.refl _, q, trivial, k⟩⟩
theorem EvsS.cons {e : Expr} {es : List Expr} {P : List AV → List (Addr × MO) → Prop} (h : EvS prog w hB D ε env ns vals own e (fun av o => EvsS prog w hB D ε env ns vals o es (fun avs o' => P (av :: avs) o')))
    (hp : ∀ pos, (backTo pos (starEach es env)).any (·.1) = false)
    (he : starEach (e :: es) env = (false, eval e env) :: starEach es env := by rfl) : EvsS prog w hB D ε env ns vals own (e :: es) P := by
  refine ⟨fun pos => ?_, fun Φ s q A E pos ok => ?_⟩
  · rw [he]; show (false || (backTo pos (starEach es env)).any (·.1)) = false; rw [hp pos]; rfl
  · rw [he]
    refine Calls.spliced_cons (wpAny_mono (h Φ s q A E ok) (fun v s₁ ⟨Φ₁, av, o, a, q₁, r₁, h₁⟩ => wpAny_mono (h₁.2 _ s₁ q₁ A E pos ok) (fun vs s₂ ⟨Φ₂, avs, o₂, a₂, q₂, r₂, h₂⟩ => ?_) fun _ _ e => e) fun _ _ e => e)
    exact ⟨Φ₂, av :: avs, o₂, a.trans a₂, q₂, ⟨r₁.mono a₂, r₂⟩, h₂⟩
theorem EvS.tuple {es : List Expr} {P : AV → List (Addr × MO) → Prop} {k : Nat} {pos : Pos} (h : EvsS prog w hB D ε env ns vals own es (fun avs o => avs.length ≤ sizeLine ∧ P (.tup avs) o)) : EvS prog w hB D ε env ns vals own (.Tuple es k pos) P := fun Φ s q A E ok => by
  refine Tuple_ (wpAny_mono (h.2 Φ s q A E pos ok) (fun vs s₁ ⟨Φ₁, avs, o, a, q₁, r₁, hl, h₁⟩ => ?_) fun _ _ e => e)
  refine wpAny_newObj_type ⟨_, .tup avs, o, a.trans (grow_le q₁.frz), q₁.step (Keeps.push _ _), ⟨s₁.heap.objs.size, vs, 0, rfl, grow_new rfl, Rs.mono (grow_le q₁.frz) r₁⟩, h₁⟩ ?_
  show vs.toArray.size ≤ sizeLine
  rw [List.size_toArray, Rs.length r₁]; exact hl

theorem St.assignS {x : Str} {p pos : Pos} {e : Expr} {i : Nat} {k : NameKind} (hx : At ns i (x, k)) (hk : k = .local ∨ k = .cell) (h : EvS prog w hB D ε env ns vals own e (fun av o => ∃ vals', SetAt vals i (some av) vals' ∧ Q .next vals' o))
    (hsw : swapsWith e (some (.Name x p)) pos.line env = pure false := by rfl) : St prog w hB D ε env ns (.Assign [.Name x p] e pos) vals own Q := fun Φ s q A E ok => by
  refine wpAny_Assign_Name (wpAny_mono (h Φ s q A E ok) (fun v s₁ ⟨Φ₁, av, o, a, q₁, r₁, vals', hs, h₁⟩ => ?_) fun _ _ e => e) hsw
  exact q₁.stName hx hk hs r₁ fun s₂ q₂ => ⟨_, vals', o, .next, a, q₂, rfl, h₁⟩

inductive Sts (ns : List (Str × NameKind)) : List Str → List AV → List (Option AV) → List (Option AV) → Prop where
  | nil {v : List (Option AV)} : Sts ns [] [] v v
  | cons {x : Str} {xs : List Str} {av : AV} {avs : List AV} {i : Nat} {k : NameKind} {v v' v'' : List (Option AV)} (hx : At ns i (x, k)) (hk : k = .local ∨ k = .cell) (hs : SetAt v i (some av) v') (h : Sts ns xs avs v' v'') : Sts ns (x :: xs) (av :: avs) v v''
inductive Binds (M : Model) (A : Around) (E : Value → Shared → Prop) (env : Env) : List (Value → Sem Unit) → List Str → Prop where
  | nil : Binds M A E env [] []
  | cons {t : Value → Sem Unit} {ts : List (Value → Sem Unit)} {x : Str} {xs : List Str} (h : ∀ (v : Value) (s : Shared) (Q : Unit → Shared → Prop), wpAny M A (storeName env x v) Q E s → wpAny M A (t v) Q E s) (k : Binds M A E env ts xs) : Binds M A E env (t :: ts) (x :: xs)
theorem Rel.stores {M : Model} {A : Around} {E : Value → Shared → Prop} {ts : List (Value → Sem Unit)} {xs : List Str} {avs : List AV} {vs : List Value} (b : Binds M A E env ts xs) (st : Sts ns xs avs vals vals') (q : Rel hB ε env ns Φ vals own s) (hr : Rs Φ avs vs)
    {Q : Unit → Shared → Prop} (h : ∀ s', Rel hB ε env ns Φ vals' own s' → Q () s') : wpAny M A (assignInOrder ts vs) Q E s := by
  induction st generalizing ts vs s with
  | nil => cases b; exact assignInOrder_nil (h s q)
  | cons hx hk hs _ ih =>
    cases b with
    | cons hb b =>
      match vs, hr with
      | v :: vs, hr => exact assignInOrder_cons (hb v s _ (q.stName hx hk hs hr.1 fun s₁ q₁ => ih b q₁ hr.2 h))
theorem binds_names {M : Model} {A : Around} {E : Value → Shared → Prop} : ∀ {names : List Str}, Binds M A E env (names.map fun n => bindName env n) names
  | [] => .nil
  | _ :: _ => .cons (fun _ _ _ h => bindName_ h) binds_names

theorem unpackTup {A : Around} {E : Value → Shared → Prop} {avs : List AV} {v : Value} {n : Nat} (q : Rel hB ε env ns Φ vals own s) (ok : AOk D A) (hr : R Φ (.tup avs) v) (hn : n = avs.length) {Q : List Value → Shared → Prop}
    (h : ∀ vs s', Keeps s s' → Rs Φ avs vs → Q vs s') : wpAny (model prog w) A (unpackItems v n none) Q E s := by
  obtain ⟨a, vs, m, rfl, ha, hrs⟩ := hr
  have hl := hrs.length
  obtain rfl : n = vs.toArray.size := by rw [List.size_toArray, hl, hn]
  refine unpackItems_tuple ok.handled (isTup_of (q.frz _ _ ha)) fun h' he => ?_
  exact h vs _ ⟨h', s.toks, rfl, fun b o e => he b o (Nat.ne_of_lt (Heap.lt_size e)) e⟩ hrs

theorem St.tupSwap {elts : List Expr} {k : Nat} {tpos pos : Pos} {value : Expr} {names xs : List Str}
    (h : EvS prog w hB D ε env ns vals own value (fun av o => ∃ avs avr vals', av = .tup avs ∧ names.length = avs.length ∧ avs.reverse = avr ∧ Sts ns xs avr vals vals' ∧ Q .next vals' o))
    (hw : swappedStores [.Tuple elts k tpos] value env = pure (some names)) (hx : names.reverse = xs)
    (hs : swapsWithSole [.Tuple elts k tpos] value pos.line env = pure false := by rfl) : St prog w hB D ε env ns (.Assign [.Tuple elts k tpos] value pos) vals own Q := fun Φ s q A E ok => by
  refine Assign_Tuple_swapped (wpAny_mono (h Φ s q A E ok) (fun v s₁ ⟨Φ₁, av, o, a, q₁, r₁, avs, avr, vals', he, hl, hrev, hsts, h₁⟩ => ?_) fun _ _ e => e) hs hw
  subst he
  refine unpackTup q₁ ok r₁ hl fun vs s₂ k₂ hrs => ?_
  have q₂ := q₁.step k₂
  subst hrev hx
  refine Rel.stores binds_names hsts q₂ (vs := vs.reverse) (rev_rs (hrs.mono (grow_le q₁.frz))) fun s₃ q₃ => ?_
  exact ⟨_, vals', o, .next, a.trans (grow_le q₁.frz), q₃, rfl, h₁⟩
where
  rev_rs {Φ : FH} : ∀ {xs : List AV} {vs : List Value}, Rs Φ xs vs → Rs Φ xs.reverse vs.reverse
    | [], [], _ => trivial
    | x :: xs, v :: vs, h => by rw [List.reverse_cons, List.reverse_cons]; exact (rev_rs h.2).append ⟨h.1, trivial⟩
    | [], _ :: _, h => h.elim
    | _ :: _, [], h => h.elim
inductive Nms : List Expr → List Str → Prop where
  | nil : Nms [] []
  | cons {x : Str} {p : Pos} {es : List Expr} {xs : List Str} (h : Nms es xs) : Nms (.Name x p :: es) (x :: xs)
theorem Nms.binds {M : Model} {A : Around} {E : Value → Shared → Prop} {es : List Expr} {xs : List Str} (h : Nms es xs) : Binds M A E env ((assignEach es env).map (·.2)) xs ∧ (assignEach es env).length = xs.length ∧ (assignEach es env).findIdx? (·.1) = none := by
  induction h with
  | nil => exact ⟨.nil, rfl, rfl⟩
  | @cons x p es xs h ih =>
    have e : assignEach (.Name x p :: es) env = (false, assign (.Name x p) env) :: assignEach es env := rfl
    rw [e]
    refine ⟨.cons (fun v s Q h => assign_Name h) ih.1, by rw [List.length_cons, List.length_cons, ih.2.1], ?_⟩
    rw [List.findIdx?_cons]
    simp [ih.2.2]
theorem St.tup {elts : List Expr} {k : Nat} {tpos pos : Pos} {value : Expr} {xs : List Str} (hn : Nms elts xs)
    (h : EvS prog w hB D ε env ns vals own value (fun av o => ∃ avs vals', av = .tup avs ∧ xs.length = avs.length ∧ Sts ns xs avs vals vals' ∧ Q .next vals' o))
    (hs : swapsWithSole [.Tuple elts k tpos] value pos.line env = pure false := by rfl)
    (hw : swappedStores [.Tuple elts k tpos] value env = pure none := by rfl) : St prog w hB D ε env ns (.Assign [.Tuple elts k tpos] value pos) vals own Q := fun Φ s q A E ok => by
  refine Assign_Tuple (wpAny_mono (h Φ s q A E ok) (fun v s₁ ⟨Φ₁, av, o, a, q₁, r₁, avs, vals', he, hl, hsts, h₁⟩ => ?_) fun _ _ e => e) hs hw
  subst he
  obtain ⟨ad, vs, m, rfl, ha, hrs⟩ := r₁
  have B := hn.binds (M := model prog w) (A := A) (env := env) (E := E)
  refine assign_Tuple_tuple ok.handled (isTup_of (q₁.frz _ _ ha)) (by rw [B.2.1, List.size_toArray, hrs.length, hl]) B.2.2 fun h' he => ?_
  have k₂ : Keeps s₁ { s₁ with heap := h' } := ⟨h', s₁.toks, rfl, fun b o e => he b o (Nat.ne_of_lt (Heap.lt_size e)) e⟩
  have q₂ := q₁.step k₂
  show wpAny _ _ (assignInOrder _ vs) _ _ _
  refine Rel.stores B.1 hsts q₂ (hrs.mono (grow_le q₁.frz)) fun s₃ q₃ => ?_
  exact ⟨_, vals', o, .next, a.trans (grow_le q₁.frz), q₃, rfl, h₁⟩
end
end Kx
end

section -- J14
open PySem PySem.W PyProof.Rows
set_option Elab.async false
set_option maxRecDepth 100000
set_option linter.unusedVariables false
namespace Kx
section
variable {prog : Program} {w : World} {hB : Heap} {K : Frag} {D : Nat} {env : Env} {ns ns' : List (Str × NameKind)} {vals vals' : List (Option AV)} {own own' : List (Addr × MO)} {ε : Ent} {s₀ s s' : Shared} {Φ : FH}
variable {Q Q' : Flw → List (Option AV) → List (Addr × MO) → Prop}

noncomputable def NW (Φ : FH) (s : Shared) (mo : MO) (v : Value) (s' : Shared) : Prop := Keeps s s' ∧ ∃ a o, v = .ref a ∧ s.heap.get? a = none ∧ s'.heap.get? a = some o ∧ MR (hide (grow Φ s s') a) mo o
theorem NW.tr {s₁ s₂ : Shared} {mo : MO} {v : Value} (k : Keeps s s₁) (h : NW (grow Φ s s₁) s₁ mo v s₂) : NW Φ s mo v s₂ := by
  obtain ⟨k₂, a, o, rfl, hn, ho, hr⟩ := h
  refine ⟨Keeps.tr k k₂, a, o, rfl, ?_, ho, hr.mono (hide_mono (grow_grow (Keeps.keep k) (Keeps.keep k₂)))⟩
  cases e : s.heap.get? a with
  | none => rfl
  | some o' => have := Keeps.keep k _ _ e; rw [hn] at this; cases this
theorem NW.at {mo : MO} {o : Obj} {h' : Heap} {n : Nat} (hf : ∀ a o, Φ a = some o → s.heap.get? a = some o) (hm : MR Φ mo o) (hk : ∀ b ob, s.heap.get? b = some ob → h'.get? b = some ob) (ho : h'.get? s.heap.objs.size = some o) : NW Φ s mo (.ref s.heap.objs.size) { s with heap := h', toks := n } :=
  ⟨⟨h', n, rfl, hk⟩, s.heap.objs.size, o, rfl, get_size _, ho, hm.mono (le_hide (grow_le hf) (by cases e : Φ s.heap.objs.size with | none => rfl | some o => have := hf _ _ e; rw [get_size] at this; cases this))⟩
theorem NW.push {mo : MO} {o : Obj} {n : Nat} (hf : ∀ a o, Φ a = some o → s.heap.get? a = some o) (hm : MR Φ mo o) (hfr : o.isFreed = false := by rfl) : NW Φ s mo (.ref s.heap.objs.size) { s with heap := s.heap.push o, toks := n } :=
  NW.at hf hm (fun _ _ e => Heap.get?_push_of_some _ e) (Heap.get?_push_size _ hfr)

noncomputable def NpG (prog : Program) (w : World) (op : Operator) (a b : AV) (mo : MO) : Prop := ∀ (Φ : FH) s va vb A E, (∀ x o, Φ x = some o → s.heap.get? x = some o) → AOk 1 A → R Φ a va → R Φ b vb →
  wpAny (model prog w) A (binaryOp op va vb) (NW Φ s mo) E s
noncomputable def TyN (prog : Program) (w : World) (T : String) (avs : List AV) (mo : MO) : Prop := ∀ (Φ : FH) s vs A E, (∀ x o, Φ x = some o → s.heap.get? x = some o) → AOk 1 A → Rs Φ avs vs →
  wpAny (model prog w) A (call (.type T) vs) (NW Φ s mo) E s
theorem EvN.bin {op : Operator} {l r : Expr} {pos : Pos} {a b : AV} {mo : MO} (hl : Ev prog w hB (D + 1) env ns vals own l a) (hr : Ev prog w hB (D + 1) env ns vals own r b) (hop : NpG prog w op a b mo) :
    EvN prog w hB (D + 1) env ns vals own (.BinOp l op r pos) mo := fun Φ s q A E ok => by
  refine wpAny_BinOp (wpAny_mono (hl Φ s q A E ok) (fun va s₁ h₁ => wpAny_mono (hr _ s₁ (q.step h₁.1) A E ok) (fun vb s₂ h₂ => ?_) fun _ _ e => e) fun _ _ e => e)
  have q₁ := q.step h₁.1
  have q₂ := q₁.step h₂.1
  exact wpAny_mono (hop _ s₂ va vb A E q₂.frz (ok.le (by (first | lia | omega))) (R.mono (grow_le q₁.frz) h₁.2) h₂.2) (fun v s₃ h₃ => NW.tr h₁.1 (NW.tr h₂.1 h₃)) fun _ _ e => e
theorem EvN.callTy {x : Str} {p pos : Pos} {es : List Expr} {T : String} {avs : List AV} {mo : MO} (hf : Ev prog w hB (D + 1) env ns vals own (.Name x p) (.typ T)) (hes : EvL prog w hB (D + 1) env ns vals own es avs) (F : TyN prog w T avs mo) :
    EvN prog w hB (D + 1) env ns vals own (.Call (.Name x p) es [] pos) mo := fun Φ s q A E ok => by
  refine Call_Name_ (wpAny_mono (hf Φ s q A E ok) (fun v s₁ h₁ => ?_) fun _ _ e => e)
  obtain ⟨k₁, rfl⟩ := h₁
  have q₁ := q.step k₁
  refine callWith_typ (hes.1 pos) (wpAny_mono (hes.2 _ s₁ q₁ A E pos ok) (fun vs s₂ h₂ => ?_) fun _ _ e => e)
  have q₂ := q₁.step h₂.1
  exact wpAny_mono (F _ s₂ vs A E q₂.frz (ok.le (by (first | lia | omega))) h₂.2) (fun v s₃ h₃ => NW.tr k₁ (NW.tr h₂.1 h₃)) fun _ _ e => e

theorem rep_rs {xs : List AV} {vs : List Value} (h : Rs Φ xs vs) : ∀ n : Nat, Rs Φ (List.replicate n xs).flatten (List.replicate n vs).flatten
  | 0 => trivial
  | n + 1 => by rw [List.replicate_succ, List.replicate_succ, List.flatten_cons, List.flatten_cons]; exact h.append (rep_rs h n)
theorem not_long {n : Nat} (h : n ≤ 100000) : ¬ Builtin.List.listTooLong n = true := by
  unfold Builtin.List.listTooLong
  intro e
  have e' := of_decide_eq_true e
  have : sizeLine = 16777216 := by decide
  (first | lia | omega)
theorem np_mulListI {xs : List AV} {x : Int} (h0 : 0 ≤ x) (hsz : xs.length * x.toNat ≤ 100000) (hn : x ≤ 100000) : NpG prog w .Mult (.lst xs) (.int x) (.lst (List.replicate x.toNat xs).flatten) := fun Φ s va vb A E hf ok ⟨l, vs, k, e1, ho', hr⟩ ⟨u, e2⟩ => by
  subst e1 e2
  have ho := hf _ _ ho'
  have hsz' : vs.toArray.size * x.toNat ≤ 100000 := by rw [List.size_toArray, hr.length]; exact hsz
  refine wpAny_binaryOp_repeat_ref (T := "list") (U := "int") (by decide) ⟨_, ho, rfl⟩ (fun s' => typeIs_int s' x u) noFill_list_mul PySem.F.fills_int_mul PySem.F.slot_int_rmul repeat_list PySem.F.slot_int_index.lookup
    (call_meets PySem.F.slot_int_rmul (typeIs_int s x u) PySem.F.entry_int_rmul (PySem.F.args_int_rmul_2 _ _) (lm_int_rmul_list_any x u l vs.toArray k none #[])
      ⟨ho, rfl, ⟨_, ho, rfl⟩, call_meets PySem.F.slot_list_mul ⟨_, ho, rfl⟩ PySem.F.entry_list_mul (PySem.F.args_list_mul_2 _ _)
        (lm_list_mul_any l vs.toArray k none #[] x u (by simp [Builtin.List.listFitsIndex]; (first | lia | omega)) (by (first | lia | omega)) (not_long hsz'))
        ⟨ho, ?_⟩⟩)
  rw [listMul_foldl_if]
  exact NW.push hf ⟨(List.replicate x.toNat vs).flatten, 0, rfl, rep_rs hr _⟩
theorem np_mulList {xs : List AV} {n : Nat} (hsz : xs.length * n ≤ 100000) (hn : n ≤ 100000) : NpG prog w .Mult (.lst xs) (.int (n : Int)) (.lst (List.replicate n xs).flatten) :=
  np_mulListI (x := (n : Int)) (by (first | lia | omega)) hsz (by (first | lia | omega))
theorem np_addList {xs ys : List AV} (hsz : xs.length + ys.length ≤ sizeLine) : NpG prog w .Add (.lst xs) (.lst ys) (.lst (xs ++ ys)) := fun Φ s va vb A E hf ok ⟨l, vs, k, e1, ho', hr⟩ ⟨b, ws, k', e2, hb', hr'⟩ => by
  subst e1 e2
  have ho := hf _ _ ho'
  have hb := hf _ _ hb'
  refine concat_meets ⟨_, ho, rfl⟩ ⟨_, hb, rfl⟩ noFill_list_add seq_list_add PySem.F.slot_list_add PySem.F.entry_list_add (PySem.F.args_list_add_2 _ _) (list_addW l b vs.toArray ws.toArray k k' none none #[] #[] (by rw [List.size_toArray, List.size_toArray, hr.length, hr'.length]; exact hsz)) ⟨ho, hb, ?_⟩
  exact NW.push hf ⟨vs ++ ws, 0, by simp, hr.append hr'⟩
theorem ty_list {xs : List AV} (hsz : xs.length ≤ sizeLine) : TyN prog w "list" [.lst xs] (.lst xs) := fun Φ s vs A E hf ok hr => by
  obtain ⟨v, rfl, a, us, n, rfl, ho, hu⟩ := hr.one
  exact call_list_seq (hsz := by rw [List.size_toArray, hu.length]; exact hsz) a (.inl rfl) (hf _ _ ho) rfl rfl fun h' c' hk hn => NW.at hf ⟨us, c', rfl, hu⟩ hk hn

theorem bl_len {xs : List AV} (hsz : xs.length ≤ 10000000) : BlG prog w "len" [.lst xs] (.int (xs.length : Nat)) := fun Φ s vs A E hf ok hr => by
  obtain ⟨v, rfl, a, us, n, rfl, ho, hu⟩ := hr.one
  refine PySem.Calls.call_len_list (isList_of (hf _ _ ho)) (by rw [List.size_toArray, hu.length]; (first | lia | omega)) ⟨Keeps.tok _, s.toks + 1, by rw [List.size_toArray, hu.length]⟩
end
end Kx
end

section -- J15
open PySem PySem.W PyProof.Rows
set_option Elab.async false
set_option maxRecDepth 100000
set_option linter.unusedVariables false
namespace Kx
section
variable {prog : Program} {w : World} {hB : Heap} {K : Frag} {D : Nat} {env : Env} {ns ns' : List (Str × NameKind)} {vals vals' : List (Option AV)} {own own' : List (Addr × MO)} {ε : Ent} {s₀ s s' : Shared} {Φ : FH}
variable {Q Q' : Flw → List (Option AV) → List (Addr × MO) → Prop}

theorem Ev.globN {x : Str} {pos : Pos} {i : Nat} {k : Int} {t : Tok} {n : Nat} (G : GH K hB) (hx : At ns i (x, .globalImplicit)) (e : nsIn K mainGlobals x = some (some (.int k t))) (hn : k = (n : Int)) (hd : (x == ("__debug__" : Str)) = false := by rfl) :
    Ev prog w hB D env ns vals own (.Name x pos) (.int (n : Int)) := Ev.glob G hx e (fun _ _ => ⟨t, by rw [hn]⟩) hd
theorem Ev.globR {x : Str} {pos : Pos} {i : Nat} {a : Addr} (G : GH K hB) (hx : At ns i (x, .globalImplicit)) (e : nsIn K mainGlobals x = some (some (.ref a))) (hd : (x == ("__debug__" : Str)) = false := by rfl) :
    Ev prog w hB D env ns vals own (.Name x pos) (.ref a) := Ev.glob G hx e (fun _ _ => rfl) hd
theorem Ev.bltT {x : Str} {pos : Pos} {i : Nat} {T : String} (G : GH K hB) (hx : At ns i (x, .globalImplicit)) (e : nsIn K mainGlobals x = some Option.none) (hb : bootBuiltins x = some (.type T)) (hn : x ≠ "__name__") (hd : (x == ("__debug__" : Str)) = false := by rfl) :
    Ev prog w hB D env ns vals own (.Name x pos) (.typ T) := Ev.blt G hx e hb hn (fun _ => rfl) hd
theorem Ev.bltB {x : Str} {pos : Pos} {i : Nat} {T : String} (G : GH K hB) (hx : At ns i (x, .globalImplicit)) (e : nsIn K mainGlobals x = some Option.none) (hb : bootBuiltins x = some (.builtin T)) (hn : x ≠ "__name__") (hd : (x == ("__debug__" : Str)) = false := by rfl) :
    Ev prog w hB D env ns vals own (.Name x pos) (.blt T) := Ev.blt G hx e hb hn (fun _ => rfl) hd

theorem EvIt.range1 {x : Str} {p pos : Pos} {e : Expr} {n : Nat} (hf : Ev prog w hB (D + 1) env ns vals own (.Name x p) (.typ "range")) (h : Ev prog w hB (D + 1) env ns vals own e (.int (n : Int))) (hn : n < 2 ^ 60) (he : ∀ env, starEach [e] env = (false, eval e env) :: starEach [] env := by intro _; rfl) :
    EvIt prog w hB (D + 1) env ns vals own (.Call (.Name x p) [e] [] pos) ((List.range n).map fun i : Nat => AV.int (i : Int)) := EvIt.rng0 (Ev.callTy hf (EvL.cons h EvL.nil (he _)) ty_range1) hn
theorem EvIt.range3 {x : Str} {p pos : Pos} {e f g : Expr} {a b c : Nat} (hf : Ev prog w hB (D + 1) env ns vals own (.Name x p) (.typ "range")) (h : Ev prog w hB (D + 1) env ns vals own e (.int (a : Int))) (h' : Ev prog w hB (D + 1) env ns vals own f (.int (b : Int))) (h'' : Ev prog w hB (D + 1) env ns vals own g (.int (c : Int)))
    (ha : a < 2 ^ 60) (hb : b < 2 ^ 60) (hc : 0 < c) (hc' : c < 2 ^ 60)
    (he : ∀ env, starEach [e, f, g] env = (false, eval e env) :: starEach [f, g] env := by intro _; rfl) (he' : ∀ env, starEach [f, g] env = (false, eval f env) :: starEach [g] env := by intro _; rfl) (he'' : ∀ env, starEach [g] env = (false, eval g env) :: starEach [] env := by intro _; rfl) :
    EvIt prog w hB (D + 1) env ns vals own (.Call (.Name x p) [e, f, g] [] pos) ((List.range ((b - a + c - 1) / c)).map fun i : Nat => AV.int ((a + i * c : Nat) : Int)) :=
  EvIt.rngN (Ev.callTy hf (EvL.cons h (EvL.cons h' (EvL.cons h'' EvL.nil (he'' _)) (he' _)) (he _)) (ty_range3 (by (first | lia | omega)) (log2_lt (n := 61) (by (first | lia | omega)) (by (first | lia | omega))))) ha hb hc hc'
where
  log2_lt {c n : Nat} (h : c < 2 ^ n) (hn : n < 9000) : ((c : Int).natAbs).log2 < 9000 := by
    rw [Int.natAbs_natCast]
    rcases Nat.eq_zero_or_pos c with rfl | hp
    · decide
    · exact Nat.lt_trans ((Nat.log2_lt (Nat.ne_of_gt hp)).mpr h) hn

theorem Then.next {rest : List Stmt} {v : List (Option AV)} {o : List (Addr × MO)} (h : Ex prog w hB D ε env ns rest v o Q) : Then prog w hB D ε env ns rest Q .next v o := h
noncomputable def IL (l : List Nat) : List AV := l.map fun n : Nat => AV.int (n : Int)
theorem IL_length {l : List Nat} : (IL l).length = l.length := List.length_map ..
theorem IL_get {l : List Nat} {i : Nat} (h : i < l.length) : (IL l)[i]? = some (AV.int ((l.getD i 0 : Nat) : Int)) := by
  unfold IL
  rw [List.getElem?_map, List.getElem?_eq_getElem h, List.getD_eq_getElem?_getD, List.getElem?_eq_getElem h]; rfl
theorem IL_get' {l : List Nat} {i : Nat} (h : i < l.length) : (IL l)[((i : Nat) : Int).toNat]? = some (AV.int ((l.getD i 0 : Nat) : Int)) := IL_get h
theorem IL_set {l : List Nat} {i n : Nat} : (IL l).set i (.int (n : Int)) = IL (l.set i n) := by unfold IL; rw [List.map_set]
theorem IL_append {l m : List Nat} : IL l ++ IL m = IL (l ++ m) := by unfold IL; rw [List.map_append]
theorem IL_one {n : Nat} : [AV.int (n : Int)] = IL [n] := rfl
theorem IL_rep {n k : Nat} : (List.replicate k [AV.int (n : Int)]).flatten = IL (List.replicate k n) := by
  unfold IL
  induction k with
  | zero => rfl
  | succ k ih => rw [List.replicate_succ, List.flatten_cons, ih, List.replicate_succ, List.map_cons]; rfl
theorem IL_scal {l : List Nat} : ∀ x ∈ IL l, Scal x = true := fun x hx => by
  obtain ⟨n, _, rfl⟩ := List.mem_map.mp hx; rfl
theorem Ev.itemN {v sl : Expr} {pos : Pos} {av : AV} {l : List Nat} {k : Nat} (hv : Ev prog w hB D env ns vals own v av) (hl : LV own av (IL l)) (hi : Ev prog w hB D env ns vals own sl (.int (k : Int))) (hk : k < l.length) (hz : l.length ≤ 2 ^ 62)
    (hs : ∀ o i, subscripted sl false o i = operate [o, i] (getItem o i) := by intro _ _; rfl) : Ev prog w hB D env ns vals own (.Subscript v sl pos) (.int ((l.getD k 0 : Nat) : Int)) :=
  Ev.item hv hl hi (by (first | lia | omega)) (by (first | lia | omega)) (IL_get' hk) hs
theorem mulL {a : Nat} {b : Int} (h : a < 2 ^ 64) : IntMulOk (a : Int) b := IntMulOk.of_left (intBits_le_64 (by (first | lia | omega)) (by (first | lia | omega)))
theorem mulR {a : Int} {b : Nat} (h : b < 2 ^ 64) : IntMulOk a (b : Int) := IntMulOk.of_right (intBits_le_64 (by (first | lia | omega)) (by (first | lia | omega)))
theorem St.forR {x : Str} {p pos : Pos} {e : Expr} {body : List Stmt} {ix : Nat} {k : NameKind} {n : Nat} {f : Nat → AV} (Inv : Nat → List (Option AV) → List (Addr × MO) → Prop)
    (hit : EvIt prog w hB D env ns vals own e ((List.range n).map f)) (hx : At ns ix (x, k)) (hk : k = .local ∨ k = .cell) (h0 : Inv 0 vals own) (hlen : ∀ i v o, Inv i v o → ix < v.length)
    (hstep : ∀ i v o rw, i < n → Inv i v o → Ex prog w hB D ε env ns body (v.set ix (some (f i))) (o ++ rw) (fun fl v' o' => ∃ o'', o' = o'' ++ rw ∧ match fl with | .next => Inv (i + 1) v' o'' | .ret a => Q (.ret a) v' o''))
    (hdone : ∀ v o, Inv n v o → Q .next v o) (hs : ∀ x, foldedSetIterable e env x = pure x := by intro _; rfl) :
    St prog w hB D ε env ns (.For (.Name x p) e body [] pos) vals own Q :=
  St.for Inv hit hx hk h0 hlen (fun i av v o rw hi h => by
    rw [List.getElem?_map] at hi
    obtain ⟨j, hj, rfl⟩ := Option.map_eq_some_iff.mp hi
    obtain ⟨hlt, e⟩ := List.getElem?_eq_some_iff.mp hj
    rw [List.getElem_range] at e
    subst e
    exact hstep i v o rw (by simpa using hlt) h) (fun v o h => hdone v o (by simpa using h)) hs
theorem sg_listN {xs : List AV} {k : Nat} {v : AV} (h1 : k < xs.length) (h2 : xs.length ≤ 2 ^ 62) : SetG prog w (.int (k : Int)) (.lst xs) v (.lst (xs.set k v)) := sg_list (by (first | lia | omega)) (by (first | lia | omega)) (by (first | lia | omega))
theorem sg_IL {l : List Nat} {k n : Nat} (h1 : k < l.length) (h2 : l.length ≤ 2 ^ 62) : SetG prog w (.int (k : Int)) (.lst (IL l)) (.int (n : Int)) (.lst (IL (l.set k n))) := by
  have := sg_listN (prog := prog) (w := w) (xs := IL l) (k := k) (v := .int (n : Int)) (by rw [IL_length]; exact h1) (by rw [IL_length]; exact h2)
  rw [IL_set] at this; exact this
end
end Kx
end

section -- J16
open PySem PySem.W PyProof.Rows
set_option Elab.async false
set_option maxRecDepth 100000
set_option linter.unusedVariables false
namespace Kx
section
variable {prog : Program} {w : World} {hB : Heap} {K : Frag} {D : Nat} {env : Env} {ns ns' : List (Str × NameKind)} {vals vals' : List (Option AV)} {own own' : List (Addr × MO)} {ε : Ent} {s₀ s s' : Shared} {Φ : FH}
variable {f : Addr} {name qual : Str} {as : List Arg} {body : List Stmt} {more : List (Str × Const)} {pm cdv ct oc : Value} {od : Option Addr} {osl : Array (Option Value)} {args : List AV} {nz : Nat}

theorem interactive_ok (ok : EnvOk env ns) : interactive env = false := by unfold interactive; rw [ok.kind]; rfl
theorem EnvOk.open {P : Env → Prop} (ok : EnvOk env ns) (h : ∀ (g c m l gl ce q fu co fr bu), P { scope := { kind := .function, names := ns, isGenerator := g, isCoroutine := c, more := m }, locals := l, globals := gl, cells := ce, qual := q, func := fu, code := co, frame := fr, builtins := bu }) : P env := by
  obtain ⟨scope, l, gl, ce, q, fu, co, fr, bu⟩ := env
  obtain ⟨kd, nm, g, c, m⟩ := scope
  have h1 := ok.names
  have h2 := ok.kind
  simp only at h1 h2
  subst h1 h2
  exact h _ _ _ _ _ _ _ _ _ _ _

theorem frame_ok {L : Addr} (h : namesOk ns' (as.map (·.arg)) = true) : EnvOk (frameOf name qual as body ns' more pm cdv ct L f) ns' :=
  ⟨rfl, by unfold namesOk at h; simp only [Bool.and_eq_true, decide_eq_true_eq] at h; exact h.1.1, rfl, rfl, rfl⟩

theorem FnP.scalE {res : AV} (G : GH K hB)
    (ho : K.lookup f = some ⟨oc, od, .func (fnOf name qual (parsOf as) body (scopeOf ns' more) .none .none .none pm Option.none cdv ct), osl⟩) (hcd : codeIn K cdv qual = true) (hok : namesOk ns' (as.map (·.arg)) = true) (hl : as.length = args.length)
    (hb : ∀ vs : List Value, vs.length = as.length → bindArgs (fnOf name qual (parsOf as) body (scopeOf ns' more) .none .none .none pm Option.none cdv ct) ⟨vs, []⟩ = pure ((as.map (·.arg)).zip vs)) (hres : Scal res = true)
    (h : ∀ ε env, EnvOk env ns' → Ex prog w hB D ε env ns' body (initVals nz args) [] (fun fl _ _ => fl = .ret res)) : FnP prog w hB (D + 1) f args res :=
  FnP.scalK G ho hcd hok hl hb hres fun ε L => h ε _ (frame_ok hok)
theorem FnN.flatE {xs : List AV} (G : GH K hB)
    (ho : K.lookup f = some ⟨oc, od, .func (fnOf name qual (parsOf as) body (scopeOf ns' more) .none .none .none pm Option.none cdv ct), osl⟩) (hcd : codeIn K cdv qual = true) (hok : namesOk ns' (as.map (·.arg)) = true) (hl : as.length = args.length)
    (hb : ∀ vs : List Value, vs.length = as.length → bindArgs (fnOf name qual (parsOf as) body (scopeOf ns' more) .none .none .none pm Option.none cdv ct) ⟨vs, []⟩ = pure ((as.map (·.arg)).zip vs)) (hres : ∀ x ∈ xs, Scal x = true)
    (h : ∀ ε env, EnvOk env ns' → Ex prog w hB D ε env ns' body (initVals nz args) [] (fun fl _ own => ∃ a, fl = .ret (.ref a) ∧ (a, MO.lst xs) ∈ own)) : FnN prog w hB (D + 1) f args (.lst xs) :=
  FnN.flatK G ho hcd hok hl hb hres fun ε L => h ε _ (frame_ok hok)
variable {Q : Flw → List (Option AV) → List (Addr × MO) → Prop}
theorem ig_addN {a b : Nat} : InG prog w .Add (.int (a : Int)) (.int (b : Int)) (.int ((a + b : Nat) : Int)) := ig_add
theorem ig_mulN {a b : Nat} (h : IntMulOk a b) : InG prog w .Mult (.int (a : Int)) (.int (b : Int)) (.int ((a * b : Nat) : Int)) := by rw [Int.natCast_mul]; exact ig_mul h
theorem natlit {k : Nat} : (@OfNat.ofNat Int k _) = ((@OfNat.ofNat Nat k _ : Nat) : Int) := rfl
theorem Ex.consV {st : Stmt} {rest : List Stmt} (v' : List (Option AV)) (o' : List (Addr × MO)) (h : St prog w hB D ε env ns st vals own (fun fl v o => fl = .next ∧ v = v' ∧ o = o')) (k : Ex prog w hB D ε env ns rest v' o' Q) : Ex prog w hB D ε env ns (st :: rest) vals own Q :=
  Ex.cons (h.conseq fun fl v o ⟨a, b, c⟩ => by subst a b c; exact k)
end
end Kx
end

section -- J17
open PySem PySem.W PyProof.Rows
set_option Elab.async false
set_option maxRecDepth 100000
set_option linter.unusedVariables false
namespace Kx
section
variable {prog : Program} {w : World} {hB : Heap} {K : Frag} {D : Nat} {env : Env} {ns ns' : List (Str × NameKind)} {vals vals' : List (Option AV)} {own own' : List (Addr × MO)} {ε : Ent} {s₀ s s' : Shared} {Φ : FH}

noncomputable def KeepsB (a : Addr) (s s' : Shared) : Prop := ∃ h' tk, s' = { s with heap := h', toks := tk } ∧ ∀ b o, b ≠ a → s.heap.get? b = some o → h'.get? b = some o
theorem KeepsB.keep {a : Addr} (h : KeepsB a s s') : ∀ b o, b ≠ a → s.heap.get? b = some o → s'.heap.get? b = some o := by
  obtain ⟨h', tk, rfl, k⟩ := h; exact k

noncomputable def FnM (prog : Program) (w : World) (hB : Heap) (D : Nat) (f : Addr) (args : List AV) (a : Addr) (mo : MO) (Pq : AV → MO → Prop) : Prop :=
  ∀ (Φ : FH) A s vs o, AOk D A → (∀ b o, hB.get? b = some o → Φ b = some o) → (∀ b o, Φ b = some o → s.heap.get? b = some o) → Φ a = none → s.heap.get? a = some o → MR Φ mo o → Rs Φ args vs →
    codeAny (model prog w) A (.call (.ref f) ⟨vs, []⟩) (fun r s' => ∃ val res mo' o', r = .ok (.ret val) ∧ KeepsB a s s' ∧ s'.heap.get? a = some o' ∧ MR (grow Φ s s') mo' o' ∧ R (grow Φ s s') res val ∧ Pq res mo') s

theorem Rel.enterOwn {P : Addr → Prop} {a : Addr} {o : Obj} {mo : MO} (q : Rel hB ⟨s, P⟩ env ns Φ vals [] s') (ha : Φ a = none) (ho : s.heap.get? a = some o) (hm : MR Φ mo o) : Rel hB ⟨{ s with heap := s.heap.hide a }, P⟩ env ns Φ vals [(a, mo)] s' := by
  obtain ⟨m, cm, I, hv⟩ := q.inn
  have hlt : a < s.heap.objs.size := Heap.lt_size ho
  have hL : s.heap.objs.size ≤ env.locals := I.toInCall.fresh
  refine ⟨q.ok, q.allCells, ⟨m, cm, ⟨⟨?_, I.toInCall.ns, fun b ob e => I.toInCall.keep b ob (Heap.of_hide e), ?_⟩, I.cell, I.apart, I.above⟩, hv⟩, q.base, q.frz, fun b ob e => ?_, q.lo, q.ce, fun b mo' hb => ?_, by simp⟩
  · obtain ⟨h, tk, e⟩ := I.toInCall.same
    exact ⟨h, tk, e⟩
  · show (s.heap.hide a).objs.size ≤ _
    rw [Heap.hide_size]; exact hL
  · rcases q.nw b ob e with h | h
    · exact .inl h
    · refine .inr ?_
      show (s.heap.hide a).get? b = none
      cases e' : (s.heap.hide a).get? b with
      | none => rfl
      | some o' => have := Heap.of_hide e'; rw [show s.heap.get? b = none from h] at this; cases this
  · obtain ⟨rfl, rfl⟩ : b = a ∧ mo' = mo := by simpa using hb
    refine ⟨ha, Heap.hide_self _ _, ?_, fun x c hc => ?_, o, I.toInCall.keep b o ho, hm⟩
    · exact Nat.ne_of_lt (Nat.lt_of_lt_of_le hlt hL)
    · exact Nat.ne_of_lt (Nat.lt_trans (Nat.lt_of_lt_of_le hlt hL) (I.above x c (mem_of_lookup hc)))

inductive FlO (own : List (Addr × MO)) (j : Nat) : Flw → AV → Prop where
  | next : FlO own j .next .none
  | ret {av : AV} : FlO own j (.ret av) av
  | own {b : Addr} {xs : List AV} {i : Nat} (h : At own i (b, .lst xs)) (hne : i ≠ j) : FlO own j (.ret (.ref b)) (.lst xs)

noncomputable def flVal : Flow → Value
  | .ret v => v
  | _ => .none
theorem Rel.leaveOwn {a : Addr} {mo : MO} {j : Nat} {fl : Flw} {f : Flow} {res : AV} {Φ₀ : FH} (q : Rel hB ⟨{ s with heap := s.heap.hide a }, fun b => (Φ₀ b).isSome = true⟩ env ns Φ vals own s') (hle : Le Φ₀ Φ) (hf : ∀ b o, Φ₀ b = some o → s.heap.get? b = some o) (hj : At own j (a, mo)) (ho : ∃ o, s.heap.get? a = some o)
    (hfl : FlR Φ fl f) (hr : FlO own j fl res) : KeepsB a s s' ∧ (∃ o', s'.heap.get? a = some o' ∧ MR (grow Φ₀ s s') mo o') ∧ R (grow Φ₀ s s') res (flVal f) := by
  obtain ⟨h1, h2, h3, h4, o', h5, h6⟩ := q.owns a mo hj.mem
  have Lg : Le Φ (grow Φ₀ s s') := fun b ob e => by
    have hne : b ≠ a := by rintro rfl; rw [h1] at e; cases e
    unfold grow
    rcases q.nw b ob e with h | h
    · obtain ⟨ob', e'⟩ := Option.isSome_iff_exists.mp h
      have := hle b ob' e'
      rw [e] at this; cases this
      rw [if_pos (by rw [hf b ob e']; rfl)]; exact e'
    · have h' : s.heap.get? b = none := by
        have : (s.heap.hide a).get? b = none := h
        rwa [Heap.hide_ne _ hne] at this
      rw [if_neg (by rw [h']; decide)]
      exact q.frz b ob e
  refine ⟨?_, ⟨o', h5, h6.mono Lg⟩, ?_⟩
  · obtain ⟨h', tk, e, k⟩ := q.keeps
    refine ⟨h', tk, e, fun b ob hb eb => k b ob ?_⟩
    show (s.heap.hide a).get? b = some ob
    rw [Heap.hide_ne _ hb]; exact eb
  · cases hr with
    | next => cases hfl; exact rfl
    | ret => obtain ⟨v, rfl, hv⟩ := hfl; exact hv.mono Lg
    | @own b xs i hi hne =>
      obtain ⟨v, rfl, rfl⟩ := hfl
      obtain ⟨g1, g2, g3, g4, ob, g5, us, n, rfl, g6⟩ := q.owns b _ hi.mem
      have hba : b ≠ a := by
        rintro rfl
        refine hne ?_
        have e1 : (own.map (·.1))[i]? = some b := by rw [List.getElem?_map, hi.get]; rfl
        have e2 : (own.map (·.1))[j]? = some b := by rw [List.getElem?_map, hj.get]; rfl
        exact (List.getElem?_inj (List.getElem?_eq_some_iff.mp e1).1 q.ownd).mp (e1.trans e2.symm)
      refine ⟨b, us, n, rfl, ?_, g6.mono Lg⟩
      have g2' : s.heap.get? b = none := by
        have : (s.heap.hide a).get? b = none := g2
        rwa [Heap.hide_ne _ hba] at this
      unfold grow
      rw [if_neg (by rw [g2']; decide)]; exact g5

variable {f : Addr} {name qual : Str} {as : List Arg} {body : List Stmt} {more : List (Str × Const)} {pm cdv ct oc : Value} {od : Option Addr} {osl : Array (Option Value)} {args : List AV} {nz : Nat}
theorem FnM.mk {a : Addr} {mo : MO} {Pq : AV → MO → Prop} (G : GH K hB)
    (ho : K.lookup f = some ⟨oc, od, .func (fnOf name qual (parsOf as) body (scopeOf ns' more) .none .none .none pm Option.none cdv ct), osl⟩) (hcd : codeIn K cdv qual = true) (hok : namesOk ns' (as.map (·.arg)) = true) (hl : as.length = args.length)
    (hb : ∀ vs : List Value, vs.length = as.length → bindArgs (fnOf name qual (parsOf as) body (scopeOf ns' more) .none .none .none pm Option.none cdv ct) ⟨vs, []⟩ = pure ((as.map (·.arg)).zip vs))
    (h : ∀ ε env, EnvOk env ns' → Ex prog w hB D ε env ns' body (initVals nz args) [(a, mo)] (fun fl _ own => ∃ j mo' res, At own j (a, mo') ∧ FlO own j fl res ∧ Pq res mo')) : FnM prog w hB (D + 1) f args a mo Pq := fun Φ₀ A s vs o hA hb0 hf hna hoa hmo hr => by
  have hbs : ∀ b ob, hB.get? b = some ob → s.heap.get? b = some ob := fun b ob e => hf b ob (hb0 b ob e)
  refine enter (nz := nz) (P := fun b => (Φ₀ b).isSome = true) (Φ₀ := Φ₀) G (defOk_of hok) hA (hbs _ _ (defIn G ho hcd).1) rfl ((defIn G ho hcd).2.keeps hbs) rfl (by simpa using hl) hbs (binds_ok (by simpa using hr.length.trans hl.symm) hb) hr hb0 hf (fun b ob e => by rw [e]; rfl) fun s₁ env he q hA' => ?_
  subst he
  refine wpAny_mono (h _ _ (frame_ok hok) _ s₁ (q.enterOwn hna hoa hmo) _ _ hA') (fun fl s' h' => ?_) fun _ _ e => e
  obtain ⟨Φ', vals', own', fl', hle, q', hfl, j, mo', res, hj, hres, hP⟩ := h'
  obtain ⟨k, ⟨o', ho', hm'⟩, hR⟩ := q'.leaveOwn hle hf hj ⟨o, hoa⟩ hfl hres
  refine ⟨_, res, mo', o', rfl, k, ho', hm', ?_, hP⟩
  cases fl <;> exact hR

theorem Rel.mut {a : Addr} {j : Nat} {mo mo' : MO} {o' : Obj} (q : Rel hB ε env ns Φ vals own s) (k : KeepsB a s s') (hj : At own j (a, mo)) (hs : SetAt own j (a, mo') own') (ho : s'.heap.get? a = some o') (hm : MR (grow Φ s s') mo' o') : Rel hB ε env ns (grow Φ s s') vals own' s' := by
  obtain ⟨h', tk, rfl, kk⟩ := k
  obtain ⟨m, cm, I, hv⟩ := q.inn
  obtain ⟨f1, f2, f3, f4, of, f5, fr⟩ := q.owns a mo hj.mem
  have old : ∀ b ob, s.heap.get? b = some ob → grow Φ s { s with heap := h', toks := tk } b = Φ b := fun b ob e => by unfold grow; rw [if_pos (by rw [e]; rfl)]
  refine ⟨q.ok, q.allCells, ⟨m, cm, ⟨⟨?_, ?_, fun b o e => ?_, I.toInCall.fresh⟩, fun x c hc => ?_, I.apart, I.above⟩, fun i x kd av e f => let ⟨v, x, y⟩ := hv i x kd av e f; ⟨v, x, y.mono (grow_le q.frz)⟩⟩, fun b o e => grow_le q.frz b o (q.base b o e), fun b o e => ?_, fun b o e => ?_, ?_, fun x c hc => ?_, fun b mo₁ hb => ?_, ?_⟩
  · obtain ⟨h₁, tk₁, e⟩ := I.toInCall.same
    exact ⟨h', tk, by rw [e]⟩
  · exact I.toInCall.ns.at' fun o e => kk _ o (Ne.symm f3) e
  · exact kk b o (by rintro rfl; rw [f2] at e; cases e) (I.toInCall.keep b o e)
  · obtain ⟨o, ho, hd⟩ := I.cell x c hc
    exact ⟨o, kk c o (Ne.symm (f4 x c hc)) ho, hd⟩
  · unfold grow at e
    split at e
    · exact kk b o (by rintro rfl; rw [f1] at e; cases e) (q.frz b o e)
    · exact e
  · unfold grow at e
    split at e
    · exact q.nw b o e
    · rename_i hn
      refine .inr ?_
      cases e' : ε.s.heap.get? b with
      | none => rfl
      | some o' => exact absurd (by rw [I.toInCall.keep b o' e']; rfl) hn
  · obtain ⟨o, _, _, ho, _⟩ := I.toInCall.ns
    rw [old _ _ ho]; exact q.lo
  · obtain ⟨o, ho, _⟩ := I.cell x c hc
    rw [old _ _ ho]; exact q.ce x c hc
  · rcases hs.mem hj hb with e | ⟨i, hne, e⟩
    · cases e
      exact ⟨by rw [old _ _ f5]; exact f1, f2, f3, f4, o', ho, hm⟩
    · obtain ⟨g1, g2, g3, g4, ob, g5, gr⟩ := q.owns b mo₁ (List.mem_of_getElem? e)
      refine ⟨by rw [old _ _ g5]; exact g1, g2, g3, g4, ob, kk b ob ?_ g5, gr.mono (grow_le q.frz)⟩
      rintro rfl
      refine hne ?_
      have e1 : (own.map (·.1))[i]? = some b := by rw [List.getElem?_map, e]; rfl
      have e2 : (own.map (·.1))[j]? = some b := by rw [List.getElem?_map, hj.get]; rfl
      exact (List.getElem?_inj (List.getElem?_eq_some_iff.mp e1).1 q.ownd).mp (e1.trans e2.symm)
  · rw [hs.map hj rfl]; exact q.ownd

theorem EvS.callM {x : Str} {p pos : Pos} {es : List Expr} {f a : Addr} {j : Nat} {avs : List AV} {mo : MO} {Pq : AV → MO → Prop} {P : AV → List (Addr × MO) → Prop} {D' : Nat} (G : GH K hB) (hk : keepIn K (.ref f) = true) (hf : Ev prog w hB D env ns vals own (.Name x p) (.ref f))
    (hes : EvL prog w hB D env ns vals own es avs) (hj : At own j (a, mo)) (F : FnM prog w hB D' f avs a mo Pq) (hd : D' ≤ D) (hP : ∀ res mo', Pq res mo' → ∃ own', SetAt own j (a, mo') own' ∧ P res own') :
    EvS prog w hB D ε env ns vals own (.Call (.Name x p) es [] pos) P := fun Φ s q A E ok => by
  refine Call_Name_ (wpAny_mono (hf Φ s q.toR A E ok) (fun v s₁ h₁ => ?_) fun _ _ e => e)
  obtain ⟨k₁, rfl⟩ := h₁
  have q₁ := q.step k₁
  refine callWith_fn hk (hes.1 pos) (wpAny_mono (hes.2 _ s₁ q₁.toR A E pos ok) (fun vs s₂ h₂ => ?_) fun _ _ e => e)
  have q₂ := q₁.step h₂.1
  obtain ⟨f1, f2, f3, f4, o, f5, fr⟩ := q₂.owns a mo hj.mem
  refine ⟨fun b ob e => q₂.toR.base' _ _ (G.kin b ob e), wpAny_call (codeAny_mono (F _ A s₂ vs o (ok.le hd) q₂.base q₂.frz f1 f5 fr h₂.2) fun r s₃ h₃ => ?_)⟩
  obtain ⟨val, res, mo', o', rfl, k, ho', hm', hR, hp⟩ := h₃
  obtain ⟨own', hs, hp'⟩ := hP res mo' hp
  exact ⟨_, res, own', ((grow_le q.frz).trans (grow_le q₁.frz)).trans (grow_le q₂.frz), q₂.mut k hj hs ho' hm', hR, hp'⟩
end
end Kx
end

section -- J18
open PySem PySem.W PyProof.Rows
set_option Elab.async false
set_option maxRecDepth 100000
set_option linter.unusedVariables false
namespace Kx
section
variable {prog : Program} {w : World} {hB : Heap} {K : Frag} {D : Nat} {env : Env} {ns ns' : List (Str × NameKind)} {vals vals' : List (Option AV)} {own own' : List (Addr × MO)} {ε : Ent} {s₀ s s' : Shared} {Φ : FH}
variable {Q : Flw → List (Option AV) → List (Addr × MO) → Prop}

theorem AOk.make {A : Around} {C : Addr} {rest : List Value} (h : AOk (D + 1) A) : AOk D (A.under (.builtin "type.__call__" ⟨.ref C :: rest, []⟩)) := by
  have hw : (Code.builtin "type.__call__" ⟨.ref C :: rest, []⟩).weight = 1 := by kernel_rfl
  have hu : (Code.builtin "type.__call__" ⟨.ref C :: rest, []⟩).cUnits = 1 := by kernel_rfl
  refine ⟨h.handled, ?_, ?_⟩
  · have := h.depth; show A.depth + Code.weight _ + D < _; rw [hw]; (first | lia | omega)
  · have := h.units; show A.units + Code.cUnits _ + 10 * D < _; rw [hu]; (first | lia | omega)

noncomputable def FnI (prog : Program) (w : World) (hB : Heap) (D : Nat) (C f : Addr) (args : List AV) (names : List Str) (xs : List AV) : Prop :=
  ∀ dx, FnM prog w hB D f (.inst C dx :: args) dx (.ins [] []) (fun res mo => res = .none ∧ mo = .ins names xs)

theorem Ev.cls {x : Str} {p pos : Pos} {es : List Expr} {C f : Addr} {avs : List AV} {names : List Str} {xs : List AV} {D' : Nat} (G : GH K hB) (hk : keepIn K (.ref C) = true) (hm : makesIn K C = true) (hi : findIn K (.ref C) "__init__" = some (some (.ref f))) (ht : typeIn K (.ref f) = some (.type "function"))
    (hf : Ev prog w hB D env ns vals own (.Name x p) (.ref C)) (hes : EvL prog w hB D env ns vals own es avs) (F : FnI prog w hB D' C f avs names xs) (hd : D' + 1 ≤ D) : Ev prog w hB D env ns vals own (.Call (.Name x p) es [] pos) (.obj C names xs) := fun Φ s q A E ok => by
  refine Call_Name_ (wpAny_mono (hf Φ s q A E ok) (fun v s₁ h₁ => ?_) fun _ _ e => e)
  obtain ⟨k₁, rfl⟩ := h₁
  have q₁ := q.step k₁
  refine callWith_fn hk (hes.1 pos) (wpAny_mono (hes.2 _ s₁ q₁ A E pos ok) (fun vs s₂ h₂ => ?_) fun _ _ e => e)
  have q₂ := q₁.step h₂.1
  have X : K.In s₂.heap := fun a o e => q₂.base' _ _ (G.kin a o e)
  refine ⟨X, wpAny_call ?_⟩
  have hargs := h₂.2
  have hfr := q₂.frz
  have hbs := q₂.base
  have k₂ := h₂.1
  clear h₂
  generalize hΦ : grow (grow Φ s s₁) s₁ s₂ = Φ₂ at hargs hfr hbs
  obtain ⟨hh, g, d, t, os⟩ := s₂
  refine make_core (makes_of X hm) (looks_findIn X hi) (fun self => bind_fn X self ht) (.inl rfl) ?_
  have kp : ∀ b o, hh.get? b = some o → ((hh.push emptyDict).push (instObj C hh.objs.size)).get? b = some o := fun b o e => Heap.get?_push_of_some _ (Heap.get?_push_of_some _ e)
  have hdx : ((hh.push emptyDict).push (instObj C hh.objs.size)).get? hh.objs.size = some emptyDict := Heap.get?_push_of_some _ (Heap.get?_push_size _ rfl)
  have hx : ((hh.push emptyDict).push (instObj C hh.objs.size)).get? (hh.objs.size + 1) = some (instObj C hh.objs.size) := by
    have := Heap.get?_push_size (hh.push emptyDict) (o := instObj C hh.objs.size) rfl
    rwa [Heap.size_push] at this
  have hne : hh.objs.size + 1 ≠ hh.objs.size := Nat.succ_ne_self _
  have hnx : hh.get? (hh.objs.size + 1) = none := by
    cases e : hh.get? (hh.objs.size + 1) with
    | none => rfl
    | some o => have := Heap.lt_size e; exact absurd this (Nat.not_lt.mpr (Nat.le_succ _))
  have hΦn : ∀ b, hh.get? b = none → Φ₂ b = none := fun b hn => by
    cases e : Φ₂ b with
    | none => rfl
    | some o => have := hfr b o e; rw [show hh.get? b = none from hn] at this; cases this
  -- the frozen part for the call
  let Ψ : FH := fun b => if b = hh.objs.size + 1 then some (instObj C hh.objs.size) else Φ₂ b
  have hle : Le Φ₂ Ψ := fun b o e => by
    show (if b = _ then _ else _) = _
    rw [if_neg (by rintro rfl; rw [hΦn _ hnx] at e; cases e)]; exact e
  refine codeAny_mono (F hh.objs.size Ψ (A.under (.builtin "type.__call__" ⟨.ref C :: vs, []⟩)) ⟨(hh.push emptyDict).push (instObj C hh.objs.size), g, d, t, os⟩ (.ref (hh.objs.size + 1) :: vs) emptyDict ((ok.le hd).make) (fun b o e => hle _ _ (hbs b o e)) (fun b o e => ?_) ?_ hdx ⟨[], [], 0, rfl, trivial, trivial⟩ ⟨⟨_, rfl, if_pos rfl⟩, hargs.mono hle⟩) fun r s₃ h₃ => ?_
  · have e' : (if b = hh.objs.size + 1 then some (instObj C hh.objs.size) else Φ₂ b) = some o := e
    split at e'
    · rename_i hb; subst hb; cases e'; exact hx
    · exact kp b o (hfr b o e')
  · show (if hh.objs.size = hh.objs.size + 1 then _ else _) = none
    rw [if_neg (Ne.symm hne)]; exact hΦn _ (get_size _)
  · obtain ⟨val, res, mo', o', rfl, k, ho', hm', hR, rfl, rfl⟩ := h₃
    refine ⟨hR, ?_⟩
    obtain ⟨es', us, n, rfl, hes', hrs⟩ := hm'
    have k2 : Keeps ⟨hh, g, d, t, os⟩ s₃ := by
      obtain ⟨h', tk, rfl, kk⟩ := k
      exact ⟨h', tk, rfl, fun b o e => kk b o (Nat.ne_of_lt (Heap.lt_size e)) (kp b o e)⟩
    refine fin k₁ (fin k₂ ⟨k2, hh.objs.size + 1, hh.objs.size, es', us, n, rfl, ?_, ?_, hes', hrs.mono fun b o e => ?_⟩)
    · unfold grow
      rw [if_neg (by show ¬ (hh.get? _).isSome = true; rw [hnx]; decide)]
      exact k.keep _ _ hne hx
    · unfold grow
      rw [if_neg (by show ¬ (hh.get? _).isSome = true; rw [get_size]; decide)]
      exact ho'
    · rw [hΦ]
      unfold grow at e ⊢
      split at e
      · have e' : (if b = hh.objs.size + 1 then some (instObj C hh.objs.size) else Φ₂ b) = some o := e
        split at e'
        · rename_i hb; subst hb; cases e'
          rw [if_neg (by show ¬ (hh.get? _).isSome = true; rw [hnx]; decide)]
          exact k.keep _ _ hne hx
        · rw [if_pos (by show (hh.get? _).isSome = true; rw [show hh.get? b = some o from hfr b o e']; rfl)]; exact e'
      · rename_i hn
        rw [if_neg (fun hs => hn ?_)]
        · exact e
        · obtain ⟨ob, hob⟩ := Option.isSome_iff_exists.mp hs
          rw [kp b ob hob]; rfl
end
end Kx
end

section -- J19
open PySem PySem.W PyProof.Rows
set_option Elab.async false
set_option maxRecDepth 100000
set_option linter.unusedVariables false
namespace Kx
section
variable {prog : Program} {w : World} {hB : Heap} {K : Frag} {D : Nat} {env : Env} {ns ns' : List (Str × NameKind)} {vals vals' : List (Option AV)} {own own' : List (Addr × MO)} {ε : Ent} {s₀ s s' : Shared} {Φ : FH}
variable {Q : Flw → List (Option AV) → List (Addr × MO) → Prop}

theorem EsAre.snoc : ∀ {names : List Str} {es : List DictEntry} {vs : List Value} {x : Str} {v : Value} {h : Int} {t : Tok}, EsAre names es vs → EsAre (names ++ [x]) (es ++ [⟨h, .str x t, v⟩]) (vs ++ [v])
  | [], [], [], _, _, _, t, _ => ⟨⟨t, rfl⟩, rfl, trivial⟩
  | [], _ :: _, _, _, _, _, _, h => h.elim
  | [], [], _ :: _, _, _, _, _, h => h.elim
  | n :: ns, [], _, _, _, _, _, h => h.elim
  | n :: ns, _ :: _, [], _, _, _, _, h => h.elim
  | n :: ns, e :: es, v :: vs, x, u, h, t, hh => ⟨hh.1, hh.2.1, EsAre.snoc hh.2.2⟩
theorem EsAre.length : ∀ {names : List Str} {es : List DictEntry} {vs : List Value}, EsAre names es vs → es.length = names.length
  | [], [], [], _ => rfl
  | [], _ :: _, _, h => h.elim
  | [], [], _ :: _, h => h.elim
  | n :: ns, [], _, h => h.elim
  | n :: ns, _ :: _, [], h => h.elim
  | n :: ns, e :: es, v :: vs, h => by rw [List.length_cons, List.length_cons, EsAre.length h.2.2]
theorem putName_new {names : List Str} {es : List DictEntry} {vs : List Value} {x : Str} {h : Int} {key v : Value} {n : Nat} (he : EsAre names es vs) (hx : x ∉ names) :
    Obj.putName x h key v (dictOf es n) = dictOf (es ++ [⟨h, key, v⟩]) (n + 1) := by
  have hf := (he.miss hx).1
  have hi : es.findIdx? (·.key.isStr x) = none := by
    rw [List.findIdx?_eq_none_iff]
    intro e hm
    have := List.find?_eq_none.mp hf e hm
    simpa using this
  show Obj.putName x h key v ⟨_, _, .dict es.toArray n, _⟩ = _
  simp only [Obj.putName_eq, Obj.putNameByArray, List.findIdx?_toArray, hi]
  show (⟨_, _, .dict (es.toArray.push _) (n + 1), _⟩ : Obj) = ⟨_, _, .dict (es ++ [_]).toArray (n + 1), _⟩
  simp

theorem St.setAttr {o value : Expr} {name : Str} {p pos : Pos} {C dx : Addr} {j : Nat} {names : List Str} {xs : List AV} {av : AV} (G : GH K hB) (hs : findIn K (.ref C) "__setattr__" = some (some (.builtin "object.__setattr__"))) (hp : plainOver K C = true)
    (ht : takerIn K C name = some none) (hh : hasDictIn K C = true) (hv : Ev prog w hB D env ns vals own value av) (ho : Ev prog w hB D env ns vals own o (.inst C dx)) (hj : At own j (dx, .ins names xs)) (hn : names.contains name = false) (hz : names.length ≤ 100)
    (hset : SetAt own j (dx, .ins (names ++ [name]) (xs ++ [av])) own') (kq : Q .next vals own') (hsw : swapsWith value (some (.Attribute o name p)) pos.line env = pure false := by rfl) :
    St prog w hB D ε env ns (.Assign [.Attribute o name p] value pos) vals own Q := fun Φ s q A E ok => by
  refine plainObj_wpAny_Assign_Attribute (wpAny_mono (hv Φ s q.toR A E ok) (fun v s₁ h₁ => ?_) fun _ _ e => e) hsw
  have q₁ := q.step h₁.1
  refine wpAny_mono (ho _ s₁ q₁.toR A E ok) (fun ov s₂ h₂ => ?_) fun _ _ e => e
  have q₂ := q₁.step h₂.1
  obtain ⟨k₂, x, rfl, hx'⟩ := h₂
  have hx := q₂.frz _ _ hx'
  obtain ⟨f1, f2, f3, f4, ob, D₀, es, vs, n, rfl, hes, hrs⟩ := q₂.owns dx _ hj.mem
  have X : K.In s₂.heap := fun a o e => q₂.toR.base' _ _ (G.kin a o e)
  have hnm : name ∉ names := by simpa using hn
  have I : InstAt s₂.heap x (instObj C dx) C (some (dictOf es n)) := ⟨hx, rfl, rfl, D₀⟩
  refine set_plain X I hs ?_
  have k₃ : Keeps s₂ { s₂ with toks := s₂.toks + 1 } := Keeps.tok _
  have q₃ := q₂.step k₃
  have hv₃ := (h₁.2.mono (grow_le q₁.frz)).mono (grow_le (s' := { s₂ with toks := s₂.toks + 1 }) q₂.frz)
  have hle₃ : Le Φ (grow (grow (grow Φ s s₁) s₁ s₂) s₂ { s₂ with toks := s₂.toks + 1 }) := ((grow_le q.frz).trans (grow_le q₁.frz)).trans (grow_le q₂.frz)
  have hrs := hrs.mono (grow_le (s' := { s₂ with toks := s₂.toks + 1 }) q₂.frz)
  generalize grow (grow (grow Φ s s₁) s₁ s₂) s₂ { s₂ with toks := s₂.toks + 1 } = Φ₃ at q₃ hv₃ hle₃ hrs
  have X : K.In ({ s₂ with toks := s₂.toks + 1 } : Shared).heap := X
  have I : InstAt ({ s₂ with toks := s₂.toks + 1 } : Shared).heap x (instObj C dx) C (some (dictOf es n)) := I
  have hx : ({ s₂ with toks := s₂.toks + 1 } : Shared).heap.get? x = some (instObj C dx) := hx
  have D₀ : ({ s₂ with toks := s₂.toks + 1 } : Shared).heap.get? dx = some (dictOf es n) := D₀
  generalize s₂.toks = tk at *
  generalize ({ s₂ with toks := tk + 1 } : Shared) = S at *
  refine osa_open X I hp ht fun b => ?_
  obtain ⟨cd, hc, hd'⟩ := any_some hh
  refine wpAny_bind (wpAny_pure (wpAny_bind (wpAny_bind (wpAny_loadPart hx (wpAny_bind ((looks_clsIn X hc).here ?_))))))
  rw [hd']
  refine wpAny_pure (a := some dx) (wpAny_bind (wpAny_pure (wpAny_bind ?_)))
  unfold nsSet
  refine wpAny_bind (wpAny_bind (wpAny_askSetting (wpAny_pure (wpAny_bind (wpAny_mkText (wpAny_bind (wpAny_loadPart D₀ ?_)))))))
  dsimp only
  have c : (!es.toArray.any (·.key.isStr name) && es.toArray.any (·.refKey)) = false := by
    rw [← Array.any_toList, ← Array.any_toList]
    show (_ && es.any _) = false
    rw [(hes.miss hnm).2, Bool.and_false]
  rw [aRefKeyMayBeTheName_at, c]
  refine wpAny_updatePart D₀ ?_
  have D' : (S.heap.update dx (Obj.putName name (PyData.keyHash w.params name) (.str name S.toks) v)).get? dx = some (dictOf (es ++ [⟨PyData.keyHash w.params name, .str name S.toks, v⟩]) (n + 1)) := by
    have e := putName_new (h := PyData.keyHash w.params name) (key := .str name S.toks) (v := v) (n := n) hes hnm
    have := Heap.get?_update_self (Obj.putName name (PyData.keyHash w.params name) (.str name S.toks) v) D₀ (by rw [e]; rfl)
    rw [this, e]
  refine wpAny_bind (wpAny_lookBehind D' (pastItsLine_dict (by rw [List.size_toArray, List.length_append, hes.length, sizeLine_eq]; simp only [List.length_cons, List.length_nil]; (first | lia | omega))) ?_)
  refine wpAny_pure ?_
  exact ⟨_, vals, own', .next, hle₃, q₃.change hj hset (Heap.SameBut.update ..) D' ⟨_, _, _, rfl, hes.snoc, hrs.append ⟨hv₃, trivial⟩⟩, rfl, kq⟩
end
end Kx
end

section -- J20
open PySem PySem.W PyProof.Rows
set_option Elab.async false
set_option maxRecDepth 100000
set_option linter.unusedVariables false
namespace Kx
section
variable {prog : Program} {w : World} {hB : Heap} {K : Frag} {D : Nat} {env : Env} {ns ns' : List (Str × NameKind)} {vals vals' : List (Option AV)} {own own' : List (Addr × MO)} {ε : Ent} {s₀ s s' : Shared} {Φ : FH}
variable {Q : Flw → List (Option AV) → List (Addr × MO) → Prop}

theorem Rel.offNew {a : Addr} (q : Rel hB ε env ns Φ vals own s) (ha : s.heap.get? a = none) : Off ε env Φ own a := by
  obtain ⟨m, cm, J, _⟩ := q.inn
  refine ⟨?_, ?_, ?_, fun x c hc => ?_, fun mo hm => ?_⟩
  · cases e : Φ a with | none => rfl | some o => have := q.frz _ _ e; rw [ha] at this; cases this
  · cases e : ε.s.heap.get? a with | none => rfl | some o => have := J.toInCall.keep _ _ e; rw [ha] at this; cases this
  · rintro rfl; obtain ⟨o, _, _, ho, _⟩ := J.toInCall.ns; rw [ha] at ho; cases ho
  · rintro rfl; obtain ⟨o, ho, _⟩ := J.cell x a hc; rw [ha] at ho; cases ho
  · obtain ⟨_, _, _, _, o, ho, _⟩ := q.owns a mo hm; rw [ha] at ho; cases ho
theorem Rel.take {a : Addr} {o : Obj} {mo : MO} (q : Rel hB ε env ns Φ vals own s) (hf : Off ε env Φ own a) (ho : s.heap.get? a = some o) (hm : MR Φ mo o) : Rel hB ε env ns Φ vals ((a, mo) :: own) s := by
  obtain ⟨h1, h2, h3, h4, h5⟩ := hf
  refine ⟨q.ok, q.allCells, q.inn, q.base, q.frz, q.nw, q.lo, q.ce, fun b mo' hb => ?_, ?_⟩
  · rcases List.mem_cons.mp hb with e | hb
    · cases e; exact ⟨h1, h2, h3, h4, o, ho, hm⟩
    · exact q.owns b mo' hb
  · rw [List.map_cons, List.nodup_cons]
    refine ⟨fun hm => ?_, q.ownd⟩
    obtain ⟨p, hp, e⟩ := List.mem_map.mp hm
    have e' : p.1 = a := e
    exact h5 p.2 (by rw [← e']; exact hp)

theorem St.assignComp {elt iter : Expr} {x y : Str} {px py pos spos : Pos} {scope : Scope} {ix iy : Nat} {kx : NameKind} {items : List AV} {f : Nat → AV} {cv : List (Option AV)} {vals' : Addr → List (Option AV)}
    (hit : EvIt prog w hB D env ns vals own iter items) (hsz : items.length ≤ sizeLine) (hcap : Cap ns vals scope.names ns' cv) (hnd : (scope.names.map (·.1)).Nodup) (hkind : scope.kind = .function)
    (hx : At ns' ix (x, kx)) (hk : kx = .local ∨ (kx = .cell ∧ (x, NameKind.cell) ∈ scope.names)) (hlx : (x, NameKind.free) ∉ scope.names)
    (helt : ∀ i av C, items[i]? = some av → Ev prog w hB D (blockEnv scope C env) ns' (cv.set ix (some av)) own elt (f i))
    (hy : At ns iy (y, .local)) (hset : ∀ a, SetAt vals iy (some (.ref a)) (vals' a)) (kq : ∀ a, Q .next (vals' a) ((a, .lst ((List.range items.length).map f)) :: own))
    (hsw : swapsWith (.ListComp elt [⟨.Name x px, iter, [], 0⟩] scope pos) (some (.Name y py)) spos.line env = pure true) (hs : ∀ x, foldedSetIterable iter env x = pure x := by intro _; rfl) :
    St prog w hB D ε env ns (.Assign [.Name y py] (.ListComp elt [⟨.Name x px, iter, [], 0⟩] scope pos) spos) vals own Q := fun Φ s q A E ok => by
  rw [exec_Assign_Name_used _ _ _ _ hsw]
  refine wpAny_bind (wpAny_standAt (wpAny_bind ?_))
  show wpAny _ A (do let _ ← comprehension (.ListComp elt [⟨.Name x px, iter, [], 0⟩] scope pos) scope env _ (newList []) false (eval iter env) (some (PySem.assign (.Name y py) env))) _ _ s
  refine wpAny_bind (wpAny_mono (comp_gen (use := some (PySem.assign (.Name y py) env)) (Qf := fun _ s' => ∃ Φ' vals' own' fl, Le Φ Φ' ∧ Rel hB ε env ns Φ' vals' own' s' ∧ FlR Φ' fl .next ∧ Q fl vals' own') hit hsz hcap hnd hkind hx hk hlx helt hs q.toR ok fun Ψ sf L C ys nn m fl k hL hC hne hl hn hr hle h1 h2 => ?_) (fun _ s' hq => wpAny_pure (wpAny_pure hq)) fun _ _ e => e)
  show wpAny _ A (PySem.assign (.Name y py) env (.ref L)) _ _ _
  have offL := q.offNew hL
  have offC := q.offNew hC
  have hleΦ : Le Φ (less (grow Φ s sf) [L, C]) := fun b o e => by
    unfold less
    rw [if_neg (fun hb => by
      rcases List.mem_cons.mp hb with rfl | hb
      · rw [offL.1] at e; cases e
      · obtain rfl : b = C := by simpa using hb
        rw [offC.1] at e; cases e)]
    exact grow_le q.frz b o e
  have hleΨ : Le Ψ (less (grow Φ s sf) [L, C]) := fun b o e => by
    unfold less
    rw [if_neg (fun hb => by
      rcases List.mem_cons.mp hb with rfl | hb
      · rw [h1] at e; cases e
      · obtain rfl : b = C := by simpa using hb
        rw [h2] at e; cases e)]
    exact hle b o e
  have q₁ := q.stepTo k hleΦ less_le
  have nL : less (grow Φ s sf) [L, C] L = none := by unfold less; rw [if_pos (by simp)]
  have nC : less (grow Φ s sf) [L, C] C = none := by unfold less; rw [if_pos (by simp)]
  generalize less (grow Φ s sf) [L, C] = Φ₁ at hleΦ hleΨ q₁ nL nC
  have offL₁ : Off ε env Φ₁ own L := ⟨nL, offL.2⟩
  have offC₁ : Off ε env Φ₁ own C := ⟨nC, offC.2⟩
  have q₂ := q₁.take offL₁ hl (mo := .lst ((List.range items.length).map f)) ⟨ys, nn, rfl, hr.mono hleΨ⟩
  have offC₂ : Off ε env Φ₁ ((L, .lst ((List.range items.length).map f)) :: own) C := ⟨offC₁.1, offC₁.2.1, offC₁.2.2.1, offC₁.2.2.2.1, fun mo hm => by
    rcases List.mem_cons.mp hm with e | hm
    · cases e; exact hne rfl
    · exact offC₁.2.2.2.2 mo hm⟩
  obtain ⟨oC, _, _, hoC, _⟩ := id hn
  have q₃ := q₂.raw (wr := [C]) (f := fun _ => oC) (fun b hb => by
    obtain rfl : b = C := by simpa using hb
    exact ⟨offC₂, hoC⟩) (by simp)
  refine wpAny_assign_Name (q₃.stLocal hy (hset L) rfl fun s'' q₄ => ?_)
  obtain ⟨g1, g2, g3, g4, ob, hob, rfl⟩ := q₄.owns C (.raw oC) (List.mem_append_right _ (.head _))
  refine ⟨m, hn.at' fun o e => ?_, fun h' hs' => ?_⟩
  · rw [hoC] at e; cases e; exact hob
  · have q₅ := q₄.drop
    refine ⟨Φ₁, vals' L, _, .next, hleΦ, q₅.keepBut (n := s''.toks) (wr := [C]) (fun b hb => ?_) (fun b o hb e => hs'.extBut b o (by simpa using hb) e), rfl, kq L⟩
    obtain rfl : b = C := by simpa using hb
    exact ⟨g1, g2, g3, g4, offC₂.2.2.2.2⟩
end
end Kx
end

section -- J21
open PySem PySem.W PyProof.Rows
set_option Elab.async false
set_option maxRecDepth 100000
set_option linter.unusedVariables false
namespace Kx
section
variable {prog : Program} {w : World} {hB : Heap} {K : Frag} {D : Nat} {env : Env} {ns ns' : List (Str × NameKind)} {vals vals' : List (Option AV)} {own own' : List (Addr × MO)} {ε : Ent} {s₀ s s' : Shared} {Φ : FH}
variable {Q : Flw → List (Option AV) → List (Addr × MO) → Prop}

theorem IL_eq {l : List Nat} : IL l = (List.range l.length).map fun i : Nat => AV.int ((l.getD i 0 : Nat) : Int) := by
  apply List.ext_getElem?
  intro i
  by_cases h : i < l.length
  · rw [IL_get h, List.getElem?_map, List.getElem?_range h]; rfl
  · rw [List.getElem?_eq_none (by rw [IL_length]; (first | lia | omega)), List.getElem?_eq_none (by simp; (first | lia | omega))]
theorem EvIt.IL {e : Expr} {l : List Nat} (h : Ev prog w hB D env ns vals own e (.lst (IL l))) : EvIt prog w hB D env ns vals own e ((List.range l.length).map fun i : Nat => AV.int ((l.getD i 0 : Nat) : Int)) := (EvIt.list h).eq IL_eq
theorem range_item {n : Nat} {g : Nat → AV} {i : Nat} {av : AV} (h : ((List.range n).map g)[i]? = some av) : i < n ∧ av = g i := by
  rw [List.getElem?_map] at h
  obtain ⟨j, hj, rfl⟩ := Option.map_eq_some_iff.mp h
  obtain ⟨hlt, e⟩ := List.getElem?_eq_some_iff.mp hj
  rw [List.getElem_range] at e
  subst e
  exact ⟨by simpa using hlt, rfl⟩
variable {elt iter : Expr} {x y : Str} {px py pos spos : Pos} {scope : Scope} {ix iy : Nat} {kx : NameKind} {cv : List (Option AV)} {n : Nat} {g : Nat → AV}
theorem EvN.compR {f : Nat → AV} (hit : EvIt prog w hB D env ns vals own iter ((List.range n).map g)) (hcap : Cap ns vals scope.names ns' cv) (hx : At ns' ix (x, kx)) (hk : kx = .local ∨ (kx = .cell ∧ (x, NameKind.cell) ∈ scope.names)) (hsz : n ≤ 100000)
    (helt : ∀ i C, i < n → Ev prog w hB D (blockEnv scope C env) ns' (cv.set ix (some (g i))) own elt (f i))
    (hnd : (scope.names.map (·.1)).Nodup) (hkind : scope.kind = .function) (hlx : (x, NameKind.free) ∉ scope.names) (hs : ∀ x, foldedSetIterable iter env x = pure x := by intro _; rfl) :
    EvN prog w hB D env ns vals own (.ListComp elt [⟨.Name x px, iter, [], 0⟩] scope pos) (.lst ((List.range n).map f)) :=
  (EvN.comp (f := f) hit (by simp only [List.length_map, List.length_range, sizeLine_eq]; (first | lia | omega)) hcap hnd hkind hx hk hlx (fun i av C h => by obtain ⟨h1, rfl⟩ := range_item h; exact helt i C h1) hs).eq (by simp)
theorem EvN.compN {f : Nat → Nat} (hit : EvIt prog w hB D env ns vals own iter ((List.range n).map g)) (hcap : Cap ns vals scope.names ns' cv) (hx : At ns' ix (x, kx)) (hk : kx = .local ∨ (kx = .cell ∧ (x, NameKind.cell) ∈ scope.names)) (hsz : n ≤ 100000)
    (helt : ∀ i C, i < n → Ev prog w hB D (blockEnv scope C env) ns' (cv.set ix (some (g i))) own elt (.int ((f i : Nat) : Int)))
    (hnd : (scope.names.map (·.1)).Nodup) (hkind : scope.kind = .function) (hlx : (x, NameKind.free) ∉ scope.names) (hs : ∀ x, foldedSetIterable iter env x = pure x := by intro _; rfl) :
    EvN prog w hB D env ns vals own (.ListComp elt [⟨.Name x px, iter, [], 0⟩] scope pos) (.lst (IL ((List.range n).map f))) :=
  (EvN.compR (f := fun i => .int ((f i : Nat) : Int)) hit hcap hx hk hsz helt hnd hkind hlx hs).eq (by unfold IL; rw [List.map_map]; rfl)
theorem St.assignCompN {f : Nat → Nat} {vals' : Addr → List (Option AV)} (hit : EvIt prog w hB D env ns vals own iter ((List.range n).map g)) (hcap : Cap ns vals scope.names ns' cv) (hx : At ns' ix (x, kx)) (hk : kx = .local ∨ (kx = .cell ∧ (x, NameKind.cell) ∈ scope.names)) (hsz : n ≤ 100000)
    (helt : ∀ i C, i < n → Ev prog w hB D (blockEnv scope C env) ns' (cv.set ix (some (g i))) own elt (.int ((f i : Nat) : Int)))
    (hy : At ns iy (y, .local)) (hset : ∀ a, SetAt vals iy (some (.ref a)) (vals' a)) (kq : ∀ a, Q .next (vals' a) ((a, .lst (IL ((List.range n).map f))) :: own))
    (hsw : swapsWith (.ListComp elt [⟨.Name x px, iter, [], 0⟩] scope pos) (some (.Name y py)) spos.line env = pure true)
    (hnd : (scope.names.map (·.1)).Nodup) (hkind : scope.kind = .function) (hlx : (x, NameKind.free) ∉ scope.names) (hs : ∀ x, foldedSetIterable iter env x = pure x := by intro _; rfl) :
    St prog w hB D ε env ns (.Assign [.Name y py] (.ListComp elt [⟨.Name x px, iter, [], 0⟩] scope pos) spos) vals own Q :=
  St.assignComp (f := fun i => .int ((f i : Nat) : Int)) hit (by simp only [List.length_map, List.length_range, sizeLine_eq]; (first | lia | omega)) hcap hnd hkind hx hk hlx (fun i av C h => by obtain ⟨h1, rfl⟩ := range_item h; exact helt i C h1) hy hset
    (fun a => by
      have e : (List.range ((List.range n).map g).length).map (fun i => AV.int ((f i : Nat) : Int)) = IL ((List.range n).map f) := by
        rw [List.length_map, List.length_range]; unfold IL; rw [List.map_map]; rfl
      rw [e]; exact kq a) hsw hs
theorem Ev.itemPrev {v a b : Expr} {pos q : Pos} {av : AV} {l : List Nat} {k : Nat} (hv : Ev prog w hB (D + 1) env ns vals own v av) (hl : LV own av (IL l)) (ha : Ev prog w hB (D + 1) env ns vals own a (.int (k : Int))) (hb : Ev prog w hB (D + 1) env ns vals own b (.int ((1 : Nat) : Int))) (hk : k < l.length) (hz : l.length ≤ 2 ^ 60)
    (hs : ∀ o i, subscripted (.BinOp a .Sub b q) false o i = operate [o, i] (getItem o i) := by intro _ _; rfl) : Ev prog w hB (D + 1) env ns vals own (.Subscript v (.BinOp a .Sub b q) pos) (.int ((l.getD ((k + l.length - 1) % l.length) 0 : Nat) : Int)) := by
  have hi : Ev prog w hB (D + 1) env ns vals own (.BinOp a .Sub b q) (.int ((k : Int) - 1)) := Ev.bin ha hb og_sub
  rcases Nat.eq_zero_or_pos k with rfl | hp
  · have e : (0 + l.length - 1) % l.length = l.length - 1 := by rw [Nat.zero_add]; exact Nat.mod_eq_of_lt (by (first | lia | omega))
    refine Ev.itemNeg hv hl hi (by (first | lia | omega)) (by rw [IL_length]; (first | lia | omega)) (by (first | lia | omega)) ?_ hs
    rw [show ((((0 : Nat) : Int) - 1) + ((IL l).length : Nat)).toNat = l.length - 1 by rw [IL_length]; (first | lia | omega), e]
    exact IL_get (by (first | lia | omega))
  · have e : (k + l.length - 1) % l.length = k - 1 := by
      rw [show k + l.length - 1 = (k - 1) + l.length by (first | lia | omega), Nat.add_mod_right]; exact Nat.mod_eq_of_lt (by (first | lia | omega))
    refine Ev.item hv hl hi (by (first | lia | omega)) (by (first | lia | omega)) ?_ hs
    rw [show ((k : Int) - 1).toNat = k - 1 by (first | lia | omega), e]
    exact IL_get (by (first | lia | omega))
end
end Kx
end

section -- J22
open PySem PySem.W PyProof.Rows
set_option Elab.async false
set_option maxRecDepth 100000
set_option linter.unusedVariables false
namespace Kx
section
variable {prog : Program} {w : World} {hB : Heap} {K : Frag} {D : Nat} {env : Env} {ns ns' : List (Str × NameKind)} {vals vals' : List (Option AV)} {own own' : List (Addr × MO)} {ε : Ent} {s₀ s s' : Shared} {Φ : FH}
variable {Q : Flw → List (Option AV) → List (Addr × MO) → Prop}

theorem gg_IL {l : List Nat} {k : Nat} (h1 : k < l.length) (h2 : l.length ≤ 2 ^ 62) : GetG prog w (.int (k : Int)) (.lst (IL l)) (.int ((l.getD k 0 : Nat) : Int)) := gg_list (by (first | lia | omega)) (by (first | lia | omega)) (IL_get' h1)
theorem Ex.drop {ss : List Stmt} {p : Addr × MO} (hd : Del own p own') (h : Ex prog w hB D ε env ns ss vals own' Q) : Ex prog w hB D ε env ns ss vals own Q :=
  h.weak (fun i av e => e) (fun q hq => hd.perm.mem_iff.mpr (List.mem_cons_of_mem _ hq)) fun hn => by
    have := (hd.perm.map (·.1)).nodup_iff.mp hn
    rw [List.map_cons, List.nodup_cons] at this
    exact this.2
end
end Kx
end

section -- J23
open PySem PySem.W PyProof.Rows
set_option Elab.async false
set_option maxRecDepth 100000
set_option linter.unusedVariables false
namespace Kx
section
variable {prog : Program} {w : World} {hB : Heap} {K : Frag} {D : Nat} {env : Env} {ns ns' : List (Str × NameKind)} {vals vals' : List (Option AV)} {own own' : List (Addr × MO)} {ε : Ent} {s₀ s s' : Shared} {Φ : FH}
variable {Q : Flw → List (Option AV) → List (Addr × MO) → Prop}

noncomputable def EvP (prog : Program) (w : World) (hB : Heap) (D : Nat) (env : Env) (ns : List (Str × NameKind)) (vals : List (Option AV)) (own : List (Addr × MO)) (x : Option Expr) (p : Option Nat) : Prop :=
  ∀ Φ s, RelR hB env ns Φ vals own s.heap → ∀ A E, AOk D A → wpAny (model prog w) A (evalPart x env) (fun v s' => Keeps s s' ∧ IsPart v (p.map fun n : Nat => (n : Int))) E s
theorem EvP.none : EvP prog w hB D env ns vals own none none := fun Φ s q A E ok => wpAny_pure (a := Value.none) ⟨Keeps.rfl', .none⟩
theorem EvP.some {e : Expr} {n : Nat} (h : Ev prog w hB D env ns vals own e (.int (n : Int))) : EvP prog w hB D env ns vals own (some e) (some n) := fun Φ s q A E ok =>
  wpAny_mono (h Φ s q A E ok) (fun v s' ⟨k, t, e⟩ => ⟨k, by subst e; exact .int _ t⟩) fun _ _ e => e

noncomputable def cut {α : Type} (l : List α) (lo hi : Option Nat) : List α := (l.drop (lo.getD 0)).take (hi.getD l.length - lo.getD 0)
theorem clips {α : Type} (l : List α) (lo hi : Option Nat) (n : Nat) (hn : n = l.length) :
    (l.drop ((lo.map fun n : Nat => (n : Int)).elim 0 (clipAt n))).take ((hi.map fun n : Nat => (n : Int)).elim n (clipAt n) - (lo.map fun n : Nat => (n : Int)).elim 0 (clipAt n)) = cut l lo hi := by
  subst hn
  have a : (lo.map fun n : Nat => (n : Int)).elim 0 (clipAt l.length) = min (lo.getD 0) l.length := by cases lo <;> simp [clipAt_nat]
  have b : (hi.map fun n : Nat => (n : Int)).elim l.length (clipAt l.length) = min (hi.getD l.length) l.length := by cases hi <;> simp [clipAt_nat]
  rw [a, b]
  unfold cut
  generalize lo.getD 0 = x
  generalize hi.getD l.length = y
  by_cases hx : x ≤ l.length
  · rw [Nat.min_eq_left hx]
    by_cases hy : y ≤ l.length
    · rw [Nat.min_eq_left hy]
    · rw [Nat.min_eq_right (by (first | lia | omega)), List.take_of_length_le (by simp), List.take_of_length_le (by simp; (first | lia | omega))]
  · rw [List.drop_eq_nil_of_le (by (first | lia | omega)), List.drop_eq_nil_of_le (by (first | lia | omega))]; simp
theorem cut_length_le {α : Type} (l : List α) (lo hi : Option Nat) : (cut l lo hi).length ≤ l.length := by unfold cut; rw [List.length_take, List.length_drop]; (first | lia | omega)
theorem Rs.cut {xs : List AV} {vs : List Value} (h : Rs Φ xs vs) (lo hi : Option Nat) : Rs Φ (Kx.cut xs lo hi) (Kx.cut vs lo hi) := by
  unfold Kx.cut
  rw [h.length]
  exact tk _ (dr _ h)
where
  dr : ∀ {xs : List AV} {vs : List Value} (n : Nat), Rs Φ xs vs → Rs Φ (xs.drop n) (vs.drop n)
    | _, _, 0, h => h
    | [], [], n + 1, h => trivial
    | x :: xs, v :: vs, n + 1, h => dr n h.2
    | [], _ :: _, _, h => h.elim
    | _ :: _, [], _, h => h.elim
  tk : ∀ {xs : List AV} {vs : List Value} (n : Nat), Rs Φ xs vs → Rs Φ (xs.take n) (vs.take n)
    | _, _, 0, h => trivial
    | [], [], n + 1, h => trivial
    | x :: xs, v :: vs, n + 1, h => ⟨h.1, tk n h.2⟩
    | [], _ :: _, _, h => h.elim
    | _ :: _, [], _, h => h.elim
theorem slice_eq (vs : List Value) (lo hi : Option Nat) : slicePick vs.toArray (lo.map fun n : Nat => (n : Int)) (hi.map fun n : Nat => (n : Int)) none = (cut vs lo hi).toArray := by
  unfold slicePick
  rw [sliceBounds_plain]
  simp only [sliceRange_one, pick_run]
  rw [List.size_toArray, ← clips vs lo hi vs.length rfl]

theorem evalSlice {lo hi : Option Expr} {p : Pos} {l u : Option Nat} {A : Around} {E : Value → Shared → Prop} {Q : Value → Shared → Prop} (hl : EvP prog w hB D env ns vals own lo l) (hu : EvP prog w hB D env ns vals own hi u) (q : RelR hB env ns Φ vals own s.heap) (ok : AOk D A)
    (h : ∀ s' vl vu, Keeps s s' → IsPart vl (l.map fun n : Nat => (n : Int)) → IsPart vu (u.map fun n : Nat => (n : Int)) → Q (.ref s'.heap.objs.size) { s' with heap := s'.heap.push { cls := .type "slice", data := .fields #[vl, vu, .none] } }) :
    wpAny (model prog w) A (eval (.Slice lo hi none p) env) Q E s :=
  wpAny_Slice (wpAny_mono (hl Φ s q A E ok) (fun vl s₁ h₁ => wpAny_mono (hu _ s₁ (q.step h₁.1) A E ok) (fun vu s₂ h₂ => wpAny_pure (h s₂ vl vu (Keeps.tr h₁.1 h₂.1) h₁.2 h₂.2)) fun _ _ e => e) fun _ _ e => e)

theorem Subscript_SliceW {A : Around} {E : Value → Shared → Prop} {value : Expr} {lower upper : Option Expr} {p pos : Pos} {T id : String} {Q : Value → Shared → Prop} (hl : typeLookup (.type T) "__getitem__" = pure (some (.builtin id)))
    (h : wpAny (model prog w) A (eval value env) (fun o s₁ => wpAny (model prog w) A (eval (.Slice lower upper none p) env) (fun i s₂ => s₂.TypeIs o T ∧ wpAny (model prog w) A (getItem o i) Q E s₂) E s₁) E s) : wpAny (model prog w) A (eval (.Subscript value (.Slice lower upper none p) pos) env) Q E s := by
  rw [eval_Subscript]
  refine wpAny_bind (wpAny_mono h (fun o s₁ h₁ => wpAny_bind (wpAny_holding (wpAny_mono h₁ (fun i s₂ h₂ => wpAny_bind (wpAny_standAt ?_)) fun _ _ x => x))) fun _ _ x => x)
  have fin : wpAny (model prog w) A (operate [i, o] (getItem o i)) (fun r s₃ => wpAny (model prog w) A (letTemporaryGo value o r >>= fun _ => pure r) Q E s₃) E s₂ :=
    wpAny_operating (wpAny_mono h₂.2 (fun r s₃ h₃ => wpAny_bind (wpAny_letTemporaryGo (wpAny_pure h₃))) fun _ _ x => x)
  refine wpAny_bind ?_
  rw [getitemInPython_of_ne h₂.1.not_modules]
  refine wpAny_bind (wpAny_specialOf h₂.1 hl ?_)
  first
    | exact wpAny_pure (wpAny_bind fin)
    | exact wpAny_bind (wpAny_pure (wpAny_bind fin))
    | exact wpAny_bind fin
theorem EvN.slice {v : Expr} {lo hi : Option Expr} {p pos : Pos} {av : AV} {xs : List AV} {l u : Option Nat} (hv : Ev prog w hB D env ns vals own v av) (hlv : LV own av xs) (hl : EvP prog w hB D env ns vals own lo l) (hu : EvP prog w hB D env ns vals own hi u) (hz : xs.length ≤ sizeLine) : EvN prog w hB D env ns vals own (.Subscript v (.Slice lo hi none p) pos) (.lst (cut xs l u)) := fun Φ s q A E ok => by
  refine Subscript_SliceW list_getitem_lookup (wpAny_mono (hv Φ s q A E ok) (fun o s₁ h₁ => ?_) fun _ _ e => e)
  have q₁ := q.step h₁.1
  refine evalSlice hl hu q₁ ok fun s₂ vl vu k₂ pl pu => ?_
  have q₂ := q₁.step k₂
  obtain ⟨a, vs, n, rfl, ha, hr⟩ := hlv.get q₂ (Le.refl _) q₂.frz (R.mono (grow_le q₁.frz) h₁.2)
  have hL : Heap.IsList (s₂.heap.push { cls := .type "slice", data := .fields #[vl, vu, .none] }) a vs.toArray := (isList_of ha).push _
  refine ⟨Heap.IsList.typeIs (s := { s₂ with heap := s₂.heap.push _ }) hL, wpAny_getItem_list_slice hL (Heap.IsSliceOf.new ..) pl pu .none (by simp) ?_ (by rw [List.size_toArray, hr.length]; exact hz)⟩
  have k₃ : Keeps s₂ { s₂ with heap := s₂.heap.push { cls := .type "slice", data := .fields #[vl, vu, .none] } } := Keeps.push _ s₂.toks
  have q₃ := q₂.step k₃
  refine NW.tr h₁.1 (NW.tr k₂ (NW.tr k₃ (NW.push q₃.frz ⟨cut vs l u, 0, ?_, (hr.mono (grow_le q₂.frz)).cut l u⟩)))
  rw [slice_eq]

theorem Ev.sliceB {v : Expr} {lo hi : Option Expr} {p pos : Pos} {b : Array UInt8} {l u : Option Nat} (hv : Ev prog w hB D env ns vals own v (.bytes b)) (hl : EvP prog w hB D env ns vals own lo l) (hu : EvP prog w hB D env ns vals own hi u) (hz : b.size ≤ sizeLine) : Ev prog w hB D env ns vals own (.Subscript v (.Slice lo hi none p) pos) (.bytes (cut b.toList l u).toArray) := fun Φ s q A E ok => by
  refine Subscript_SliceW FB.slot_bytes_getitem.lookup (wpAny_mono (hv Φ s q A E ok) (fun o s₁ h₁ => ?_) fun _ _ e => e)
  obtain ⟨k₁, t, rfl⟩ := h₁
  have q₁ := q.step k₁
  refine evalSlice hl hu q₁ ok fun s₂ vl vu k₂ pl pu => ?_
  refine ⟨typeIs_bytes _ b t, getItem_meets (typeIs_bytes _ b t) (by decide) FB.slot_bytes_getitem FB.entry_bytes_getitem (FB.args_bytes_getitem_2 _ _) (KBc.meets_slice2 b t _ pl pu) ⟨Heap.IsSliceOf.new _ _ _ _, Nat.le_trans (KBc.size_picked_le b _ _) hz, fun t' k => ?_⟩⟩
  refine ⟨Keeps.tr k₁ (Keeps.tr k₂ (Keeps.push _ k)), t', ?_⟩
  rw [KBc.picked_eq, clips b.toList l u b.size (by simp)]
end
end Kx
end

section -- J24
open PySem PySem.W PyProof.Rows
set_option Elab.async false
set_option maxRecDepth 100000
set_option linter.unusedVariables false
namespace Kx
section
variable {prog : Program} {w : World} {hB : Heap} {K : Frag} {D : Nat} {env : Env} {ns ns' : List (Str × NameKind)} {vals vals' : List (Option AV)} {own own' : List (Addr × MO)} {ε : Ent} {s₀ s s' : Shared} {Φ : FH}
variable {Q : Flw → List (Option AV) → List (Addr × MO) → Prop}

theorem fb_getm {A : Around} {E : Value → Shared → Prop} {pl : Sem Bool} {Q : Value × List Value → Shared → Prop} (X : K.In s.heap)
    (e : findCls K (.type "int") (.type "type") (Str.ofString "from_bytes") = some (.get (.builtin "classmethod_descriptor.__get__") (.builtin "int.from_bytes") .none (.type "int")))
    (h : Q (.ref s.heap.objs.size, []) { s with heap := s.heap.push KFB.bound, toks := s.toks + 1 }) :
    wpAny (model prog w) A (getMethod (.type "int") (Str.ofString "from_bytes") pl) Q E s := by
  have stub : opaqueClassAbove (.type "int") = pure none := by unfold opaqueClassAbove; dsimp only; rw [show Manifest.isStub "int" = false by decide +kernel]; rfl
  have L0 : Looks (model prog w) s.heap (typeOf (.type "int")) (.type "type") := Looks.of_pure (by rfl)
  have hg : findIn K (.type "type") "__getattribute__" = some (some (.builtin "type.__getattribute__")) := type_tga
  unfold getMethod specialOf
  refine wpAny_bind (wpAny_bind (L0.here ((looks_findIn X hg).here ?_)))
  dsimp only
  rw [if_pos canon_tga]
  refine wpAny_bind (wpAny_mono (Q := fun v => Q (v, [])) (E := E) ?_ (fun _ _ z => wpAny_pure z) fun _ _ z => z)
  refine cls_open X (Looks.of_pure stub) L0 hg (looks_hook X (r := none) (by rfl)) (by show subIn K _ _ = _; rfl) e ?_
  show wpAny _ _ (holding [.builtin "int.from_bytes"] (call (.builtin "classmethod_descriptor.__get__") [.builtin "int.from_bytes", .none, .type "int"]) >>= fun v => ret v) _ _ _
  exact wpAny_bind (wpAny_holding (wpAny_call_entry KFB.slot_get KFB.type_fb KFB.entry_get (KFB.run_get ⟨_, rfl, wpAny_pure (wpAny_pure h)⟩) (KFB.args_get _ _ _)))

noncomputable def leN : List UInt8 → Nat
  | [] => 0
  | c :: r => c.toNat + 256 * leN r
theorem fold_leN : ∀ (l : List UInt8) (a : Nat), (l.reverse.map fun c => ((c.toNat : Nat) : Int)).foldl (fun a k => a * 256 + k) (a : Int) = ((a * 256 ^ l.length + leN l : Nat) : Int)
  | [], a => by simp [leN]
  | c :: r, a => by
    rw [List.reverse_cons, List.map_append, List.foldl_append, fold_leN r a, List.length_cons, leN, Nat.pow_succ]
    show ((_ : Nat) : Int) * 256 + ((c.toNat : Nat) : Int) = _
    have e : (a * 256 ^ r.length + leN r) * 256 + c.toNat = a * (256 ^ r.length * 256) + (c.toNat + 256 * leN r) := by rw [Nat.add_mul, Nat.mul_assoc]; (first | lia | omega)
    rw [← e]; push_cast; rfl
theorem value_leN (b : Array UInt8) : KFB.value (KBw.bInts b).reverse = ((leN b.toList : Nat) : Int) := by
  unfold KFB.value KBw.bInts
  rw [← List.map_reverse]
  have := fold_leN b.toList 0
  rw [Nat.zero_mul, Nat.zero_add] at this
  exact this

theorem Ev.fromBytes {o e : Expr} {apos pos p2 : Pos} {k : Nat} {b : Array UInt8} {pl : Sem Bool} (G : GH K hB) (hf : findCls K (.type "int") (.type "type") (Str.ofString "from_bytes") = some (.get (.builtin "classmethod_descriptor.__get__") (.builtin "int.from_bytes") .none (.type "int")))
    (ho : Ev prog w hB D env ns vals own o (.typ "int")) (hb : Ev prog w hB D env ns vals own e (.bytes b)) (hz : b.size ≤ 8)
    (he1 : starEach [e, .Constant (.str "little") k p2] env = (false, eval e env) :: starEach [.Constant (.str "little") k p2] env := by rfl)
    (he : eval (.Call (.Attribute o "from_bytes" apos) [e, .Constant (.str "little") k p2] [] pos) env = (do
      let ov ← eval o env
      standAt apos.atName
      let (f, first) ← holding [ov] (getMethod ov "from_bytes" pl)
      callWith pos f first (backTo pos (starEach [e, .Constant (.str "little") k p2] env)) (backToKw pos (keywordEach [] env))) := by rfl) :
    Ev prog w hB D env ns vals own (.Call (.Attribute o "from_bytes" apos) [e, .Constant (.str "little") k p2] [] pos) (.int ((leN b.toList : Nat) : Int)) := fun Φ s q A E ok => by
  refine methodCall_KW (pl := pl) (wpAny_mono (ho Φ s q A E ok) (fun ov s₁ h₁ => ?_) fun _ _ e => e) he
  obtain ⟨k₁, rfl⟩ := h₁
  have q₁ := q.step k₁
  refine fb_getm (fun a o e => q₁.base' _ _ (G.kin a o e)) hf ?_
  have k₂ : Keeps s₁ { s₁ with heap := s₁.heap.push KFB.bound, toks := s₁.toks + 1 } := Keeps.push _ _
  have hx : ({ s₁ with heap := s₁.heap.push KFB.bound, toks := s₁.toks + 1 } : Shared).heap.get? s₁.heap.objs.size = some KFB.bound := Heap.get?_push_size _ rfl
  have q₂ := q₁.step k₂
  generalize ({ s₁ with heap := s₁.heap.push KFB.bound, toks := s₁.toks + 1 } : Shared) = s₂ at k₂ hx q₂
  generalize s₁.heap.objs.size = x at hx
  have args : EvL prog w hB D env ns vals own [e, .Constant (.str "little") k p2] [.bytes b, .str (Str.ofString "little")] := EvL.cons hb (EvL.cons Ev.str EvL.nil (by rfl)) he1
  show wpAny _ _ (callWith pos (.ref x) [] (backTo pos (starEach [e, .Constant (.str "little") k p2] env)) []) _ _ _
  refine KFB.callWith_fields (args.1 pos) (evalArgs_any (args.1 pos) (wpAny_mono (args.2 _ s₂ q₂ A E pos ok) (fun vs s₃ h₃ => ?_) fun _ _ e => e))
  obtain ⟨k₃, hr⟩ := h₃
  obtain ⟨u, v, rfl, ⟨t, rfl⟩, t', rfl⟩ := hr.two
  refine ⟨Keeps.keep k₃ _ _ hx, KFB.call_of (Keeps.keep k₃ _ _ hx) (fun z => KFB.tree_little hz z) ⟨Keeps.tr k₁ (Keeps.tr k₂ (Keeps.tr k₃ (Keeps.tok _))), s₃.toks, ?_⟩⟩
  rw [value_leN]
end
end Kx
end

section -- J25
open PySem PySem.W PyProof.Rows
set_option Elab.async false
set_option maxRecDepth 100000
set_option linter.unusedVariables false
namespace Kx
section
open Builtin
theorem tbq (id : String) (b : Array UInt8) (t : Tok) : Builtin.Bytes.takeBufferQuiet? id (.bytes b t) 0 = pure (some (b, none)) := by kernel_rfl
theorem wpAny_forIn_list {α β : Type} {M : Model} {A : Around} {E : Value → Shared → Prop} {s : Shared} (f : α → β → Sem (ForInStep β)) (I : Nat → β → Prop) {Q : β → Shared → Prop} :
    ∀ (l : List α) (b : β) (k : Nat), I k b → (∀ i x b, l[i]? = some x → I (k + i) b → wpAny M A (f x b) (fun r s' => s' = s ∧ ∃ b', r = .yield b' ∧ I (k + i + 1) b') E s) → (∀ b', I (k + l.length) b' → Q b' s) → wpAny M A (forIn l b f) Q E s
  | [], b, k, h0, _, hQ => by rw [List.forIn_nil]; exact wpAny_pure (hQ b h0)
  | x :: l, b, k, h0, step, hQ => by
    rw [List.forIn_cons]
    refine wpAny_bind (wpAny_mono (step 0 x b rfl h0) (fun r s' h => ?_) fun _ _ e => e)
    obtain ⟨rfl, b', rfl, h'⟩ := h
    dsimp only
    exact wpAny_forIn_list f I l b' (k + 1) (by simpa using h') (fun i y b hy hi => by
      have := step (i + 1) y b (by simpa using hy) (by rw [← Nat.add_assoc, Nat.add_right_comm]; exact hi)
      rw [show k + (i + 1) + 1 = k + 1 + i + 1 by (first | lia | omega)] at this
      exact this) (fun b' hb' => hQ b' (by rw [List.length_cons]; rw [show k + (l.length + 1) = k + 1 + l.length by (first | lia | omega)]; exact hb'))
theorem letGo_plain {M : Model} {A : Around} {E : Value → Shared → Prop} {s : Shared} {Q : Unit → Shared → Prop} {keep : List Value} (h : Q () s) : ∀ {taken : List (Value × Option Value)}, (∀ x ∈ taken, x.2 = none) → wpAny M A (Bytes.joinLetGo taken keep) Q E s
  | [], _ => wpAny_pure h
  | (x, w) :: r, hx => by
    obtain rfl : w = none := hx (x, w) (.head _)
    unfold Bytes.joinLetGo
    exact wpAny_bind (wpAny_letGo (letGo_plain h fun y hy => hx y (.tail _ hy)))
noncomputable def catB (bs : List (Array UInt8)) : Array UInt8 := (bs.flatMap (·.toList)).toArray
theorem joined_catB (bs : List (Array UInt8)) : Bytes.joined #[] bs = catB bs := by
  unfold Bytes.joined catB
  have key : ∀ (l : List (Array UInt8)) (k : Nat) (acc : Array UInt8), (l.zipIdx k).foldl (fun out (x : Array UInt8 × Nat) => (if x.2 > 0 then out ++ (#[] : Array UInt8) else out) ++ x.1) acc = acc ++ (l.flatMap (·.toList)).toArray := by
    intro l
    induction l with
    | nil => intro k acc; simp
    | cons a l ih => intro k acc; rw [List.zipIdx_cons, List.foldl_cons, ih, List.flatMap_cons]; rw [← List.append_toArray]; simp
  have := key bs 0 #[]
  simpa using this
theorem join_meets (l : Addr) (vs : List Value) (bs : List (Array UInt8)) (n : Nat) (t : Tok) (hn : 2 ≤ vs.length) (hl : vs.length = bs.length) (hv : ∀ i, i < vs.length → ∃ u, vs[i]? = some (.bytes (bs.getD i #[]) u)) (hz : (catB bs).size ≤ sizeLine) :
    Meets (Builtin.«bytes.join» ⟨[.bytes #[] t, .ref l], []⟩) (fun _ R s => s.heap.get? l = some (listOf vs.toArray n) ∧ ∀ t' k, R (.ok (.ret (.bytes (catB bs) t'))) { s with toks := k }) := by
  refine .of_wp fun prog w A R s hS => ?_
  obtain ⟨ho, h⟩ := hS
  show wpAny _ _ (Bytes.joinItems (.ref l) >>= fun seq => _) _ _ s
  refine wpAny_bind ?_
  unfold Bytes.joinItems
  refine wpAny_bind (wpAny_typeOf (T := "list") ⟨_, ho, rfl⟩ ?_)
  refine wpAny_ite ?_
  rw [if_pos (by decide)]
  refine wpAny_pure ?_
  refine wpAny_bind (wpAny_seqItems ho rfl ?_)
  obtain ⟨x0, x1, xr, rfl⟩ : ∃ a b r, vs = a :: b :: r := by
    match vs, hn with
    | a :: b :: r, _ => exact ⟨a, b, r, rfl⟩
  dsimp only
  rw [if_pos (by rfl)]
  have mt : ∀ (Y : Value → Sem Fin) (X : Array Value → Sem Fin), Bytes.joinM.match_1 (fun _ => Sem Fin) (x0 :: x1 :: xr).toArray Y X = X (x0 :: x1 :: xr).toArray := fun Y X => rfl
  rw [mt]
  refine wpAny_bind ?_
  generalize hvs : (x0 :: x1 :: xr) = vs at *
  rw [Std.Legacy.Range.forIn_eq_forIn_range']
  have hsz : vs.toArray.size = vs.length := by simp
  refine wpAny_forIn_list _ (fun i (b : Array (Array UInt8) × List (Value × Option Value)) => b.1 = (bs.take i).toArray ∧ ∀ x ∈ b.2, x.2 = none ∧ x.1.onHeap = false) _ (#[], []) 0 ⟨by simp, by intro x hx; cases hx⟩ (fun i x b hx hI => ?_) fun b hI => ?_
  · obtain ⟨hlt, hxe⟩ := List.getElem?_eq_some_iff.mp hx
    rw [List.getElem_range'] at hxe
    simp only [Std.Legacy.Range.size] at hlt hxe
    have hi : i < vs.length := by simpa using hlt
    obtain rfl : x = i := by (first | lia | omega)
    rw [Nat.zero_add] at hI ⊢
    obtain ⟨u, hu⟩ := hv x hi
    have hg : vs.toArray.getD x Value.none = .bytes (bs.getD x #[]) u := by
      simp [Array.getD_eq_getD_getElem?, hu]
    refine wpAny_bind (wpAny_seqItems ho rfl ?_)
    dsimp only
    have hany : (b.2.any fun x => x.1.onHeap) = false := List.any_eq_false.mpr fun y hy => by rw [(hI.2 y hy).2]; decide
    rw [hg, hany, if_neg (by decide)]
    refine wpAny_bind (wpAny_holding ?_)
    rw [tbq]
    refine wpAny_pure ?_
    refine wpAny_bind (wpAny_seqItems ho rfl ?_)
    dsimp only
    rw [if_neg (by simp)]
    refine wpAny_pure ⟨rfl, _, rfl, ?_, ?_⟩
    · rw [hI.1, List.take_add_one, List.push_toArray]
      have : bs[x]? = some (bs.getD x #[]) := by rw [List.getD_eq_getElem?_getD, List.getElem?_eq_getElem (by (first | lia | omega))]; rfl
      rw [this]; rfl
    · intro y hy
      rcases List.mem_append.mp hy with hy | hy
      · exact hI.2 y hy
      · obtain rfl := List.mem_singleton.mp hy
        exact ⟨rfl, rfl⟩
  · obtain ⟨hb1, hb2⟩ := hI
    have hlen : (List.range' 0 vs.toArray.size).length = vs.length := by simp
    simp only [Std.Legacy.Range.size, Nat.zero_add] at hb1
    have hbs : b.1 = bs.toArray := by
      rw [hb1, List.take_of_length_le (by simp; (first | lia | omega))]
    show wpAny _ _ (Bytes.payload (.bytes #[] t) >>= fun sep => _) _ _ s
    refine wpAny_bind (wpAny_of_eq (a := #[]) rfl ?_)
    rw [hbs]
    have hsum : ∀ (l : List (Array UInt8)) (a : Nat), l.toArray.foldl (fun x y => x + y.size) a = a + (catB l).size := by
      intro l
      induction l with
      | nil => intro a; simp [catB]
      | cons x l ih =>
        intro a
        rw [List.foldl_toArray, List.foldl_cons, ← List.foldl_toArray, ih]
        simp [catB]; (first | lia | omega)
    have hnl : Bytes.tooLong (bs.toArray.foldl (fun x y => x + y.size) ((#[] : Array UInt8).size * (bs.toArray.size - 1))) = false := by
      rw [hsum]; unfold Bytes.tooLong; simp; exact hz
    rw [hnl, if_neg (by decide)]
    show wpAny _ _ (mkBytes (Bytes.joined #[] bs.toArray.toList) >>= fun r => _) _ _ s
    rw [joined_catB]
    refine wpAny_bind (wpAny_mkBytes ?_ hz)
    exact wpAny_bind (wpAny_holding (wpAny_point (wpAny_bind (letGo_plain (wpAny_pure ⟨_, rfl, h _ _⟩) fun x hx => (hb2 x hx).1))))
end
section
variable {prog : Program} {w : World} {hB : Heap} {K : Frag} {D : Nat} {env : Env} {ns ns' : List (Str × NameKind)} {vals vals' : List (Option AV)} {own own' : List (Addr × MO)} {ε : Ent} {s₀ s s' : Shared} {Φ : FH}
variable {Q : Flw → List (Option AV) → List (Addr × MO) → Prop}

noncomputable def BY (l : List Nat) : Array UInt8 := (l.map fun n => n.toUInt8).toArray
theorem BY_size {l : List Nat} : (BY l).size = l.length := by simp [BY]
theorem BY_toList {l : List Nat} : (BY l).toList = l.map fun n => n.toUInt8 := rfl
theorem BY_cut {l : List Nat} {lo hi : Option Nat} : (cut (BY l).toList lo hi).toArray = BY (cut l lo hi) := by
  unfold cut BY
  simp [List.map_take, List.map_drop]
noncomputable def leB (k n : Nat) : List Nat := (List.range k).map fun i => n / 256 ^ i % 256
theorem bInts_inj {b c : Array UInt8} (h : KBw.bInts b = KBw.bInts c) : b = c := by
  unfold KBw.bInts at h
  have : b.toList = c.toList := by
    refine (List.map_inj_right (f := fun c : UInt8 => ((c.toNat : Nat) : Int)) fun x y e => ?_).mp h
    exact UInt8.toNat_inj.mp (Int.ofNat.inj e)
  exact Array.toList_inj.mp this
theorem little_leB (k n : Nat) : KTBy.little k (n : Int) = KBw.bInts (BY (leB k n)) := by
  rw [KTBy.little_eq]
  unfold KBw.bInts BY leB
  simp only [List.map_map]
  refine List.map_congr_left fun i _ => ?_
  have e : (n : Int) / 256 ^ i % 256 = ((n / 256 ^ i % 256 : Nat) : Int) := by push_cast; rfl
  rw [e]
  have h : n / 256 ^ i % 256 < 256 := Nat.mod_lt _ (by decide)
  show _ = (((n / 256 ^ i % 256).toUInt8.toNat : Nat) : Int)
  congr 1
  show _ = (n / 256 ^ i % 256) % 256
  (first | lia | omega)

theorem Ev.toBytes {o e : Expr} {apos pos p2 : Pos} {k : Nat} {n m : Nat} {pl : Sem Bool} (ho : Ev prog w hB D env ns vals own o (.int (n : Int))) (hb : Ev prog w hB D env ns vals own e (.int (m : Int))) (hm : m ≤ 8) (hn : n < 256 ^ m)
    (he1 : starEach [e, .Constant (.str "little") k p2] env = (false, eval e env) :: starEach [.Constant (.str "little") k p2] env := by rfl)
    (he : eval (.Call (.Attribute o "to_bytes" apos) [e, .Constant (.str "little") k p2] [] pos) env = (do
      let ov ← eval o env
      standAt apos.atName
      let (f, first) ← holding [ov] (getMethod ov "to_bytes" pl)
      callWith pos f first (backTo pos (starEach [e, .Constant (.str "little") k p2] env)) (backToKw pos (keywordEach [] env))) := by rfl) :
    Ev prog w hB D env ns vals own (.Call (.Attribute o "to_bytes" apos) [e, .Constant (.str "little") k p2] [] pos) (.bytes (BY (leB m n))) := fun Φ s q A E ok => by
  refine methodCall_KW (pl := pl) (wpAny_mono (ho Φ s q A E ok) (fun ov s₁ h₁ => ?_) fun _ _ e => e) he
  obtain ⟨k₁, t, rfl⟩ := h₁
  have q₁ := q.step k₁
  refine KTBy.method ?_
  have args : EvL prog w hB D env ns vals own [e, .Constant (.str "little") k p2] [.int (m : Int), .str (Str.ofString "little")] := EvL.cons hb (EvL.cons Ev.str EvL.nil (by rfl)) he1
  show wpAny _ _ (callWith pos (.builtin "int.to_bytes") [.int (n : Int) t] (backTo pos (starEach [e, .Constant (.str "little") k p2] env)) []) _ _ _
  refine callWith_blt (args.1 pos) (wpAny_mono (args.2 _ s₁ q₁ A E pos ok) (fun vs s₃ h₃ => ?_) fun _ _ e => e)
  obtain ⟨k₃, hr⟩ := h₃
  obtain ⟨u, v, rfl, ⟨t1, rfl⟩, t2, rfl⟩ := hr.two
  refine KTBy.to_little hm rfl (by (first | lia | omega)) (by exact_mod_cast hn) fun b t' k' hb' _ => ⟨Keeps.tr k₁ (Keeps.tr k₃ (Keeps.tok _)), t', ?_⟩
  rw [bInts_inj (hb'.trans (little_leB m n))]

noncomputable def BL (bs : List (List Nat)) : List AV := bs.map fun b => AV.bytes (BY b)
theorem slot_join : PySem.Slot "bytes" "join" "bytes.join" :=
  PySem.Slot.of (owner := "bytes") (n := "join") (by rw [typeLookup_type, builtinLookup_eq_fast]; kernel_rfl) (by decide +kernel) (by decide +kernel) (by decide +kernel)
    (by first | exact .inl (by decide +kernel) | exact .inr (by decide +kernel)) (by rw [isSubtype_type]; kernel_rfl)
theorem entry_join : entryFor table "bytes.join" = some Builtin.«bytes.join» := by first | exact entryFor_of_fast (by kernel_rfl) | exact entryFor_of_tree (by kernel_rfl)
theorem args_join (a b : Value) : argsOk "bytes.join" ⟨[a, b], []⟩ := by unfold argsOk; kernel_rfl
theorem type_join : typeOf (.builtin "bytes.join") = pure (.type "method_descriptor") := by show builtinType _ = _; rw [builtinType_eq_fast]; kernel_rfl
theorem catB_BY (bs : List (List Nat)) : catB (bs.map BY) = BY bs.flatten := by
  unfold catB BY
  simp only [List.flatMap_def, List.map_map]
  congr 1
  rw [List.map_flatten]
  rfl
theorem BL_get {bs : List (List Nat)} {vs : List Value} (h : Rs Φ (BL bs) vs) (i : Nat) (hi : i < vs.length) : ∃ u, vs[i]? = some (.bytes ((bs.map BY).getD i #[]) u) := by
  have hl := h.length
  have hi' : i < bs.length := by simpa [BL, hl] using hi
  obtain ⟨v, hv, u, e⟩ := h.get i (.bytes (BY bs[i])) (by unfold BL; rw [List.getElem?_map, List.getElem?_eq_getElem hi']; rfl)
  refine ⟨u, ?_⟩
  rw [hv, e, List.getD_eq_getElem?_getD, List.getElem?_map, List.getElem?_eq_getElem hi']; rfl
theorem Ev.join {o e : Expr} {apos pos : Pos} {bs : List (List Nat)} {pl : Sem Bool} (ho : Ev prog w hB D env ns vals own o (.bytes #[])) (hb : Ev prog w hB D env ns vals own e (.lst (BL bs))) (hn : 2 ≤ bs.length) (hz : bs.flatten.length ≤ sizeLine)
    (ga : typeLookup (.type "bytes") "__getattribute__" = pure (some (.builtin "bytes.__getattribute__")) := by rw [typeLookup_type, builtinLookup_eq_fast]; kernel_rfl)
    (he1 : starEach [e] env = (false, eval e env) :: starEach [] env := by rfl)
    (he : eval (.Call (.Attribute o "join" apos) [e] [] pos) env = (do
      let ov ← eval o env
      standAt apos.atName
      let (f, first) ← holding [ov] (getMethod ov "join" pl)
      callWith pos f first (backTo pos (starEach [e] env)) (backToKw pos (keywordEach [] env))) := by rfl) :
    Ev prog w hB D env ns vals own (.Call (.Attribute o "join" apos) [e] [] pos) (.bytes (BY bs.flatten)) := fun Φ s q A E ok => by
  refine methodCall_KW (pl := pl) (wpAny_mono (ho Φ s q A E ok) (fun ov s₁ h₁ => ?_) fun _ _ e => e) he
  obtain ⟨k₁, t, rfl⟩ := h₁
  have q₁ := q.step k₁
  refine getMethod_value (T := "bytes") (name := Str.ofString "join") (ga := "bytes.__getattribute__") (id := "bytes.join") (typeIs_bytes s₁ #[] t) (by intro _ x; cases x) ga (by decide +kernel) (by rw [typeLookup_type, builtinLookup_eq_fast]; kernel_rfl) slot_join.lookup type_join ?_
  have args : EvL prog w hB D env ns vals own [e] [.lst (BL bs)] := EvL.cons hb EvL.nil he1
  show wpAny _ _ (callWith pos (.builtin "bytes.join") [.bytes #[] t] (backTo pos (starEach [e] env)) []) _ _ _
  refine callWith_blt (args.1 pos) (wpAny_mono (args.2 _ s₁ q₁ A E pos ok) (fun vs s₃ h₃ => ?_) fun _ _ e => e)
  obtain ⟨k₃, hr⟩ := h₃
  have q₃ := q₁.step k₃
  obtain ⟨v, rfl, a, us, n, rfl, ha, hu⟩ := hr.one
  have hl : us.length = bs.length := by rw [hu.length]; simp [BL]
  refine call_meets slot_join (typeIs_bytes s₃ #[] t) entry_join (args_join _ _) (join_meets a us (bs.map BY) n t (by (first | lia | omega)) (by simpa using hl) (fun i hi => BL_get hu i hi) (by rw [catB_BY, BY_size]; exact hz)) ⟨q₃.frz _ _ ha, fun t' k => ?_⟩
  refine ⟨Keeps.tr k₁ (Keeps.tr k₃ (Keeps.tok _)), t', ?_⟩
  rw [catB_BY]

theorem bl_lenB {b : Array UInt8} (hz : b.size ≤ 16777216) : BlG prog w "len" [.bytes b] (.int (b.size : Nat)) := fun Φ s vs A E hf ok hr => by
  obtain ⟨v, rfl, t, rfl⟩ := hr.one
  exact len_bytes (by (first | lia | omega)) ⟨Keeps.tok _, _, rfl⟩
theorem bl_min {a b : Nat} : BlG prog w "min" [.int (a : Int), .int (b : Int)] (.int ((min a b : Nat) : Int)) := fun Φ s vs A E hf ok hr => by
  obtain ⟨u, v, rfl, ⟨t, rfl⟩, t', rfl⟩ := hr.two
  refine min_two_ints ok.handled fun h' tk hk => ⟨⟨h', tk, rfl, hk⟩, ?_⟩
  by_cases h : (b : Int) < a
  · rw [if_pos h]; exact ⟨t', by rw [show ((min a b : Nat) : Int) = b by (first | lia | omega)]⟩
  · rw [if_neg h]; exact ⟨t, by rw [show ((min a b : Nat) : Int) = a by (first | lia | omega)]⟩
theorem cg_eqB {a b : Array UInt8} : CmG prog w .Eq (.bytes a) (.bytes b) (a.toList == b.toList) := fun Φ s va vb A E _ _ ⟨_, ha⟩ ⟨_, hb⟩ => by subst ha hb; exact eq_bytes ⟨Keeps.rfl', rfl⟩
theorem ints_IL : ∀ {l : List Nat} {vs : List Value}, Rs Φ (IL l) vs → IntsAre vs (l.map fun n : Nat => (n : Int))
  | [], [], _ => .nil
  | n :: l, v :: vs, h => by obtain ⟨⟨t, e⟩, r⟩ := h; subst e; exact .cons _ t (ints_IL r)
  | [], _ :: _, h => h.elim
  | _ :: _, [], h => h.elim
theorem ty_bytes {l : List Nat} (hr : ∀ n ∈ l, n < 256) (hz : l.length ≤ sizeLine) : TyG prog w "bytes" [.lst (IL l)] (.bytes (BY l)) := fun Φ s vs A E hf ok hv => by
  obtain ⟨v, rfl, a, us, n, rfl, ha, hu⟩ := hv.one
  refine call_bytes_ints (isList_of (hf _ _ ha)) (ints_IL hu) (fun n hn => ?_) (by rw [hu.length, IL_length]; exact hz) ok.handled fun h' t k hk => ⟨⟨h', k, rfl, hk⟩, t, ?_⟩
  · obtain ⟨m, hm, rfl⟩ := List.mem_map.mp hn
    have := hr m hm
    (first | lia | omega)
  · have : byteArr (l.map fun n : Nat => (n : Int)) = BY l := by unfold byteArr BY; simp
    rw [this]
end
end Kx
end

section -- J26
open PySem PySem.W PyProof.Rows
set_option Elab.async false
set_option maxRecDepth 100000
set_option linter.unusedVariables false
namespace Kx
section
variable {prog : Program} {w : World} {A : Around} {E : Value → Shared → Prop} {s : Shared}
theorem hint_bytes {b : Array UInt8} {t : Tok} {Q : Bool → Shared → Prop} (h : Q false s) : wpAny (model prog w) A (Builtin.List.listLengthHint (.bytes b t)) Q E s := by
  unfold Builtin.List.listLengthHint
  refine wpAny_bind (wpAny_specialOf (typeIs_bytes s b t) FB.slot_bytes_len.lookup ?_)
  generalize hid : ("bytes.__len__" : String) = id0
  wp_delta
  rw [show splitId id0 = some ("bytes", "__len__") from by subst hid; decide +kernel]
  subst hid
  refine wpAny_bind (wpAny_isInstance (T := "bytes") (b := true) (typeIs_bytes s b t) (by rw [isSubtype_type]; kernel_rfl) ?_)
  refine wpAny_ite_split (fun hab => absurd hab (by decide)) (fun _ => ?_)
  refine wpAny_ite_split (fun _ => ?_) (fun hab => absurd (by decide +kernel) hab)
  exact wpAny_bind (wpAny_typeOf (typeIs_bytes s b t) (wpAny_pure h))

theorem extend_bytes {R : Result → Shared → Prop} {b : Array UInt8} {t : Tok} (hh : A.handled = none) (hz : b.size ≤ 2 ^ 24) (S : Addr) (res : Value) (c₀ : Nat) (hS : s.heap.get? S = some { cls := .type "list", data := .seq #[] c₀ })
    (hR : ∀ h' tk acc' c', (∀ b o, b ≠ S → s.heap.get? b = some o → h'.get? b = some o) → h'.get? S = some { cls := .type "list", dict := none, data := .seq acc' c', slots := #[] } →
      ItemsOf (fun i v => ∃ c u, b[i]? = some c ∧ v = .int (c.toNat : Int) u) acc' b.size → R (.ok (.ret res)) { s with heap := h', toks := tk }) :
    wpAny (model prog w) A.in1 (Builtin.List.listExtendWith (.ref S) (.bytes b t) res)
      (fun fin s' => match fin with | .done f => R (.ok f) s' | .again c' => c'.quiet = true ∧ codeAny (model prog w) A c' R s') (fun e s' => R (.error e) s') s := by
  have hSlt : S < s.heap.objs.size := Heap.lt_size hS
  have hSI : S ≠ s.heap.objs.size := Nat.ne_of_lt hSlt
  have hSf : S ∉ [s.heap.objs.size] := fun hm => hSI (List.mem_singleton.mp hm)
  have W := (KBw.walks (prog := prog) (w := w) (A := A.in1) hh s.heap.objs.size b t).toS
  have key : ∀ (h : Heap) (c₁ tk : Nat), KBw.IsBytesIter h s.heap.objs.size b t 0 → (∀ b o, b ≠ S → s.heap.get? b = some o → h.get? b = some o) →
      h.get? S = some { cls := .type "list", data := .seq #[] c₁ } → codeAny (model prog w) A (.builtin "list.extend.loop" ⟨[.ref S, .ref s.heap.objs.size, res], []⟩) R { s with heap := h, toks := tk } := by
    intro h c₁ tk hit hk hS₁
    refine codeAny_extend_loopS W (by rw [sizeLine_eq]; (first | lia | omega)) S hSf res b.size 0 _ #[] c₁ rfl (Nat.zero_le _) hit hS₁ (ItemsOf.nil _) fun s' acc' c' hm hS' hacc => ?_
    rw [Moved.eq_with hm]
    refine hR s'.heap s'.toks acc' c' (fun b o hb e => hm.heap b o (fun hmem => ?_) (hk b o hb e)) hS' hacc
    rcases List.mem_cons.mp hmem with e' | hmem
    · exact hb e'
    · exact absurd (Heap.lt_size e) (by rw [List.mem_singleton.mp hmem]; exact Nat.lt_irrefl _)
  unfold Builtin.List.listExtendWith
  refine wpAny_bind (wpAny_typeOf (T := "bytes") (typeIs_bytes s b t) ?_)
  have h1 : Builtin.List.listSameRef (.ref S) (.bytes b t) = false := rfl
  have h2 : (Value.type "bytes" == Value.type "list") = false := by decide
  have h3 : (Value.type "bytes" == Value.type "tuple") = false := by decide
  simp only [h1, h2, h3, Bool.or_false, Bool.false_eq_true, if_false]
  refine wpAny_bind (KBw.pyIter_bytes ?_)
  refine wpAny_bind (wpAny_holding (hint_bytes ?_))
  have hit₁ : KBw.IsBytesIter (s.heap.push { cls := .type "bytes_iterator", data := .fields #[.bytes b t, .int 0 0] }) s.heap.objs.size b t 0 := ⟨_, Heap.get?_push_size _ rfl, rfl, rfl⟩
  have hS₁ := Heap.get?_push_of_some { cls := .type "bytes_iterator", data := .fields #[.bytes b t, .int 0 0] } hS
  exact wpAny_ite_split (fun hab => nomatch hab) (fun _ => wpAny_pure ⟨plainId_quiet F.plain_extend_loop _, key _ c₀ _ hit₁ (fun b o _ e => Heap.get?_push_of_some _ e) hS₁⟩)

theorem call_list_bytes {Q : Value → Shared → Prop} {b : Array UInt8} {t : Tok} (hh : A.handled = none) (hz : b.size ≤ 2 ^ 24)
    (hQ : ∀ h' tk acc' c', (∀ b o, s.heap.get? b = some o → h'.get? b = some o) →
      h'.get? s.heap.objs.size = some { cls := .type "list", dict := none, data := .seq acc' c', slots := #[] } → ItemsOf (fun i v => ∃ c u, b[i]? = some c ∧ v = .int (c.toNat : Int) u) acc' b.size → Q (.ref s.heap.objs.size) { s with heap := h', toks := tk }) :
    wpAny (model prog w) A (call (.type "list") [.bytes b t]) Q E s := by
  refine callType_codes (Q₁ := fun obj s₁ => obj = .ref s.heap.objs.size ∧ s₁ = { s with heap := s.heap.push { cls := .type "list", data := .seq #[] } }) F.called_list (F.typeCall_list_1 _) F.entry_list_init
    (code_list_new _ ⟨rfl, rfl⟩) fun obj s₁ h₁ => ?_
  obtain ⟨rfl, rfl⟩ := h₁
  have hS : (s.heap.push { cls := .type "list", data := .seq #[] }).get? s.heap.objs.size = some { cls := .type "list", data := .seq #[] } := Heap.get?_push_size _ rfl
  refine ⟨⟨_, hS, rfl⟩, F.args_list_init_2 _ _, ?_⟩
  show wpAny _ _ (do let old ← Builtin.List.listItems (.ref s.heap.objs.size); Builtin.List.listUpdate (.ref s.heap.objs.size) (fun _ => #[]); letGo old.toList.reverse; Builtin.List.listExtendWith (.ref s.heap.objs.size) (.bytes b t) .none) _ _ _
  refine wpAny_bind ?_
  unfold Builtin.List.listItems
  refine wpAny_bind (wpAny_seqItems hS rfl (wpAny_pure ?_))
  show wpAny _ _ (updateSeq s.heap.objs.size (fun _ => #[]) >>= fun _ => letGo (#[] : Array Value).toList.reverse >>= fun _ => Builtin.List.listExtendWith (.ref s.heap.objs.size) (.bytes b t) .none) _ _ _
  refine wpAny_bind (wpAny_updateSeq hS rfl ?_)
  have hS₂ : ((s.heap.push { cls := .type "list", data := .seq #[] }).update s.heap.objs.size (Obj.mapSeq (fun _ => (#[] : Array Value)))).get? s.heap.objs.size = some { cls := .type "list", data := .seq #[] 0 } := Heap.get?_update_self (Obj.mapSeq (fun _ => (#[] : Array Value))) hS rfl
  refine wpAny_bind (wpAny_letGo ?_)
  refine extend_bytes (s := { s with heap := (s.heap.push { cls := .type "list", data := .seq #[] }).update s.heap.objs.size (Obj.mapSeq (fun _ => (#[] : Array Value))) }) (A := A.in1) (R := wants (fun r s₂ => r = Value.none ∧ Q (Value.ref s.heap.objs.size) s₂) E) hh hz s.heap.objs.size .none _ hS₂ fun h' tk acc' c' hk hS' hacc => ?_
  refine ⟨rfl, hQ h' tk acc' c' (fun c o e => hk c o (Nat.ne_of_lt (Heap.lt_size e)) ?_) hS' hacc⟩
  exact (Heap.get?_update_other _ _ (Nat.ne_of_gt (Heap.lt_size e))).trans (Heap.get?_push_of_some _ e)
end
section
variable {prog : Program} {w : World}
theorem ty_listB {b : Array UInt8} (hz : b.size ≤ 2 ^ 24) : TyN prog w "list" [.bytes b] (.lst (IL (b.toList.map fun c => c.toNat))) := fun Φ s vs A E hf ok hr => by
  obtain ⟨v, rfl, t, rfl⟩ := hr.one
  refine call_list_bytes ok.handled hz fun h' tk acc c hk hS hI => ?_
  have hm : MR Φ (.lst (IL (b.toList.map fun c => c.toNat))) (listOf acc.toList.toArray c) := ⟨acc.toList, c, rfl, ?_⟩
  · refine NW.at hf hm hk ?_
    rw [hS]
  · refine Rs.ofGet ?_ fun i x v hx hv => ?_
    · rw [IL_length, List.length_map, Array.length_toList, Array.length_toList]; exact hI.1
    · obtain ⟨cc, u, hc, rfl⟩ := hI.2 i v (by rw [← hv, Array.getElem?_toList])
      unfold IL at hx
      rw [List.map_map, List.getElem?_map, Array.getElem?_toList, hc] at hx
      cases hx
      exact ⟨u, rfl⟩
end
end Kx
end

section -- J27
open PySem PySem.W PyProof.Rows
set_option Elab.async false
set_option maxRecDepth 100000
set_option linter.unusedVariables false
namespace Kx
section
variable {prog : Program} {w : World} {hB : Heap} {D : Nat} {env : Env} {ns : List (Str × NameKind)} {vals vals' : List (Option AV)} {own : List (Addr × MO)} {ε : Ent}
variable {Q : Flw → List (Option AV) → List (Addr × MO) → Prop}
theorem At.of {α : Type} : ∀ {l : List α} {i : Nat} {x : α}, l[i]? = some x → At l i x
  | [], _, _, h => nomatch h
  | y :: l, 0, x, h => by cases h; exact .head
  | y :: l, i + 1, x, h => .tail (At.of (l := l) (i := i) h)
noncomputable def maskV : List Bool → List (Option AV) → List (Option AV)
  | b :: m, x :: l => (bif b then x else none) :: maskV m l
  | _, l => l
theorem maskV_len : ∀ (m : List Bool) (l : List (Option AV)), (maskV m l).length = l.length
  | [], _ => rfl
  | _ :: _, [] => rfl
  | _ :: m, _ :: l => congrArg (· + 1) (maskV_len m l)
theorem maskV_get : ∀ (m : List Bool) (l : List (Option AV)) (i : Nat) (av : AV), (maskV m l)[i]? = some (some av) → l[i]? = some (some av)
  | [], _, _, _, h => h
  | _ :: _, [], _, _, h => h
  | true :: _, _ :: _, 0, _, h => h
  | false :: _, _ :: _, 0, _, h => nomatch h
  | _ :: m, _ :: l, i + 1, av, h => maskV_get m l i av h
theorem Ex.masked {m : List Bool} {ss : List Stmt} (e : maskV m vals = vals') (h : Ex prog w hB D ε env ns ss vals' own Q) : Ex prog w hB D ε env ns ss vals own Q := by
  subst e
  exact h.weak (maskV_get m vals) (fun _ x => x) fun x => x
theorem St.forM (m : List Bool) {x : Str} {p pos : Pos} {e : Expr} {body : List Stmt} {ix : Nat} {k : NameKind} {n : Nat} {f : Nat → AV} (Inv : Nat → List (Option AV) → List (Addr × MO) → Prop)
    (hit : EvIt prog w hB D env ns vals own e ((List.range n).map f)) (hx : At ns ix (x, k)) (hk : k = .local ∨ k = .cell) (h0 : Inv 0 (maskV m vals) own) (hlen : ∀ i v o, Inv i v o → ix < v.length)
    (hstep : ∀ i v o rw, i < n → Inv i v o → Ex prog w hB D ε env ns body (v.set ix (some (f i))) (o ++ rw) (fun fl v' o' => ∃ o'', o' = o'' ++ rw ∧ match fl with | .next => Inv (i + 1) (maskV m v') o'' | .ret a => Q (.ret a) v' o''))
    (hdone : ∀ v o, Inv n (maskV m v) o → Q .next v o) (hs : ∀ x, foldedSetIterable e env x = pure x := by intro _; rfl) :
    St prog w hB D ε env ns (.For (.Name x p) e body [] pos) vals own Q :=
  St.forR (fun i v o => Inv i (maskV m v) o) hit hx hk h0 (fun i v o h => by have := hlen i _ o h; rwa [maskV_len] at this)
    (fun i v o rw hi h => (hstep i _ o rw hi h).weak (fun j av e => by
      rw [List.getElem?_set] at e ⊢
      by_cases hj : ix = j
      · rw [if_pos hj] at e ⊢
        rwa [maskV_len] at e
      · rw [if_neg hj] at e ⊢
        exact maskV_get m v j av e) (fun _ x => x) fun x => x) hdone hs
end
end Kx
end

section -- D1
open PySem PySem.W PyProof.Rows
set_option Elab.async false
set_option maxRecDepth 100000
set_option linter.unusedVariables false
namespace Kx

noncomputable def lends : Code → Bool
  | .builtin id _ => Builtin.Bytes.decodersThatHold.contains id
  | _ => false
noncomputable def Clean (l : List (Code × Pos)) : Prop := ∀ x ∈ l, lends x.1 = false

noncomputable def wpD {α : Type} (M : Model) (A : Around) (t : Sem α) (Q : α → Shared → Prop) (E : Value → Shared → Prop) (s : Shared) : Prop :=
  ∀ Γ p, Γ.In A → lends Γ.code = false → Clean Γ.below → Sem.wp M Γ t (fun a _ s' => Q a s') (fun e _ s' => E e s') p s
noncomputable def codeD (M : Model) (A : Around) (c : Code) (R : Result → Shared → Prop) (s : Shared) : Prop :=
  ∀ Γ p, Γ.code = c → Γ.Below A → Clean Γ.below → wpCode M Γ R p s

section
variable {α β : Type} {M : Model} {A : Around} {E : Value → Shared → Prop} {s : Shared}
theorem wpD.of {t : Sem α} {Q : α → Shared → Prop} (h : wpAny M A t Q E s) : wpD M A t Q E s := fun Γ p hΓ _ _ => h Γ p hΓ
theorem codeD.of {c : Code} {R : Result → Shared → Prop} (h : codeAny M A c R s) : codeD M A c R s := fun Γ p hc hΓ _ => h Γ p hc hΓ
theorem wpD_mono {t : Sem α} {Q Q' : α → Shared → Prop} {E' : Value → Shared → Prop} (h : wpD M A t Q E s) (hQ : ∀ a s, Q a s → Q' a s) (hE : ∀ e s, E e s → E' e s) : wpD M A t Q' E' s :=
  fun Γ p hΓ h1 h2 => Sem.wp_mono M Γ t (fun a _ s => hQ a s) (fun e _ s => hE e s) p s (h Γ p hΓ h1 h2)
theorem wpD_pure {a : α} {Q : α → Shared → Prop} (h : Q a s) : wpD M A (pure a) Q E s := fun _ _ _ _ _ => h
theorem wpD_bind {m : Sem α} {f : α → Sem β} {Q : β → Shared → Prop} (h : wpD M A m (fun a s' => wpD M A (f a) Q E s') E s) : wpD M A (m >>= f) Q E s := fun Γ p hΓ h1 h2 => by
  rw [Sem.wp_bind']
  exact Sem.wp_mono M Γ m (fun a p' s' h' => h' Γ p' hΓ h1 h2) (fun _ _ _ h' => h') p s (h Γ p hΓ h1 h2)
theorem wpD_holding {vs : List Value} {m : Sem α} {Q : α → Shared → Prop} (h : wpD M A m Q E s) : wpD M A (holding vs m) Q E s :=
  fun Γ p hΓ h1 h2 => by rw [Sem.wp_holding]; exact h Γ p hΓ h1 h2
theorem wpD_onRaise {m : Sem α} {k : Value → Sem Unit} {Q : α → Shared → Prop} (h : wpD M A m Q (fun e s' => wpD M A (k e) (fun _ s'' => E e s'') E s') s) : wpD M A (m.onRaise k) Q E s := fun Γ p hΓ h1 h2 => by
  rw [Sem.wp_onRaise]
  exact Sem.wp_mono M Γ m (fun _ _ _ h' => h') (fun e p' s' h' => h' Γ p' hΓ h1 h2) p s (h Γ p hΓ h1 h2)
theorem wpD_attempt {m : Sem α} {Q : Except Value α → Shared → Prop} (h : wpD M A m (fun a => Q (.ok a)) (fun e => Q (.error e)) s) : wpD M A m.attempt Q E s :=
  fun Γ p hΓ h1 h2 => by rw [Sem.wp_attempt]; exact h Γ p hΓ h1 h2
theorem wpD_standAt {pos : Pos} {Q : Unit → Shared → Prop} (h : Q () s) : wpD M A (standAt pos) Q E s := fun _ _ _ _ _ => h
theorem wpD_bindA {m : Sem α} {f : α → Sem β} {Q : β → Shared → Prop} (h : wpAny M A m (fun a s' => wpD M A (f a) Q E s') E s) : wpD M A (m >>= f) Q E s := wpD_bind (wpD.of h)
theorem codeD_mono {c : Code} {R R' : Result → Shared → Prop} (h : codeD M A c R s) (k : ∀ r s, R r s → R' r s) : codeD M A c R' s := fun Γ p hc hΓ h2 => wpCode_mono k (h Γ p hc hΓ h2)
theorem codeD_of_tree {c : Code} {R : Result → Shared → Prop} (hc : lends c = false)
    (h : wpD M (A.under c) (M.den c) (fun fin s' => match fin with | .done f => R (.ok f) s' | .again c' => c'.quiet = true ∧ codeD M A c' R s') (fun e s' => R (.error e) s') s) : codeD M A c R s := fun Γ p hΓc hΓ h2 => by
  rw [wpCode_iff_wp, hΓc]
  refine Sem.wp_mono M Γ _ (fun fin p' s' h' => ?_) (fun _ _ _ h' => h') p s (h Γ p (hΓc ▸ hΓ.in) (hΓc ▸ hc) h2)
  cases fin with
  | done f => exact h'
  | again c' => exact ⟨h'.1, h'.2 (Γ.goto c') p' rfl (hΓ.goto c') h2⟩
theorem wpD_call {f : Value} {pos : List Value} {kw : List (Str × Value)} {Q : Value → Shared → Prop}
    (hc : codeD M A (.call f ⟨pos, kw⟩) (fun r s' => match r with | .ok (.ret v) => Q v s' | .ok _ => False | .error e => E e s') s) : wpD M A (call f pos kw) Q E s := fun Γ p hΓ h1 h2 => by
  unfold call
  rw [Sem.wp_runValue]
  exact hc _ p rfl (hΓ.enter (.call f ⟨pos, kw⟩) none p (by intro x; cases x)) (fun x hx => (List.mem_cons.mp hx).elim (fun e => by rw [e]; exact h1) (h2 x))
end

theorem thread_ends_D {prog : Program} {w : World} {t : Sem Fin} {s : Shared} {R : Result → Shared → Prop} (hreg : s.asleep)
    (h : wpD (model prog w) callerA t (fun fin s' => ∃ f, fin = .done f ∧ (R (.ok f) s' ∧ leftWithCleanup s'.gens = false)) (fun e s' => R (.error e) s' ∧ leftWithCleanup s'.gens = false) s) :
    ∃ n r s' s'', runN (denote table) prog w n s ⟨t, .builtin "claim.caller" {}, default, []⟩ = .halted (outcomeOf r) s' ∧
      schedN (denote table) prog w n (.single s ⟨t, .builtin "claim.caller" {}, default, []⟩) = .halted (outcomeOf r) s' ∧ s'.forget = s''.forget ∧ R r s'' := by
  have hw : Sem.wp (model prog w) ⟨.builtin "claim.caller" {}, none, none, [], none⟩ t (Sem.finPost (model prog w) ⟨.builtin "claim.caller" {}, none, none, [], none⟩ fun r s' => R r s' ∧ leftWithCleanup s'.gens = false)
      (fun e _ s' => R (.error e) s' ∧ leftWithCleanup s'.gens = false) default s :=
    Sem.wp_mono _ _ t (fun fin p' s' h' => by obtain ⟨f, rfl, hf⟩ := h'; exact hf) (fun _ _ _ h' => h') default s (h _ default caller_in (by decide +kernel) (fun x hx => nomatch hx))
  obtain ⟨n, r, s₁, s₂, hs, hn, hfo, hR⟩ := wp_halts_full (M := model prog w) (R := R) hreg hw
  exact ⟨n, r, s₂, s₁, hn, hs, hfo, hR⟩
theorem callFrom_D {c : ClaimW} {tree : List Value → Sem Fin} {w : World} {s : Shared} {free : Addr → Prop} {gens : Prop} {kept : Heap → Prop} (hz : s.asleep) (hgens : s.gens = #[])
    (hspec : ∀ args, c.pre args = true → WData.layableAll args = true → ∀ ord : List DictEntry → List DictEntry, (∀ l, (ord l).Perm l) →
      ∃ vs s₁, layAllW c.records (classAt s.heap) w.params ord args s = some (vs, s₁) ∧
        wpD (model c.prog w) callerA (tree vs) (fun fin s' => ∃ f, fin = .done f ∧ (c.Ends s args vs s₁ (.ok f) s' ∧ s'.os = s.os ∧ AllBare s'.gens ∧ kept s'.heap))
          (fun e s' => c.Ends s args vs s₁ (.error e) s' ∧ s'.os = s.os ∧ AllBare s'.gens ∧ kept s'.heap) s₁) :
    c.CallFrom (fun vs => ⟨tree vs, .builtin "claim.caller" {}, default, []⟩) w free gens kept s := by
  intro args hpre hlay ord hord
  have step : ∀ G : Prop, (∀ vs s₁ k r s', layAllW c.records (classAt s.heap) w.params ord args s = some (vs, s₁) → schedN (denote table) c.prog w k (.single s₁ ⟨tree vs, .builtin "claim.caller" {}, default, []⟩) = .halted (outcomeOf r) s' →
      c.Ends s args vs s₁ r s' → s'.os = s.os → kept s'.heap → s'.heap.life = s.heap.life → G) → G := fun G go => by
    obtain ⟨vs, s₁, hlaid, hcode⟩ := hspec args hpre hlay ord hord
    have rest := layAllW_rest _ _ _ hlaid
    obtain ⟨k, r, s', s'', hrun, hsched, hfo, hR⟩ := thread_ends_D (prog := c.prog) (w := w) (t := tree vs) (s := s₁) (R := fun r s' => c.Ends s args vs s₁ r s' ∧ s'.os = s.os ∧ kept s'.heap)
      (Shared.asleep_of_life rest.2.2.2 hz)
      (wpD_mono hcode (fun fin s' ⟨f, e, a, b, d, k⟩ => ⟨f, e, ⟨a, b, k⟩, leftWithCleanup_false_of_bare d⟩) fun e s' ⟨a, b, d, k⟩ => ⟨⟨a, b, k⟩, leftWithCleanup_false_of_bare d⟩)
    have fg := Shared.forget_eq hfo
    exact go vs s₁ k r s' hlaid hsched (hR.1.congr fg.1) (by rw [fg.2.2.2.1]; exact hR.2.1) (by have h := hR.2.2; rwa [← fg.1] at h) ((runN_life _ _ _ hrun).trans rest.2.2.2)
  refine step _ fun vs s₁ k r s' hlaid hsched ends hos hkp hlife => ⟨vs, s₁, hlaid, k, _, s', hsched, ?_, (fun _ i x hx => by rw [hgens] at hx; simp at hx), hkp, by rw [hlife], Shared.rest_eq hos⟩
  rcases ends with ⟨v, rfl, d⟩ | ⟨e, ob, cls, rfl, d⟩
  · exact .inl ⟨v, rfl, d.1, d.2.1, d.2.2.1, fun b o y _ => d.2.2.2.1 b o y, d.2.2.2.2⟩
  · exact .inr ⟨e, ob, cls, rfl, d.1, d.2.1, d.2.2.1, d.2.2.2.1, fun b o y _ => d.2.2.2.2 b o y⟩
end Kx
end

section -- D2
open PySem PySem.Calls PySem.W PyProof.Rows
set_option Elab.async false
set_option maxRecDepth 100000
set_option linter.unusedVariables false
namespace Kx
noncomputable abbrev WalkD (q : Program) (loose : List Str) (XP : (Str → Option Value) → Heap → Prop) (YP : World → Heap → Prop) (r : RowW) (d : DefRec) (kwd : List (Str × Expr)) : Prop :=
  ∀ (w : World) (s₀ s₁ : Shared) (mg mb : Str → Option Value), Ground q loose r.records XP w s₀ mg mb s₁.heap → YP w s₁.heap → ∀ (a : Addr) (o : Obj) (pm cd doc dV kV : Value), s₁.heap.get? a = some o →
    o.data = .func { docDef d.name d.params d.body d.scope pm cd doc with defaults := dV, kwdefaults := kV } → s₁.heap.CodeRec cd d.name → Dflts mg s₁.heap d.params kwd dV kV → mg d.name = some (.ref a) → s₁.gens = #[] →
    ∀ (args : List WData) (vals : List Value) (as : List Addr), r.claim.pre args = true → WData.layableAll args = true → ReadsAllW r.records (classAt s₀.heap) s₁.heap vals args as → WellAll w.params s₁.heap vals args → (∀ a ∈ as, (a == sysModules) = false) →
      wpD (model r.prog w) callerA (call (.ref a) vals) (fun v s' => GoodWG r.claim (classAt s₀.heap) (ExcName.means s₀.heap) args s₁ (.ok (.ret v)) s')
        (fun e s' => GoodWG r.claim (classAt s₀.heap) (ExcName.means s₀.heap) args s₁ (.error e) s') s₁

theorem open_anyD {r : RowW} {q : Program} {loose defs kps : List Str} {writes : Bool} {Xt : Shared → Bool} {XP : (Str → Option Value) → Heap → Prop} {α : Type} {Yf : Shared → α} {Ya : World → α} {YP : World → Heap → Prop} {N : Nat} {tree : List Value → Sem Fin}
    (left : LeftO r.prog q loose Xt Yf Ya N) (hY : ∀ w s, Yf s = Ya w → YP w s.heap) (hYk : ∀ w h h', YP w h → (∀ b o, h.get? b = some o → h'.get? b = some o) → YP w h') (hX : ∀ s, Xt s = true → XP (s.heap.nsMap mainGlobals) s.heap) (hXk : ∀ mg h h', XP mg h → (∀ b o, h.get? b = some o → h'.get? b = some o) → XP mg h')
    (hRf : ∀ s, Xt s = true → RecFacts r.records s.heap) (hwr : (!writes || r.records.isEmpty) = true) (ok : (chainsOk q && opensWell r.prog && (frees r && r.within.isEmpty)) = true) (hb : r.prog.bare) (hw : r.promised)
    (ht : ∀ vs (w : World) (s : Shared) mg f (Q : Fin → Shared → Prop) (E : Value → Shared → Prop), s.heap.Ns mainGlobals mg → mg r.name = some f → wpD (model r.prog w) callerA (call f vs) (fun v s' => Q (.done (.ret v)) s') E s → wpD (model r.prog w) callerA (tree vs) Q E s)
    (pin : ∀ w s, s.heap.isNs mainGlobals = true → Ground q loose [] XP w s (s.heap.nsMap mainGlobals) (s.heap.nsMap builtinsNs) s.heap → ∀ n ∈ defs, isTheDefsW r.prog s.heap n)
    (walk : ∀ (w : World) (s₀ s₁ : Shared) (mg mb : Str → Option Value), Ground q loose r.records XP w s₀ mg mb s₁.heap → YP w s₁.heap → ∀ (args : List WData) (vs : List Value) (as : List Addr),
      r.claim.pre args = true → WData.layableAll args = true → Laid r.records w s₀ s₁ args vs as → sysModules < s₀.heap.objs.size → ∃ f, mg r.name = some f ∧
        wpD (model r.prog w) callerA (call f vs) (fun v s' => GoodWG r.claim (classAt s₀.heap) (ExcName.means s₀.heap) args s₁ (.ok (.ret v)) s')
          (fun e s' => GoodWG r.claim (classAt s₀.heap) (ExcName.means s₀.heap) args s₁ (.error e) s') s₁) : r.claim.HoldsOpenBy (fun vs => ⟨tree vs, .builtin "claim.caller" {}, default, []⟩) defs kps writes := by
  simp only [Bool.and_eq_true] at ok
  obtain ⟨⟨hch, o1⟩, k5, k6⟩ := ok
  obtain ⟨hsame, hu, ha, hap, hm⟩ := frees_parts k5
  have back := fun w => left.behind (XP := fun mg h => XP mg h ∧ RecFacts r.records h) (fun s hs => ⟨hX s hs, hRf s hs⟩) hch w
  refine ⟨⟨hb, o1, by show r.makers.map _ = []; rw [hm]; rfl⟩, hw.witness, fun w => ⟨(left.behind hX hch w).1, fun s' hs' => ?_⟩⟩
  obtain ⟨s₀, hf, hg0, s, hT, hz, hgens, hg, gr, y⟩ := (back w).2 s' hs'
  have G0 : Ground q loose [] XP w s (s.heap.nsMap mainGlobals) (s.heap.nsMap builtinsNs) s.heap := ⟨gr.T, gr.B, gr.D, gr.TE, gr.TD, gr.W, gr.X.1, gr.cls, gr.has, gr.apart, gr.once, gr.K⟩
  have RF := gr.X.2
  refine ⟨s₀, hf, hg0, s, hT, pin w s hg G0, RF.1, RF.2.1, ?_⟩
  have hgens : s.gens = #[] := Array.eq_empty_of_size_eq_zero (beq_iff_eq.mp hgens)
  have G : Ground q loose r.records XP w s _ _ s.heap := RF.ground G0
  have hT' := hT
  refine callFrom_D (c := r.claim) hz hgens fun args hpre hlay ord hord => ?_
  obtain ⟨⟨vs, s₁⟩, hlaid⟩ := Option.isSome_iff_exists.mp (layAllW_isSome (P := w.params) (ord := ord) G.has args r.args s (pre_splitW hpre).1)
  have keeps := layAllW_keeps _ _ _ hlaid
  have rest := layAllW_rest _ _ _ hlaid
  obtain ⟨as, hrd, hin, hold⟩ := reads_layAllW hord _ _ _ hlaid hlay s₁.heap (fun _ _ e => e)
  have L : Laid r.records w s s₁ args vs as := ⟨⟨ord, hord, hlaid⟩, hrd, hin, hold, keeps, rest.1.trans hgens, rest.2.2.1⟩
  have G₁ := G.keeps hXk keeps
  obtain ⟨f, hfn, h⟩ := walk w s s₁ _ _ G₁ (hYk _ _ _ (hY w s y) keeps) args vs as hpre hlay L G.low
  have hi := ident_freeW hu ha hap
  have hwi : r.claim.within = [] := List.isEmpty_iff.mp k6
  refine ⟨vs, s₁, hlaid, ht vs w s₁ _ f _ _ G₁.T.g hfn (wpD_mono h (fun v s' g => ?_) fun e s' g => ?_)⟩
  · have z := g.laid (c := r.claim) hsame hwi hi L
    exact ⟨_, rfl, z.1, z.2.1, z.2.2, fun q => ⟨namesKept_of hT' hg kps keeps g.2.1.old, noTable hwr q⟩⟩
  · have z := g.laid (c := r.claim) hsame hwi hi L
    exact ⟨z.1, z.2.1, z.2.2, fun q => ⟨namesKept_of hT' hg kps keeps g.2.1.old, noTable hwr q⟩⟩
end Kx
namespace Kx.PySem.W
theorem holds_open {r : OpenRow} {q : Program} {loose : List Str} {Xt : Shared → Bool} {XP : (Str → Option Value) → Heap → Prop} {α : Type} {Yf : Shared → α} {Ya : World → α} {YP : World → Heap → Prop} {d : DefRec} {kwd : List (Str × Expr)} {N : Nat}
    (left : LeftO r.prog q loose Xt Yf Ya N) (hY : ∀ w s, Yf s = Ya w → YP w s.heap) (hYk : ∀ w h h', YP w h → (∀ b o, h.get? b = some o → h'.get? b = some o) → YP w h')
    (hX : ∀ s, Xt s = true → XP (s.heap.nsMap mainGlobals) s.heap) (hXk : ∀ mg h h', XP mg h → (∀ b o, h.get? b = some o → h'.get? b = some o) → XP mg h')
    (hdef : defOf q r.name = some (d, kwd)) (hp : r.prog.theDef r.name = some (d.params, d.body, d.scope)) (hk : kwWritten? d.params.kwonlyargs d.params.kw_defaults = some kwd) (hRf : ∀ s, Xt s = true → RecFacts r.records s.heap) (hwr : (!r.writes || r.records.isEmpty) = true)
    (k1 : r.wellSaid = true) (ok : (chainsOk q && opensWell r.prog && (frees r.toRowW && r.within.isEmpty)) = true) (hb : r.prog.bare) (hw : r.toRowW.promised)
    (walk : WalkD q loose XP YP r.toRowW d kwd) : r.Holds := by
  refine ⟨k1, hw, open_anyD (r := r.toRowW) (tree := fun vs => do match ← nsGet mainNs r.name with
      | some f => do ret (← call f vs)
      | none => unsupported "claim.caller:no-such-global") left hY hYk hX hXk hRf hwr ok hb hw ?_ (fun w s hg G n hn => ?_) fun w s₀ s₁ mg mb G Y args vs as hpre hlay L low => ?_⟩
  · intro vs w s mg f Q E hg hf h
    refine wpD_bindA (wpAny_nsGet hg ?_)
    rw [hf]
    exact wpD_bind (wpD_mono h (fun _ _ x => wpD_pure x) fun _ _ x => x)
  · obtain rfl : n = r.name := by split at hn <;> simp_all
    exact pinned_of_view hg G hdef hp hk
  · obtain ⟨a, o, pm, cd, doc, dV, kV, h1, h2, h3, h4, h5⟩ := G.fn hdef
    exact ⟨.ref a, h1, walk w s₀ s₁ mg mb G Y a o pm cd doc dV kV h2 h3 h4 h5 (defOf_name hdef ▸ h1) L.gens args vs as hpre hlay L.reads L.well (L.low low)⟩
end Kx.PySem.W
end

section -- D3
open PySem PySem.W PyProof.Rows
set_option Elab.async false
set_option maxRecDepth 100000
set_option linter.unusedVariables false
namespace Kx
section
variable {prog : Program} {w : World} {A : Around} {s : Shared} {R : Result → Shared → Prop}
theorem codeD_func {body : List Stmt} {env : Env}
    (h : wpD (model prog w) (A.deeper env) (execs body env) (fun f s' => R (.ok (.ret (match f with | .ret v => v | _ => .none))) s')
      (fun e s' => wpAny (model prog w) (A.deeper env) (leaving env e) (fun _ s'' => R (.error e) s'') (fun e' s'' => R (.error e') s'') s') s) : codeD (model prog w) A (.func body env) R s := by
  refine codeD_of_tree rfl ?_
  show wpD _ (A.deeper env) (do point; match ← (execs body env).onRaise (leaving env) with | .ret v => ret v | _ => ret .none) _ _ s
  refine wpD_bindA (wpAny_point (wpD_bind (wpD_onRaise (wpD_mono h (fun f s' h' => ?_) fun _ _ h' => wpD.of h'))))
  cases f <;> exact wpD_pure h'
theorem codeD_call_cells {a : Addr} {o : Obj} {fd : FuncData} {body : List Stmt} {vals : List Value} {binds : List (Str × Value)}
    (hroom : A.depth < recursionLimit) (ho : s.heap.get? a = some o) (hdata : o.data = .func fd) (hlim : s.heap.NoLimit) (hcd : s.heap.CodeRec fd.code fd.qualname)
    (hbody : fd.body = .stmts body) (hbind : bindArgs fd ⟨vals, []⟩ = pure binds) (hclo : fd.closure = [])
    (hkind : ∀ x ∈ binds, fd.scope.names.lookup x.1 = some .local ∨ (fd.scope.names.lookup x.1 = some .cell ∧ ((cellsFrom (s.heap.objs.size + 1) fd.scope.names []).lookup x.1).isSome = true))
    (h : ∀ s₁, InCallC s (callEnvC fd s.heap.objs.size a).locals (bindL (callEnvC fd s.heap.objs.size a).kindOf binds fun _ => none) (callEnvC fd s.heap.objs.size a).cells
        (bindC (callEnvC fd s.heap.objs.size a).kindOf binds fun _ => none) s₁ →
      wpD (model prog w) (A.deeper (callEnvC fd s.heap.objs.size a)) (execs body (callEnvC fd s.heap.objs.size a)) (fun f s' => R (.ok (.ret (match f with | .ret v => v | _ => .none))) s')
        (fun e s' => wpAny (model prog w) (A.deeper (callEnvC fd s.heap.objs.size a)) (leaving (callEnvC fd s.heap.objs.size a) e) (fun _ s'' => R (.error e) s'') (fun e' s'' => R (.error e') s'') s') s₁)
    (hco : fd.scope.isCoroutine = false) (hgen : fd.scope.isGenerator = false) (hk : fd.scope.kind = .function) :
    codeD (model prog w) A (.call (.ref a) ⟨vals, []⟩) R s := by
  refine codeD_of_tree rfl ?_
  show wpD _ A.in1 (callAny (.ref a) ⟨vals, []⟩) _ _ s
  obtain ⟨c, oc, vs, tq, hc, hoc, hdc, hq⟩ := hcd
  simp only [callAny]
  refine wpD_bindA (wpAny_load ho ?_)
  simp only [hdata, callFunction, hco, hgen, hbody, hc]
  refine wpD_bindA (m := field (.ref c) 1) (wpAny_field hoc hdc hq (wpD_bindA (wpAny_pure ?_)))
  rw [hbind, hclo]
  refine wpD_bindA (wpAny_pure (wpD_bindA ?_))
  rw [← hc]
  refine wpAny_newFunctionEnv_cells hk hkind fun env he s' x => ?_
  subst he
  exact wpD_bindA (wpAny_enterFrame (hlim.keeps x.toInCall.keep) hroom (wpD_pure (And.intro rfl (codeD_func (h s' x)))))
end
end Kx
end

section -- D4
open PySem PySem.W PyProof.Rows
set_option Elab.async false
set_option maxRecDepth 100000
set_option linter.unusedVariables false
namespace Kx
section
open Builtin Builtin.Bytes
noncomputable abbrev bta (b : Array UInt8) : Obj := { cls := .type "bytearray", data := .bytearray b 0 }
theorem tl_bta_len : PySem.Slot "bytearray" "__len__" "bytearray.__len__" :=
  PySem.Slot.of (owner := "bytearray") (n := "__len__") (by rw [typeLookup_type, builtinLookup_eq_fast]; kernel_rfl) (by decide +kernel) (by decide +kernel) (by decide +kernel)
    (by first | exact .inl (by decide +kernel) | exact .inr (by decide +kernel)) (by rw [isSubtype_type]; kernel_rfl)
theorem en_bta_len : entryFor table "bytearray.__len__" = some Builtin.«bytearray.__len__» := by first | exact entryFor_of_fast (by kernel_rfl) | exact entryFor_of_tree (by kernel_rfl)
theorem ar_bta_len (a : Value) : argsOk "bytearray.__len__" ⟨[a], []⟩ := by unfold argsOk; kernel_rfl
theorem tl_bta_get : PySem.Slot "bytearray" "__getitem__" "bytearray.__getitem__" :=
  PySem.Slot.of (owner := "bytearray") (n := "__getitem__") (by rw [typeLookup_type, builtinLookup_eq_fast]; kernel_rfl) (by decide +kernel) (by decide +kernel) (by decide +kernel)
    (by first | exact .inl (by decide +kernel) | exact .inr (by decide +kernel)) (by rw [isSubtype_type]; kernel_rfl)
theorem en_bta_get : entryFor table "bytearray.__getitem__" = some Builtin.«bytearray.__getitem__» := by first | exact entryFor_of_fast (by kernel_rfl) | exact entryFor_of_tree (by kernel_rfl)
theorem ar_bta_get (a b : Value) : argsOk "bytearray.__getitem__" ⟨[a, b], []⟩ := by unfold argsOk; kernel_rfl
theorem tl_bta_set : PySem.Slot "bytearray" "__setitem__" "bytearray.__setitem__" :=
  PySem.Slot.of (owner := "bytearray") (n := "__setitem__") (by rw [typeLookup_type, builtinLookup_eq_fast]; kernel_rfl) (by decide +kernel) (by decide +kernel) (by decide +kernel)
    (by first | exact .inl (by decide +kernel) | exact .inr (by decide +kernel)) (by rw [isSubtype_type]; kernel_rfl)
theorem en_bta_set : entryFor table "bytearray.__setitem__" = some Builtin.«bytearray.__setitem__» := by first | exact entryFor_of_fast (by kernel_rfl) | exact entryFor_of_tree (by kernel_rfl)
theorem ar_bta_set (a b c : Value) : argsOk "bytearray.__setitem__" ⟨[a, b, c], []⟩ := by unfold argsOk; kernel_rfl
theorem tl_bta_append : PySem.Slot "bytearray" "append" "bytearray.append" :=
  PySem.Slot.of (owner := "bytearray") (n := "append") (by rw [typeLookup_type, builtinLookup_eq_fast]; kernel_rfl) (by decide +kernel) (by decide +kernel) (by decide +kernel)
    (by first | exact .inl (by decide +kernel) | exact .inr (by decide +kernel)) (by rw [isSubtype_type]; kernel_rfl)
theorem en_bta_append : entryFor table "bytearray.append" = some Builtin.«bytearray.append» := by first | exact entryFor_of_fast (by kernel_rfl) | exact entryFor_of_tree (by kernel_rfl)
theorem ar_bta_append (a b : Value) : argsOk "bytearray.append" ⟨[a, b], []⟩ := by unfold argsOk; kernel_rfl
theorem tl_bta_extend : PySem.Slot "bytearray" "extend" "bytearray.extend" :=
  PySem.Slot.of (owner := "bytearray") (n := "extend") (by rw [typeLookup_type, builtinLookup_eq_fast]; kernel_rfl) (by decide +kernel) (by decide +kernel) (by decide +kernel)
    (by first | exact .inl (by decide +kernel) | exact .inr (by decide +kernel)) (by rw [isSubtype_type]; kernel_rfl)
theorem en_bta_extend : entryFor table "bytearray.extend" = some Builtin.«bytearray.extend» := by first | exact entryFor_of_fast (by kernel_rfl) | exact entryFor_of_tree (by kernel_rfl)
theorem ar_bta_extend (a b : Value) : argsOk "bytearray.extend" ⟨[a, b], []⟩ := by unfold argsOk; kernel_rfl
theorem tl_bta_init : PySem.Slot "bytearray" "__init__" "bytearray.__init__" :=
  PySem.Slot.of (owner := "bytearray") (n := "__init__") (by rw [typeLookup_type, builtinLookup_eq_fast]; kernel_rfl) (by decide +kernel) (by decide +kernel) (by decide +kernel)
    (by first | exact .inl (by decide +kernel) | exact .inr (by decide +kernel)) (by rw [isSubtype_type]; kernel_rfl)
theorem en_bta_init : entryFor table "bytearray.__init__" = some Builtin.«bytearray.__init__» := by first | exact entryFor_of_fast (by kernel_rfl) | exact entryFor_of_tree (by kernel_rfl)
theorem ar_bta_init1 (a : Value) : argsOk "bytearray.__init__" ⟨[a], []⟩ := by unfold argsOk; kernel_rfl
theorem ar_bta_init2 (a b : Value) : argsOk "bytearray.__init__" ⟨[a, b], []⟩ := by unfold argsOk; kernel_rfl
theorem en_bta_new : entryFor table "bytearray.__new__" = some Builtin.«list.__new__» := entryFor_alias (id' := "list.__new__") (by kernel_rfl) rfl (by decide +kernel) (by kernel_rfl)
theorem ty_append : typeOf (.builtin "bytearray.append") = pure (.type "method_descriptor") := by show builtinType _ = _; rw [builtinType_eq_fast]; kernel_rfl
theorem ty_extend : typeOf (.builtin "bytearray.extend") = pure (.type "method_descriptor") := by show builtinType _ = _; rw [builtinType_eq_fast]; kernel_rfl
theorem sub_bta : isSubtype (.type "bytearray") (.type "bytearray") = pure true := by rw [isSubtype_type]; kernel_rfl
theorem mro_bta : mroOf (.type "bytearray") = pure [.type "bytearray", .type "object"] := by rw [mroOf_type]; kernel_rfl
theorem new_bta : typeLookup (.type "bytearray") "__new__" = pure (some (.builtin "bytearray.__new__")) := by rw [typeLookup_type, builtinLookup_eq_fast]; kernel_rfl
theorem called_bta : TypeCalled "bytearray" "bytearray.__new__" "bytearray.__init__" :=
  ⟨by decide +kernel, by decide +kernel, ⟨_, _, mro_bta⟩, madeBy_type mro_bta new_bta (by decide +kernel), by decide +kernel, sub_bta, tl_bta_init⟩
theorem buf_bta : typeLookup (.type "bytearray") "__buffer__" = pure (some (.builtin "bytearray.__buffer__")) := by rw [typeLookup_type, builtinLookup_eq_fast]; kernel_rfl
theorem rel_bta : typeLookup (.type "bytearray") "__release_buffer__" = pure (some (.builtin "bytearray.__release_buffer__")) := by rw [typeLookup_type, builtinLookup_eq_fast]; kernel_rfl
theorem nob_bta : typeLookup (.type "bytearray") "__bytes__" = pure none := by rw [typeLookup_type, builtinLookup_eq_fast]; kernel_rfl
theorem noi_bta : typeLookup (.type "bytearray") "__index__" = pure none := by rw [typeLookup_type, builtinLookup_eq_fast]; kernel_rfl
end
end Kx
end

section -- D5
open PySem PySem.W PyProof.Rows
set_option Elab.async false
set_option maxRecDepth 100000
set_option linter.unusedVariables false
set_option maxHeartbeats 1000000
namespace Kx
structure AOkD (D : Nat) (A : Around) : Prop where
  ok : AOk D A
  guards : A.guards = some []
theorem AOkD.le {D D' : Nat} {A : Around} (h : AOkD D A) (hd : D' ≤ D) : AOkD D' A := ⟨h.ok.le hd, h.guards⟩
theorem AOkD.deeper {D : Nat} {A : Around} (env : Env) (h : AOkD (D + 1) A) : AOkD D (A.deeper env) := ⟨h.ok.deeper env, h.guards⟩
section
open Builtin Builtin.Bytes
variable {prog : Program} {w : World} {A : Around} {E : Value → Shared → Prop} {s : Shared}
theorem exported_D {self : Value} {Q : Bool → Shared → Prop} (hg : A.guards = some []) (h : Q false s) : wpD (model prog w) A (exported self) Q E s := fun Γ p hΓ hl hc => by
  unfold exported
  rw [Sem.wp_bind']
  show Sem.wp _ _ (.stack .pure) _ _ p s
  rw [Sem.wp_stack]
  have hgs : Γ.code.guards ++ guardsOf Γ.below = [] := hΓ.2.2.2.1 [] hg
  rw [← guardsOf_cons Γ.code p] at hgs
  have all : ∀ x ∈ ((Γ.code, p) :: Γ.below), x.1.isGuard = false ∧ lends x.1 = false := fun x hx => by
    refine ⟨?_, ?_⟩
    · cases e : x.1.isGuard with
      | false => rfl
      | true =>
        have : x.1 ∈ guardsOf ((Γ.code, p) :: Γ.below) := by unfold guardsOf; exact List.mem_filter.mpr ⟨List.mem_map.mpr ⟨x, hx, rfl⟩, e⟩
        rw [hgs] at this; cases this
    · rcases List.mem_cons.mp hx with e | hx
      · rw [e]; exact hl
      · exact hc x hx
  generalize ((Γ.code, p) :: Γ.below) = st at all
  rw [Sem.wp_pure, Sem.wp_pure']
  generalize hF : st.any _ = r
  have : r = false := by
    rw [← hF]
    refine List.any_eq_false.mpr fun x hx => ?_
    obtain ⟨h1, h2⟩ := all x hx
    obtain ⟨c, q⟩ := x
    refine Bool.not_eq_true _ ▸ ?_
    cases c with
    | builtin i args =>
      have g : ∀ x : String, (Code.builtin x args).isGuard = true → i ≠ x := fun x hx e => by subst e; rw [show (Code.builtin i args).isGuard = false from h1] at hx; cases hx
      have h2' : Bytes.decodersThatHold.contains i = false := h2
      obtain ⟨pos, kw⟩ := args
      delta exported.match_1
      refine (dif_neg (g "bytearray.__contains__" (by rfl))).trans ((dif_neg (g "bytearray.__mod__" (by rfl))).trans ((dif_neg (g "bytearray.__rmod__" (by rfl))).trans ((dif_neg (g "_struct.pack_into.held" (by rfl))).trans ((dif_neg (g "bytearray.find.held" (by rfl))).trans ?_))))
      cases pos with
      | nil => rfl
      | cons v r =>
        show (_ && decodersThatHold.contains i) = false
        rw [h2', Bool.and_false]
    | _ => rfl
  rw [this]
  exact h
theorem exportsOf_bta {a : Addr} {b : Array UInt8} {Q : Nat → Shared → Prop} (ho : s.heap.get? a = some (bta b)) (h : Q 0 s) : wpAny (model prog w) A (exportsOf (.ref a)) Q E s := by
  unfold exportsOf
  exact wpAny_bind (wpAny_load ho (wpAny_pure h))
theorem lent_D {a : Addr} {b : Array UInt8} {Q : Bool → Shared → Prop} (hg : A.guards = some []) (ho : s.heap.get? a = some (bta b)) (h : Q false s) :
    wpD (model prog w) A (exported (.ref a) <||> (do return (← exportsOf (.ref a)) > 0)) Q E s := by
  show wpD _ _ (exported (.ref a) >>= fun x => _) _ _ _
  refine wpD_bind (exported_D hg ?_)
  show wpD _ _ (exportsOf (.ref a) >>= fun x => _) _ _ _
  exact wpD_bindA (exportsOf_bta ho (wpD_pure h))
theorem checkResize_D {a : Addr} {b : Array UInt8} {Q : Unit → Shared → Prop} (hg : A.guards = some []) (ho : s.heap.get? a = some (bta b)) (h : Q () s) : wpD (model prog w) A (checkResize (.ref a)) Q E s := by
  unfold checkResize
  refine wpD_bind (lent_D hg ho ?_)
  exact wpD_pure h
theorem write_bta {a : Addr} {b : Array UInt8} {f : Array UInt8 → Array UInt8} {Q : Unit → Shared → Prop} (ho : s.heap.get? a = some (bta b)) (hz : (f b).size ≤ sizeLine) (h : ∀ h', Heap.SameBut a s.heap h' → h'.get? a = some (bta (f b)) → Q () { s with heap := h' }) :
    wpAny (model prog w) A (Bytes.write (.ref a) f) Q E s := by
  show wpAny _ _ (updateBytearray a f) _ _ _
  unfold updateBytearray
  refine wpAny_bind (wpAny_load ho ?_)
  show wpAny _ _ (update a (Obj.mapBytearray f) >>= fun _ => lookBehind a) _ _ _
  refine wpAny_bind (wpAny_update ho ?_)
  have ho' : (s.heap.update a (Obj.mapBytearray f)).get? a = some (bta (f b)) := Heap.get?_update_self (Obj.mapBytearray f) ho rfl
  refine wpAny_lookBehind ho' ?_ (h _ (Heap.SameBut.update ..) ho')
  show (if (f b).size > sizeLine then some "bytearray:memory" else none) = none
  rw [if_neg (by (first | lia | omega))]
theorem payload_bta {a : Addr} {b : Array UInt8} {Q : Array UInt8 → Shared → Prop} (ho : s.heap.get? a = some (bta b)) (h : Q b s) : wpAny (model prog w) A (payload (.ref a)) Q E s := by
  unfold payload payload?
  exact wpAny_bind (wpAny_bind (wpAny_load ho (wpAny_pure (wpAny_pure h))))

theorem callD_entry {T : String} {name : Str} {id : String} {B : Builtin} {self : Value} {rest : List Value} {Q : Value → Shared → Prop} (slot : PySem.Slot T name id) (hT : s.TypeIs self T) (hl : decodersThatHold.contains id = false)
    (entry : entryFor table id = some B) (args : argsOk id ⟨self :: rest, []⟩)
    (h : wpD (model prog w) A.in1 (B ⟨self :: rest, []⟩) (fun fin s' => ∃ v, fin = .done (.ret v) ∧ Q v s') E s) : wpD (model prog w) A (call (.builtin id) (self :: rest)) Q E s := by
  refine wpD_call (codeD_of_tree rfl ?_)
  show wpD _ A.in1 (do checkBuiltinCall id ⟨self :: rest, []⟩; again (.builtin id ⟨self :: rest, []⟩)) _ _ s
  refine wpD_bindA (slot.check _ _ _ _ _ _ _ _ hT args (wpD_pure ⟨plainId_quiet slot.plain _, codeD_of_tree (by show decodersThatHold.contains id = false; exact hl) ?_⟩))
  show wpD _ _ (match entryFor table id with | some b => b ⟨self :: rest, []⟩ | none => unsupported ((withoutEnding? id "#data").getD id)) _ _ s
  rw [entry, Around.under_plainId slot.plain _]
  exact wpD_mono h (fun fin s' ⟨v, e, h'⟩ => by subst e; exact h') fun _ _ e => e
theorem append_D {a : Addr} {b : Array UInt8} {n : Nat} {t : Tok} {Q : Value → Shared → Prop} (hg : A.guards = some []) (ho : s.heap.get? a = some (bta b)) (hn : n < 256) (hz : b.size < sizeLine)
    (h : ∀ h', Heap.SameBut a s.heap h' → h'.get? a = some (bta (b.push n.toUInt8)) → Q .none { s with heap := h' }) : wpD (model prog w) A (call (.builtin "bytearray.append") [.ref a, .int (n : Int) t]) Q E s := by
  refine callD_entry tl_bta_append ⟨_, ho, rfl⟩ (by decide +kernel) en_bta_append (ar_bta_append _ _) ?_
  show wpD _ _ (byteValue (.int (n : Int) t) >>= fun c => checkResize (.ref a) >>= fun _ => Bytes.write (.ref a) (·.push c) >>= fun _ => ret .none) _ _ _
  refine wpD_bindA ?_
  unfold byteValue
  refine wpAny_bind (wpAny_of_eq (rfl : asIndex (.int (n : Int) t) = pure (n : Int)) ?_)
  refine wpAny_ite ?_
  rw [if_neg (by simp; (first | lia | omega))]
  refine wpAny_pure ?_
  refine wpD_bind (checkResize_D hg ho (wpD_bindA (write_bta ho (by rw [Array.size_push]; (first | lia | omega)) fun h' hs hb => wpD_pure ⟨_, rfl, h h' hs hb⟩)))
theorem tbq' (id : String) (b : Array UInt8) (t : Tok) : Builtin.Bytes.takeBufferQuiet? id (.bytes b t) 0 = pure (some (b, none)) := by kernel_rfl
theorem spb (b : Array UInt8) (t : Tok) : specialOf (.bytes b t) "__buffer__" = pure (some (.builtin "bytes.__buffer__")) := by kernel_rfl
theorem extend_D {a : Addr} {b c : Array UInt8} {t : Tok} {Q : Value → Shared → Prop} (hg : A.guards = some []) (ho : s.heap.get? a = some (bta b)) (hz : b.size + c.size ≤ sizeLine)
    (h : ∀ h', Heap.SameBut a s.heap h' → h'.get? a = some (bta (b ++ c)) → Q .none { s with heap := h' }) : wpD (model prog w) A (call (.builtin "bytearray.extend") [.ref a, .bytes c t]) Q E s := by
  refine callD_entry tl_bta_extend ⟨_, ho, rfl⟩ (by decide +kernel) en_bta_extend (ar_bta_extend _ _) ?_
  show wpD _ _ (specialOf (.bytes c t) "__buffer__" >>= fun x => _) _ _ _
  rw [spb]
  refine wpD_bindA (wpAny_pure ?_)
  show wpD _ _ (rule "bytearray.extend.bytes-like" >>= fun _ => Bytes.payload (.ref a) >>= fun b0 => Bytes.takeBufferQuiet? "bytearray.extend" (.bytes c t) 0 >>= fun x => _) _ _ _
  refine wpD_bindA (wpAny_rule (wpD_bindA (payload_bta ho ?_)))
  rw [tbq']
  refine wpD_bindA (wpAny_pure ?_)
  show wpD _ _ (if (!c.isEmpty) = true then (Bytes.checkResize (.ref a) >>= fun _ => Bytes.write (.ref a) (· ++ c) >>= fun _ => ret .none) else (Bytes.write (.ref a) (· ++ c) >>= fun _ => ret .none)) _ _ _
  have fin : wpD (model prog w) A.in1 (Bytes.write (.ref a) (· ++ c) >>= fun _ => (ret .none : Sem Fin)) (fun fin s' => ∃ v, fin = .done (.ret v) ∧ Q v s') E s :=
    wpD_bindA (write_bta ho (by rw [Array.size_append]; exact hz) fun h' hs hb => wpD_pure ⟨_, rfl, h h' hs hb⟩)
  split
  · exact wpD_bind (checkResize_D hg ho fin)
  · exact fin
theorem codeD_builtin {id : String} {args : Args} {B : Builtin} {R : Result → Shared → Prop} (hl : Bytes.decodersThatHold.contains id = false) (hb : entryFor table id = some B)
    (h : wpD (model prog w) (A.under (.builtin id args)) (B args) (fun fin s' => match fin with | .done f => R (.ok f) s' | .again c' => c'.quiet = true ∧ codeD (model prog w) A c' R s') (fun e s' => R (.error e) s') s) :
    codeD (model prog w) A (.builtin id args) R s := by
  refine codeD_of_tree (by show Bytes.decodersThatHold.contains id = false; exact hl) ?_
  show wpD _ _ (match entryFor table id with | some b => b args | none => unsupported ((withoutEnding? id "#data").getD id)) _ _ s
  rw [hb]; exact h
theorem new_bta_code (args : List Value) {Q₁ : Value → Shared → Prop} (hc : checkBuiltinCall "bytearray.__new__" ⟨.type "bytearray" :: args, []⟩ = pure ())
    (h : Q₁ (.ref s.heap.objs.size) { s with heap := s.heap.push (bta #[]) }) : codeAny (model prog w) A (.call (.builtin "bytearray.__new__") ⟨.type "bytearray" :: args, []⟩) (wants Q₁ E) s := by
  refine codeAny_of_tree ?_
  show wpAny _ A.in1 (do checkBuiltinCall "bytearray.__new__" ⟨.type "bytearray" :: args, []⟩; again (.builtin "bytearray.__new__" ⟨.type "bytearray" :: args, []⟩)) _ _ s
  refine wpAny_bind (wpAny_of_eq hc (wpAny_pure ⟨plainId_quiet called_bta.plain _, codeAny_builtin_stack en_bta_new rfl fun p st => ?_⟩))
  rw [Around.under_plainId called_bta.plain _]
  have hsub := sub_bta
  have hown : ("bytearray.__new__".splitOn ".__new__").headD "" = "bytearray" := by simp +decide [String.splitOn, String.splitOnAux]
  obtain ⟨hp, g, d, tk, os⟩ := s
  simp only [hown]
  wp_walk
  exact h
theorem type_bta_D (args : List Value) {Q : Value → Shared → Prop} (hct : checkTypeCall "bytearray" ⟨args, []⟩ = pure ()) (hc : checkBuiltinCall "bytearray.__new__" ⟨.type "bytearray" :: args, []⟩ = pure ())
    (h : wpD (model prog w) A.in1 (call (.builtin "bytearray.__init__") (.ref s.heap.objs.size :: args)) (fun v s' => v = .none ∧ Q (.ref s.heap.objs.size) s') E { s with heap := s.heap.push (bta #[]) }) :
    wpD (model prog w) A (call (.type "bytearray") args) Q E s := by
  refine wpD_call (codeD_of_tree rfl ?_)
  show wpD _ _ (callAny (.type "bytearray") _) _ _ _
  refine wpD_pure ⟨Code.quiet_builtin _ (by decide +kernel), codeD_builtin (by decide +kernel) F.entry_type_call ?_⟩
  rw [Around.under_plain (weight_type_call_type "bytearray" args []) rfl]
  unfold Builtin.«type.__call__»
  dsimp only
  rw [if_neg (by decide)]
  rw [if_neg (fun e => by rw [show ((Manifest.find? "bytearray").bind fun x => List.findSome? (fun t => (Manifest.find? t).bind fun b => if b.noNew = true then some true else if (b.attrs.any fun x => x.fst == "__new__") = true then some false else none) x.mro).getD false = false from called_bta.canCreate] at e; cases e)]
  rw [hct, mro_bta]
  refine wpD_bindA (wpAny_pure (wpD_bindA (wpAny_pure ?_)))
  rw [if_neg (by decide), called_bta.made]
  refine wpD_bindA (wpAny_pure (wpD_bindA (wpAny_pure ?_)))
  refine wpD_bindA (wpAny_holding (wpAny_call (codeAny_mono (new_bta_code (Q₁ := fun v s' => v = .ref s.heap.objs.size ∧ s' = { s with heap := s.heap.push (bta #[]) }) (E := E) args hc ⟨rfl, rfl⟩) fun r s' hr => ?_)))
  cases r with
  | error e => exact hr
  | ok f =>
    cases f with
    | ret v =>
      obtain ⟨rfl, rfl⟩ := hr
      have hT : ({ s with heap := s.heap.push (bta #[]) } : Shared).TypeIs (.ref s.heap.objs.size) "bytearray" := ⟨_, Heap.get?_push_size _ rfl, rfl⟩
      refine wpD_bindA (wpAny_isInstance hT sub_bta ?_)
      rw [if_neg (by decide)]
      refine wpD_bind (wpD_holding ?_)
      simp only [callSpecial?]
      refine wpD_bindA (wpAny_specialOf hT tl_bta_init.lookup ?_)
      simp only [tl_bta_init.bind]
      refine wpD_holding (wpD_bindA (wpAny_pure (wpD_bind (wpD_mono h (fun v s' hv => ?_) fun _ _ e => e))))
      obtain ⟨rfl, hq⟩ := hv
      refine wpD_pure ?_
      dsimp only
      rw [if_neg (by decide)]
      exact wpD_pure hq
    | _ => exact hr.elim
end
end Kx
end

section -- D6
open PySem PySem.W PyProof.Rows
set_option Elab.async false
set_option maxRecDepth 100000
set_option linter.unusedVariables false
set_option maxHeartbeats 1000000
namespace Kx
section
open Builtin Builtin.Bytes
variable {prog : Program} {w : World} {A : Around} {E : Value → Shared → Prop} {s : Shared}
theorem ends_rel : "bytearray.__release_buffer__".endsWith ("." ++ "__release_buffer__") = true := by decide +kernel
theorem drop_rel : "bytearray.__release_buffer__".dropRight ("__release_buffer__".length + 1) = "bytearray" := by decide +kernel
theorem ends_buf : "bytearray.__buffer__".endsWith ("." ++ "__buffer__") = true := by decide +kernel
theorem drop_buf : "bytearray.__buffer__".dropRight ("__buffer__".length + 1) = "bytearray" := by decide +kernel
theorem slotOwn_bta {a : Addr} {b : Array UInt8} {name id : String} {Q : Bool → Shared → Prop} (ho : s.heap.get? a = some (bta b)) (hl : typeLookup (.type "bytearray") (name : Str) = pure (some (.builtin id))) (he : id.endsWith ("." ++ name) = true) (hd : id.dropRight (name.length + 1) = "bytearray") (h : Q true s) :
    wpAny (model prog w) A (slotIsOwn (.ref a) name) Q E s := by
  have hT : s.TypeIs (.ref a) "bytearray" := ⟨_, ho, rfl⟩
  unfold slotIsOwn
  refine wpAny_bind (wpAny_specialOf hT hl ?_)
  dsimp only
  rw [he, if_neg (by decide), hd]
  exact wpAny_isInstance hT sub_bta h
theorem ownRelease_bta {a : Addr} {b : Array UInt8} {Q : Bool → Shared → Prop} (ho : s.heap.get? a = some (bta b)) (h : Q false s) : wpAny (model prog w) A (ownRelease (.ref a)) Q E s := by
  unfold ownRelease
  exact wpAny_bind (slotOwn_bta ho rel_bta ends_rel drop_rel (wpAny_pure h))
theorem buffer_bta {id : String} {a : Addr} {b : Array UInt8} {full : Bool} {Q : Option (Array UInt8) → Shared → Prop} (ho : s.heap.get? a = some (bta b)) (h : Q (some b) s) : wpAny (model prog w) A (buffer? id (.ref a) full) Q E s := by
  have hT : s.TypeIs (.ref a) "bytearray" := ⟨_, ho, rfl⟩
  unfold buffer?
  refine wpAny_bind (wpAny_specialOf hT buf_bta ?_)
  dsimp only
  refine wpAny_bind (slotOwn_bta ho buf_bta ends_buf drop_buf ?_)
  rw [if_neg (by decide)]
  refine wpAny_bind (wpAny_specialOf hT buf_bta ?_)
  refine wpAny_bind (ownRelease_bta ho ?_)
  rw [if_neg (by decide)]
  exact wpAny_bind (payload_bta ho (wpAny_pure h))
theorem init_bind1 (v : Value) : bindOptional "bytearray.__init__" "bytearray" ["source", "encoding", "errors"] [v] [] = pure [some v, none, none] := by kernel_rfl
theorem init_bind0 : bindOptional "bytearray.__init__" "bytearray" ["source", "encoding", "errors"] [] [] = pure [none, none, none] := by kernel_rfl
theorem buf_bytes (id : String) (b : Array UInt8) (t : Tok) : buffer? id (.bytes b t) true = pure (some b) := by kernel_rfl
theorem init0_D {a : Addr} {b : Array UInt8} {Q : Value → Shared → Prop} (hg : A.guards = some []) (ho : s.heap.get? a = some (bta b))
    (h : ∀ h', Heap.SameBut a s.heap h' → h'.get? a = some (bta #[]) → Q .none { s with heap := h' }) : wpD (model prog w) A (call (.builtin "bytearray.__init__") [.ref a]) Q E s := by
  refine callD_entry tl_bta_init ⟨_, ho, rfl⟩ (by decide +kernel) en_bta_init (ar_bta_init1 _) ?_
  unfold Builtin.«bytearray.__init__»
  dsimp only
  refine wpD_bindA (ownRelease_bta ho ?_)
  rw [if_neg (by decide), init_bind0]
  refine wpD_bindA (wpAny_pure ?_)
  dsimp only
  refine wpD_bindA (wpAny_of_eq (a := ()) rfl (wpD_bindA (wpAny_of_eq (a := ()) rfl ?_)))
  refine wpD_bind (lent_D hg ho ?_)
  rw [if_neg (by decide)]
  refine wpD_bindA (write_bta ho (by show (0 : Nat) ≤ _; (first | lia | omega)) fun h' hs hb => ?_)
  exact wpD_pure ⟨_, rfl, h h' hs hb⟩
theorem init1_D {a : Addr} {b c : Array UInt8} {t : Tok} {Q : Value → Shared → Prop} (hg : A.guards = some []) (ho : s.heap.get? a = some (bta b)) (hz : c.size ≤ sizeLine)
    (h : ∀ h', Heap.SameBut a s.heap h' → h'.get? a = some (bta c) → Q .none { s with heap := h' }) : wpD (model prog w) A (call (.builtin "bytearray.__init__") [.ref a, .bytes c t]) Q E s := by
  refine callD_entry tl_bta_init ⟨_, ho, rfl⟩ (by decide +kernel) en_bta_init (ar_bta_init2 _ _) ?_
  unfold Builtin.«bytearray.__init__»
  dsimp only
  refine wpD_bindA (ownRelease_bta ho ?_)
  rw [if_neg (by decide), init_bind1]
  refine wpD_bindA (wpAny_pure ?_)
  dsimp only
  refine wpD_bindA (wpAny_of_eq (a := ()) rfl (wpD_bindA (wpAny_of_eq (a := ()) rfl ?_)))
  refine wpD_bind (lent_D hg ho ?_)
  rw [if_neg (by decide)]
  refine wpD_bindA (write_bta ho (by show (0 : Nat) ≤ _; (first | lia | omega)) fun h₁ hs₁ hb₁ => ?_)
  refine wpD_bindA (wpAny_of_eq (a := none) rfl ?_)
  rw [if_neg (by decide)]
  refine wpD_bindA (wpAny_of_eq (a := ()) rfl ?_)
  refine wpD_bindA (wpAny_of_eq (a := none) (by kernel_rfl) ?_)
  rw [if_neg (by decide), buf_bytes]
  refine wpD_bindA (wpAny_pure ?_)
  dsimp only
  refine wpD_bindA (wpAny_rule (wpD_bindA (write_bta (s := { s with heap := h₁ }) hb₁ hz fun h₂ hs₂ hb₂ => ?_)))
  exact wpD_pure ⟨_, rfl, h h₂ (hs₁.trans hs₂) hb₂⟩
theorem bytearray1_D {c : Array UInt8} {t : Tok} {Q : Value → Shared → Prop} (hg : A.guards = some []) (hz : c.size ≤ sizeLine)
    (h : ∀ h', (∀ b o, s.heap.get? b = some o → h'.get? b = some o) → h'.get? s.heap.objs.size = some (bta c) → Q (.ref s.heap.objs.size) { s with heap := h' }) : wpD (model prog w) A (call (.type "bytearray") [.bytes c t]) Q E s := by
  refine type_bta_D _ (by kernel_rfl) (by kernel_rfl) (init1_D (b := #[]) hg (Heap.get?_push_size _ rfl) hz fun h' hs hb => ⟨rfl, h h' (fun x o e => hs.extBut x o (Nat.ne_of_lt (Heap.lt_size e)) (Heap.get?_push_of_some _ e)) hb⟩)
theorem bytearray0_D {Q : Value → Shared → Prop} (hg : A.guards = some [])
    (h : ∀ h', (∀ b o, s.heap.get? b = some o → h'.get? b = some o) → h'.get? s.heap.objs.size = some (bta #[]) → Q (.ref s.heap.objs.size) { s with heap := h' }) : wpD (model prog w) A (call (.type "bytearray") []) Q E s := by
  refine type_bta_D _ (by kernel_rfl) (by kernel_rfl) (init0_D (b := #[]) hg (Heap.get?_push_size _ rfl) fun h' hs hb => ⟨rfl, h h' (fun x o e => hs.extBut x o (Nat.ne_of_lt (Heap.lt_size e)) (Heap.get?_push_of_some _ e)) hb⟩)
end
end Kx
end

section -- D7
open PySem PySem.W PyProof.Rows
set_option Elab.async false
set_option maxRecDepth 100000
set_option linter.unusedVariables false
set_option maxHeartbeats 1000000
namespace Kx
section
open Builtin Builtin.Bytes
variable {prog : Program} {w : World} {A : Around} {E : Value → Shared → Prop} {s : Shared}
theorem len_bta {a : Addr} {b : Array UInt8} {Q : Value → Shared → Prop} (ho : s.heap.get? a = some (bta b)) (hz : b.size ≤ 16777216) (h : ∀ t k, Q (.int (b.size : Nat) t) { s with toks := k }) : wpAny (model prog w) A (call (.builtin "len") [.ref a]) Q E s := by
  refine PyProof.Rows.call_len_slot (n := b.size) ⟨_, ho, rfl⟩ tl_bta_len (fun Q' hq => ?_) (by (first | lia | omega)) (by (first | lia | omega)) (h _ _)
  refine wpAny_call_entry tl_bta_len ⟨_, ho, rfl⟩ en_bta_len ?_ (ar_bta_len _)
  show wpAny _ _ (payload (.ref a) >>= fun b => retInt (b.size : Nat)) _ _ _
  exact wpAny_bind (payload_bta ho (wpAny_bind (wpAny_mkInt (wpAny_pure ⟨_, rfl, hq⟩))))
theorem subscript_int {i : Int} {t : Tok} {Q : Option Int → Shared → Prop} (hf : fitsIndex i = true) (h : Q (some i) s) : wpAny (model prog w) A (subscript? (.int i t)) Q E s := by
  unfold subscript?
  refine wpAny_bind (wpAny_of_eq (a := some (.builtin "int.__index__")) (by kernel_rfl) ?_)
  rw [if_neg (by decide)]
  refine wpAny_bind (wpAny_of_eq (rfl : asIndex (.int i t) = pure i) ?_)
  rw [hf, if_neg (by decide)]
  exact wpAny_pure h
theorem get_bta {a : Addr} {b : Array UInt8} {i : Int} {k : Nat} {c : UInt8} {t : Tok} {Q : Value → Shared → Prop} (ho : s.heap.get? a = some (bta b)) (hf : fitsIndex i = true) (hi : seqIndex? i b.size = some k) (hk : b[k]? = some c) (h : ∀ t k, Q (.int (c.toNat : Nat) t) { s with toks := k }) :
    wpAny (model prog w) A (getItem (.ref a) (.int i t)) Q E s := by
  have hT : s.TypeIs (.ref a) "bytearray" := ⟨_, ho, rfl⟩
  refine wpAny_getItem_slot hT (by decide) tl_bta_get (wpAny_call_entry tl_bta_get hT en_bta_get ?_ (ar_bta_get _ _))
  show wpAny _ _ (subscript? (.int i t) >>= fun x => _) _ _ _
  refine wpAny_bind (subscript_int hf ?_)
  dsimp only
  refine wpAny_bind (payload_bta ho ?_)
  rw [hi]
  dsimp only [Option.bind_some]
  rw [hk]
  exact wpAny_bind (wpAny_mkInt (wpAny_pure ⟨_, rfl, h _ _⟩))
theorem set_bta {a : Addr} {b : Array UInt8} {i : Int} {k n : Nat} {t u : Tok} {Q : Unit → Shared → Prop} (ho : s.heap.get? a = some (bta b)) (hf : fitsIndex i = true) (hi : seqIndex? i b.size = some k) (hn : n < 256) (hz : b.size ≤ sizeLine)
    (h : ∀ h' tk, Heap.SameBut a s.heap h' → h'.get? a = some (bta (b.setIfInBounds k n.toUInt8)) → Q () { s with heap := h', toks := tk }) :
    wpAny (model prog w) A (setItem (.ref a) (.int i t) (.int (n : Int) u)) Q E s := by
  have hT : s.TypeIs (.ref a) "bytearray" := ⟨_, ho, rfl⟩
  unfold setItem
  refine wpAny_holding ?_
  refine wpAny_bind (wpAny_sequenceKey hT (by decide) ?_)
  refine wpAny_bind (wpAny_callSpecial?_slot hT tl_bta_set (wpAny_call_entry tl_bta_set hT en_bta_set ?_ (ar_bta_set _ _ _)))
  show wpAny _ _ (subscript? (.int i t) >>= fun x => _) _ _ _
  refine wpAny_bind (subscript_int hf ?_)
  dsimp only
  refine wpAny_bind ?_
  unfold byteValue
  refine wpAny_bind (wpAny_of_eq (rfl : asIndex (.int (n : Int) u) = pure (n : Int)) ?_)
  rw [if_neg (by simp; (first | lia | omega))]
  refine wpAny_pure ?_
  refine wpAny_bind (payload_bta ho ?_)
  rw [hi]
  dsimp only
  refine wpAny_bind (write_bta ho (by simpa using hz) fun h' hs hb => ?_)
  exact wpAny_pure ⟨_, rfl, wpAny_pure (h h' s.toks hs hb)⟩
theorem bytes_bta {a : Addr} {b : Array UInt8} {Q : Value → Shared → Prop} (ho : s.heap.get? a = some (bta b)) (hz : b.size ≤ sizeLine) (h : ∀ t k, Q (.bytes b t) { s with toks := k }) : wpAny (model prog w) A (call (.type "bytes") [.ref a]) Q E s := by
  have hT : s.TypeIs (.ref a) "bytearray" := ⟨_, ho, rfl⟩
  refine callType_codes (Q₁ := fun obj s₁ => s₁.TypeIs obj "bytes" ∧ Q obj s₁) F.bm_called (F.bm_typeCall _) F.entry_object_init ?_ fun obj s₁ h₁ => ?_
  · refine codeAny_of_tree ?_
    show wpAny _ A.in1.in1 (do checkBuiltinCall "bytes.__new__" ⟨[.type "bytes", .ref a], []⟩; again (.builtin "bytes.__new__" ⟨[.type "bytes", .ref a], []⟩)) _ _ s
    refine wpAny_bind (wpAny_of_eq (F.bm_newCall _) (wpAny_pure ⟨plainId_quiet F.bm_plain _, codeAny_builtin F.bm_entry ?_⟩))
    rw [Around.under_plainId F.bm_plain _]
    unfold Builtin.«bytes.__new__»
    refine wpAny_bind (wpAny_of_eq (a := true) rfl ?_)
    refine bm_if_false rfl ?_
    refine wpAny_bind (wpAny_of_eq F.bm_sub ?_)
    refine bm_if_false rfl ?_
    refine wpAny_bind (wpAny_of_eq (F.bm_bind _) ?_)
    refine wpAny_bind (wpAny_of_eq (a := ()) rfl ?_)
    refine wpAny_bind (wpAny_of_eq (a := ()) rfl ?_)
    refine bm_if_false rfl ?_
    refine wpAny_bind (wpAny_specialOf hT nob_bta ?_)
    refine wpAny_bind (wpAny_bind ?_)
    show wpAny _ _ (load a >>= _) _ _ _
    refine wpAny_bind (wpAny_load ho ?_)
    refine wpAny_pure (wpAny_pure ?_)
    refine bm_if_false rfl ?_
    refine wpAny_bind (wpAny_specialOf hT noi_bta ?_)
    refine bm_if_true rfl ?_
    first
      | show wpAny _ _ (Builtin.Bytes.buffer? "bytes.__new__" (.ref a) true >>= _) _ _ _
      | (refine wpAny_bind ?_; show wpAny _ _ (Builtin.Bytes.buffer? "bytes.__new__" (.ref a) true >>= _) _ _ _)
    refine wpAny_bind (buffer_bta ho ?_)
    refine wpAny_bind (wpAny_rule (wpAny_bind (wpAny_mkBytes ?_ hz)))
    show wpAny _ _ (if (Value.type "bytes" == Value.type "bytes") = true then _ else _) _ _ _
    refine bm_if_true (by decide) ?_
    exact wpAny_pure ⟨typeIs_bytes _ _ _, h _ _⟩
  · exact ⟨h₁.1, F.args_object_init_2 obj _, object_init_meets F.bm_called.init.lookup F.bm_called.made (by decide) prog w A.in1 _ s₁ ⟨h₁.1, rfl, h₁.2⟩⟩
end
end Kx
end

section -- D8
open PySem PySem.W PyProof.Rows
set_option Elab.async false
set_option maxRecDepth 100000
set_option linter.unusedVariables false
set_option maxHeartbeats 1000000
namespace Kx
section
open Builtin Builtin.Bytes
variable {prog : Program} {w : World} {A : Around} {E : Value → Shared → Prop} {s : Shared}
theorem slice_bta {a sl : Addr} {b : Array UInt8} {n : Nat} {t : Tok} {Q : Value → Shared → Prop} (ho : s.heap.get? a = some (bta b)) (hs : s.heap.IsSliceOf sl .none (.int (n : Int) t) .none)
    (h : Q (.ref s.heap.objs.size) { s with heap := s.heap.push (bta (b.toList.take n).toArray) }) (hz : b.size ≤ sizeLine) : wpAny (model prog w) A (getItem (.ref a) (.ref sl)) Q E s := by
  have hT : s.TypeIs (.ref a) "bytearray" := ⟨_, ho, rfl⟩
  obtain ⟨o, hso, hsc, hsd⟩ := hs
  have hTs : s.TypeIs (.ref sl) "slice" := ⟨o, hso, hsc⟩
  refine wpAny_getItem_slot hT (by decide) tl_bta_get (wpAny_call_entry tl_bta_get hT en_bta_get ?_ (ar_bta_get _ _))
  show wpAny _ _ (subscript? (.ref sl) >>= fun x => _) _ _ _
  refine wpAny_bind ?_
  unfold subscript?
  refine wpAny_bind (wpAny_specialOf hTs slice_no_index (wpAny_pure ?_))
  refine wpAny_bind (wpAny_typeOf hTs ?_)
  show wpAny _ _ (Bytes.sliceParts (.ref sl) >>= fun r => _) _ _ s
  refine wpAny_bind ?_
  unfold Bytes.sliceParts
  refine wpAny_bind (wpAny_field (x := .none) hso hsd rfl ?_)
  kby_none
  refine wpAny_ite (KBy.ite_no (show ¬ ((Value.none == rawInt 0) = true) from Bool.false_ne_true) ?_)
  refine wpAny_bind (wpAny_field (x := .none) hso hsd rfl ?_)
  kby_none
  refine wpAny_bind (wpAny_field (x := .int (n : Int) t) hso hsd rfl ?_)
  kby_int
  refine wpAny_pure ?_
  refine wpAny_bind (payload_bta ho ?_)
  have go : wpAny (model prog w) A.in1 (sliceIndices (rawPart none) (rawPart (some (n : Int))) (rawPart none) b.size) (fun r s' => r = sliceBounds none (some (n : Int)) none b.size ∧ s' = s) (fun _ _ => False) s :=
    wpAny_of_eq (sliceIndices_raw none (some (n : Int)) none b.size (fun e => nomatch e)) ⟨rfl, rfl⟩
  refine wpAny_bind (wpAny_mono go (fun r s' hr => ?_) fun _ _ e => e.elim)
  obtain ⟨rfl, rfl⟩ := hr
  have e : Bytes.sliced b (sliceBounds none (some (n : Int)) none b.size).1 (sliceBounds none (some (n : Int)) none b.size).2.1 (sliceBounds none (some (n : Int)) none b.size).2.2 = (b.toList.take n).toArray := by
    have := KBc.picked_eq b none (some (n : Int))
    unfold KBy.picked at this
    rw [this]
    have hc := clips b.toList none (some n) b.size (by simp)
    simp only [Option.map_none, Option.map_some] at hc
    rw [hc]; simp [cut]
  dsimp only
  rw [e]
  unfold Bytes.newBytearray
  refine wpAny_bind (wpAny_newObj_type (wpAny_pure ⟨_, rfl, h⟩) ?_)
  show (b.toList.take n).toArray.size ≤ sizeLine
  rw [List.size_toArray, List.length_take, Array.length_toList]; (first | lia | omega)
end
end Kx
end

section -- D9
open PySem PySem.W PyProof.Rows
set_option Elab.async false
set_option maxRecDepth 100000
set_option linter.unusedVariables false
set_option maxHeartbeats 1000000
namespace Kx
section
variable {prog : Program} {w : World} {hB : Heap} {K : Frag} {D : Nat} {env : Env} {ns ns' : List (Str × NameKind)} {vals vals' : List (Option AV)} {own own' : List (Addr × MO)} {ε : Ent} {s₀ s s' : Shared} {Φ : FH}
variable {Q Q' : Flw → List (Option AV) → List (Addr × MO) → Prop}
section
variable (prog : Program) (w : World) (hB : Heap) (D : Nat) (ε : Ent) (env : Env) (ns : List (Str × NameKind))
noncomputable def ExD (ss : List Stmt) (vals : List (Option AV)) (own : List (Addr × MO)) (Q : Flw → List (Option AV) → List (Addr × MO) → Prop) : Prop :=
  ∀ Φ s, Rel hB ε env ns Φ vals own s → ∀ A E, AOkD D A → wpD (model prog w) A (execs ss env) (fun f s' => ∃ Φ' vals' own' fl, Le Φ Φ' ∧ Rel hB ε env ns Φ' vals' own' s' ∧ FlR Φ' fl f ∧ Q fl vals' own') E s
noncomputable def StD (st : Stmt) (vals : List (Option AV)) (own : List (Addr × MO)) (Q : Flw → List (Option AV) → List (Addr × MO) → Prop) : Prop :=
  ∀ Φ s, Rel hB ε env ns Φ vals own s → ∀ A E, AOkD D A → wpD (model prog w) A (exec st env) (fun f s' => ∃ Φ' vals' own' fl, Le Φ Φ' ∧ Rel hB ε env ns Φ' vals' own' s' ∧ FlR Φ' fl f ∧ Q fl vals' own') E s
noncomputable def EvSD (vals : List (Option AV)) (own : List (Addr × MO)) (e : Expr) (P : AV → List (Addr × MO) → Prop) : Prop :=
  ∀ Φ s, Rel hB ε env ns Φ vals own s → ∀ A E, AOkD D A → wpD (model prog w) A (eval e env) (fun v s' => ∃ Φ' av own', Le Φ Φ' ∧ Rel hB ε env ns Φ' vals own' s' ∧ R Φ' av v ∧ P av own') E s
noncomputable def ThenD (rest : List Stmt) (Q : Flw → List (Option AV) → List (Addr × MO) → Prop) : Flw → List (Option AV) → List (Addr × MO) → Prop
  | .next, v, o => ExD prog w hB D ε env ns rest v o Q
  | .ret av, v, o => Q (.ret av) v o
end
noncomputable def FnD (prog : Program) (w : World) (hB : Heap) (D : Nat) (f : Addr) (args : List AV) (res : AV) : Prop :=
  ∀ A s vs, AOkD D A → (∀ a o, hB.get? a = some o → s.heap.get? a = some o) → Rs s.heap.get? args vs →
    codeD (model prog w) A (.call (.ref f) ⟨vs, []⟩) (fun r s' => ∃ val, r = .ok (.ret val) ∧ Keeps s s' ∧ R (fresh hB s s') res val) s

theorem ExD.of {ss : List Stmt} (h : Ex prog w hB D ε env ns ss vals own Q) : ExD prog w hB D ε env ns ss vals own Q := fun Φ s q A E ok => wpD.of (h Φ s q A E ok.ok)
theorem StD.of {st : Stmt} (h : St prog w hB D ε env ns st vals own Q) : StD prog w hB D ε env ns st vals own Q := fun Φ s q A E ok => wpD.of (h Φ s q A E ok.ok)
theorem ExD.cons {st : Stmt} {rest : List Stmt} (h : StD prog w hB D ε env ns st vals own (ThenD prog w hB D ε env ns rest Q)) : ExD prog w hB D ε env ns (st :: rest) vals own Q := fun Φ s q A E ok => by
  have e : execs (st :: rest) env = (do match ← exec st env with | .next => execs rest env | f => pure f) := rfl
  rw [e]
  refine wpD_bind (wpD_mono (h Φ s q A E ok) (fun f s₁ h₁ => ?_) fun _ _ e => e)
  obtain ⟨Φ', v, o, fl, a, b, c, d⟩ := h₁
  cases fl with
  | next =>
    cases c
    exact wpD_mono (d Φ' s₁ b A E ok) (fun f s₂ ⟨Φ₂, v₂, o₂, fl₂, a₂, b₂, c₂, d₂⟩ => ⟨Φ₂, v₂, o₂, fl₂, a.trans a₂, b₂, c₂, d₂⟩) fun _ _ e => e
  | ret av =>
    obtain ⟨u, rfl, hu⟩ := c
    exact wpD_pure ⟨Φ', v, o, .ret av, a, b, ⟨u, rfl, hu⟩, d⟩
theorem ExD.st {st : Stmt} {rest : List Stmt} (h : St prog w hB D ε env ns st vals own (ThenD prog w hB D ε env ns rest Q)) : ExD prog w hB D ε env ns (st :: rest) vals own Q := ExD.cons (StD.of h)
theorem ExD.consV {st : Stmt} {rest : List Stmt} (v' : List (Option AV)) (o' : List (Addr × MO)) (h : StD prog w hB D ε env ns st vals own (fun fl v o => fl = .next ∧ v = v' ∧ o = o')) (k : ExD prog w hB D ε env ns rest v' o' Q) : ExD prog w hB D ε env ns (st :: rest) vals own Q :=
  ExD.cons fun Φ s q A E ok => wpD_mono (h Φ s q A E ok) (fun f s₂ ⟨Φ₂, v₂, o₂, fl₂, a₂, b₂, c₂, d₂⟩ => ⟨Φ₂, v₂, o₂, fl₂, a₂, b₂, c₂, by obtain ⟨rfl, rfl, rfl⟩ := d₂; exact k⟩) fun _ _ e => e
theorem StD.retS {e : Expr} {pos : Pos} (h : EvSD prog w hB D ε env ns vals own e (fun av o => Q (.ret av) vals o)) : StD prog w hB D ε env ns (.Return (some e) pos) vals own Q := fun Φ s q A E ok => by
  have e' : exec (.Return (some e) pos) env = (do standAt pos; return .ret (← eval e env)) := rfl
  rw [e']
  refine wpD_bind (wpD_standAt (wpD_bind (wpD_mono (h Φ s q A E ok) (fun v s₁ ⟨Φ₁, av, o, a, q₁, r₁, h₁⟩ => ?_) fun _ _ e => e)))
  exact wpD_pure ⟨Φ₁, vals, o, .ret av, a, q₁, ⟨v, rfl, r₁⟩, h₁⟩
theorem StD.assignS {x : Str} {p pos : Pos} {e : Expr} {i : Nat} {k : NameKind} (hx : At ns i (x, k)) (hk : k = .local ∨ k = .cell) (h : EvSD prog w hB D ε env ns vals own e (fun av o => ∃ vals', SetAt vals i (some av) vals' ∧ Q .next vals' o))
    (hsw : swapsWith e (some (.Name x p)) pos.line env = pure false := by rfl) : StD prog w hB D ε env ns (.Assign [.Name x p] e pos) vals own Q := fun Φ s q A E ok => by
  have e' : exec (.Assign [.Name x p] e pos) env = (do
    standAt pos
    if ← swapsWith e (some (.Name x p)) pos.line env then do
      evalThenUse e env fun v => assignAll v ((assignEach [.Name x p] env).map (·.2))
      pure .next
    else do
      let v ← eval e env
      assignStores env v none ((assignEach [.Name x p] env).map (·.2))) := rfl
  rw [e', hsw]
  refine wpD_bind (wpD_standAt (wpD_bind (wpD_pure ?_)))
  rw [if_neg (by decide)]
  refine wpD_bind (wpD_mono (h Φ s q A E ok) (fun v s₁ ⟨Φ₁, av, o, a, q₁, r₁, vals', hs, h₁⟩ => ?_) fun _ _ e => e)
  have e2 : assignStores env v none ((assignEach [.Name x p] env).map (·.2)) = (do assign (.Name x p) env v; pure Flow.next) := rfl
  rw [e2]
  exact wpD_bindA (wpAny_assign_Name (q₁.stName hx hk hs r₁ fun s₂ q₂ => wpD_pure ⟨_, vals', o, .next, a, q₂, rfl, h₁⟩))
theorem wpD_run {A : Around} {E : Value → Shared → Prop} {c : Code} {Q : Flow → Shared → Prop} (hc : codeD (model prog w) A c (fun r s' => match r with | .ok f => Q f s' | .error e => E e s') s) : wpD (model prog w) A (run c) Q E s := fun Γ p hΓ h1 h2 => by
  rw [Sem.wp_run]
  exact hc _ p rfl (hΓ.enter c none p (by intro x; cases x)) fun x hx => (List.mem_cons.mp hx).elim (fun e => by rw [e]; exact h1) (h2 x)
theorem codeD_loop {A : Around} {c : Code} {R : Result → Shared → Prop} (hl : lends c = false) (hq : c.quiet = true) (I : Nat → Shared → Prop)
    (turn : ∀ n s, I n s → wpD (model prog w) (A.under c) ((model prog w).den c) (fun fin s' => match fin with | .done f => R (.ok f) s' | .again c' => c' = c ∧ ∃ m, m < n ∧ I m s') (fun e s' => R (.error e) s') s) (n : Nat) (h : I n s) : codeD (model prog w) A c R s := by
  induction n using Nat.strongRecOn generalizing s with
  | ind n ih =>
    refine codeD_of_tree hl (wpD_mono (turn n s h) (fun fin s' hf => ?_) fun _ _ h' => h')
    cases fin with
    | done f => exact hf
    | again c' => obtain ⟨rfl, m, hm, hI⟩ := hf; exact ⟨hq, ih m hm hI⟩
theorem StD.while {test : Expr} {body : List Stmt} {pos : Pos} (Inv : Nat → List (Option AV) → List (Addr × MO) → Prop) {n : Nat} (h0 : Inv n vals own)
    (hstep : ∀ i v o, Inv i v o → ∃ b, EvT prog w hB D env ns v o test b ∧ (b = true → ExD prog w hB D ε env ns body v o (fun fl v' o' => fl = .next ∧ ∃ j, j < i ∧ Inv j v' o')) ∧ (b = false → Q .next v o)) :
    StD prog w hB D ε env ns (.While test body [] pos) vals own Q := fun Φ s q A E ok => by
  rw [arm_exec_While]
  refine wpD_bind (wpD_standAt ?_)
  unfold runOwn
  refine wpD_onRaise (wpD_run (codeD_loop rfl rfl (fun i s' => ∃ Φ' v o, Le Φ Φ' ∧ Rel hB ε env ns Φ' v o s' ∧ Inv i v o) (fun i s' ⟨Φ', v, o, hle, q', hI⟩ => ?_) n ⟨Φ, vals, own, Le.refl _, q, h0⟩))
  show wpD _ A ((whileTurn test body [] env).onRaise (fun x => do noteFrame x env; theTreesLotGoes x)) _ _ s'
  obtain ⟨b, ht, hT, hF⟩ := hstep i v o hI
  refine wpD_onRaise ?_
  simp only [whileTurn]
  refine wpD_bindA (wpAny_mono (ht Φ' s' q'.toR A _ ok.ok) (fun r s₁ h₁ => ?_) fun _ _ e => e)
  obtain ⟨k₁, rfl⟩ := h₁
  have q₁ := q'.step k₁
  have hle₁ := hle.trans (grow_le q'.frz : Le Φ' (grow Φ' s' s₁))
  cases r with
  | false =>
    simp only [Bool.false_eq_true, if_false]
    refine wpD_bindA (wpAny_execs_nil (wpD_pure ?_))
    exact ⟨_, v, o, .next, hle₁, q₁, rfl, hF rfl⟩
  | true =>
    simp only [if_true]
    refine wpD_bind (wpD_mono (hT rfl _ s₁ q₁ A _ ok) (fun f s₂ h₂ => ?_) fun _ _ e => e)
    obtain ⟨Φ₂, v₂, o₂, fl, hle₂, q₂, hf, rfl, j, hj, hI₂⟩ := h₂
    cases hf
    exact wpD_pure ⟨rfl, j, hj, Φ₂, v₂, o₂, hle₁.trans hle₂, q₂, hI₂⟩
noncomputable def MeD (prog : Program) (w : World) (id : String) (mo : MO) (avs : List AV) (mo' : MO) : Prop := ∀ (Φ : FH) s a o vs A E (Q : Value → Shared → Prop), (∀ x o, Φ x = some o → s.heap.get? x = some o) → AOkD 1 A → s.heap.get? a = some o → MR Φ mo o → Rs Φ avs vs → Φ a = none →
  (∀ h' o' tk, Heap.SameBut a s.heap h' → h'.get? a = some o' → MR Φ mo' o' → Q .none { s with heap := h', toks := tk }) → wpD (model prog w) A (call (.builtin id) (.ref a :: vs)) Q E s
theorem callWithD_of {A : Around} {E : Value → Shared → Prop} {pos : Pos} {f : Value} {first : List Value} {ts : List (Bool × Sem Value)} {P : Heap → Prop} {Q : Value → Shared → Prop} (hp : ts.any (·.1) = false)
    (hk : ∀ h, P h → ∃ k, (k = Keeper.frame ∨ k = Keeper.machine ∨ k = Keeper.boundFrame) ∧ Looks (model prog w) h (keeperOf f) k)
    (h : wpAny (model prog w) A (spliced ts) (fun vs s₁ => P s₁.heap ∧ wpD (model prog w) A (call f (first ++ vs)) Q E s₁) E s) : wpD (model prog w) A (callWith pos f first ts []) Q E s := by
  unfold callWith
  refine wpD_bindA (wpAny_holding (evalArgs_any (f := f) (Q := fun a s₁ => wpD (model prog w) A _ Q E s₁) hp (wpAny_mono h (fun vs s₁ h₁ => ?_) fun _ _ e => e)))
  refine wpD_bind (wpD_standAt ?_)
  obtain ⟨k, hk', L⟩ := hk _ h₁.1
  simp only [hp, List.any_nil, Bool.or_false]
  refine wpD_bindA (L.here ?_)
  have tail : ∀ {t : Sem Value}, wpD (model prog w) A t Q E s₁ → wpD (model prog w) A (t >>= fun r => holding [r] point >>= fun _ => pure r) Q E s₁ :=
    fun ht => wpD_bind (wpD_mono ht (fun r s₂ hr => wpD_bindA (wpAny_holding (wpAny_point (wpD_pure hr)))) fun _ _ x => x)
  have marked (mk : Value) : wpD (model prog w) A (callMarked mk f (first ++ vs) []) Q E s₁ := by
    unfold callMarked
    exact fun Γ p hΓ h1 h2 => by rw [Sem.wp_keep]; exact h₁.2 Γ p hΓ h1 h2
  rcases hk' with rfl | rfl | rfl <;> dsimp only <;> first | exact tail h₁.2 | (split <;> first | exact tail h₁.2 | exact tail (marked _))
theorem callWithD_blt {A : Around} {E : Value → Shared → Prop} {pos : Pos} {id : String} {first : List Value} {ts : List (Bool × Sem Value)} {Q : Value → Shared → Prop} (hp : ts.any (·.1) = false)
    (h : wpAny (model prog w) A (spliced ts) (fun vs s₁ => wpD (model prog w) A (call (.builtin id) (first ++ vs)) Q E s₁) E s) : wpD (model prog w) A (callWith pos (.builtin id) first ts []) Q E s :=
  callWithD_of (P := fun _ => True) hp (fun h _ => ⟨.machine, .inr (.inl rfl), .now⟩) (wpAny_mono h (fun _ _ h => ⟨trivial, h⟩) fun _ _ e => e)
theorem callWithD_typ {A : Around} {E : Value → Shared → Prop} {pos : Pos} {T : String} {ts : List (Bool × Sem Value)} {Q : Value → Shared → Prop} (hp : ts.any (·.1) = false)
    (h : wpAny (model prog w) A (spliced ts) (fun vs s₁ => wpD (model prog w) A (call (.type T) vs) Q E s₁) E s) : wpD (model prog w) A (callWith pos (.type T) [] ts []) Q E s :=
  callWithD_of (P := fun _ => True) hp (fun h _ => ⟨.machine, .inr (.inl rfl), .now⟩) (wpAny_mono h (fun _ _ h => ⟨trivial, h⟩) fun _ _ e => e)
theorem callWithD_fn {A : Around} {E : Value → Shared → Prop} {pos : Pos} {f : Value} {first : List Value} {ts : List (Bool × Sem Value)} {Q : Value → Shared → Prop} (hk : keepIn K f = true) (hp : ts.any (·.1) = false)
    (h : wpAny (model prog w) A (spliced ts) (fun vs s₁ => K.In s₁.heap ∧ wpD (model prog w) A (call f (first ++ vs)) Q E s₁) E s) : wpD (model prog w) A (callWith pos f first ts []) Q E s :=
  callWithD_of hp (keeps_K hk) h

theorem CallD_Name {x : Str} {p pos : Pos} {es : List Expr} {A : Around} {E : Value → Shared → Prop} {s : Shared} {Q : Value → Shared → Prop}
    (h : wpAny (model prog w) A (eval (.Name x p) env) (fun f s₁ => wpD (model prog w) A (callWith pos f [] (backTo pos (starEach es env)) []) Q E s₁) E s) : wpD (model prog w) A (eval (.Call (.Name x p) es [] pos) env) Q E s := by
  have e : eval (.Call (.Name x p) es [] pos) env = (do callWith pos (← eval (.Name x p) env) [] (backTo pos (starEach es env)) (backToKw pos (keywordEach [] env))) := rfl
  rw [e]; exact wpD_bindA h
theorem EvSD.call {x : Str} {p pos : Pos} {es : List Expr} {f : Addr} {avs args : List AV} {res : AV} {D' : Nat} {P : AV → List (Addr × MO) → Prop} (G : GH K hB) (hk : keepIn K (.ref f) = true) (hf : Ev prog w hB D env ns vals own (.Name x p) (.ref f))
    (hes : EvL prog w hB D env ns vals own es avs) (ha : Hnds own avs args) (F : FnD prog w hB D' f args res) (hd : D' ≤ D) (k : P res own) : EvSD prog w hB D ε env ns vals own (.Call (.Name x p) es [] pos) P := fun Φ s q A E ok => by
  refine CallD_Name (wpAny_mono (hf Φ s q.toR A E ok.ok) (fun v s₁ h₁ => ?_) fun _ _ e => e)
  obtain ⟨k₁, rfl⟩ := h₁
  have q₁ := q.step k₁
  refine callWithD_fn hk (hes.1 pos) (wpAny_mono (hes.2 _ s₁ q₁.toR A E pos ok.ok) (fun vs s₂ h₂ => ?_) fun _ _ e => e)
  have q₂ := q₁.step h₂.1
  refine ⟨fun a o e => q₂.toR.base' _ _ (G.kin a o e), wpD_call (codeD_mono (F A s₂ vs (ok.le hd) q₂.toR.base' (ha.get q₂.toR (Le.refl _) q₂.frz h₂.2)) fun r s₃ h₃ => ?_)⟩
  obtain ⟨val, rfl, k₃, r₃⟩ := h₃
  exact ⟨_, res, own, ((grow_le q.frz).trans (grow_le q₁.frz)).trans (grow_le q₂.frz), q₂.step k₃, r₃.mono (fresh_le q₂.base q₂.frz), k⟩
theorem methodCallD {A : Around} {E : Value → Shared → Prop} {o : Expr} {name : Str} {apos pos : Pos} {es : List Expr} {pl : Sem Bool} {Q : Value → Shared → Prop}
    (h : wpAny (model prog w) A (eval o env) (fun ov s₁ => wpAny (model prog w) A (getMethod ov name pl) (fun fx s₂ => wpD (model prog w) A (callWith pos fx.1 fx.2 (backTo pos (starEach es env)) []) Q E s₂) E s₁) E s)
    (he : eval (.Call (.Attribute o name apos) es [] pos) env = (do
      let ov ← eval o env
      standAt apos.atName
      let (f, first) ← holding [ov] (getMethod ov name pl)
      callWith pos f first (backTo pos (starEach es env)) (backToKw pos (keywordEach [] env)))) : wpD (model prog w) A (eval (.Call (.Attribute o name apos) es [] pos) env) Q E s := by
  rw [he]
  refine wpD_bindA (wpAny_mono h (fun ov s₁ h₁ => wpD_bind (wpD_standAt (wpD_bindA (wpAny_holding (wpAny_mono h₁ (fun fx s₂ h₂ => ?_) fun _ _ x => x))))) fun _ _ x => x)
  exact h₂
theorem EvSD.meth {o : Expr} {name : Str} {apos pos : Pos} {es : List Expr} {C f : Addr} {names : List Str} {xs avs args : List AV} {res : AV} {D' : Nat} {pl : Sem Bool} {P : AV → List (Addr × MO) → Prop} (G : GH K hB) (hc : ClsOk K C) (hk : keepIn K (.ref f) = true) (ho : Ev prog w hB D env ns vals own o (.obj C names xs))
    (hm : findIn K (.ref C) name = some (some (.ref f))) (ht : typeIn K (.ref f) = some (.type "function")) (hn : names.contains name = false) (hes : EvL prog w hB D env ns vals own es avs) (ha : Hnds own avs args)
    (F : FnD prog w hB D' f (.obj C names xs :: args) res) (hd : D' ≤ D) (k : P res own)
    (he : eval (.Call (.Attribute o name apos) es [] pos) env = (do
      let ov ← eval o env
      standAt apos.atName
      let (f, first) ← holding [ov] (getMethod ov name pl)
      callWith pos f first (backTo pos (starEach es env)) (backToKw pos (keywordEach [] env))) := by rfl) : EvSD prog w hB D ε env ns vals own (.Call (.Attribute o name apos) es [] pos) P := fun Φ s q A E ok => by
  refine methodCallD (pl := pl) (wpAny_mono (ho Φ s q.toR A E ok.ok) (fun ov s₁ h₁ => ?_) fun _ _ e => e) he
  have hr₁ := h₁.2
  obtain ⟨k₁, x, dx, es', vs', n, rfl, hx1, hx2, hes', hrs⟩ := h₁
  have q₁ := q.step k₁
  have X : K.In s₁.heap := fun a o e => q₁.toR.base' _ _ (G.kin a o e)
  have I : InstAt s₁.heap x (instObj C dx) C (some (dictOf es' n)) := ⟨q₁.frz _ _ hx1, rfl, rfl, q₁.frz _ _ hx2⟩
  have hms := hes'.miss (x := name) (by simpa using hn)
  have hsh : shadowIn (some (dictOf es' n)) name = some false := by
    unfold shadowIn lookIn; dsimp only; rw [hms.1]; simp only [hms.2]; rfl
  refine method_fn X I hc.ga hc.gk hm ht hsh ?_
  refine callWithD_fn hk (hes.1 pos) (wpAny_mono (hes.2 _ s₁ q₁.toR A E pos ok.ok) (fun vs s₂ h₂ => ?_) fun _ _ e => e)
  have q₂ := q₁.step h₂.1
  refine ⟨fun a o e => q₂.toR.base' _ _ (G.kin a o e), wpD_call (codeD_mono (F A s₂ _ (ok.le hd) q₂.toR.base' ⟨(hr₁.mono (grow_le q₁.frz)).mono q₂.frz, ha.get q₂.toR (Le.refl _) q₂.frz h₂.2⟩) fun r s₃ h₃ => ?_)⟩
  obtain ⟨val, rfl, k₃, r₃⟩ := h₃
  exact ⟨_, res, own, ((grow_le q.frz).trans (grow_le q₁.frz)).trans (grow_le q₂.frz), q₂.step k₃, r₃.mono (fresh_le q₂.base q₂.frz), k⟩
theorem StD.meth {o : Expr} {name : Str} {apos pos epos : Pos} {es : List Expr} {a : Addr} {j : Nat} {avs : List AV} {mo mo' : MO} {id : String} {pl : Sem Bool} (ho : Ev prog w hB (D + 1) env ns vals own o (.ref a)) (hj : At own j (a, mo)) (hn : NmG prog w name mo id)
    (hes : EvL prog w hB (D + 1) env ns vals own es avs) (F : MeD prog w id mo avs mo') (hset : SetAt own j (a, mo') own') (kq : Q .next vals own')
    (hi : interactive env = false) (hs : swapsWith (.Call (.Attribute o name apos) es [] pos) none epos.line env = pure false)
    (he : eval (.Call (.Attribute o name apos) es [] pos) env = (do
      let ov ← eval o env
      standAt apos.atName
      let (f, first) ← holding [ov] (getMethod ov name pl)
      callWith pos f first (backTo pos (starEach es env)) (backToKw pos (keywordEach [] env)))) : StD prog w hB (D + 1) ε env ns (.Expr (.Call (.Attribute o name apos) es [] pos) epos) vals own Q := fun Φ s q A E ok => by
  rw [exec_Expr env _ epos hi hs]
  refine wpD_bind (wpD_standAt (wpD_bind ?_))
  refine methodCallD (pl := pl) (wpAny_mono (ho Φ s q.toR A E ok.ok) (fun ov s₁ h₁ => ?_) fun _ _ e => e) he
  have q₁ := q.step h₁.1
  obtain ⟨k₁, rfl⟩ := h₁
  obtain ⟨_, _, _, _, ob, hob, hm⟩ := q₁.owns a mo hj.mem
  refine hn _ s₁ a ob A E pl _ hob hm ?_
  refine callWithD_blt (hes.1 pos) (wpAny_mono (hes.2 _ s₁ q₁.toR A E pos ok.ok) (fun vs s₂ h₂ => ?_) fun _ _ e => e)
  have q₂ := q₁.step h₂.1
  obtain ⟨hn', _, _, _, ob', hob', hm'⟩ := q₂.owns a mo hj.mem
  refine F _ s₂ a ob' vs A E _ q₂.frz (ok.le (by (first | lia | omega))) hob' hm' h₂.2 hn' fun h' o' tk hsb ho' hr' => ?_
  rw [dropValue_plain (by intro a e; cases e)]
  exact wpD_pure ⟨_, vals, own', .next, (grow_le q.frz).trans (grow_le q₁.frz), q₂.change hj hset hsb ho' hr', rfl, kq⟩
end
end Kx
end

section -- D10
open PySem PySem.W PyProof.Rows
set_option Elab.async false
set_option maxRecDepth 100000
set_option linter.unusedVariables false
set_option maxHeartbeats 1000000
namespace Kx
section
variable {prog : Program} {w : World} {hB : Heap} {K : Frag} {D : Nat} {env : Env} {ns ns' : List (Str × NameKind)} {vals vals' : List (Option AV)} {own own' : List (Addr × MO)} {ε : Ent} {s₀ s s' : Shared} {Φ : FH}
variable {Q Q' : Flw → List (Option AV) → List (Addr × MO) → Prop}
theorem plainAttrs_bta : PlainAttrs "bytearray" :=
  ⟨⟨"bytearray.__getattribute__", by rw [typeLookup_type, builtinLookup_eq_fast]; kernel_rfl, by decide +kernel⟩, by rw [typeLookup_type, builtinLookup_eq_fast]; kernel_rfl⟩
theorem ng_bta {name : Str} {id : String} {b : Array UInt8} (slot : PySem.Slot "bytearray" name id) (hty : typeOf (.builtin id) = pure (.type "method_descriptor")) : NmG prog w name (.bta b) id := fun Φ s a o A E pl Q ho hm h => by
  obtain rfl : o = bta b := hm
  exact getMethod_builtin ⟨_, ho, rfl⟩ plainAttrs_bta slot hty (fun a e => by cases e; exact ⟨_, ho, rfl⟩) h
theorem md_append {b : Array UInt8} {n : Nat} (hn : n < 256) (hz : b.size < sizeLine) : MeD prog w "bytearray.append" (.bta b) [.int (n : Int)] (.bta (b.push n.toUInt8)) := fun Φ s a o vs A E Q hf ok ho hm hr hΦ h => by
  obtain rfl : o = bta b := hm
  obtain ⟨u, rfl, t, rfl⟩ := hr.one
  exact append_D ok.guards ho hn hz fun h' hs hb => h h' _ s.toks hs hb rfl
theorem md_extend {b c : Array UInt8} (hz : b.size + c.size ≤ sizeLine) : MeD prog w "bytearray.extend" (.bta b) [.bytes c] (.bta (b ++ c)) := fun Φ s a o vs A E Q hf ok ho hm hr hΦ h => by
  obtain rfl : o = bta b := hm
  obtain ⟨u, rfl, t, rfl⟩ := hr.one
  exact extend_D ok.guards ho hz fun h' hs hb => h h' _ s.toks hs hb rfl
theorem gg_bta {b : Array UInt8} {c : UInt8} (h0 : 0 < b.size) (hz : b.size ≤ sizeLine) (hc : b[b.size - 1]? = some c) : GetG prog w (.int (-1)) (.bta b) (.int ((c.toNat : Nat) : Int)) := fun Φ s a o vk A E hf ok ho hm hk => by
  obtain rfl : o = bta b := hm
  obtain ⟨t, rfl⟩ := hk
  refine get_bta (k := b.size - 1) ho (by decide) ?_ hc fun t k => ⟨Keeps.tok k, t, rfl⟩
  unfold seqIndex?
  simp; (first | lia | omega)
theorem sg_bta {b : Array UInt8} {n : Nat} (h0 : 0 < b.size) (hz : b.size ≤ sizeLine) (hn : n < 256) : SetG prog w (.int (-1)) (.bta b) (.int (n : Int)) (.bta (b.setIfInBounds (b.size - 1) n.toUInt8)) := fun Φ s a o vk vv A E Q hf ok ho hm hk hv h => by
  obtain rfl : o = bta b := hm
  obtain ⟨t, rfl⟩ := hk
  obtain ⟨u, rfl⟩ := hv
  refine set_bta (k := b.size - 1) ho (by decide) ?_ hn hz fun h' tk hs hb => h h' _ tk hs hb rfl
  unfold seqIndex?
  simp; (first | lia | omega)

noncomputable def BlO (prog : Program) (w : World) (id : String) (mo : MO) (res : AV) : Prop := ∀ (Φ : FH) s a o A E, (∀ x o, Φ x = some o → s.heap.get? x = some o) → AOk 1 A → s.heap.get? a = some o → MR Φ mo o →
  wpAny (model prog w) A (call (.builtin id) [.ref a]) (fun v s' => Keeps s s' ∧ R (grow Φ s s') res v) E s
noncomputable def TyO (prog : Program) (w : World) (T : String) (mo : MO) (res : AV) : Prop := ∀ (Φ : FH) s a o A E, (∀ x o, Φ x = some o → s.heap.get? x = some o) → AOk 1 A → s.heap.get? a = some o → MR Φ mo o →
  wpAny (model prog w) A (call (.type T) [.ref a]) (fun v s' => Keeps s s' ∧ R (grow Φ s s') res v) E s
theorem bo_len {b : Array UInt8} (hz : b.size ≤ 16777216) : BlO prog w "len" (.bta b) (.int ((b.size : Nat) : Int)) := fun Φ s a o A E hf ok ho hm => by
  obtain rfl : o = bta b := hm
  exact len_bta ho hz fun t k => ⟨Keeps.tok k, t, rfl⟩
theorem to_bytes {b : Array UInt8} (hz : b.size ≤ sizeLine) : TyO prog w "bytes" (.bta b) (.bytes b) := fun Φ s a o A E hf ok ho hm => by
  obtain rfl : o = bta b := hm
  exact bytes_bta ho hz fun t k => ⟨Keeps.tok k, t, rfl⟩
theorem Ev.callBlO {x : Str} {p pos : Pos} {e : Expr} {id : String} {a : Addr} {j : Nat} {mo : MO} {res : AV} (hf : Ev prog w hB (D + 1) env ns vals own (.Name x p) (.blt id)) (he : Ev prog w hB (D + 1) env ns vals own e (.ref a)) (hj : At own j (a, mo)) (F : BlO prog w id mo res)
    (hs : starEach [e] env = [(false, eval e env)] := by rfl) : Ev prog w hB (D + 1) env ns vals own (.Call (.Name x p) [e] [] pos) res := fun Φ s q A E ok => by
  have hes := EvL.cons he EvL.nil hs
  refine Call_Name_ (wpAny_mono (hf Φ s q A E ok) (fun v s₁ h₁ => ?_) fun _ _ e => e)
  obtain ⟨k₁, rfl⟩ := h₁
  have q₁ := q.step k₁
  refine callWith_blt (hes.1 pos) (wpAny_mono (hes.2 _ s₁ q₁ A E pos ok) (fun vs s₂ h₂ => ?_) fun _ _ e => e)
  have q₂ := q₁.step h₂.1
  obtain ⟨o, ho, hm⟩ := q₂.own a mo hj.mem
  obtain ⟨k₂, hr⟩ := h₂
  obtain ⟨u, rfl, rfl⟩ := hr.one
  exact wpAny_mono (F _ s₂ a o A E q₂.frz (ok.le (by (first | lia | omega))) ho hm) (fun v s₃ h₃ => fin k₁ (fin k₂ h₃)) fun _ _ e => e
theorem Ev.callTyO {x : Str} {p pos : Pos} {e : Expr} {T : String} {a : Addr} {j : Nat} {mo : MO} {res : AV} (hf : Ev prog w hB (D + 1) env ns vals own (.Name x p) (.typ T)) (he : Ev prog w hB (D + 1) env ns vals own e (.ref a)) (hj : At own j (a, mo)) (F : TyO prog w T mo res)
    (hs : starEach [e] env = [(false, eval e env)] := by rfl) : Ev prog w hB (D + 1) env ns vals own (.Call (.Name x p) [e] [] pos) res := fun Φ s q A E ok => by
  have hes := EvL.cons he EvL.nil hs
  refine Call_Name_ (wpAny_mono (hf Φ s q A E ok) (fun v s₁ h₁ => ?_) fun _ _ e => e)
  obtain ⟨k₁, rfl⟩ := h₁
  have q₁ := q.step k₁
  refine callWith_typ (hes.1 pos) (wpAny_mono (hes.2 _ s₁ q₁ A E pos ok) (fun vs s₂ h₂ => ?_) fun _ _ e => e)
  have q₂ := q₁.step h₂.1
  obtain ⟨o, ho, hm⟩ := q₂.own a mo hj.mem
  obtain ⟨k₂, hr⟩ := h₂
  obtain ⟨u, rfl, rfl⟩ := hr.one
  exact wpAny_mono (F _ s₂ a o A E q₂.frz (ok.le (by (first | lia | omega))) ho hm) (fun v s₃ h₃ => fin k₁ (fin k₂ h₃)) fun _ _ e => e
theorem Ev.callTyN {x : Str} {p pos : Pos} {e : Expr} {T : String} {mo : MO} {res : AV} (hf : Ev prog w hB (D + 1) env ns vals own (.Name x p) (.typ T)) (he : EvN prog w hB (D + 1) env ns vals own e mo) (F : TyO prog w T mo res)
    (hs : starEach [e] env = [(false, eval e env)] := by rfl) : Ev prog w hB (D + 1) env ns vals own (.Call (.Name x p) [e] [] pos) res := fun Φ s q A E ok => by
  refine Call_Name_ (wpAny_mono (hf Φ s q A E ok) (fun v s₁ h₁ => ?_) fun _ _ e => e)
  obtain ⟨k₁, rfl⟩ := h₁
  have q₁ := q.step k₁
  rw [hs]
  refine callWith_typ rfl (Calls.spliced_cons (wpAny_mono (he _ s₁ q₁ A E ok) (fun v s₂ h₂ => Calls.spliced_nil ?_) fun _ _ e => e))
  obtain ⟨k₂, a, o, rfl, hn, ho, hm⟩ := h₂
  have q₂ := q₁.step k₂
  exact wpAny_mono (F _ s₂ a o A E q₂.frz (ok.le (by (first | lia | omega))) ho (hm.mono hide_le)) (fun v s₃ h₃ => fin k₁ (fin k₂ h₃)) fun _ _ e => e
theorem EvN.sliceO {v hi : Expr} {p pos : Pos} {a : Addr} {b : Array UInt8} {j n : Nat} (hv : Ev prog w hB D env ns vals own v (.ref a)) (hj : At own j (a, .bta b)) (hu : Ev prog w hB D env ns vals own hi (.int (n : Int))) (hz : b.size ≤ sizeLine) : EvN prog w hB D env ns vals own (.Subscript v (.Slice none (some hi) none p) pos) (.bta (b.toList.take n).toArray) := fun Φ s q A E ok => by
  refine Subscript_SliceW tl_bta_get.lookup (wpAny_mono (hv Φ s q A E ok) (fun o s₁ h₁ => ?_) fun _ _ e => e)
  obtain ⟨k₁, rfl⟩ := h₁
  have q₁ := q.step k₁
  refine evalSlice .none (.some hu) q₁ ok fun s₂ vl vu k₂ pl pu => ?_
  have q₂ := q₁.step k₂
  obtain ⟨o, ho, hm⟩ := q₂.own a _ hj.mem
  obtain rfl : o = bta b := hm
  cases pl
  cases pu with
  | int _ t =>
    have ho' : ∀ x : Obj, (s₂.heap.push x).get? a = some (bta b) := fun x => Heap.get?_push_of_some _ ho
    refine ⟨⟨_, ho' _, rfl⟩, slice_bta (ho' _) (Heap.IsSliceOf.new ..) ?_ hz⟩
    have k₃ : Keeps s₂ { s₂ with heap := s₂.heap.push { cls := .type "slice", data := .fields #[.none, .int (n : Int) t, .none] } } := Keeps.push _ s₂.toks
    have q₃ := q₂.step k₃
    exact NW.tr k₁ (NW.tr k₂ (NW.tr k₃ (NW.push q₃.frz rfl)))

theorem newO {a : Addr} {o : Obj} {mo : MO} {P : AV → List (Addr × MO) → Prop} (q : Rel hB ε env ns Φ vals own s) (k : Keeps s s') (hn : s.heap.get? a = none) (ho : s'.heap.get? a = some o) (hm : MR (hide (grow Φ s s') a) mo o) (h : ∀ a, P (.ref a) ((a, mo) :: own)) :
    ∃ Φ' av own', Le Φ Φ' ∧ Rel hB ε env ns Φ' vals own' s' ∧ R Φ' av (.ref a) ∧ P av own' :=
  ⟨_, .ref a, _, le_hide (grow_le q.frz) (by cases e : Φ a with | none => rfl | some o => have := q.frz _ _ e; rw [hn] at this; cases this), q.adopt hn k ho hm, rfl, h a⟩
theorem EvSD.bta0 {x : Str} {p pos : Pos} {P : AV → List (Addr × MO) → Prop} (hf : Ev prog w hB (D + 1) env ns vals own (.Name x p) (.typ "bytearray")) (k : ∀ a, P (.ref a) ((a, .bta #[]) :: own)) : EvSD prog w hB (D + 1) ε env ns vals own (.Call (.Name x p) [] [] pos) P := fun Φ s q A E ok => by
  refine CallD_Name (wpAny_mono (hf Φ s q.toR A E ok.ok) (fun v s₁ h₁ => ?_) fun _ _ e => e)
  obtain ⟨k₁, rfl⟩ := h₁
  have q₁ := q.step k₁
  refine callWithD_typ rfl (Calls.spliced_nil (bytearray0_D ok.guards fun h' hk ho => ?_))
  obtain ⟨Φ', av, own', a, b, c, d⟩ := newO (P := P) (mo := .bta #[]) (o := bta #[]) q₁ (s' := { s₁ with heap := h' }) ⟨h', s₁.toks, rfl, hk⟩ (get_size _) ho rfl k
  exact ⟨Φ', av, own', (grow_le q.frz).trans a, b, c, d⟩
theorem EvSD.bta1 {x : Str} {p pos : Pos} {e : Expr} {c : Array UInt8} {P : AV → List (Addr × MO) → Prop} (hf : Ev prog w hB (D + 1) env ns vals own (.Name x p) (.typ "bytearray")) (he : Ev prog w hB (D + 1) env ns vals own e (.bytes c)) (hz : c.size ≤ sizeLine) (k : ∀ a, P (.ref a) ((a, .bta c) :: own))
    (hs : starEach [e] env = [(false, eval e env)] := by rfl) : EvSD prog w hB (D + 1) ε env ns vals own (.Call (.Name x p) [e] [] pos) P := fun Φ s q A E ok => by
  refine CallD_Name (wpAny_mono (hf Φ s q.toR A E ok.ok) (fun v s₁ h₁ => ?_) fun _ _ e => e)
  obtain ⟨k₁, rfl⟩ := h₁
  have q₁ := q.step k₁
  rw [hs]
  refine callWithD_typ rfl (Calls.spliced_cons (wpAny_mono (he _ s₁ q₁.toR A E ok.ok) (fun v s₂ h₂ => Calls.spliced_nil ?_) fun _ _ e => e))
  obtain ⟨k₂, t, rfl⟩ := h₂
  have q₂ := q₁.step k₂
  refine bytearray1_D ok.guards hz fun h' hk ho => ?_
  obtain ⟨Φ', av, own', a, b, c, d⟩ := newO (P := P) (mo := .bta c) (o := bta c) q₂ (s' := { s₂ with heap := h' }) ⟨h', s₂.toks, rfl, hk⟩ (get_size _) ho rfl k
  exact ⟨Φ', av, own', ((grow_le q.frz).trans (grow_le q₁.frz)).trans a, b, c, d⟩

theorem EvSD.ite {t x y : Expr} {pos : Pos} {b : Bool} {P : AV → List (Addr × MO) → Prop} (ht : EvT prog w hB D env ns vals own t b) (hx : b = true → EvSD prog w hB D ε env ns vals own x P) (hy : b = false → EvSD prog w hB D ε env ns vals own y P) :
    EvSD prog w hB D ε env ns vals own (.IfExp t x y pos) P := fun Φ s q A E ok => by
  rw [arm_eval_IfExp]
  refine wpD_bindA (wpAny_mono (ht Φ s q.toR A E ok.ok) (fun v s₁ h₁ => ?_) fun _ _ e => e)
  obtain ⟨k₁, rfl⟩ := h₁
  have hle : Le Φ (grow Φ s s₁) := grow_le q.frz
  cases v with
  | true => exact wpD_mono (hx rfl _ s₁ (q.step k₁) A E ok) (fun v s₂ ⟨Φ₂, av, o, a, b, c⟩ => ⟨Φ₂, av, o, hle.trans a, b, c⟩) fun _ _ e => e
  | false => exact wpD_mono (hy rfl _ s₁ (q.step k₁) A E ok) (fun v s₂ ⟨Φ₂, av, o, a, b, c⟩ => ⟨Φ₂, av, o, hle.trans a, b, c⟩) fun _ _ e => e
theorem EvSD.pair {x y : Expr} {k : Nat} {pos : Pos} {P : AV → List (Addr × MO) → Prop} (h : EvS prog w hB D ε env ns vals own x (fun av o => EvSD prog w hB D ε env ns vals o y (fun bv o' => P (.tup [av, bv]) o')))
    (hs : starEach [x, y] env = [(false, eval x env), (false, eval y env)] := by rfl) : EvSD prog w hB D ε env ns vals own (.Tuple [x, y] k pos) P := fun Φ s q A E ok => by
  have e : eval (.Tuple [x, y] k pos) env = (do standAt pos; newTuple (← spliced (backTo pos (starEach [x, y] env)))) := rfl
  rw [e, hs]
  refine wpD_bind (wpD_standAt (wpD_bind ?_))
  show wpD _ _ (spliced [(false, eval x env), (false, eval y env)]) _ _ _
  rw [spliced]
  refine wpD_bindA (wpAny_mono (h Φ s q A E ok.ok) (fun v s₁ ⟨Φ₁, av, o, a, q₁, r₁, h₁⟩ => ?_) fun _ _ e => e)
  simp only [Bool.false_eq_true, if_false]
  refine wpD_bind (wpD_pure (wpD_bind (wpD_holding ?_)))
  rw [spliced]
  refine wpD_bind (wpD_mono (h₁ Φ₁ s₁ q₁ A E ok) (fun u s₂ ⟨Φ₂, bv, o₂, a₂, q₂, r₂, h₂⟩ => ?_) fun _ _ e => e)
  simp only [Bool.false_eq_true, if_false]
  refine wpD_bind (wpD_pure (wpD_bindA (wpAny_holding (Calls.spliced_nil (wpD_pure (wpD_pure ?_))))))
  refine wpD.of (wpAny_newObj_type ⟨_, .tup [av, bv], o₂, (a.trans a₂).trans (grow_le q₂.frz), q₂.step (Keeps.push _ _), ⟨s₂.heap.objs.size, [v, u], 0, rfl, grow_new rfl, ⟨(r₁.mono a₂).mono (grow_le q₂.frz), r₂.mono (grow_le q₂.frz), trivial⟩⟩, h₂⟩ ?_)
  show 2 ≤ sizeLine
  rw [sizeLine_eq]; (first | lia | omega)
theorem StD.tupSwap {elts : List Expr} {k : Nat} {tpos pos : Pos} {value : Expr} {names xs : List Str}
    (h : EvSD prog w hB D ε env ns vals own value (fun av o => ∃ avs avr vals', av = .tup avs ∧ names.length = avs.length ∧ avs.reverse = avr ∧ Sts ns xs avr vals vals' ∧ Q .next vals' o))
    (hw : swappedStores [.Tuple elts k tpos] value env = pure (some names)) (hx : names.reverse = xs)
    (hs : swapsWithSole [.Tuple elts k tpos] value pos.line env = pure false := by rfl) : StD prog w hB D ε env ns (.Assign [.Tuple elts k tpos] value pos) vals own Q := fun Φ s q A E ok => by
  rw [exec_Assign]
  refine wpD_bind (wpD_standAt ?_)
  rw [hs]
  refine wpD_bind (wpD_pure ?_)
  rw [if_neg (by decide)]
  refine wpD_bind (wpD_mono (h Φ s q A E ok) (fun v s₁ ⟨Φ₁, av, o, a, q₁, r₁, avs, avr, vals', he, hl, hrev, hsts, h₁⟩ => ?_) fun _ _ x => x)
  rw [hw]
  refine wpD_bind (wpD_pure ?_)
  show wpD _ A (do rule "assign.swapped-stores"; let items ← unpackItems v names.length none; assignInOrder (names.reverse.map fun n => bindName env n) items.reverse; pure Flow.next) _ E s₁
  subst he
  refine wpD_bindA (wpAny_rule (wpD_bindA (unpackTup q₁ ok.ok r₁ hl fun vs s₂ k₂ hrs => ?_)))
  have q₂ := q₁.step k₂
  subst hrev hx
  refine wpD_bindA (Rel.stores binds_names hsts q₂ (vs := vs.reverse) (St.tupSwap.rev_rs (hrs.mono (grow_le q₁.frz))) fun s₃ q₃ => ?_)
  exact wpD_pure ⟨_, vals', o, .next, a.trans (grow_le q₁.frz), q₃, rfl, h₁⟩
end
end Kx
end

section -- D11
open PySem PySem.W PyProof.Rows
set_option Elab.async false
set_option maxRecDepth 100000
set_option linter.unusedVariables false
set_option maxHeartbeats 1000000
namespace Kx
section
variable {prog : Program} {w : World} {hB : Heap} {K : Frag} {D : Nat}
theorem enterD {fd : FuncData} {ns : List (Str × NameKind)} {ps : List Str} {body : List Stmt} {f : Addr} {o : Obj} {args : List AV} {A : Around} {s : Shared} {vs : List Value} {R' : Result → Shared → Prop} {P : Addr → Prop} {Φ₀ : FH} {nz : Nat}
    (G : GH K hB) (ok : DefOk fd ns ps) (hA : AOkD (D + 1) A) (ho : s.heap.get? f = some o) (hd : o.data = .func fd) (hcd : s.heap.CodeRec fd.code fd.qualname) (hbody : fd.body = .stmts body) (hl : ps.length = args.length)
    (hb : ∀ a o, hB.get? a = some o → s.heap.get? a = some o) (hbind : bindArgs fd ⟨vs, []⟩ = pure (ps.zip vs)) (hr : Rs Φ₀ args vs)
    (hΦb : ∀ a o, hB.get? a = some o → Φ₀ a = some o) (hΦ : ∀ a o, Φ₀ a = some o → s.heap.get? a = some o) (hP : ∀ a o, Φ₀ a = some o → P a)
    (h : ∀ s₁ env, env = callEnvC fd s.heap.objs.size f → Rel hB ⟨s, P⟩ env ns Φ₀ (initVals nz args) [] s₁ → AOkD D (A.deeper env) → wpD (model prog w) (A.deeper env) (execs body env) (fun f s' => R' (.ok (.ret (match f with | .ret v => v | _ => .none))) s')
        (fun e s' => wpAny (model prog w) (A.deeper env) (leaving env e) (fun _ s'' => R' (.error e) s'') (fun e' s'' => R' (.error e') s'') s') s₁) :
    codeD (model prog w) A (.call (.ref f) ⟨vs, []⟩) R' s := by
  have hkind : ∀ x ∈ ps.zip vs, fd.scope.names.lookup x.1 = some .local ∨ (fd.scope.names.lookup x.1 = some .cell ∧ ((cellsFrom (s.heap.objs.size + 1) fd.scope.names []).lookup x.1).isSome = true) := by
    intro x hx
    have hp : x.1 ∈ ps := List.Sublist.subset zip_names (List.mem_map_of_mem hx)
    obtain ⟨k, i, e, hk⟩ := ok.mem hp
    have e' := lookup_of_nodup ok.split.1 e
    rw [ok.names]
    rcases hk with rfl | rfl
    · exact .inl e'
    · exact .inr ⟨e', cellsFrom_some _ _ _ (.inl e')⟩
  have hlt : A.depth < recursionLimit := by have := hA.ok.depth; (first | lia | omega)
  refine codeD_call_cells hlt ho hd (G.lim.keeps hb) hcd hbody hbind ok.closure hkind (fun s₁ I => h s₁ _ rfl ?_ (hA.deeper _)) ok.co ok.gen ok.kind
  have hkd : ∀ x, (callEnvC fd s.heap.objs.size f).kindOf x = ns.lookup x := fun x => by show List.lookup x fd.scope.names = _; rw [ok.names]
  have hLs : (callEnvC fd s.heap.objs.size f).locals = s.heap.objs.size := rfl
  refine ⟨⟨ok.names, ok.split.1, ok.kind, ok.globals, ok.builtins⟩, fun x hx => ?_, ⟨_, _, I, fun i x k av e e' => ?_⟩, hΦb, fun a o e => I.toInCall.keep a o (hΦ a o e), fun a o e => .inl (hP a o e), ?_, fun x c hc => ?_, fun a mo hm => (nomatch hm), .nil⟩
  · rw [hkd] at hx
    exact cellsFrom_some _ _ _ (.inl (by rw [ok.names]; exact hx))
  · have e2 := initVals_get e'
    have hi : i < ps.length := by
      rw [hl]
      rcases Nat.lt_or_ge i args.length with h | h
      · exact h
      · rw [List.getElem?_eq_none h] at e2; cases e2
    obtain ⟨hps, hk⟩ := ok.place e hi
    obtain ⟨v, hv, hR⟩ := hr.zip hps e2
    have hlk := lookup_of_nodup ok.split.1 e
    have nd : ((ps.zip vs).map (·.1)).Nodup := List.Sublist.nodup zip_names ok.psn
    refine ⟨v, ?_, hR⟩
    rcases hk with rfl | rfl
    · exact bindL_mem nd hv (by rw [hkd]; exact hlk)
    · exact bindC_mem nd hv (by rw [hkd, hlk]; decide)
  · cases e : Φ₀ (callEnvC fd s.heap.objs.size f).locals with
    | none => rfl
    | some o => have := hΦ _ _ e; rw [hLs, get_size] at this; cases this
  · have := I.above x c (mem_of_lookup hc)
    cases e : Φ₀ c with
    | none => rfl
    | some o => have h1 := hΦ _ _ e; rw [hLs] at this; exact absurd (Heap.lt_size h1) (Nat.not_lt.mpr (Nat.le_of_lt this))


section
variable {f : Addr} {name qual : Str} {as : List Arg} {body : List Stmt} {more : List (Str × Const)} {pm cdv ct oc : Value} {od : Option Addr} {osl : Array (Option Value)} {ns' : List (Str × NameKind)} {args : List AV} {nz : Nat}
theorem FnD.mk {res : AV} (G : GH K hB)
    (ho : K.lookup f = some ⟨oc, od, .func (fnOf name qual (parsOf as) body (scopeOf ns' more) .none .none .none pm Option.none cdv ct), osl⟩) (hcd : codeIn K cdv qual = true) (hok : namesOk ns' (as.map (·.arg)) = true) (hl : as.length = args.length)
    (hb : ∀ vs : List Value, vs.length = as.length → bindArgs (fnOf name qual (parsOf as) body (scopeOf ns' more) .none .none .none pm Option.none cdv ct) ⟨vs, []⟩ = pure ((as.map (·.arg)).zip vs)) (hres : Scal res = true)
    (h : ∀ ε env, EnvOk env ns' → ExD prog w hB D ε env ns' body (initVals nz args) [] (fun fl _ _ => fl = .ret res)) : FnD prog w hB (D + 1) f args res := fun A s vs hA hbs hr => by
  refine enterD (nz := nz) (P := fun _ => True) (Φ₀ := s.heap.get?) G (defOk_of hok) hA (hbs _ _ (defIn G ho hcd).1) rfl ((defIn G ho hcd).2.keeps hbs) rfl (by simpa using hl) hbs (binds_ok (by simpa using hr.length.trans hl.symm) hb) hr hbs (fun _ _ e => e) (fun _ _ _ => trivial) fun s₁ env he q hA' => ?_
  subst he
  refine wpD_mono (h _ _ (frame_ok hok) _ s₁ q _ _ hA') (fun fl s' h' => ?_) fun _ _ e => e
  obtain ⟨Φ', vals', own', fl', hle, q', hf, rfl⟩ := h'
  obtain ⟨v, rfl, hv⟩ := hf
  exact ⟨v, rfl, q'.keeps, Scal.any hres hv⟩
end
end
end Kx
end

section -- D12
open PySem PySem.W PyProof.Rows
set_option Elab.async false
set_option maxRecDepth 100000
set_option linter.unusedVariables false
set_option maxHeartbeats 1000000
namespace Kx
section
variable {prog : Program} {w : World} {hB : Heap} {K : Frag} {D : Nat} {env : Env} {ns ns' : List (Str × NameKind)} {vals vals' : List (Option AV)} {own own' : List (Addr × MO)} {ε : Ent} {s₀ s s' : Shared} {Φ : FH}
theorem u8 {n : Nat} (h : n < 256) : n.toUInt8.toNat = n := by simp [Nat.toUInt8]; (first | lia | omega)
theorem BY_get {l : List Nat} {i : Nat} (h : i < l.length) : (BY l)[i]? = some (l.getD i 0).toUInt8 := by
  unfold BY
  simp [List.getElem?_eq_getElem h]
theorem BY_push {l : List Nat} {n : Nat} : (BY l).push n.toUInt8 = BY (l ++ [n]) := by simp [BY]
theorem BY_app {l m : List Nat} : BY l ++ BY m = BY (l ++ m) := by simp [BY]
theorem BY_set {l : List Nat} {i n : Nat} : (BY l).setIfInBounds i n.toUInt8 = BY (l.set i n) := by simp [BY, List.map_set]
theorem BY_take {l : List Nat} {n : Nat} : ((BY l).toList.take n).toArray = BY (l.take n) := by simp [BY, List.map_take]
theorem md_appendB {l : List Nat} {n : Nat} (hn : n < 256) (hz : l.length < sizeLine) : MeD prog w "bytearray.append" (.bta (BY l)) [.int (n : Int)] (.bta (BY (l ++ [n]))) := BY_push ▸ md_append hn (by rw [BY_size]; exact hz)
theorem md_extendB {l m : List Nat} (hz : l.length + m.length ≤ sizeLine) : MeD prog w "bytearray.extend" (.bta (BY l)) [.bytes (BY m)] (.bta (BY (l ++ m))) := BY_app ▸ md_extend (by rw [BY_size, BY_size]; exact hz)
theorem gg_BY {l : List Nat} (h0 : 0 < l.length) (hz : l.length ≤ sizeLine) (h : ∀ x ∈ l, x < 256) : GetG prog w (.int (-((1 : Nat) : Int))) (.bta (BY l)) (.int ((l.getD (l.length - 1) 0 : Nat) : Int)) := by
  have hlt : l.getD (l.length - 1) 0 < 256 := by
    rw [List.getD_eq_getElem?_getD, List.getElem?_eq_getElem (by (first | lia | omega))]
    exact h _ (List.getElem_mem _)
  have := gg_bta (prog := prog) (w := w) (b := BY l) (c := (l.getD (l.length - 1) 0).toUInt8) (by rw [BY_size]; exact h0) (by rw [BY_size]; exact hz) (by rw [BY_size]; exact BY_get (by (first | lia | omega)))
  rwa [u8 hlt] at this
theorem sg_BY {l : List Nat} {n : Nat} (h0 : 0 < l.length) (hz : l.length ≤ sizeLine) (hn : n < 256) : SetG prog w (.int (-((1 : Nat) : Int))) (.bta (BY l)) (.int (n : Int)) (.bta (BY (l.set (l.length - 1) n))) := by
  have := sg_bta (prog := prog) (w := w) (b := BY l) (n := n) (by rw [BY_size]; exact h0) (by rw [BY_size]; exact hz) hn
  rwa [BY_size, BY_set] at this
theorem bo_lenB {l : List Nat} (hz : l.length ≤ 16777216) : BlO prog w "len" (.bta (BY l)) (.int ((l.length : Nat) : Int)) := by
  have := bo_len (prog := prog) (w := w) (b := BY l) (by rw [BY_size]; exact hz)
  rwa [BY_size] at this
theorem bl_lenY {l : List Nat} (hz : l.length ≤ 16777216) : BlG prog w "len" [.bytes (BY l)] (.int ((l.length : Nat) : Int)) := by
  have := bl_lenB (prog := prog) (w := w) (b := BY l) (by rw [BY_size]; exact hz)
  rwa [BY_size] at this
theorem to_bytesB {l : List Nat} (hz : l.length ≤ sizeLine) : TyO prog w "bytes" (.bta (BY l)) (.bytes (BY l)) := to_bytes (by rw [BY_size]; exact hz)
theorem EvN.sliceB {v hi : Expr} {p pos : Pos} {a : Addr} {l : List Nat} {j n : Nat} (hv : Ev prog w hB D env ns vals own v (.ref a)) (hj : At own j (a, .bta (BY l))) (hu : Ev prog w hB D env ns vals own hi (.int (n : Int))) (hz : l.length ≤ sizeLine) : EvN prog w hB D env ns vals own (.Subscript v (.Slice none (some hi) none p) pos) (.bta (BY (l.take n))) :=
  BY_take ▸ EvN.sliceO hv hj hu (by rw [BY_size]; exact hz)
theorem Ev.sliceY {v : Expr} {lo hi : Option Expr} {p pos : Pos} {b : List Nat} {l u : Option Nat} (hv : Ev prog w hB D env ns vals own v (.bytes (BY b))) (hl : EvP prog w hB D env ns vals own lo l) (hu : EvP prog w hB D env ns vals own hi u) (hz : b.length ≤ sizeLine) : Ev prog w hB D env ns vals own (.Subscript v (.Slice lo hi none p) pos) (.bytes (BY (cut b l u))) := BY_cut ▸ Ev.sliceB hv hl hu (by rw [BY_size]; exact hz)
end

noncomputable def padM (l : List Nat) (rate pad : Nat) : List Nat := l ++ [pad] ++ List.replicate (rate - 1 - l.length % rate) 0
noncomputable def padF (l : List Nat) (rate pad : Nat) : List Nat := (padM l rate pad).set ((padM l rate pad).length - 1) ((padM l rate pad).getD ((padM l rate pad).length - 1) 0 + 128)
theorem pad_mod {n rate k : Nat} (hr : 0 < rate) (hk : k ≤ rate - 1 - n % rate) : ((n + 1 + k) % rate = 0) ↔ k = rate - 1 - n % rate := by
  have h1 := Nat.mod_lt n hr
  have e : (n + 1 + k) % rate = (n % rate + 1 + k) % rate := by
    rw [Nat.add_assoc, Nat.add_assoc, Nat.mod_add_mod]
  rw [e]
  by_cases h : n % rate + 1 + k = rate
  · rw [h, Nat.mod_self]; (first | lia | omega)
  · rw [Nat.mod_eq_of_lt (by (first | lia | omega))]; (first | lia | omega)
theorem padM_len {l : List Nat} {rate pad : Nat} : (padM l rate pad).length = l.length + 1 + (rate - 1 - l.length % rate) := by simp [padM]; (first | lia | omega)
theorem padF_len {l : List Nat} {rate pad : Nat} : (padF l rate pad).length = l.length + 1 + (rate - 1 - l.length % rate) := by unfold padF; rw [List.length_set, padM_len]
theorem padM_lt {l : List Nat} {rate pad : Nat} (h : ∀ x ∈ l, x < 256) (hp : pad < 128) : ∀ x ∈ padM l rate pad, x < 256 := by
  intro x hx
  unfold padM at hx
  rcases List.mem_append.mp hx with hx | hx
  · rcases List.mem_append.mp hx with hx | hx
    · exact h x hx
    · have := List.mem_singleton.mp hx; (first | lia | omega)
  · have := (List.mem_replicate.mp hx).2; (first | lia | omega)
theorem padM_last {l : List Nat} {rate pad : Nat} (hp : pad < 128) : (padM l rate pad).getD ((padM l rate pad).length - 1) 0 < 128 := by
  rw [padM_len]
  unfold padM
  rw [List.getD_eq_getElem?_getD]
  by_cases h : rate - 1 - l.length % rate = 0
  · rw [h]; simp; exact hp
  · rw [List.getElem?_append_right (by simp; (first | lia | omega)), List.getElem?_replicate]
    split <;> simp
theorem xor128 {x : Nat} (h : x < 128) : x ^^^ 128 = x + 128 := by
  have := Nat.two_pow_add_eq_or_of_lt (i := 7) h 1
  have e : 128 ^^^ x = 128 ||| x := by
    apply Nat.eq_of_testBit_eq
    intro i
    rw [Nat.testBit_xor, Nat.testBit_or]
    by_cases hi : i = 7
    · subst hi
      rw [Nat.testBit_lt_two_pow (x := x) (i := 7) h]; simp
    · have : Nat.testBit 128 i = false := by
        rw [show (128 : Nat) = 2 ^ 7 from rfl, Nat.testBit_two_pow]; simp; (first | lia | omega)
      rw [this]; simp
  rw [Nat.xor_comm, e]
  simpa [Nat.add_comm] using this.symm
end Kx
end

section -- D13
open PySem PySem.W PyProof.Rows
set_option Elab.async false
set_option maxRecDepth 100000
set_option linter.unusedVariables false
set_option maxHeartbeats 1000000
namespace Kx
noncomputable def leV : List Nat → Nat
  | [] => 0
  | c :: r => c + 256 * leV r
theorem leV_BY : ∀ {l : List Nat}, (∀ x ∈ l, x < 256) → leN (BY l).toList = leV l
  | [], _ => rfl
  | c :: r, h => by
    have ih := leV_BY (l := r) fun x hx => h x (.tail _ hx)
    rw [BY_toList] at ih ⊢
    rw [List.map_cons, leN, ih, u8 (h c (.head _)), leV]
theorem leV_lt : ∀ {l : List Nat}, (∀ x ∈ l, x < 256) → leV l < 256 ^ l.length
  | [], _ => by simp [leV]
  | c :: r, h => by
    have h1 := leV_lt (l := r) fun x hx => h x (.tail _ hx)
    have h2 := h c (.head _)
    rw [leV, List.length_cons, Nat.pow_succ]
    (first | lia | omega)
theorem cut_mem {l : List Nat} {lo hi : Option Nat} {x : Nat} (h : x ∈ cut l lo hi) : x ∈ l := List.mem_of_mem_drop (List.mem_of_mem_take h)
theorem cut_some {α : Type} {l : List α} {a b : Nat} : (cut l (some a) (some b)).length ≤ b - a := by unfold cut; rw [List.length_take]; exact Nat.min_le_left _ _
section
variable {prog : Program} {w : World} {hB : Heap} {K : Frag} {D : Nat} {env : Env} {ns ns' : List (Str × NameKind)} {vals vals' : List (Option AV)} {own own' : List (Addr × MO)}
theorem Ev.fromBytesY {o e : Expr} {apos pos p2 : Pos} {k : Nat} {b : List Nat} {pl : Sem Bool} (G : GH K hB) (hf : findCls K (.type "int") (.type "type") (Str.ofString "from_bytes") = some (.get (.builtin "classmethod_descriptor.__get__") (.builtin "int.from_bytes") .none (.type "int")))
    (ho : Ev prog w hB D env ns vals own o (.typ "int")) (hb : Ev prog w hB D env ns vals own e (.bytes (BY b))) (hz : b.length ≤ 8) (h : ∀ x ∈ b, x < 256)
    (he1 : starEach [e, .Constant (.str "little") k p2] env = (false, eval e env) :: starEach [.Constant (.str "little") k p2] env := by rfl)
    (he : eval (.Call (.Attribute o "from_bytes" apos) [e, .Constant (.str "little") k p2] [] pos) env = (do
      let ov ← eval o env
      standAt apos.atName
      let (f, first) ← holding [ov] (getMethod ov "from_bytes" pl)
      callWith pos f first (backTo pos (starEach [e, .Constant (.str "little") k p2] env)) (backToKw pos (keywordEach [] env))) := by rfl) :
    Ev prog w hB D env ns vals own (.Call (.Attribute o "from_bytes" apos) [e, .Constant (.str "little") k p2] [] pos) (.int ((leV b : Nat) : Int)) :=
  (Ev.fromBytes G hf ho hb (by rw [BY_size]; exact hz) he1 he).eq (by rw [leV_BY h])
end

section
variable {prog : Program} {w : World} {hB : Heap} {K : Frag} {D : Nat} {env : Env} {ns ns' : List (Str × NameKind)} {vals vals' : List (Option AV)} {own own' : List (Addr × MO)} {ε : Ent} {Q : Flw → List (Option AV) → List (Addr × MO) → Prop}
theorem ExD.freezeAt {ss : List Stmt} {a : Addr} {xs : List AV} {i : Nat} (ha : At vals i (some (.ref a))) (hd : Del own (a, .lst xs) own') (hs : SetAt vals i (some (.lst xs)) vals') (h : ExD prog w hB D ε env ns ss vals' own' Q) :
    ExD prog w hB D ε env ns ss vals own Q := fun Φ s q₀ A E ok => by
  have q := q₀.perm hd.perm
  have nd := q.ownd
  rw [List.map_cons, List.nodup_cons] at nd
  obtain ⟨Ψ, hle, q'⟩ := q.freeze (.head _) (vals' := vals') (own' := own') (fun j av e => by
    rw [hs.get j] at e
    split at e
    · rename_i hj; subst hj; cases e; exact .inr ⟨ha.get, rfl⟩
    · exact .inl e) (fun b mo hb => ⟨.tail _ hb, fun e => nd.1 (List.mem_map.mpr ⟨(b, mo), hb, e⟩)⟩) nd.2
  exact wpD_mono (h Ψ s q' A E ok) (fun f s₂ ⟨Φ₂, v₂, o₂, fl₂, a₂, b₂, c₂, d₂⟩ => ⟨Φ₂, v₂, o₂, fl₂, hle.trans a₂, b₂, c₂, d₂⟩) fun _ _ e => e
end
section
variable (w' : Nat) (q rate : Nat) (perm : List Nat → List Nat) (pd : List Nat)
noncomputable def pieceL (i j : Nat) : List Nat := cut pd (some (0 + i * rate + (0 + j * q))) (some (0 + i * rate + min (0 + j * q + q) rate))
noncomputable def absI (i : Nat) (a : List Nat) : Nat → List Nat
  | 0 => a
  | j + 1 => (absI i a j).set j ((absI i a j).getD j 0 ^^^ leV (pieceL q rate pd i j))
noncomputable def absO : Nat → List Nat
  | 0 => List.replicate 25 0
  | i + 1 => perm (absI q rate pd i (absO i) ((rate - 0 + q - 1) / q))
noncomputable def sqP (a : List Nat) : Nat → List Nat
  | 0 => a
  | k + 1 => perm (sqP a k)
noncomputable def octsL (a : List Nat) : List Nat := ((List.range a.length).map fun i => leB q (a.getD i 0)).flatten
noncomputable def sqF (a : List Nat) : Nat → List Nat
  | 0 => []
  | k + 1 => sqF a k ++ cut (octsL q (sqP perm a k)) none (some rate)
noncomputable def absF (size : Nat) : List Nat := (sqF q rate perm (absO q rate perm pd ((pd.length - 0 + rate - 1) / rate)) ((size + rate - 1) / rate)).take size
end
section
variable {q rate : Nat} {perm : List Nat → List Nat} {pd : List Nat}
theorem pieceL_len {i j : Nat} : (pieceL q rate pd i j).length ≤ q := by
  have := cut_some (l := pd) (a := 0 + i * rate + (0 + j * q)) (b := 0 + i * rate + min (0 + j * q + q) rate)
  unfold pieceL
  (first | lia | omega)
theorem octsL_len {a : List Nat} : (octsL q a).length = a.length * q := by
  unfold octsL
  rw [List.length_flatten, List.map_map]
  have : ((List.length ∘ fun i => leB q (a.getD i 0)) : Nat → Nat) = fun _ => q := by funext i; simp [leB]
  rw [this, List.map_const', List.sum_replicate_nat, List.length_range]
theorem sqF_len {a : List Nat} (hl : ∀ k, (sqP perm a k).length = 25) (hr : rate ≤ 25 * q) : ∀ k, (sqF q rate perm a k).length = k * rate
  | 0 => by simp [sqF]
  | k + 1 => by
    rw [sqF, List.length_append, sqF_len hl hr k]
    unfold cut
    simp only [Option.getD_none, Option.getD_some, List.drop_zero, List.length_take, octsL_len, hl, Nat.sub_zero]
    rw [Nat.min_eq_left hr, Nat.succ_mul]
end
end Kx
end

section -- E1
open PySem PySem.W PyProof.Rows
set_option Elab.async false
set_option maxRecDepth 100000
set_option linter.unusedVariables false
set_option maxHeartbeats 1000000
namespace Kx
section
variable {prog : Program} {w : World} {hB : Heap} {K : Frag} {D : Nat} {env : Env} {ns ns' : List (Str × NameKind)} {vals vals' : List (Option AV)} {own own' : List (Addr × MO)} {ε : Ent} {s₀ s s' : Shared} {Φ : FH}
variable {Q Q' : Flw → List (Option AV) → List (Addr × MO) → Prop}
inductive Cs : List Expr → List AV → Prop where
  | nil : Cs [] []
  | cons {i : Int} {n k : Nat} {p : Pos} {es : List Expr} {avs : List AV} (hi : i = (n : Int)) (h : Cs es avs) : Cs (.Constant (.int i) k p :: es) (.int (n : Int) :: avs)
  | neg {i : Int} {k : Nat} {p q : Pos} {es : List Expr} {avs : List AV} (h : Cs es avs) : Cs (.UnaryOp .USub (.Constant (.int i) k p) q :: es) (.int (-i) :: avs)
theorem EvL.cs {es : List Expr} {avs : List AV} (h : Cs es avs) : EvL prog w hB D env ns vals own es avs := by
  induction h with
  | nil => exact EvL.nil
  | cons hi _ ih => exact EvL.cons (Ev.nat hi) ih (by rfl)
  | neg _ ih => exact EvL.cons (Ev.neg Ev.int) ih (by rfl)
theorem EvN.cs {es : List Expr} {avs : List AV} {pos : Pos} (h : Cs es avs) (hl : avs.length ≤ 1000) : EvN prog w hB D env ns vals own (.List es pos) (.lst avs) := EvN.list (EvL.cs h) (by rw [sizeLine_eq]; (first | lia | omega))
theorem Ev.itemK {v sl : Expr} {pos : Pos} {av x : AV} {xs : List AV} {k : Nat} (hv : Ev prog w hB D env ns vals own v av) (hl : LV own av xs) (hi : Ev prog w hB D env ns vals own sl (.int (k : Int))) (hk : k < 2 ^ 62) (hx : xs[k]? = some x)
    (hs : ∀ o i, subscripted sl false o i = operate [o, i] (getItem o i) := by intro _ _; rfl) : Ev prog w hB D env ns vals own (.Subscript v sl pos) x := Ev.item hv hl hi (by (first | lia | omega)) (by (first | lia | omega)) hx hs
theorem bl_lenI {l : List Nat} (h : l.length ≤ 10000000) : BlG prog w "len" [.lst (IL l)] (.int ((l.length : Nat) : Int)) := by
  have := bl_len (prog := prog) (w := w) (xs := IL l) (by rw [IL_length]; exact h)
  rwa [IL_length] at this
theorem sg_K {xs : List AV} {k : Nat} {v : AV} (h1 : k < xs.length) (h2 : xs.length ≤ 2 ^ 62) : SetG prog w (.int (k : Int)) (.lst xs) v (.lst (xs.set k v)) := sg_list (by (first | lia | omega)) (by (first | lia | omega)) (by (first | lia | omega))
theorem IL_sum {l : List Nat} : (l.map fun n : Nat => (n : Int)).sum = ((l.sum : Nat) : Int) := by
  induction l with
  | nil => rfl
  | cons a l ih => rw [List.map_cons, List.sum_cons, List.sum_cons, ih]; (first | lia | omega)
theorem bl_sum {l : List Nat} : BlG prog w "sum" [.lst (IL l)] (.int ((l.sum : Nat) : Int)) := fun Φ s vs A E hf ok hr => by
  obtain ⟨v, rfl, a, us, n, rfl, ha, hu⟩ := hr.one
  have hi := ints_IL hu
  obtain ⟨xs, hx⟩ := hi.allInts.items
  have hl : s.heap.IsList a (intItems xs) := hx ▸ isList_of (hf _ _ ha)
  refine sum_intListG ok.handled hl fun h' tk t' hk => ⟨⟨h', tk, rfl, hk⟩, t', ?_⟩
  have e1 : (l.map fun n : Nat => (n : Int)) = xs.toList.map (·.1) := by
    rw [← nums_intItems, ← hx]
    exact (show numsOf us.toArray.toList = _ from hi.numsOf).symm
  rw [preSum_eq, List.take_of_length_le (by simp), ← e1, IL_sum]
theorem FnN.cs {f : Addr} {name qual : Str} {more : List (Str × Const)} {pm cdv ct oc : Value} {od : Option Addr} {osl : Array (Option Value)} {es : List Expr} {avs xs : List AV} {p pos : Pos} (G : GH K hB)
    (ho : K.lookup f = some ⟨oc, od, .func (fnOf name qual (parsOf []) [.Return (some (.List es p)) pos] (scopeOf [] more) .none .none .none pm Option.none cdv ct), osl⟩) (hcd : codeIn K cdv qual = true)
    (hs : Cs es avs) (hl : avs.length ≤ 1000) (he : avs = xs) (hx : ∀ x ∈ xs, Scal x = true) : FnN prog w hB 2 f [] (.lst xs) := by
  subst he
  exact FnN.flatE (nz := 0) (args := []) G ho hcd (by decide +kernel) rfl (fun vs hv => by cases vs with | nil => rfl | cons _ _ => simp at hv) hx fun ε env hE => Ex.cons (St.retN (EvN.cs hs hl) fun a => ⟨a, rfl, .head _⟩)
end
theorem leV_sum : ∀ (l : List Nat), ((List.range l.length).map fun k => l.getD k 0 * 256 ^ k).sum = leV l
  | [] => rfl
  | c :: r => by
    rw [List.length_cons, List.range_succ_eq_map, List.map_cons, List.sum_cons, List.map_map, leV, ← leV_sum r]
    have e : ((fun k => (c :: r).getD k 0 * 256 ^ k) ∘ Nat.succ) = fun k => 256 * (r.getD k 0 * 256 ^ k) := by
      funext k
      simp only [Function.comp, Nat.succ_eq_add_one, List.getD_cons_succ, Nat.pow_succ]
      rw [← Nat.mul_assoc, Nat.mul_comm]
    rw [e, sum_mul]
    simp
where
  sum_mul {f : Nat → Nat} {c : Nat} : ∀ {l : List Nat}, (l.map fun k => c * f k).sum = c * (l.map f).sum
    | [] => by simp
    | a :: l => by rw [List.map_cons, List.sum_cons, List.map_cons, List.sum_cons, sum_mul, Nat.mul_add]
noncomputable def lanesL (q : Nat) (held : List Nat) : List Nat := (List.range 25).map fun i => leV ((List.range q).map fun k => held.getD (i * q + k) 0)
noncomputable def lawPerm (q : Nat) (perm : List Nat → List Nat) (held : List Nat) : List Nat := octsL q (perm (lanesL q held))
end Kx
end

section -- E2
open PySem PySem.W PyProof.Rows
set_option Elab.async false
set_option maxRecDepth 100000
set_option linter.unusedVariables false
set_option maxHeartbeats 1000000
namespace Kx
section
variable {prog : Program} {w : World} {hB : Heap} {K : Frag} {D : Nat} {env : Env} {ns ns' : List (Str × NameKind)} {vals vals' : List (Option AV)} {own own' : List (Addr × MO)} {ε : Ent} {s₀ s s' : Shared} {Φ : FH}
variable {Q Q' : Flw → List (Option AV) → List (Addr × MO) → Prop}
theorem St.enum {f x y : Str} {p pos pos2 tpos : Pos} {elts : List Expr} {kk : Nat} {e : Expr} {body : List Stmt} {l : List Nat} (Inv : Nat → List (Option AV) → List (Addr × MO) → Prop) (hn : Nms elts [x, y])
    (hf : Ev prog w hB (D + 1) env ns vals own (.Name f p) (.typ "enumerate")) (he : Ev prog w hB (D + 1) env ns vals own e (.lst (IL l))) (h0 : Inv 0 vals own)
    (hstep : ∀ i v o rw, i < l.length → Inv i v o → ∃ v', Sts ns [x, y] [.int (i : Int), .int ((l.getD i 0 : Nat) : Int)] v v' ∧ Ex prog w hB (D + 1) ε env ns body v' (o ++ rw) (fun fl v' o' => ∃ o'', o' = o'' ++ rw ∧ match fl with | .next => Inv (i + 1) v' o'' | .ret a => Q (.ret a) v' o''))
    (hdone : ∀ v o, Inv l.length v o → Q .next v o) (hs1 : starEach [e] env = [(false, eval e env)] := by rfl) (hs : ∀ x, foldedSetIterable (.Call (.Name f p) [e] [] pos2) env x = pure x := by intro _; rfl) :
    St prog w hB (D + 1) ε env ns (.For (.Tuple elts kk tpos) (.Call (.Name f p) [e] [] pos2) body [] pos) vals own Q := fun Φ s q A E ok => by
  refine wpAny_For (Call_Name_ (wpAny_mono (hf Φ s q.toR A E ok) (fun v s₁ h₁ => ?_) fun _ _ e => e)) hs
  obtain ⟨k₁, rfl⟩ := h₁
  have q₁ := q.step k₁
  rw [hs1]
  refine callWith_typ rfl (Calls.spliced_cons (wpAny_mono (he _ s₁ q₁.toR A E ok) (fun v s₂ h₂ => Calls.spliced_nil ?_) fun _ _ e => e))
  obtain ⟨k₂, la, vs, n, rfl, hla, hrs⟩ := h₂
  have q₂ := q₁.step k₂
  have hla₂ := q₂.frz _ _ hla
  have hlen : vs.length = l.length := by rw [hrs.length, IL_length]
  refine call_enumerate_1 hla₂ fun h' he0 hit0 hsz hk => wpAny_pyIter_enum he0 ?_
  have hlt : la < s₂.heap.objs.size := Heap.lt_size hla₂
  generalize hE0 : s₂.heap.objs.size + 1 = e0 at he0
  generalize hI0 : s₂.heap.objs.size = i0 at he0 hit0 hlt
  have hne1 : e0 ≠ i0 := by rw [← hE0, ← hI0]; exact Nat.succ_ne_self _
  have hne2 : la ≠ e0 := by rw [← hE0]; exact Nat.ne_of_lt (Nat.lt_succ_of_lt (Heap.lt_size hla₂))
  have hne3 : la ≠ i0 := by rw [← hI0]; exact Nat.ne_of_lt (Heap.lt_size hla₂)
  have W := WalksT.enumerate (prog := prog) (w := w) (A := A) ok.handled e0 i0 la hne1 hne2 hne3 vs.toArray
  have k₃ : Keeps s₂ { s₂ with heap := h' } := ⟨h', s₂.toks, rfl, hk⟩
  have K := (Keeps.tr k₁ (Keeps.tr k₂ k₃))
  have hleG : Le (grow (grow Φ s s₁) s₁ s₂) (grow Φ s { s₂ with heap := h' }) := (grow_grow (Keeps.keep k₁) (Keeps.keep k₂)).trans (grow_le2 (Keeps.keep k₃))
  have hst : (∃ old, IsEnum h' e0 i0 ((0 : Nat) : Int) old) ∧ h'.IsListIter i0 la 0 ∧ h'.IsList la vs.toArray := ⟨⟨_, he0⟩, hit0, (isList_of hla₂).at fun o e => hk _ _ e⟩
  generalize hs3 : ({ s₂ with heap := h' } : Shared) = s₃ at k₃ K hleG
  have hh' : s₃.heap = h' := by rw [← hs3]
  have hnw : ∀ b ∈ [e0, i0], s.heap.get? b = none := fun b hb => by
    cases e : s.heap.get? b with
    | none => rfl
    | some o =>
      have := Heap.lt_size (Keeps.keep k₂ _ _ (Keeps.keep k₁ _ _ e))
      rcases List.mem_cons.mp hb with rfl | hb
      · rw [← hE0] at this; exact absurd this (Nat.not_lt.mpr (Nat.le_succ _))
      · have e1 : b = i0 := by simpa using hb
        rw [e1, ← hI0] at this; exact absurd this (Nat.lt_irrefl _)
  have hnd : [e0, i0].Nodup := by simp [hne1]
  generalize hwr : [e0, i0] = wr at W hnw hnd
  have off0 : ∀ b ∈ wr, Off ε env (less (grow Φ s s₃) wr) own b := fun b hb => by
    obtain ⟨h1, h2⟩ := q.offNew (hnw b hb)
    exact ⟨by unfold less; rw [if_pos hb], h2⟩
  have hle0 : Le Φ (less (grow Φ s s₃) wr) := fun b o e => by
    unfold less
    rw [if_neg (fun hb => by have := q.frz b o e; rw [hnw b hb] at this; cases this)]
    exact grow_le q.frz b o e
  have hlaw : la ∉ wr := by rw [← hwr]; simp [hne2, hne3]
  have q₂' : Rel hB ε env ns (less (grow Φ s s₃) wr) vals own s₃ := q.stepTo K hle0 less_le
  have hla3 : less (grow Φ s s₃) wr la = some (listOf vs.toArray n) := by unfold less; rw [if_neg hlaw]; exact hleG _ _ hla
  have hIL : ∀ i, i < l.length → ∃ t, vs[i]? = some (.int ((l.getD i 0 : Nat) : Int) t) := fun i hi => by
    obtain ⟨v, hv, t, e⟩ := hrs.get i _ (IL_get hi)
    exact ⟨t, by rw [hv, e]⟩
  generalize less (grow Φ s s₃) wr = Φs at off0 hle0 q₂' hla3
  have hfr : ∀ b ∈ [e0, i0, la], b ∉ wr → ∃ o, Φs b = some o := fun b hb hn => by
    rw [← hwr] at hn
    have : b = la := by
      simp only [List.mem_cons, List.not_mem_nil, or_false, not_or] at hb hn
      exact (hb.resolve_left hn.1).resolve_left hn.2
    exact ⟨_, this ▸ hla3⟩
  rw [← hh'] at hst
  refine codeAny_forLoop_any (fun n s' => ∃ i Φi v o, n + i = l.length + 1 ∧ i ≤ l.length ∧ Rel hB ε env ns Φi v o s' ∧ Le Φs Φi ∧ ((∃ old, IsEnum s'.heap e0 i0 (i : Int) old) ∧ s'.heap.IsListIter i0 la i ∧ s'.heap.IsList la vs.toArray) ∧ (∀ b ∈ wr, Off ε env Φi o b) ∧ Inv i v o) ?_ (l.length + 1)
    ⟨0, _, vals, own, by (first | lia | omega), Nat.zero_le _, q₂', Le.refl _, hst, off0, h0⟩
  rintro n s' ⟨i, Φi, v, o, hni, hi, qi, hle, hsti, offi, hInv⟩
  by_cases hlt : i < l.length
  · refine W.item i s' _ _ (by rw [List.size_toArray, hlen]; exact hlt) hsti fun T tv h1 tk hPv hTsz hT hMid hk' => ?_
    obtain ⟨t, xv, hx, rfl⟩ := hPv
    obtain ⟨t', hx'⟩ := hIL i hlt
    have hxv : xv = .int ((l.getD i 0 : Nat) : Int) t' := by
      have : vs[i]? = some xv := by simpa using hx
      rw [hx'] at this; cases this; rfl
    subst hxv
    have hTw := W.apart _ _ _ hMid
    refine W.go elts kk tpos i T { s' with heap := h1, toks := tk } _ _ hMid fun h2 hst2 hk2 => ?_
    have hk'' : ∀ b o, b ∉ wr → s'.heap.get? b = some o → h2.get? b = some o := fun b o hb e => hk2 b o hb (hk' b o hb e)
    have hT2 : IsTup h2 T #[.int (i : Int) t, .int ((l.getD i 0 : Nat) : Int) t'] := by
      obtain ⟨o, ho, hr⟩ := hT
      exact ⟨o, hk2 T o hTw ho, hr⟩
    have hpr : ∀ b ∈ wr, ∃ ob, h2.get? b = some ob := fun b hb => by
      obtain ⟨⟨old, a1⟩, ⟨o2, a2, _⟩, _⟩ := hst2
      rw [← hwr] at hb
      rcases List.mem_cons.mp hb with rfl | hb
      · exact ⟨_, a1⟩
      · obtain rfl : b = i0 := by simpa using hb
        exact ⟨_, a2⟩
    have q' := (qi.keepBut (n := tk) offi hk'').raw (wr := wr) (f := fun b => (h2.get? b).getD default) (fun b hb => ⟨offi b hb, by obtain ⟨ob, e⟩ := hpr b hb; show h2.get? b = _; rw [e]; rfl⟩) hnd
    generalize hrw : (wr.map fun b => (b, MO.raw ((h2.get? b).getD default))) = rws at q'
    have fr : ∀ (Φ' : FH) (v' : List (Option AV)) (o' : List (Addr × MO)) (s₄ : Shared), Le Φi Φ' → Rel hB ε env ns Φ' v' (o' ++ rws) s₄ → ((∃ old, IsEnum s₄.heap e0 i0 ((i + 1 : Nat) : Int) old) ∧ s₄.heap.IsListIter i0 la (i + 1) ∧ s₄.heap.IsList la vs.toArray) ∧ ∀ b ∈ wr, Off ε env Φ' o' b := fun Φ' v' o' s₄ hle' q₄ => by
      have hraw : ∀ b ∈ wr, (b, MO.raw ((h2.get? b).getD default)) ∈ rws := fun b hb => by rw [← hrw]; exact List.mem_map.mpr ⟨b, hb, rfl⟩
      refine ⟨W.frame _ h2 _ hst2 fun b hb ob e => ?_, fun b hb => ?_⟩
      · by_cases hbw : b ∈ wr
        · obtain ⟨_, _, _, _, o₄, h₄, hm⟩ := q₄.owns b _ (List.mem_append_right _ (hraw b hbw))
          have hm' : o₄ = (h2.get? b).getD default := hm
          rw [h₄, hm', e]; rfl
        · obtain ⟨ob', hb'⟩ := hfr b hb hbw
          have e1 := q'.frz b ob' (hle b ob' hb')
          have e2 := q₄.frz b ob' (hle' b ob' (hle b ob' hb'))
          have e1' : h2.get? b = some ob' := e1
          rw [e1'] at e; cases e; exact e2
      · obtain ⟨g1, g2, g3, g4, _⟩ := q₄.owns b _ (List.mem_append_right _ (hraw b hb))
        refine ⟨g1, g2, g3, g4, fun mo hm => ?_⟩
        have nd := q₄.ownd
        rw [List.map_append, List.nodup_append] at nd
        exact nd.2.2 b (List.mem_map.mpr ⟨_, hm, rfl⟩) b (List.mem_map.mpr ⟨_, hraw b hb, rfl⟩) rfl
    obtain ⟨v1, hsts, hex⟩ := hstep i v o rws hlt hInv
    have B := hn.binds (M := model prog w) (A := A) (env := env) (E := notedBy (model prog w) A env fun e s' => cameBackBy (model prog w) A env E e s')
    refine assign_Tuple_tuple ok.handled hT2 (by rw [B.2.1]; rfl) B.2.2 fun h3 he3 => ?_
    have k3 : Keeps { s' with heap := h2, toks := tk } { s' with heap := h3, toks := tk } := ⟨h3, tk, rfl, fun b o e => he3 b o (Nat.ne_of_lt (Heap.lt_size e)) e⟩
    have q3 := q'.step k3
    have hle3 := (grow_le q'.frz : Le Φi (grow Φi { s' with heap := h2, toks := tk } { s' with heap := h3, toks := tk }))
    show wpAny _ _ (assignInOrder _ [.int (i : Int) t, .int ((l.getD i 0 : Nat) : Int) t']) _ _ _
    refine Rel.stores B.1 hsts q3 (vs := [.int (i : Int) t, .int ((l.getD i 0 : Nat) : Int) t']) ⟨⟨_, rfl⟩, ⟨_, rfl⟩, trivial⟩ fun s₃ q₃ => ?_
    refine wpAny_mono (hex _ s₃ q₃ A _ ok) (fun f s₄ h₄ => ?_) fun _ _ e => e
    obtain ⟨Φ', v', o', fl, hle', q₄, hf, o'', rfl, hq⟩ := h₄
    cases fl with
    | next =>
      cases hf
      obtain ⟨a1, a2⟩ := fr Φ' v' o'' s₄ (hle3.trans hle') q₄
      exact ⟨n - 1, by (first | lia | omega), i + 1, Φ', v', o'', by (first | lia | omega), by (first | lia | omega), q₄.drop, hle.trans (hle3.trans hle'), a1, a2, hq⟩
    | ret ra =>
      obtain ⟨rv, rfl, hrv⟩ := hf
      exact ⟨Φ', v', o'', .ret ra, hle0.trans (hle.trans (hle3.trans hle')), q₄.drop, ⟨rv, rfl, hrv⟩, hq⟩
  · have hie : i = l.length := by (first | lia | omega)
    subst hie
    have hsti' := hsti
    rw [← hlen, ← List.size_toArray] at hsti'
    refine W.done s' _ _ hsti' fun h' tk hk' => ?_
    exact wpAny_execs_nil ⟨Φi, v, o, .next, hle0.trans hle, qi.keepBut offi hk', rfl, hdone v o hInv⟩
end
section
variable (q rate : Nat) (perm : List Nat → List Nat) (pd : List Nat)
noncomputable def lawS : Nat → List Nat
  | 0 => List.replicate (25 * q) 0
  | i + 1 => if (i % rate == rate - 1) = true then lawPerm q perm ((lawS i).set (i % rate) ((lawS i).getD (i % rate) 0 ^^^ pd.getD i 0)) else (lawS i).set (i % rate) ((lawS i).getD (i % rate) 0 ^^^ pd.getD i 0)
noncomputable def lawP (h : List Nat) : Nat → List Nat
  | 0 => h
  | k + 1 => lawPerm q perm (lawP h k)
noncomputable def lawTo (h : List Nat) : Nat → List Nat
  | 0 => []
  | k + 1 => lawTo h k ++ cut (lawP q perm h k) none (some rate)
noncomputable def lawAbs (many : Nat) : List Nat := cut (lawTo q rate perm (lawS q rate perm pd pd.length) ((many - 0 + rate - 1) / rate)) none (some many)
end
theorem BY_nats : ∀ {l : List Nat}, (∀ x ∈ l, x < 256) → ((BY l).toList.map fun c => c.toNat) = l
  | [], _ => rfl
  | c :: r, h => by
    have ih := BY_nats (l := r) fun x hx => h x (.tail _ hx)
    rw [BY_toList] at ih ⊢
    rw [List.map_cons, List.map_cons, ih, u8 (h c (.head _))]
theorem ty_listY {prog : Program} {w : World} {l : List Nat} (h : ∀ x ∈ l, x < 256) (hz : l.length ≤ 2 ^ 24) : TyN prog w "list" [.bytes (BY l)] (.lst (IL l)) := by
  have := ty_listB (prog := prog) (w := w) (b := BY l) (by rw [BY_size]; exact hz)
  rwa [BY_nats h] at this
theorem IL_cut {l : List Nat} {lo hi : Option Nat} : cut (IL l) lo hi = IL (cut l lo hi) := by unfold cut IL; simp [List.map_take, List.map_drop]
structure HOk (q : Nat) (h : List Nat) : Prop where
  len : h.length = 25 * q
  lt : ∀ x ∈ h, x < 256
theorem octsL_mem {q : Nat} {a : List Nat} {x : Nat} (h : x ∈ octsL q a) : x < 256 := by
  unfold octsL at h
  obtain ⟨l, hl, hx⟩ := List.mem_flatten.mp h
  obtain ⟨i, _, rfl⟩ := List.mem_map.mp hl
  unfold leB at hx
  obtain ⟨k, _, rfl⟩ := List.mem_map.mp hx
  exact Nat.mod_lt _ (by decide)
theorem lawPerm_ok {q : Nat} {perm : List Nat → List Nat} (hp : ∀ held, (∀ x ∈ held, x < 256) → (perm (lanesL q held)).length = 25) {held : List Nat} (h : HOk q held) : HOk q (lawPerm q perm held) :=
  ⟨by unfold lawPerm; rw [octsL_len, hp held h.lt], fun x hx => octsL_mem hx⟩
theorem HOk_set {q i x : Nat} {h : List Nat} (hh : HOk q h) (hx : x < 256) : HOk q (h.set i x) := ⟨by rw [List.length_set, hh.len], fun y hy => (List.mem_or_eq_of_mem_set hy).elim (hh.lt y) fun e => e ▸ hx⟩
theorem lt256 {l : List Nat} (h : ∀ x ∈ l, x < 256) (i : Nat) : l.getD i 0 < 256 := by
  rw [List.getD_eq_getElem?_getD]
  cases e : l[i]? with
  | none => simp
  | some x => exact h x (List.mem_of_getElem? e)
theorem lawS_ok {q rate : Nat} {perm : List Nat → List Nat} {pd : List Nat} (hp : ∀ held, (∀ x ∈ held, x < 256) → (perm (lanesL q held)).length = 25) (hd : ∀ x ∈ pd, x < 256) : ∀ i, HOk q (lawS q rate perm pd i)
  | 0 => ⟨by simp [lawS], fun x hx => by rw [(List.mem_replicate.mp hx).2]; decide⟩
  | i + 1 => by
    have h := lawS_ok hp hd i (rate := rate)
    have h2 := HOk_set (i := i % rate) h (Nat.xor_lt_two_pow (n := 8) (lt256 h.lt (i % rate)) (lt256 hd i))
    rw [lawS]
    split
    · exact lawPerm_ok hp h2
    · exact h2
theorem lawP_ok {q : Nat} {perm : List Nat → List Nat} {h : List Nat} (hp : ∀ held, (∀ x ∈ held, x < 256) → (perm (lanesL q held)).length = 25) (hh : HOk q h) : ∀ i, HOk q (lawP q perm h i)
  | 0 => hh
  | i + 1 => lawPerm_ok hp (lawP_ok hp hh i)
theorem lawTo_ok {q rate : Nat} {perm : List Nat → List Nat} {h : List Nat} (hp : ∀ held, (∀ x ∈ held, x < 256) → (perm (lanesL q held)).length = 25) (hh : HOk q h) : ∀ i, (∀ x ∈ lawTo q rate perm h i, x < 256) ∧ (lawTo q rate perm h i).length ≤ i * rate
  | 0 => ⟨by simp [lawTo], by simp [lawTo]⟩
  | i + 1 => by
    obtain ⟨h1, h2⟩ := lawTo_ok hp hh i (rate := rate)
    rw [lawTo]
    refine ⟨fun x hx => (List.mem_append.mp hx).elim (h1 x) fun e => (lawP_ok hp hh i).lt x (cut_mem e), ?_⟩
    have : (cut (lawP q perm h i) none (some rate)).length ≤ rate := by unfold cut; rw [List.length_take]; exact Nat.min_le_left _ _
    rw [List.length_append, Nat.succ_mul]; (first | lia | omega)
end Kx
end

section -- E3
open PySem PySem.W PyProof.Rows
set_option Elab.async false
set_option maxRecDepth 100000
set_option linter.unusedVariables false
set_option maxHeartbeats 1000000
namespace Kx
section
variable {prog : Program} {w : World} {hB : Heap} {K : Frag} {D : Nat} {env : Env} {ns ns' : List (Str × NameKind)} {vals vals' : List (Option AV)} {own own' : List (Addr × MO)} {ε : Ent} {s₀ s s' : Shared} {Φ : FH}
noncomputable def ofPair (k : Nat × Nat) : List Int := [(k.1 : Int), (k.2 : Int)]
theorem ofPair_inj {a b : Nat × Nat} (h : ofPair a = ofPair b) : a = b := by
  obtain ⟨a1, a2⟩ := a
  obtain ⟨b1, b2⟩ := b
  unfold ofPair at h
  simp only [List.cons.injEq] at h
  rw [Int.ofNat_inj.mp h.1, Int.ofNat_inj.mp h.2.1]
theorem isKey {h : Heap} {a : Addr} {k : Nat × Nat} {t u : Tok} {n : Nat} (e : h.get? a = some (tupOf #[.int (k.1 : Int) t, .int (k.2 : Int) u] n)) : (tupleKind (intKind prog w)).is h (ofPair k) a :=
  ⟨_, _, n, e, rfl, rfl, .cons (by simp [intKind, Value.isInt]) (.cons (by simp [intKind, Value.isInt]) .nil)⟩
theorem KsAre.kit {ks : List (Nat × Nat)} {es : List DictEntry} {vs : List Value} (h : KsAre Φ ks es vs) : ∃ L : List (List Int × Addr × Value), es = L.map (entryOfKey (tupleKind (intKind prog w))) ∧ L.map (·.1) = ks.map ofPair ∧ L.map (·.2.2) = vs ∧
    ∀ x ∈ L, ∃ k t u n, x.1 = ofPair k ∧ Φ x.2.1 = some (tupOf #[.int (k.1 : Int) t, .int (k.2 : Int) u] n) := by
  induction h with
  | nil => exact ⟨[], rfl, rfl, rfl, by simp⟩
  | @cons k ks e es vs a t u n hk ha hh _ ih =>
    obtain ⟨L, e1, e2, e3, e4⟩ := ih
    obtain ⟨eh, ek, ev⟩ := e
    simp only at hk hh
    subst hk hh
    refine ⟨(ofPair k, a, ev) :: L, by rw [List.map_cons, ← e1]; rfl, by rw [List.map_cons, List.map_cons, e2], by rw [List.map_cons, e3], fun x hx => ?_⟩
    rcases List.mem_cons.mp hx with rfl | hx
    · exact ⟨k, t, u, n, rfl, ha⟩
    · exact e4 x hx
theorem KsAre.snoc {ks : List (Nat × Nat)} {es : List DictEntry} {vs : List Value} {k : Nat × Nat} {a : Addr} {t u : Tok} {n : Nat} {v : Value} (h : KsAre Φ ks es vs) (ha : Φ a = some (tupOf #[.int (k.1 : Int) t, .int (k.2 : Int) u] n)) : KsAre Φ (ks ++ [k]) (es ++ [⟨pairHash k, .ref a, v⟩]) (vs ++ [v]) := by
  induction h with
  | nil => exact .cons (e := ⟨pairHash k, .ref a, v⟩) rfl ha rfl .nil
  | cons hk ha' hh _ ih => exact .cons hk ha' hh ih
theorem dctH {a : Addr} {ks : List (Nat × Nat)} {es : List DictEntry} {vs : List Value} {n : Nat} (hf : ∀ x o, Φ x = some o → s.heap.get? x = some o) (ho : s.heap.get? a = some (dictOf es n)) (h : KsAre Φ ks es vs) (nd : ks.Nodup) :
    ∃ L : List (List Int × Addr × Value), s.heap.DictOfH (tupleKind (intKind prog w)) a L ∧ es = L.map (entryOfKey (tupleKind (intKind prog w))) ∧ L.map (·.1) = ks.map ofPair ∧ L.map (·.2.2) = vs := by
  obtain ⟨L, e1, e2, e3, e4⟩ := h.kit (prog := prog) (w := w)
  refine ⟨L, ⟨_, es.toArray, n, ho, ⟨rfl, rfl, rfl⟩, rfl, by simpa using e1, fun x hx => ?_, ?_⟩, e1, e2, e3⟩
  · obtain ⟨k, t, u, n, e, f⟩ := e4 x hx
    rw [e]; exact isKey (hf _ _ f)
  · rw [e2]
    exact List.Pairwise.map _ (fun a b hne e => hne (ofPair_inj e)) nd
theorem room1 {A : Around} (ok : AOk 1 A) : A.in1.units < cLine := by have := ok.units; show A.units + 1 < _; (first | lia | omega)
theorem gg_dct {ks : List (Nat × Nat)} {g : Nat × Nat → AV} {k : Nat × Nat} (hk : k ∈ ks) : GetG prog w (.tup [.int (k.1 : Int), .int (k.2 : Int)]) (.dct ks (ks.map g)) (g k) := fun Φ s a o vk A E hf ok ho hm hkey => by
  obtain ⟨es, vs, n, rfl, hes, hrs, nd⟩ := hm
  obtain ⟨b, us, m, rfl, hb, hus⟩ := hkey
  obtain ⟨u1, u2, rfl, ⟨t, rfl⟩, t', rfl⟩ := hus.two
  obtain ⟨L, hD, e1, e2, e3⟩ := dctH (prog := prog) (w := w) hf ho hes nd
  obtain ⟨i, hi⟩ := List.getElem?_of_mem hk
  obtain ⟨v, hv, hR⟩ := hrs.get i (g k) (by rw [List.getElem?_map, hi]; rfl)
  have hL : ∃ p : Addr × Value, L[i]? = some (ofPair k, p) ∧ p.2 = v := by
    have h1 : (L.map (·.1))[i]? = some (ofPair k) := by rw [e2, List.getElem?_map, hi]; rfl
    have h2 : (L.map (·.2.2))[i]? = some v := by rw [e3]; exact hv
    rw [List.getElem?_map] at h1 h2
    cases hx : L[i]? with
    | none => rw [hx] at h1; cases h1
    | some x =>
      obtain ⟨x1, x2⟩ := x
      rw [hx] at h1 h2
      simp only [Option.map_some, Option.some.injEq] at h1 h2
      exact ⟨x2, by rw [h1], h2⟩
  obtain ⟨p, hp, rfl⟩ := hL
  have hnd := hD
  obtain ⟨_, _, _, _, _, _, _, _, hnd⟩ := hnd
  exact wpAny_getItem_heap (knd := tupleKind (intKind prog w)) (k := ofPair k) (room1 ok) (isKey (hf _ _ hb)) hD (atKey_of_get hnd hp) ⟨Keeps.tok _, hR.mono (grow_le hf)⟩
theorem sg_dct {ks : List (Nat × Nat)} {g : Nat × Nat → AV} {k : Nat × Nat} (hk : k ∉ ks) (hz : ks.length ≤ 1000) : SetG prog w (.tup [.int (k.1 : Int), .int (k.2 : Int)]) (.dct ks (ks.map g)) (g k) (.dct (ks ++ [k]) ((ks ++ [k]).map g)) := fun Φ s a o vk vv A E Q hf ok ho hm hkey hv h => by
  obtain ⟨es, vs, n, rfl, hes, hrs, nd⟩ := hm
  obtain ⟨b, us, m, rfl, hb, hus⟩ := hkey
  obtain ⟨u1, u2, rfl, ⟨t, rfl⟩, t', rfl⟩ := hus.two
  obtain ⟨L, hD, e1, e2, e3⟩ := dctH (prog := prog) (w := w) hf ho hes nd
  have hno : atKey L (ofPair k) = none := by
    refine atKey_none_of_get fun j p hj => hk ?_
    have : ofPair k ∈ L.map (·.1) := List.mem_map.mpr ⟨_, List.mem_of_getElem? hj, rfl⟩
    rw [e2] at this
    obtain ⟨k', hk', e⟩ := List.mem_map.mp this
    rw [← ofPair_inj e]; exact hk'
  have hLl : L.length ≤ sizeLine := by
    have : L.length = ks.length := by have := congrArg List.length e2; simpa using this
    rw [this, sizeLine_eq]; (first | lia | omega)
  refine wpAny_setItem_heap (knd := tupleKind (intKind prog w)) (k := ofPair k) (room1 ok) (isKey (hf _ _ hb)) hD (fun h' hD' hs => ?_) hLl
  rw [storedH_new hno] at hD'
  obtain ⟨o', es', ep, ho', ⟨c1, c2, c3⟩, hd', he', _, _⟩ := hD'
  refine h h' o' _ hs ho' ⟨es ++ [⟨pairHash k, .ref b, vv⟩], vs ++ [vv], ep, ?_, hes.snoc hb, ?_, ?_⟩
  · obtain ⟨oc, od, odd, osl⟩ := o'
    simp only at c1 c2 c3 hd'
    subst c1 c2 c3 hd'
    have : es' = (es ++ [(⟨pairHash k, .ref b, vv⟩ : DictEntry)]).toArray := by
      apply Array.toList_inj.mp
      rw [he', List.map_append, ← e1]; rfl
    rw [this]
  · rw [List.map_append]; exact hrs.append ⟨hv, trivial⟩
  · rw [List.nodup_append]
    refine ⟨nd, by simp, fun x hx y hy => ?_⟩
    rw [List.mem_singleton.mp hy]
    rintro rfl; exact hk hx
theorem EvN.dict0 {pos : Pos} : EvN prog w hB D env ns vals own (.Dict [] [] pos) (.dct [] []) := fun Φ s q A E ok => by
  refine wpAny_Dict_empty ?_
  exact NW.push (mo := .dct [] []) (n := s.toks) q.frz ⟨[], [], 0, rfl, .nil, trivial, List.nodup_nil⟩
theorem Ev.itemD {v sl : Expr} {pos : Pos} {a : Addr} {j : Nat} {ks : List (Nat × Nat)} {xs : List AV} {k x : AV} (hv : Ev prog w hB (D + 1) env ns vals own v (.ref a)) (hj : At own j (a, .dct ks xs)) (hi : Ev prog w hB (D + 1) env ns vals own sl k) (hg : GetG prog w k (.dct ks xs) x)
    (hs : ∀ o i, subscripted sl false o i = operate [o, i] (getItem o i) := by intro _ _; rfl) : Ev prog w hB (D + 1) env ns vals own (.Subscript v sl pos) x := fun Φ s q A E ok => by
  refine Subscript_ (wpAny_mono (hv Φ s q A E ok) (fun va s₁ h₁ => wpAny_mono (hi _ s₁ (q.step h₁.1) A E ok) (fun vb s₂ h₂ => ?_) fun _ _ e => e) fun _ _ e => e)
  have q₁ := q.step h₁.1
  have q₂ := q₁.step h₂.1
  obtain ⟨k₁, rfl⟩ := h₁
  obtain ⟨o, ho, hm⟩ := q₂.own a _ hj.mem
  have hT : s₂.TypeIs (.ref a) "dict" := by obtain ⟨es, vs, n, rfl, _⟩ := hm; exact ⟨_, ho, rfl⟩
  exact tail_any hT slot_dict_getitem.lookup (wpAny_mono (hg _ s₂ a o vb A E q₂.frz (ok.le (by (first | lia | omega))) ho hm h₂.2) (fun u s₃ h₃ => fin k₁ (fin h₂.1 h₃)) fun _ _ e => e) (hs _ _)
noncomputable def intKeys (es : List DictEntry) : Bool := es.all fun e => match e.key with | .int k _ => e.hash == hashInt k | _ => false
theorem Ev.kDict {v sl : Expr} {pos : Pos} {d : Addr} {es : Array DictEntry} {ep : Nat} {osl : Array (Option Value)} {k n : Int} {t : Tok} (G : GH K hB) (hv : Ev prog w hB D env ns vals own v (.ref d)) (hd : K.lookup d = some ⟨.type "dict", none, .dict es ep, osl⟩) (hk : intKeys es.toList = true) (hi : Ev prog w hB D env ns vals own sl (.int k)) (hf : findBy Value.isInt es k = some (.int n t))
    (hs : ∀ o i, subscripted sl false o i = operate [o, i] (getItem o i) := by intro _ _; rfl) : Ev prog w hB D env ns vals own (.Subscript v sl pos) (.int n) := fun Φ s q A E ok => by
  refine Subscript_ (wpAny_mono (hv Φ s q A E ok) (fun va s₁ h₁ => wpAny_mono (hi _ s₁ (q.step h₁.1) A E ok) (fun vb s₂ h₂ => ?_) fun _ _ e => e) fun _ _ e => e)
  have q₁ := q.step h₁.1
  have q₂ := q₁.step h₂.1
  obtain ⟨k₁, rfl⟩ := h₁
  obtain ⟨k₂, t', rfl⟩ := h₂
  have ho := q₂.base' _ _ (G.kin _ _ hd)
  have hks : IntKeys es := fun e he => by
    unfold intKeys at hk
    have h0 := List.all_eq_true.mp hk e (by simpa using he)
    split at h0
    · rename_i k' t'' e1; exact ⟨k', t'', e1, by simpa using h0⟩
    · cases h0
  have hm : s₂.heap.IntMap d (findBy Value.isInt es) := ⟨_, es, ep, ho, rfl, rfl, hks, fun _ => rfl⟩
  exact tail_any hm.typeIs slot_dict_getitem.lookup (wpAny_getItem_intMap hm hf (fin k₁ (fin k₂ ⟨Keeps.tok _, t, rfl⟩))) (hs _ _)
theorem EvN.sliceI {v : Expr} {lo hi : Option Expr} {p pos : Pos} {av : AV} {xs : List Nat} {l u : Option Nat} (hv : Ev prog w hB D env ns vals own v av) (hlv : LV own av (IL xs)) (hl : EvP prog w hB D env ns vals own lo l) (hu : EvP prog w hB D env ns vals own hi u) (hz : xs.length ≤ sizeLine) :
    EvN prog w hB D env ns vals own (.Subscript v (.Slice lo hi none p) pos) (.lst (IL (cut xs l u))) := IL_cut ▸ EvN.slice hv hlv hl hu (by rw [IL_length]; exact hz)
end
end Kx
end

section -- E4
open PySem PySem.W PyProof.Rows
set_option Elab.async false
set_option maxRecDepth 100000
set_option linter.unusedVariables false
set_option maxHeartbeats 1000000
namespace Kx
noncomputable def laidL : List Nat := [1, 32898, 9223372036854808714, 9223372039002292224, 32907, 2147483649, 9223372039002292353, 9223372036854808585, 138, 136, 2147516425, 2147483658, 2147516555, 9223372036854775947, 9223372036854808713, 9223372036854808579, 9223372036854808578, 9223372036854775936, 32778, 9223372039002259466, 9223372039002292353, 9223372036854808704, 2147483649, 9223372039002292232]
noncomputable def turnT : List (List Nat) := [[0, 36, 3, 41, 18], [1, 44, 10, 45, 2], [62, 6, 43, 15, 61], [28, 55, 25, 21, 56], [27, 20, 39, 8, 14]]
noncomputable def turnN (x y : Nat) : Nat := (turnT.getD x []).getD y 0
noncomputable def oneL (w : Nat) (a c : List Nat) (x y : Nat) : Nat := a.getD (x + 5 * y) 0 ^^^ c.getD ((x + 4) % 5) 0 ^^^ (2 * c.getD ((x + 1) % 5) 0 % 2 ^ w + 2 * c.getD ((x + 1) % 5) 0 / 2 ^ w)
noncomputable def latV (w : Nat) (a c : List Nat) (x y : Nat) : Nat := oneL w a c x y * 2 ^ (turnN x y % w) % 2 ^ w + oneL w a c x y * 2 ^ (turnN x y % w) / 2 ^ w
noncomputable def latG (w : Nat) (a c : List Nat) (k : Nat × Nat) : Nat := latV w a c ((3 * k.2 + k.1) % 5) k.1
noncomputable def keysS (i j : Nat) : List (Nat × Nat) := ((List.range i).flatMap fun y => (List.range 5).map fun x => (y, (2 * x + 3 * y) % 5)) ++ (List.range j).map fun x => (i, (2 * x + 3 * i) % 5)
theorem keysS_one {i j : Nat} : keysS i j ++ [(i, (2 * j + 3 * i) % 5)] = keysS i (j + 1) := by
  unfold keysS; rw [List.range_succ (n := j), List.map_append, List.append_assoc]; rfl
theorem keysS_row {i : Nat} : keysS i 5 = keysS (i + 1) 0 := by
  unfold keysS; rw [List.range_succ (n := i), List.flatMap_append]; simp
theorem keysS_new : ∀ i, i < 5 → ∀ j, j < 5 → (i, (2 * j + 3 * i) % 5) ∉ keysS i j := by decide +kernel
theorem keysS_len : ∀ i, i < 5 → ∀ j, j < 5 → (keysS i j).length ≤ 1000 := by decide +kernel
theorem keysS_all : ∀ x, x < 5 → ∀ y, y < 5 → (x, y) ∈ keysS 5 0 := by decide +kernel
theorem back5 : ∀ x, x < 5 → ∀ y, y < 5 → (3 * ((2 * x + 3 * y) % 5) + y) % 5 = x := by decide +kernel
theorem latG_at {w : Nat} {a c : List Nat} {x y : Nat} (hx : x < 5) (hy : y < 5) : latG w a c (y, (2 * x + 3 * y) % 5) = latV w a c x y := by
  unfold latG; rw [back5 x hx y hy]
noncomputable def chiL (g : Nat × Nat → Nat) (x y : Nat) : Nat := g (x, y) ^^^ (g ((x + 2) % 5, y) - (g ((x + 2) % 5, y) &&& g ((x + 1) % 5, y)))
noncomputable def nowS (g : Nat × Nat → Nat) (i j : Nat) : List Nat := ((List.range i).flatMap fun y => (List.range 5).map fun x => chiL g x y) ++ (List.range j).map fun x => chiL g x i
theorem nowS_one {g : Nat × Nat → Nat} {i j : Nat} : nowS g i j ++ [chiL g j i] = nowS g i (j + 1) := by
  unfold nowS; rw [List.range_succ (n := j), List.map_append, List.append_assoc]; rfl
theorem nowS_row {g : Nat × Nat → Nat} {i : Nat} : nowS g i 5 = nowS g (i + 1) 0 := by
  unfold nowS; rw [List.range_succ (n := i), List.flatMap_append]; simp
theorem nowS_len {g : Nat × Nat → Nat} {i j : Nat} : (nowS g i j).length = i * 5 + j := by
  unfold nowS; induction i with
  | zero => simp
  | succ i ih => rw [List.range_succ (n := i), List.flatMap_append]; simp at ih ⊢; (first | lia | omega)
noncomputable def lawR (w : Nat) (c a : List Nat) (r : Nat) : List Nat := (nowS (latG w a c) 5 0).set 0 ((nowS (latG w a c) 5 0).getD 0 0 ^^^ r % 2 ^ w)
section
variable {prog : Program} {w : World} {hB : Heap} {K : Frag} {D : Nat} {env : Env} {ns : List (Str × NameKind)} {vals : List (Option AV)} {own own' : List (Addr × MO)} {ε : Ent} {Q : Flw → List (Option AV) → List (Addr × MO) → Prop}
noncomputable abbrev dctN (ks : List (Nat × Nat)) (g : Nat × Nat → Nat) : MO := .dct ks (ks.map fun k => AV.int ((g k : Nat) : Int))
theorem Ev.dctN {v e1 e2 : Expr} {tp pos : Pos} {kk j x y : Nat} {a : Addr} {ks : List (Nat × Nat)} {g : Nat × Nat → Nat} (hv : Ev prog w hB (D + 1) env ns vals own v (.ref a)) (hj : At own j (a, Kx.dctN ks g)) (hx : Ev prog w hB (D + 1) env ns vals own e1 (.int (x : Int))) (hy : Ev prog w hB (D + 1) env ns vals own e2 (.int (y : Int))) (hk : (x, y) ∈ ks)
    (h1 : starEach [e1, e2] env = (false, eval e1 env) :: starEach [e2] env := by rfl) (h2 : starEach [e2] env = (false, eval e2 env) :: starEach [] env := by rfl)
    (hs : ∀ o i, subscripted (.Tuple [e1, e2] kk tp) false o i = operate [o, i] (getItem o i) := by intro _ _; rfl) : Ev prog w hB (D + 1) env ns vals own (.Subscript v (.Tuple [e1, e2] kk tp) pos) (.int ((g (x, y) : Nat) : Int)) :=
  Ev.itemD hv hj (Ev.tuple (EvL.cons hx (EvL.cons hy EvL.nil h2) h1) (by rw [sizeLine_eq]; simp)) (gg_dct (g := fun k => AV.int ((g k : Nat) : Int)) (k := (x, y)) hk) hs
theorem St.dctN {o e1 e2 value : Expr} {tp p pos : Pos} {kk j x y n : Nat} {a : Addr} {ks : List (Nat × Nat)} {g : Nat × Nat → Nat} (hv : Ev prog w hB (D + 1) env ns vals own value (.int (n : Int))) (ho : Ev prog w hB (D + 1) env ns vals own o (.ref a)) (hx : Ev prog w hB (D + 1) env ns vals own e1 (.int (x : Int))) (hy : Ev prog w hB (D + 1) env ns vals own e2 (.int (y : Int)))
    (hj : At own j (a, Kx.dctN ks g)) (hn : n = g (x, y)) (hk : (x, y) ∉ ks) (hz : ks.length ≤ 1000) (hset : SetAt own j (a, Kx.dctN (ks ++ [(x, y)]) g) own') (kq : Q .next vals own')
    (h1 : starEach [e1, e2] env = (false, eval e1 env) :: starEach [e2] env := by rfl) (h2 : starEach [e2] env = (false, eval e2 env) :: starEach [] env := by rfl)
    (hsw : swapsWith value (some (.Subscript o (.Tuple [e1, e2] kk tp) p)) pos.line env = pure false := by rfl) : St prog w hB (D + 1) ε env ns (.Assign [.Subscript o (.Tuple [e1, e2] kk tp) p] value pos) vals own Q := by
  subst hn
  exact St.setItem hv ho (Ev.tuple (EvL.cons hx (EvL.cons hy EvL.nil h2) h1) (by rw [sizeLine_eq]; simp)) hj (sg_dct (g := fun k => AV.int ((g k : Nat) : Int)) (k := (x, y)) hk hz) hset kq hsw
end
theorem turnT_row : ∀ x, x < 5 → (turnT.map fun r => AV.lst (IL r))[x]? = some (AV.lst (IL (turnT.getD x [])))
  | 0, _ => rfl | 1, _ => rfl | 2, _ => rfl | 3, _ => rfl | 4, _ => rfl
  | n + 5, h => absurd h (by (first | lia | omega))
theorem turnT_len : ∀ x, x < 5 → (turnT.getD x []).length = 5 := by decide +kernel
end Kx
end

section -- E5
open PySem PySem.W PyProof.Rows
set_option Elab.async false
set_option maxRecDepth 100000
set_option linter.unusedVariables false
set_option maxHeartbeats 1000000
namespace Kx
noncomputable def LL (bs : List (List Nat)) : List AV := bs.map fun l => AV.lst (IL l)
theorem LL_length {bs : List (List Nat)} : (LL bs).length = bs.length := List.length_map ..
theorem LL_get {bs : List (List Nat)} {k : Nat} (h : k < bs.length) : (LL bs)[k]? = some (AV.lst (IL (bs.getD k []))) := by
  unfold LL
  rw [List.getElem?_map, List.getElem?_eq_getElem h, List.getD_eq_getElem?_getD, List.getElem?_eq_getElem h]; rfl
theorem LL_app {bs cs : List (List Nat)} : LL bs ++ LL cs = LL (bs ++ cs) := by unfold LL; rw [List.map_append]
theorem LL_one {l : List Nat} : [AV.lst (IL l)] = LL [l] := rfl
theorem LL_set {bs : List (List Nat)} {i : Nat} {l : List Nat} : (LL bs).set i (.lst (IL l)) = LL (bs.set i l) := by unfold LL; rw [List.map_set]
noncomputable abbrev dctL (ks : List (Nat × Nat)) (g : Nat × Nat → List Nat) : MO := .dct ks (ks.map fun k => AV.lst (IL (g k)))
section
variable {prog : Program} {w : World} {hB : Heap} {K : Frag} {D : Nat} {env : Env} {ns : List (Str × NameKind)} {vals : List (Option AV)} {own own' : List (Addr × MO)} {ε : Ent} {Q : Flw → List (Option AV) → List (Addr × MO) → Prop}
theorem Ev.itemL {v i : Expr} {p : Pos} {av : AV} {B : List (List Nat)} {k : Nat} (hv : Ev prog w hB D env ns vals own v av) (hl : LV own av (LL B)) (hi : Ev prog w hB D env ns vals own i (.int (k : Int))) (hk : k < B.length) (hz : B.length ≤ 1000)
    (hs : ∀ o i', subscripted i false o i' = operate [o, i'] (getItem o i') := by intro _ _; rfl) : Ev prog w hB D env ns vals own (.Subscript v i p) (.lst (IL (B.getD k []))) := Ev.itemK hv hl hi (by (first | lia | omega)) (LL_get hk) hs
theorem Ev.item2 {v i j : Expr} {p p2 : Pos} {av : AV} {B : List (List Nat)} {k z : Nat} (hv : Ev prog w hB D env ns vals own v av) (hl : LV own av (LL B)) (hi : Ev prog w hB D env ns vals own i (.int (k : Int))) (hj : Ev prog w hB D env ns vals own j (.int (z : Int))) (hk : k < B.length) (hz : B.length ≤ 1000) (hk2 : z < (B.getD k []).length) (hz2 : (B.getD k []).length ≤ 1000)
    (hs : ∀ o i', subscripted i false o i' = operate [o, i'] (getItem o i') := by intro _ _; rfl) (hs2 : ∀ o i', subscripted j false o i' = operate [o, i'] (getItem o i') := by intro _ _; rfl) :
    Ev prog w hB D env ns vals own (.Subscript (.Subscript v i p) j p2) (.int (((B.getD k []).getD z 0 : Nat) : Int)) := Ev.itemN (Ev.itemL hv hl hi hk hz hs) .frz hj hk2 (by (first | lia | omega)) hs2
theorem Ev.dctL {v e1 e2 : Expr} {tp pos : Pos} {kk j x y : Nat} {a : Addr} {ks : List (Nat × Nat)} {g : Nat × Nat → List Nat} (hv : Ev prog w hB (D + 1) env ns vals own v (.ref a)) (hj : At own j (a, Kx.dctL ks g)) (hx : Ev prog w hB (D + 1) env ns vals own e1 (.int (x : Int))) (hy : Ev prog w hB (D + 1) env ns vals own e2 (.int (y : Int))) (hk : (x, y) ∈ ks)
    (h1 : starEach [e1, e2] env = (false, eval e1 env) :: starEach [e2] env := by rfl) (h2 : starEach [e2] env = (false, eval e2 env) :: starEach [] env := by rfl)
    (hs : ∀ o i, subscripted (.Tuple [e1, e2] kk tp) false o i = operate [o, i] (getItem o i) := by intro _ _; rfl) : Ev prog w hB (D + 1) env ns vals own (.Subscript v (.Tuple [e1, e2] kk tp) pos) (.lst (IL (g (x, y)))) :=
  Ev.itemD hv hj (Ev.tuple (EvL.cons hx (EvL.cons hy EvL.nil h2) h1) (by rw [sizeLine_eq]; simp)) (gg_dct (g := fun k => AV.lst (IL (g k))) (k := (x, y)) hk) hs
theorem St.dctL {o e1 e2 value : Expr} {tp p pos : Pos} {kk j x y : Nat} {l : List Nat} {a : Addr} {ks : List (Nat × Nat)} {g : Nat × Nat → List Nat} (hv : Ev prog w hB (D + 1) env ns vals own value (.lst (IL l))) (ho : Ev prog w hB (D + 1) env ns vals own o (.ref a)) (hx : Ev prog w hB (D + 1) env ns vals own e1 (.int (x : Int))) (hy : Ev prog w hB (D + 1) env ns vals own e2 (.int (y : Int)))
    (hj : At own j (a, Kx.dctL ks g)) (hn : l = g (x, y)) (hk : (x, y) ∉ ks) (hz : ks.length ≤ 1000) (hset : SetAt own j (a, Kx.dctL (ks ++ [(x, y)]) g) own') (kq : Q .next vals own')
    (h1 : starEach [e1, e2] env = (false, eval e1 env) :: starEach [e2] env := by rfl) (h2 : starEach [e2] env = (false, eval e2 env) :: starEach [] env := by rfl)
    (hsw : swapsWith value (some (.Subscript o (.Tuple [e1, e2] kk tp) p)) pos.line env = pure false := by rfl) : St prog w hB (D + 1) ε env ns (.Assign [.Subscript o (.Tuple [e1, e2] kk tp) p] value pos) vals own Q := by
  subst hn
  exact St.setItem hv ho (Ev.tuple (EvL.cons hx (EvL.cons hy EvL.nil h2) h1) (by rw [sizeLine_eq]; simp)) hj (sg_dct (g := fun k => AV.lst (IL (g k))) (k := (x, y)) hk hz) hset kq hsw
theorem Ev.backN {a b c : Expr} {p p2 : Pos} {z t n : Nat} (ha : Ev prog w hB (D + 1) env ns vals own a (.int (z : Int))) (hb : Ev prog w hB (D + 1) env ns vals own b (.int (t : Int))) (hc : Ev prog w hB (D + 1) env ns vals own c (.int (n : Int))) (hn : 0 < n) :
    Ev prog w hB (D + 1) env ns vals own (.BinOp (.BinOp a .Sub b p) .Mod c p2) (.int (((z + (n - t % n)) % n : Nat) : Int)) := (Ev.bin (Ev.bin ha hb og_sub) hc (og_mod (by (first | lia | omega)))).eq (by
  congr 1
  have h1 : t % n < n := Nat.mod_lt _ hn
  have h2 : (t : Int) = ((n * (t / n) + t % n : Nat) : Int) := by rw [Nat.div_add_mod]
  rw [Int.natCast_emod, Int.natCast_add, Int.natCast_sub (Nat.le_of_lt h1)]
  have h3 : (z : Int) + ((n : Int) - ((t % n : Nat) : Int)) = ((z : Int) - t) + n * ((t / n : Nat) + 1) := by
    rw [h2]; simp only [Int.natCast_add, Int.natCast_mul]
    have : (n : Int) * (((t / n : Nat) : Int) + 1) = n * ((t / n : Nat) : Int) + n := by rw [Int.mul_add, Int.mul_one]
    rw [this]
    have e : (((n * (t / n) : Nat) : Int) + ((t % n : Nat) : Int)).toNat = t := by (first | lia | omega)
    have e2 : ((n * ((t / n : Nat)) : Nat) + t % n) % n = t % n := by rw [Nat.mul_add_mod, Nat.mod_mod]
    (first | lia | omega)
  rw [h3, Int.add_mul_emod_self_left])
end
noncomputable def bitsOf (w x : Nat) : List Nat := (List.range w).map fun z => x / 2 ^ z % 2
noncomputable def bitsF (w : Nat) (a : List Nat) : List (List Nat) := (List.range a.length).map fun i => bitsOf w (a.getD i 0)
noncomputable def colB (w : Nat) (B : List (List Nat)) (x : Nat) : List Nat := (List.range w).map fun z => ((List.range 5).map fun y => (B.getD (x + 5 * y) []).getD z 0).sum % 2
noncomputable def mixB (w : Nat) (B C : List (List Nat)) (x y : Nat) : List Nat := (List.range w).map fun z => ((B.getD (x + 5 * y) []).getD z 0 + (C.getD ((x + 4) % 5) []).getD z 0 + (C.getD ((x + 1) % 5) []).getD ((z + (C.getD ((x + 1) % 5) []).length - 1) % (C.getD ((x + 1) % 5) []).length) 0) % 2
noncomputable def latBv (w : Nat) (B C : List (List Nat)) (x y : Nat) : List Nat := (List.range w).map fun z => (mixB w B C x y).getD ((z + (w - turnN x y % w)) % w) 0
noncomputable def latB (w : Nat) (B C : List (List Nat)) (k : Nat × Nat) : List Nat := latBv w B C ((3 * k.2 + k.1) % 5) k.1
theorem latB_at {w : Nat} {B C : List (List Nat)} {x y : Nat} (hx : x < 5) (hy : y < 5) : latB w B C (y, (2 * x + 3 * y) % 5) = latBv w B C x y := by
  unfold latB; rw [back5 x hx y hy]
noncomputable def chiB (w : Nat) (g : Nat × Nat → List Nat) (x y : Nat) : List Nat := (List.range w).map fun z => ((g (x, y)).getD z 0 + (1 - (g ((x + 1) % 5, y)).getD z 0) * (g ((x + 2) % 5, y)).getD z 0) % 2
noncomputable def rowS (f : Nat → Nat → List Nat) (i j : Nat) : List (List Nat) := ((List.range i).flatMap fun y => (List.range 5).map fun x => f x y) ++ (List.range j).map fun x => f x i
theorem rowS_one {f : Nat → Nat → List Nat} {i j : Nat} : rowS f i j ++ [f j i] = rowS f i (j + 1) := by
  unfold rowS; rw [List.range_succ (n := j), List.map_append, List.append_assoc]; rfl
theorem rowS_row {f : Nat → Nat → List Nat} {i : Nat} : rowS f i 5 = rowS f (i + 1) 0 := by
  unfold rowS; rw [List.range_succ (n := i), List.flatMap_append]; simp
theorem rowS_len {f : Nat → Nat → List Nat} {i j : Nat} : (rowS f i j).length = i * 5 + j := by
  unfold rowS; induction i with
  | zero => simp
  | succ i ih => rw [List.range_succ (n := i), List.flatMap_append]; simp at ih ⊢; (first | lia | omega)
noncomputable def colsB (w : Nat) (B : List (List Nat)) : List (List Nat) := (List.range 5).map (colB w B)
noncomputable def lawB (w : Nat) (B C : List (List Nat)) (r : Nat) : List (List Nat) := (rowS (chiB w (latB w B C)) 5 0).set 0 ((List.range w).map fun z => (((rowS (chiB w (latB w B C)) 5 0).getD 0 []).getD z 0 + r / 2 ^ z) % 2)
noncomputable def lawBS (w : Nat) (ws : List Nat) (B : List (List Nat)) : Nat → List (List Nat)
  | 0 => B
  | i + 1 => lawB w (lawBS w ws B i) (colsB w (lawBS w ws B i)) (ws.getD i 0)
structure BOk (w n : Nat) (B : List (List Nat)) : Prop where
  len : B.length = n
  row : ∀ i, i < n → (B.getD i []).length = w
  lt : ∀ i z, (B.getD i []).getD z 0 < 2
theorem row_len {w : Nat} {f : Nat → Nat} : ((List.range w).map f).length = w := by simp
theorem row_lt {w : Nat} {f : Nat → Nat} (h : ∀ z, f z < 2) (z : Nat) : ((List.range w).map f).getD z 0 < 2 := by
  rw [List.getD_eq_getElem?_getD, List.getElem?_map]
  cases e : (List.range w)[z]? with
  | none => exact (by decide : 0 < 2)
  | some k => exact h k
theorem BOk_of {w n : Nat} {B : List (List Nat)} (hl : B.length = n) (h : ∀ r ∈ B, r.length = w ∧ ∀ z, r.getD z 0 < 2) : BOk w n B := by
  refine ⟨hl, fun i hi => ?_, fun i z => ?_⟩
  · rw [List.getD_eq_getElem?_getD, List.getElem?_eq_getElem (by (first | lia | omega))]
    exact (h _ (List.getElem_mem _)).1
  · have key : B.getD i [] = [] ∨ B.getD i [] ∈ B := by
      rw [List.getD_eq_getElem?_getD]
      cases e : B[i]? with
      | none => exact .inl rfl
      | some r => exact .inr (List.mem_of_getElem? e)
    rcases key with e | e
    · rw [e]; simp
    · exact (h _ e).2 z
theorem mod2 (n : Nat) : n % 2 < 2 := Nat.mod_lt _ (by decide)
theorem bitsF_ok {w : Nat} {a : List Nat} : BOk w a.length (bitsF w a) := BOk_of (by simp [bitsF]) fun r hr => by
  obtain ⟨i, _, rfl⟩ := List.mem_map.mp hr
  exact ⟨row_len, row_lt fun z => mod2 _⟩
theorem colsB_ok {w : Nat} {B : List (List Nat)} : BOk w 5 (colsB w B) := BOk_of (by simp [colsB]) fun r hr => by
  obtain ⟨i, _, rfl⟩ := List.mem_map.mp hr
  exact ⟨row_len, row_lt fun z => mod2 _⟩
theorem latB_ok {w : Nat} {B C : List (List Nat)} (k : Nat × Nat) : (latB w B C k).length = w ∧ ∀ z, (latB w B C k).getD z 0 < 2 :=
  ⟨row_len, row_lt fun z => by unfold mixB; exact row_lt (fun z => mod2 _) _⟩
theorem rowS_mem {f : Nat → Nat → List Nat} {i j : Nat} {r : List Nat} (h : r ∈ rowS f i j) : ∃ x y, r = f x y := by
  unfold rowS at h
  rcases List.mem_append.mp h with h | h
  · obtain ⟨y, _, h⟩ := List.mem_flatMap.mp h
    obtain ⟨x, _, rfl⟩ := List.mem_map.mp h
    exact ⟨x, y, rfl⟩
  · obtain ⟨x, _, rfl⟩ := List.mem_map.mp h
    exact ⟨x, i, rfl⟩
theorem chiS_ok {w : Nat} {g : Nat × Nat → List Nat} : BOk w 25 (rowS (chiB w g) 5 0) := BOk_of rowS_len fun r hr => by
  obtain ⟨x, y, rfl⟩ := rowS_mem hr
  exact ⟨row_len, row_lt fun z => mod2 _⟩
theorem lawB_ok {w : Nat} {B C : List (List Nat)} {r : Nat} : BOk w 25 (lawB w B C r) := BOk_of (by unfold lawB; rw [List.length_set, rowS_len]) fun s hs => by
  rcases List.mem_or_eq_of_mem_set hs with hs | rfl
  · obtain ⟨x, y, rfl⟩ := rowS_mem hs
    exact ⟨row_len, row_lt fun z => mod2 _⟩
  · exact ⟨row_len, row_lt fun z => mod2 _⟩
theorem lawBS_ok {w : Nat} {ws : List Nat} {B : List (List Nat)} (h : BOk w 25 B) : ∀ i, BOk w 25 (lawBS w ws B i)
  | 0 => h
  | i + 1 => lawB_ok
noncomputable def backF (w : Nat) (B : List (List Nat)) : List Nat := (List.range B.length).map fun i => ((List.range w).map fun z => (B.getD i []).getD z 0 * 2 ^ z).sum
end Kx
end

section -- X1
open PySem PySem.W PyProof.Rows
set_option Elab.async false
set_option maxRecDepth 100000
set_option linter.unusedVariables false
set_option maxHeartbeats 1000000
namespace Kx
section
variable {prog : Program} {w : World} {A : Around} {E : Value → Shared → Prop} {h : Heap} {g : Array GenState} {d : Drawn} {t : Nat} {os : OsState} {R : Result → Shared → Prop}
variable {nm q : Str} {C N f : Addr} {bs bm : List Value} {hdct : Bool} {sn : List Str} {sub : List Value} {ab : Bool} {col : Option Bool} {dd : Option Addr} {k0 k1 k2 k3 k5 : Option Value} {B newId initId : String}
noncomputable abbrev excObj (C t : Addr) (dx : Option Addr) : Obj := { cls := .ref C, dict := dx, data := .fields #[.ref t, .none, .none, .none, .bool false, .none] }
theorem make_exc (F : ExcBaseFacts B newId initId bm) {rest : List Value} (hC : h.get? C = some (excClassObj nm q C N bs bm hdct sn sub ab col dd k0 k1 k2 k3 k5 newId)) (hi : Looks (model prog w) h (typeLookup (.ref C) "__init__") (some (.ref f)))
    (hb : ∀ self, Looks (model prog w) h (bindSpecial (.ref f) self) (.ref f, [self])) (hrest : rest.length ≤ sizeLine)
    (hq : codeAny (model prog w) (A.under (.builtin "type.__call__" ⟨.ref C :: rest, []⟩)) (.call (.ref f) ⟨.ref (h.objs.size + 1) :: rest, []⟩) (InitBack (h.objs.size + 1) R) ⟨(h.push { cls := .type "tuple", data := .seq rest.toArray }).push (excObj C h.objs.size none), g, d, t, os⟩) :
    codeAny (model prog w) A (.call (.ref C) ⟨rest, []⟩) R ⟨h, g, d, t, os⟩ := by
  have f1 := tc_lookup
  have f2 := tc_bind (.ref C)
  have hT : (⟨h, g, d, t, os⟩ : Shared).TypeIs (.ref C) "type" := ⟨_, hC, rfl⟩
  refine codeAny_of_tree ?_
  show wpAny _ _ (callAny (.ref C) _) _ _ _
  repeat (any_goals (first | assumption | with_reducible refine wpAny_loadPart_at hC ?_ | wp_step))
  refine ⟨rfl, ?_⟩
  refine codeAny_call_builtin_at (Code.quiet_builtin _ (by decide +kernel)) entry_typeCall (wpAny_check_type_call_sub hC ?_)
  repeat (first | with_reducible refine wpAny_loadPart_at hC ?_ | with_reducible refine wpAny_madeBy_exc hC ?_ | wp_step)
  refine codeAny_call_builtin_code (Code.quiet_builtin _ F.quiet) (wpAny_check_new_sub F hC ?_)
  refine codeAny_exc_new_sub F hC ?_ hrest
  show wpAny _ _ _ _ _ _
  have k : ∀ b o, h.get? b = some o → ((h.push { cls := .type "tuple", data := .seq rest.toArray }).push (excObj C h.objs.size none)).get? b = some o := fun b o e => Heap.get?_push_of_some _ (Heap.get?_push_of_some _ e)
  have hC₁ := k _ _ hC
  have hget : ((h.push { cls := .type "tuple", data := .seq rest.toArray }).push (excObj C h.objs.size none)).get? (h.objs.size + 1) = some { cls := .ref C, data := .fields #[.ref h.objs.size, .none, .none, .none, .bool false, .none] } := by heap_get
  have hcC : (Value.ref C :: bm).contains (.ref C) = true := by simp
  unfold isInstance
  repeat (first | with_reducible refine wpAny_loadPart_at hget ?_ | (with_reducible refine wpAny_isSubtype_exc hC₁ ?_; rw [hcC]) | wp_step)
  refine wpAny_isSubtype_exc hC₁ ?_
  rw [hcC]
  repeat (first | with_reducible refine wpAny_loadPart_at hget ?_ | wp_step)
  show wpAny _ _ (typeLookup (.ref C) _) _ _ _
  refine (hi.keeps k).at ?_
  refine wpAny_holding (wpAny_bind (((hb _).keeps k).at ?_))
  refine wpAny_bind (wpAny_call (codeAny_mono hq fun r s' z => ?_))
  rcases r with e | (v | _ | _ | _) <;> first | exact z | exact z.elim | skip
  obtain ⟨rfl, z⟩ := z
  exact wpAny_pure (wpAny_pure z)
end
end Kx
end

section -- X2
open PySem PySem.W PyProof.Rows
set_option Elab.async false
set_option maxRecDepth 100000
set_option linter.unusedVariables false
set_option maxHeartbeats 1000000
namespace Kx
section
variable {prog : Program} {w : World} {A : Around} {E : Value → Shared → Prop} {R : Result → Shared → Prop} {s : Shared} {K : Frag} {C t x : Addr} {name : Str} {v : Value}
theorem refuse_exc (self : Value) : refuseLoop self "__setattr__" [.type "Exception", .type "BaseException", .type "object"] = pure () := by kernel_rfl
variable {nm qn : Str} {N : Addr} {bs : List Value} {sn : List Str} {sub : List Value} {ab : Bool} {col : Option Bool} {dd : Option Addr} {k0 k1 k2 k3 k5 : Option Value} {newId : String}
theorem set_exc {Q : Unit → Shared → Prop} (X : K.In s.heap) (hx : s.heap.get? x = some (excObj C t none)) (hf : K.lookup C = some (excClassObj nm qn C N bs [.type "Exception", .type "BaseException", .type "object"] true sn sub ab col dd k0 k1 k2 k3 k5 newId)) (ha : findIn K (.ref C) name = some none) (hs : findIn K (.ref C) "__setattr__" = some (some (.builtin "object.__setattr__")))
    (h : ∀ h' dx tk, (∀ b o, b ≠ x → s.heap.get? b = some o → h'.get? b = some o) → h'.get? x = some (excObj C t (some dx)) → Q () { s with heap := h', toks := tk }) :
    wpAny (model prog w) A (setAttr (.ref x) name v) Q E s := by
  have SF := PySem.F.store_object
  have T0 : ∀ s' : Shared, s'.heap = s.heap → Looks (model prog w) s'.heap (typeOf (.ref x)) (.ref C) := fun s' e => by rw [e]; exact (Looks.ld hx).andThen .now
  obtain ⟨cd, hc, hm, hd⟩ : ∃ cd, clsIn K C = some cd ∧ cd.mro = [.ref C, .type "Exception", .type "BaseException", .type "object"] ∧ cd.hasDict = true := by
    unfold clsIn; rw [hf]; exact ⟨_, rfl, rfl, rfl⟩
  refine wpAny_bind (wpAny_mkText (wpAny_bind (wpAny_bind (wpAny_bind ((T0 { s with toks := s.toks + 1 } rfl).here ((looks_findIn (h := ({ s with toks := s.toks + 1 } : Shared).heap) X hs).here (wpAny_holding ?_)))))))
  rw [PySem.F.store_object.slot.bind]
  refine wpAny_bind (wpAny_pure (wpAny_bind (wpAny_call (codeAny_mono (R := fun r s' => match r with | .ok (.ret _) => Q () s' | .ok _ => False | .error e => E e s') ?_ fun r s' z => ?_))))
  rotate_left
  · rcases r with e | (v | _ | _ | _) <;> first | exact z | exact wpAny_pure (wpAny_pure z)
  show codeAny _ _ (.call (.builtin "object.__setattr__") ⟨[.ref x, .str name s.toks, v], []⟩) _ _
  generalize hS : ({ s with toks := s.toks + 1 } : Shared) = S
  have hh : S.heap = s.heap := by rw [← hS]
  have X' : K.In S.heap := by rw [hh]; exact X
  have hx' : S.heap.get? x = some (excObj C t none) := by rw [hh]; exact hx
  have T1 := T0 S hh
  have hmro : Looks (model prog w) S.heap (mroOf (.ref C)) cd.mro := (looks_clsIn X' hc).andThen .now
  have sub : Looks (model prog w) S.heap (isInstance (.ref x) (.type "object")) true := T1.andThen (looks_mroIn X' (by unfold mroIn; rw [hc, Option.bind_some, hm]; rfl))
  refine codeAny_call_builtin SF.slot.plain SF.entry (@check_slot (model prog w) _ _ S "object.__setattr__" "object" "__setattr__" (.ref x) [.str name s.toks, v] [] _ SF.kind SF.split sub (SF.args (.ref x) (.str name s.toks) v) ?_)
  show wpAny _ _ (Builtin.«object.__setattr__» ⟨[.ref x, .str name s.toks, v], []⟩) _ _ _
  rw [osa_eq, refuse_eq]
  refine wpAny_bind (wpAny_bind (T1.here (wpAny_bind (hmro.here ?_))))
  rw [hm, refuseLoop_ref, refuse_exc]
  refine wpAny_pure (wpAny_bind (T1.here (wpAny_bind ((looks_findIn X' ha).here (wpAny_bind (wpAny_pure ?_))))))
  refine wpAny_bind (wpAny_pure (wpAny_bind (wpAny_bind (wpAny_loadPart hx' (wpAny_bind ((looks_clsIn X' hc).here ?_))))))
  rw [hd]
  rw [if_neg (by decide)]
  show wpAny _ _ (alloc { cls := .type "dict", data := .dict #[] } >>= fun d => update x (fun o => { cls := o.cls, dict := some d, data := o.data, slots := o.slots }) >>= fun _ => pure (some d)) _ _ _
  refine wpAny_bind (wpAny_alloc ?_)
  generalize hdx : S.heap.objs.size = dx
  have hx1 : (S.heap.push emptyDict).get? x = some (excObj C t none) := Heap.get?_push_of_some _ hx'
  have hne : dx ≠ x := by rw [← hdx]; exact Nat.ne_of_gt (Heap.lt_size hx')
  have hd1 : (S.heap.push emptyDict).get? dx = some emptyDict := by rw [← hdx]; exact Heap.get?_push_size _ rfl
  refine wpAny_bind (wpAny_update (s := { S with heap := S.heap.push emptyDict }) hx1 (wpAny_pure ?_))
  have hx2 : ((S.heap.push emptyDict).update x (fun o => { cls := o.cls, dict := some dx, data := o.data, slots := o.slots })).get? x = some (excObj C t (some dx)) := Heap.get?_update_self (fun o => { cls := o.cls, dict := some dx, data := o.data, slots := o.slots }) hx1 rfl
  have hk2 : ∀ b o, b ≠ x → S.heap.get? b = some o → ((S.heap.push emptyDict).update x (fun o => { cls := o.cls, dict := some dx, data := o.data, slots := o.slots })).get? b = some o := fun b o hb e => (Heap.get?_update_other _ _ (Ne.symm hb)).trans (Heap.get?_push_of_some _ e)
  have hd2 : ((S.heap.push emptyDict).update x (fun o => { cls := o.cls, dict := some dx, data := o.data, slots := o.slots })).get? dx = some emptyDict := (Heap.get?_update_other _ _ (Ne.symm hne)).trans hd1
  generalize ((S.heap.push emptyDict).update x (fun o => { cls := o.cls, dict := some dx, data := o.data, slots := o.slots })) = h2 at hx2 hk2 hd2
  have hdn : S.heap.get? dx = none := by rw [← hdx]; exact get_size _
  show wpAny _ _ (Builtin.ObjectAttr.storeInDict dx (.str name s.toks) name v) _ _ { S with heap := h2 }
  unfold Builtin.ObjectAttr.storeInDict
  refine wpAny_bind (wpAny_pure (wpAny_bind ?_))
  unfold nsSet
  refine wpAny_bind (wpAny_bind (wpAny_askSetting (wpAny_pure (wpAny_bind (wpAny_mkText (wpAny_bind (wpAny_loadPart hd2 ?_)))))))
  dsimp only
  have c : aRefKeyMayBeTheName name #[] = false := by rw [aRefKeyMayBeTheName_at]; simp
  rw [c, if_neg (by decide)]
  refine wpAny_updatePart hd2 ?_
  have D' : (h2.update dx (Obj.putName name (PyData.keyHash w.params name) (.str name S.toks) v)).get? dx = some (dictOf ([] ++ [⟨PyData.keyHash w.params name, .str name S.toks, v⟩]) (0 + 1)) := by
    have e := putName_new (names := []) (es := []) (vs := []) (h := PyData.keyHash w.params name) (key := .str name S.toks) (v := v) (n := 0) trivial (x := name) (by simp)
    have hd3 : h2.get? dx = some (dictOf [] 0) := hd2
    have := Heap.get?_update_self (Obj.putName name (PyData.keyHash w.params name) (.str name S.toks) v) hd3 (by rw [e]; rfl)
    rw [this, e]
  refine wpAny_bind (wpAny_lookBehind D' (pastItsLine_dict (by rw [sizeLine_eq]; simp)) ?_)
  refine wpAny_pure ?_
  have hk3 : ∀ b o, b ≠ dx → h2.get? b = some o → (h2.update dx (Obj.putName name (PyData.keyHash w.params name) (.str name S.toks) v)).get? b = some o := fun b o hb e => (Heap.get?_update_other _ _ (Ne.symm hb)).trans e
  have hS2 : S = { s with toks := S.toks } := by rw [← hS]
  show Q () { S with heap := h2.update dx (Obj.putName name (PyData.keyHash w.params name) (.str name S.toks) v), toks := S.toks + 1 }
  have := h (h2.update dx (Obj.putName name (PyData.keyHash w.params name) (.str name S.toks) v)) dx (S.toks + 1) (fun b o hb e => hk3 b o (by rintro rfl; rw [hh] at hdn; rw [hdn] at e; cases e) (hk2 b o hb (by rw [hh]; exact e))) (hk3 x _ (Ne.symm hne) hx2)
  rw [hS2]
  exact this
end
end Kx
end

section -- X3
open PySem PySem.W PyProof.Rows
set_option Elab.async false
set_option maxRecDepth 100000
set_option linter.unusedVariables false
set_option maxHeartbeats 1000000
namespace Kx
section
variable {prog : Program} {w : World} {hB : Heap} {K : Frag} {D : Nat} {env : Env} {ns ns' : List (Str × NameKind)} {vals vals' : List (Option AV)} {own own' : List (Addr × MO)} {ε : Ent} {s₀ s s' : Shared} {Φ : FH}
variable {A : Around} {E : Value → Shared → Prop} {C t x : Addr} {Q : Flw → List (Option AV) → List (Addr × MO) → Prop}
theorem exc_getm {pl : Sem Bool} {Q : Value × List Value → Shared → Prop} (X : K.In s.heap) (h : Q (.builtin "Exception.__init__", []) { s with toks := s.toks + 1 }) :
    wpAny (model prog w) A (getMethod (.type "Exception") (Str.ofString "__init__") pl) Q E s := by
  have stub : opaqueClassAbove (.type "Exception") = pure none := by unfold opaqueClassAbove; dsimp only; rw [show Manifest.isStub "Exception" = false by decide +kernel]; rfl
  have L0 : Looks (model prog w) s.heap (typeOf (.type "Exception")) (.type "type") := Looks.of_pure (by rfl)
  have hg : findIn K (.type "type") "__getattribute__" = some (some (.builtin "type.__getattribute__")) := type_tga
  unfold getMethod specialOf
  refine wpAny_bind (wpAny_bind (L0.here ((looks_findIn X hg).here ?_)))
  dsimp only
  rw [if_pos canon_tga]
  refine wpAny_bind (wpAny_mono (Q := fun v => Q (v, [])) (E := E) ?_ (fun _ _ z => wpAny_pure z) fun _ _ z => z)
  have e : findCls K (.type "Exception") (.type "type") (Str.ofString "__init__") = some (.val (.builtin "Exception.__init__")) := by rfl
  refine cls_open X (Looks.of_pure stub) L0 hg (looks_hook X (r := none) (by rfl)) (by show subIn K _ _ = _; rfl) e ?_
  exact wpAny_pure (by show wpAny _ _ (handedOut _) _ _ _; rw [handedOut_of (by rfl)]; exact wpAny_pure h)
variable {nm q : Str} {N : Addr} {bs : List Value} {hdct : Bool} {sn : List Str} {sub : List Value} {ab : Bool} {col : Option Bool} {dd : Option Addr} {k0 k1 k2 k3 k5 : Option Value} {newId : String}
theorem exc_init {rest : List Value} {Q : Value → Shared → Prop} {h : Heap} {g : Array GenState} {d : Drawn} {tk : Nat} {os : OsState} (hC : h.get? C = some (excClassObj nm q C N bs [.type "Exception", .type "BaseException", .type "object"] hdct sn sub ab col dd k0 k1 k2 k3 k5 "Exception.__new__")) (hx : h.get? x = some { cls := .ref C, data := .fields #[.ref t, .none, .none, .none, .bool false, .none] }) (hrest : rest.length ≤ sizeLine)
    (hq : ∀ h' t', (∀ b o, b ≠ x → h.get? b = some o → h'.get? b = some o) → h'.get? x = some (excObj C t' none) → Q .none ⟨h', g, d, tk, os⟩) : wpAny (model prog w) A (call (.builtin "Exception.__init__") (.ref x :: rest)) Q E ⟨h, g, d, tk, os⟩ := by
  have F := F.excBase_Exception
  refine wpAny_call (codeAny_call_builtin F.init.plain F.initEntry (wpAny_check_init_sub F hC hx rfl ?_))
  wp_walk
  have hne : x ≠ h.objs.size := Nat.ne_of_lt (Heap.lt_size hx)
  refine hq _ h.objs.size (fun b o hb e => (Heap.get?_update_other _ _ (Ne.symm hb)).trans (Heap.get?_push_of_some _ e)) ?_
  have hx1 : (h.push { cls := .type "tuple", data := .seq rest.toArray }).get? x = some { cls := .ref C, data := .fields #[.ref t, .none, .none, .none, .bool false, .none] } := Heap.get?_push_of_some _ hx
  exact Heap.get?_update_self _ hx1 rfl
theorem St.excInit {np apos pos epos : Pos} {es : List Expr} {j : Nat} {avs : List AV} {pl : Sem Bool} (G : GH K hB) (hC : K.lookup C = some (excClassObj nm q C N bs [.type "Exception", .type "BaseException", .type "object"] hdct sn sub ab col dd k0 k1 k2 k3 k5 "Exception.__new__"))
    (hn : Ev prog w hB (D + 1) env ns vals own (.Name "Exception" np) (.typ "Exception")) (hes : EvL prog w hB (D + 1) env ns vals own es (.ref x :: avs)) (hl : avs.length ≤ 100) (hj : At own j (x, .raw (excObj C t none)))
    (kq : ∀ t' own', SetAt own j (x, .raw (excObj C t' none)) own' → Q .next vals own')
    (hi : interactive env = false) (hs : swapsWith (.Call (.Attribute (.Name "Exception" np) "__init__" apos) es [] pos) none epos.line env = pure false)
    (he : eval (.Call (.Attribute (.Name "Exception" np) "__init__" apos) es [] pos) env = (do
      let ov ← eval (.Name "Exception" np) env
      standAt apos.atName
      let (f, first) ← holding [ov] (getMethod ov "__init__" pl)
      callWith pos f first (backTo pos (starEach es env)) (backToKw pos (keywordEach [] env)))) :
    St prog w hB (D + 1) ε env ns (.Expr (.Call (.Attribute (.Name "Exception" np) "__init__" apos) es [] pos) epos) vals own Q := fun Φ s q A E ok => by
  refine wpAny_Expr (methodCall_KW (pl := pl) (wpAny_mono (hn Φ s q.toR A E ok) (fun ov s₁ h₁ => ?_) fun _ _ e => e) he) hi hs
  obtain ⟨k₁, rfl⟩ := h₁
  have q₁ := q.step k₁
  refine exc_getm (fun a o e => q₁.toR.base' _ _ (G.kin a o e)) ?_
  have k₂ : Keeps s₁ { s₁ with toks := s₁.toks + 1 } := Keeps.tok _
  have q₂ := q₁.step k₂
  have hle₂ : Le Φ (grow (grow Φ s s₁) s₁ { s₁ with toks := s₁.toks + 1 }) := (grow_le q.frz).trans (grow_le q₁.frz)
  generalize grow (grow Φ s s₁) s₁ { s₁ with toks := s₁.toks + 1 } = Φ₂ at q₂ hle₂
  generalize ({ s₁ with toks := s₁.toks + 1 } : Shared) = s₂ at q₂
  show wpAny _ _ (callWith pos (.builtin "Exception.__init__") [] (backTo pos (starEach es env)) []) _ _ _
  refine callWith_blt (hes.1 pos) (wpAny_mono (hes.2 _ s₂ q₂.toR A E pos ok) (fun vs s₃ h₃ => ?_) fun _ _ e => e)
  have q₃ := q₂.step h₃.1
  obtain ⟨k₃, hr⟩ := h₃
  match vs, hr with
  | v :: rest, hr =>
    obtain ⟨hv, hr⟩ := hr
    have hv' : v = .ref x := hv
    subst hv'
    obtain ⟨_, _, _, _, ob, hob, hm⟩ := q₃.owns x _ hj.mem
    have hob' : ob = excObj C t none := hm
    subst hob'
    have hC3 := q₃.toR.base' _ _ (G.kin _ _ hC)
    obtain ⟨hp, g, d, tk, os⟩ := s₃
    refine exc_init hC3 hob (by rw [hr.length, sizeLine_eq]; (first | lia | omega)) fun h' t' hk hx' => ?_
    have kB : KeepsB x ⟨hp, g, d, tk, os⟩ ⟨h', g, d, tk, os⟩ := ⟨h', tk, rfl, hk⟩
    have hset : SetAt own j (x, .raw (excObj C t' none)) (own.set j (x, .raw (excObj C t' none))) := SetAt.of_lt (by have := hj.get; exact (List.getElem?_eq_some_iff.mp this).1)
    exact ⟨_, vals, _, .next, (hle₂.trans (grow_le q₂.frz)).trans (grow_le q₃.frz), q₃.mut kB hj hset hx' rfl, rfl, kq t' _ hset⟩
theorem St.excSet {o value : Expr} {name : Str} {p pos : Pos} {j : Nat} {av : AV} (G : GH K hB) (hf : K.lookup C = some (excClassObj nm q C N bs [.type "Exception", .type "BaseException", .type "object"] true sn sub ab col dd k0 k1 k2 k3 k5 newId)) (ha : findIn K (.ref C) name = some none) (hst : findIn K (.ref C) "__setattr__" = some (some (.builtin "object.__setattr__")))
    (hv : Ev prog w hB D env ns vals own value av) (ho : Ev prog w hB D env ns vals own o (.ref x)) (hj : At own j (x, .raw (excObj C t none))) (kq : ∀ dx own', SetAt own j (x, .raw (excObj C t (some dx))) own' → Q .next vals own')
    (hsw : swapsWith value (some (.Attribute o name p)) pos.line env = pure false := by rfl) : St prog w hB D ε env ns (.Assign [.Attribute o name p] value pos) vals own Q := fun Φ s q A E ok => by
  refine plainObj_wpAny_Assign_Attribute (wpAny_mono (hv Φ s q.toR A E ok) (fun v s₁ h₁ => ?_) fun _ _ e => e) hsw
  have q₁ := q.step h₁.1
  refine wpAny_mono (ho _ s₁ q₁.toR A E ok) (fun ov s₂ h₂ => ?_) fun _ _ e => e
  obtain ⟨k₂, rfl⟩ := h₂
  have q₂ := q₁.step k₂
  obtain ⟨_, _, _, _, ob, hob, hm⟩ := q₂.owns x _ hj.mem
  have hob' : ob = excObj C t none := hm
  subst hob'
  refine set_exc (fun a o e => q₂.toR.base' _ _ (G.kin a o e)) hob hf ha hst fun h' dx tk hk hx' => ?_
  have kB : KeepsB x s₂ { s₂ with heap := h', toks := tk } := ⟨h', tk, rfl, hk⟩
  have hset : SetAt own j (x, .raw (excObj C t (some dx))) (own.set j (x, .raw (excObj C t (some dx)))) := SetAt.of_lt (by have := hj.get; exact (List.getElem?_eq_some_iff.mp this).1)
  exact ⟨_, vals, _, .next, ((grow_le q.frz).trans (grow_le q₁.frz)).trans (grow_le q₂.frz), q₂.mut kB hj hset hx' rfl, rfl, kq dx _ hset⟩
end
end Kx
end

section -- X4
open PySem PySem.W PyProof.Rows
set_option Elab.async false
set_option maxRecDepth 100000
set_option linter.unusedVariables false
set_option maxHeartbeats 1000000
namespace Kx
section
variable {M : Model} {A : Around} {E : Value → Shared → Prop} {env : Env}
variable {nm q : Str} {C N : Addr} {bs bm : List Value} {hdct : Bool} {sn : List Str} {sub : List Value} {ab : Bool} {col : Option Bool} {dd : Option Addr} {k0 k1 k2 k3 k5 : Option Value} {newId : String}
theorem raiseStmt_exc {s : Shared} {x : Sem Value} {Q : Flow → Shared → Prop} (hbase : bm.contains (.type "BaseException") = true) (hh : A.handled = none)
    (h : wpAny M A x (fun v s₁ => ∃ e t dx, v = .ref e ∧ s₁.heap.get? C = some (excClassObj nm q C N bs bm hdct sn sub ab col dd k0 k1 k2 k3 k5 newId) ∧
      s₁.heap.get? e = some { cls := .ref C, dict := some dx, data := .fields #[.ref t, .none, .none, .none, .bool false, .none] } ∧ E (.ref e) s₁) E s) :
    wpAny M A (raiseStmt env (some x) none) Q E s := by
  have hcB : (Value.ref C :: bm).contains (.type "BaseException") = true := by rw [List.contains_cons, hbase, Bool.or_true]
  unfold raiseStmt
  refine wpAny_bind (wpAny_mono h (fun v s₁ h₁ => ?_) fun _ _ x => x)
  obtain ⟨e, t, dx, rfl, hC, he, hE⟩ := h₁
  obtain ⟨hp, g, d, tk, os⟩ := s₁
  repeat (first | with_reducible refine wpAny_loadPart_at he ?_ | with_reducible refine wpAny_loadPart_at hC ?_ | (with_reducible refine wpAny_isSubtype_exc hC ?_; rw [hcB]) | wp_step)
  exact wpAny_raiseNew_none hh hE
end
section
variable {prog : Program} {w : World} {hB : Heap} {K : Frag} {D : Nat} {env : Env} {ns ns' : List (Str × NameKind)} {vals vals' : List (Option AV)} {own own' : List (Addr × MO)} {ε : Ent} {s₀ s s' : Shared} {Φ : FH}
variable {C : Addr}
noncomputable def NewX (ε : Ent) (env : Env) (C e : Addr) (s' : Shared) : Prop :=
  Keeps ε.s s' ∧ ε.s.heap.get? e = none ∧ (∃ t dx, s'.heap.get? e = some (excObj C t (some dx))) ∧ ∃ o, s'.heap.get? env.locals = some o ∧ ∀ vs, o.data ≠ .fields vs
noncomputable def ExR (prog : Program) (w : World) (hB : Heap) (D : Nat) (ε : Ent) (env : Env) (ns : List (Str × NameKind)) (C : Addr) (ss : List Stmt) (vals : List (Option AV)) (own : List (Addr × MO)) : Prop :=
  ∀ Φ s, Rel hB ε env ns Φ vals own s → ∀ A E, AOk D A → (∀ e s', NewX ε env C e s' → E (.ref e) s') → wpAny (model prog w) A (execs ss env) (fun _ _ => False) E s
theorem ExR.cons {st : Stmt} {rest : List Stmt} (h : St prog w hB D ε env ns st vals own (fun fl v o => fl = .next ∧ ExR prog w hB D ε env ns C rest v o)) : ExR prog w hB D ε env ns C (st :: rest) vals own := fun Φ s q A E ok hE => by
  refine wpAny_execs_cons (wpAny_mono (h Φ s q A E ok) (fun f s₁ h₁ => ?_) fun _ _ e => e)
  obtain ⟨Φ', v, o, fl, a, b, c, rfl, d⟩ := h₁
  cases c
  exact d Φ' s₁ b A E ok hE
variable {nm qn : Str} {N f : Addr} {bs : List Value} {hdct : Bool} {sn : List Str} {sub : List Value} {ab : Bool} {col : Option Bool} {dd : Option Addr} {k0 k1 k2 k3 k5 : Option Value}
theorem ExR.raise {x : Str} {np cpos pos p2 : Pos} {kk : Nat} {wd : Str} {rest : List Stmt} {D' : Nat} (G : GH K hB) (hk : keepIn K (.ref C) = true) (hC : K.lookup C = some (excClassObj nm qn C N bs [.type "Exception", .type "BaseException", .type "object"] hdct sn sub ab col dd k0 k1 k2 k3 k5 "Exception.__new__"))
    (hi : findIn K (.ref C) "__init__" = some (some (.ref f))) (ht : typeIn K (.ref f) = some (.type "function")) (hf : Ev prog w hB D env ns vals own (.Name x np) (.ref C))
    (FF : ∀ e t, FnM prog w hB D' f [.ref e, .str wd] e (.raw (excObj C t none)) (fun res mo => res = .none ∧ ∃ t' dx, mo = .raw (excObj C t' (some dx)))) (hd : D' + 1 ≤ D)
    (he : starEach [.Constant (.str wd) kk p2] env = (false, eval (.Constant (.str wd) kk p2) env) :: starEach [] env := by rfl) :
    ExR prog w hB D ε env ns C (.Raise (some (.Call (.Name x np) [.Constant (.str wd) kk p2] [] cpos)) none pos :: rest) vals own := fun Φ s q A E ok hE => by
  refine wpAny_execs_cons ?_
  rw [arm_exec_Raise]
  simp only [evalOpt, Option.map]
  refine wpAny_bind (wpAny_standAt ?_)
  have hes : EvL prog w hB D env ns vals own [.Constant (.str wd) kk p2] [.str wd] := EvL.cons Ev.str EvL.nil he
  have hBC := G.kin _ _ hC
  refine raiseStmt_exc (C := C) (nm := nm) (q := qn) (N := N) (bs := bs) (bm := [.type "Exception", .type "BaseException", .type "object"]) (hdct := hdct) (sn := sn) (sub := sub) (ab := ab) (col := col) (dd := dd) (k0 := k0) (k1 := k1) (k2 := k2) (k3 := k3) (k5 := k5) (newId := "Exception.__new__") (by decide +kernel) ok.handled ?_
  refine wpAny_bind (Call_Name_ (wpAny_mono (hf Φ s q.toR A E ok) (fun v s₁ h₁ => ?_) fun _ _ e => e))
  obtain ⟨k₁, rfl⟩ := h₁
  have q₁ := q.step k₁
  refine callWith_fn hk (hes.1 cpos) (wpAny_mono (hes.2 _ s₁ q₁.toR A E cpos ok) (fun vs s₂ h₂ => ?_) fun _ _ e => e)
  have q₂ := q₁.step h₂.1
  obtain ⟨k₂, hr⟩ := h₂
  have X : K.In s₂.heap := fun a o e => q₂.toR.base' _ _ (G.kin a o e)
  refine ⟨X, wpAny_call ?_⟩
  obtain ⟨u, rfl, tk0, rfl⟩ := hr.one
  have hC2 := q₂.toR.base' _ _ hBC
  have hb2 := q₂.base
  have hf2 := q₂.frz
  generalize grow (grow Φ s s₁) s₁ s₂ = Φ₂ at q₂ hb2 hf2
  have k02 : Keeps ε.s s₂ := q₂.keeps
  have hns : ∃ o, s₂.heap.get? env.locals = some o ∧ ∀ vs, o.data ≠ .fields vs := by
    obtain ⟨m, cm, I, _⟩ := q₂.inn
    obtain ⟨o, es, ep, ho, hd, _⟩ := I.toInCall.ns
    exact ⟨o, ho, fun vs e => by rw [hd] at e; cases e⟩
  clear q₂ q₁ q k₁ k₂
  obtain ⟨hh, g, d, t, os⟩ := s₂
  rw [List.nil_append]
  refine make_exc F.excBase_Exception hC2 (looks_findIn X hi) (fun self => bind_fn X self ht) (by rw [sizeLine_eq]; simp) ?_
  have kp : ∀ b o, hh.get? b = some o → ((hh.push { cls := .type "tuple", data := .seq [Value.str wd tk0].toArray }).push (excObj C hh.objs.size none)).get? b = some o := fun b o e => Heap.get?_push_of_some _ (Heap.get?_push_of_some _ e)
  have hx : ((hh.push { cls := .type "tuple", data := .seq [Value.str wd tk0].toArray }).push (excObj C hh.objs.size none)).get? (hh.objs.size + 1) = some (excObj C hh.objs.size none) := by
    have := Heap.get?_push_size (hh.push { cls := .type "tuple", data := .seq [Value.str wd tk0].toArray }) (o := excObj C hh.objs.size none) rfl
    rwa [Heap.size_push] at this
  have hnx : hh.get? (hh.objs.size + 1) = none := by
    cases e : hh.get? (hh.objs.size + 1) with
    | none => rfl
    | some o => have := Heap.lt_size e; exact absurd this (Nat.not_lt.mpr (Nat.le_succ _))
  generalize (hh.push { cls := .type "tuple", data := .seq [Value.str wd tk0].toArray }).push (excObj C hh.objs.size none) = h1 at kp hx
  generalize hE0 : hh.objs.size = t0 at *
  have hΦx : Φ₂ (t0 + 1) = none := by
    cases e : Φ₂ (t0 + 1) with
    | none => rfl
    | some o => have e2 : hh.get? (t0 + 1) = some o := hf2 _ _ e; rw [hnx] at e2; cases e2
  refine codeAny_mono (FF (t0 + 1) t0 Φ₂ (A.under (.builtin "type.__call__" ⟨[.ref C, .str wd tk0], []⟩)) ⟨h1, g, d, t, os⟩ [.ref (t0 + 1), .str wd tk0] (excObj C t0 none) ((ok.le hd).make) hb2 (fun b o e => kp b o (hf2 b o e)) hΦx hx rfl ⟨rfl, ⟨_, rfl⟩, trivial⟩) fun r s₃ h₃ => ?_
  obtain ⟨val, res, mo', o', rfl, k, ho', hm', hR, rfl, t', dx, rfl⟩ := h₃
  have hR' : val = .none := hR
  have ho2 : o' = excObj C t' (some dx) := hm'
  subst hR' ho2
  have k3 : Keeps ⟨hh, g, d, t, os⟩ s₃ := by
    obtain ⟨h', tk, rfl, kk⟩ := k
    exact ⟨h', tk, rfl, fun b o e => kk b o (by rintro rfl; have e2 : hh.get? (t0 + 1) = some o := e; rw [hnx] at e2; cases e2) (kp b o e)⟩
  refine ⟨rfl, ?_⟩
  refine wpAny_bind (wpAny_standAt (wpAny_pure ?_))
  refine ⟨t0 + 1, t', dx, rfl, Keeps.keep k3 _ _ hC2, ho', hE _ _ ⟨Keeps.tr k02 k3, ?_, ⟨t', dx, ho'⟩, ?_⟩⟩
  · cases e : ε.s.heap.get? (t0 + 1) with
    | none => rfl
    | some o => have e2 : hh.get? (t0 + 1) = some o := Keeps.keep k02 _ _ e; rw [hnx] at e2; cases e2
  · obtain ⟨o, ho, hn⟩ := hns
    exact ⟨o, Keeps.keep k3 _ _ ho, hn⟩
end
end Kx
end

section -- X5
open PySem PySem.W PyProof.Rows
set_option Elab.async false
set_option maxRecDepth 100000
set_option linter.unusedVariables false
set_option maxHeartbeats 1000000
namespace Kx
section
variable {prog : Program} {w : World} {hB : Heap} {K : Frag} {D : Nat} {env : Env} {ns ns' : List (Str × NameKind)} {vals vals' : List (Option AV)} {own own' : List (Addr × MO)} {ε : Ent} {s₀ s s' : Shared} {Φ : FH}
variable {C : Addr} {fr : List Env}
theorem deeper_frames {A : Around} {env : Env} (h : A.frames = some fr) : (A.deeper env).frames = some (env :: fr) := by show Option.map _ A.frames = _; rw [h]; rfl
noncomputable def Flies (hB : Heap) (fr : List Env) (C : Addr) (s s' : Shared) (e : Addr) : Prop := ∃ a0 h' tk, s' = { s with heap := h', toks := tk } ∧ Heap.FlyingW hB fr e (.ref C) a0 h' ∧ s.heap.UpToSlots h'
noncomputable def FnX (prog : Program) (w : World) (hB : Heap) (D : Nat) (C : Addr) (f : Addr) (args : List AV) : Prop :=
  ∀ fr A s vs, AOk D A → A.frames = some fr → s.heap.FunFrames hB fr → (∀ a o, hB.get? a = some o → s.heap.get? a = some o) → Rs s.heap.get? args vs →
    codeAny (model prog w) A (.call (.ref f) ⟨vs, []⟩) (fun r s' => ∃ e, r = .error (.ref e) ∧ Flies hB fr C s s' e) s
theorem Rel.frames (q : Rel hB ε env ns Φ vals own s) (h : ε.s.heap.FunFrames hB fr) (hf : env.frame = some env.locals) (hn : hB.get? env.locals = none) : s.heap.FunFrames hB (env :: fr) := by
  obtain ⟨m, cm, I, _⟩ := q.inn
  obtain ⟨o, es, ep, ho, hd, _⟩ := I.toInCall.ns
  exact ⟨by rw [q.ok.kind]; decide, ⟨env.locals, o, hf, hn, ho, fun vs e => by rw [hd] at e; cases e⟩, h.of_keeps fun b o e _ => ⟨o, Keeps.keep q.keeps b o e, rfl⟩⟩
variable {f : Addr} {name qual : Str} {as : List Arg} {body : List Stmt} {more : List (Str × Const)} {pm cdv ct oc : Value} {od : Option Addr} {osl : Array (Option Value)} {args : List AV} {nz : Nat}
theorem FnX.mk (G : GH K hB)
    (ho : K.lookup f = some ⟨oc, od, .func (fnOf name qual (parsOf as) body (scopeOf ns' more) .none .none .none pm Option.none cdv ct), osl⟩) (hcd : codeIn K cdv qual = true) (hok : namesOk ns' (as.map (·.arg)) = true) (hl : as.length = args.length)
    (hb : ∀ vs : List Value, vs.length = as.length → bindArgs (fnOf name qual (parsOf as) body (scopeOf ns' more) .none .none .none pm Option.none cdv ct) ⟨vs, []⟩ = pure ((as.map (·.arg)).zip vs))
    (h : ∀ ε env, EnvOk env ns' → ExR prog w hB D ε env ns' C body (initVals nz args) []) : FnX prog w hB (D + 1) C f args := fun fr A s vs hA hfr hff hbs hr => by
  refine enter (nz := nz) (P := fun _ => True) (Φ₀ := s.heap.get?) G (defOk_of hok) hA (hbs _ _ (defIn G ho hcd).1) rfl ((defIn G ho hcd).2.keeps hbs) rfl (by simpa using hl) hbs (binds_ok (by simpa using hr.length.trans hl.symm) hb) hr hbs (fun _ _ e => e) (fun _ _ _ => trivial) fun s₁ env he q hA' => ?_
  have hf : env.frame = some env.locals := by rw [he]; rfl
  have hLs : env.locals = s.heap.objs.size := by rw [he]; rfl
  have hn : hB.get? env.locals = none := by
    cases e : hB.get? env.locals with
    | none => rfl
    | some o => have := hbs _ _ e; rw [hLs, get_size] at this; cases this
  have hok' : EnvOk env ns' := by rw [he]; exact frame_ok hok
  refine wpAny_mono (h ⟨s, fun _ => True⟩ env hok' _ s₁ q _ _ hA' fun e s' hx => ?_) (fun fl s' h' => h'.elim) fun _ _ e => e
  obtain ⟨k, hne, ⟨t, dx, hge⟩, oL, hoL, hnL⟩ := hx
  have hen : hB.get? e = none := by
    cases e' : hB.get? e with
    | none => rfl
    | some o => have := hbs _ _ e'; rw [show s.heap.get? e = none from hne] at this; cases this
  have hstay : hB.StaysIn s'.heap := fun b o hb' => Keeps.keep k _ _ (hbs b o hb')
  have hff' : s'.heap.FunFrames hB (env :: fr) := ⟨by rw [hok'.kind]; decide, ⟨env.locals, oL, hf, hn, hoL, hnL⟩, hff.of_keeps fun b o e _ => ⟨o, Keeps.keep k b o e, rfl⟩⟩
  refine wpAny_leaving_firstW (base := hB) (a0 := .ref t) (deeper_frames hfr) hff' hf hge hstay hen rfl rfl rfl fun h' hL => ?_
  obtain ⟨k1, ⟨_, _, k2⟩, k3, k4⟩ := hL
  obtain ⟨h0, tk, rfl, kk⟩ := k
  exact ⟨e, rfl, .ref t, h', tk, rfl, ⟨k1, hen, k2, k3⟩, (Heap.UpToSlots.of_keeps kk).trans k4⟩

noncomputable def EvX (prog : Program) (w : World) (hB : Heap) (D : Nat) (ε : Ent) (env : Env) (ns : List (Str × NameKind)) (C : Addr) (vals : List (Option AV)) (own : List (Addr × MO)) (e : Expr) : Prop :=
  ∀ Φ s, Rel hB ε env ns Φ vals own s → ∀ A fr E, AOk D A → A.frames = some (env :: fr) → s.heap.FunFrames hB (env :: fr) → (∀ e s', Flies hB (env :: fr) C s s' e → E (.ref e) s') → wpAny (model prog w) A (eval e env) (fun _ _ => False) E s
theorem Flies.of {s0 : Shared} {k : Keeps s0 s} {e : Addr} {l : List Env} (h : Flies hB l C s s' e) : Flies hB l C s0 s' e := by
  obtain ⟨a0, h', tk, rfl, hf, hu⟩ := h
  obtain ⟨h0, tk0, rfl, kk⟩ := k
  exact ⟨a0, h', tk, rfl, hf, (Heap.UpToSlots.of_keeps kk).trans hu⟩
theorem EvX.call {x : Str} {p pos : Pos} {es : List Expr} {avs args : List AV} {D' : Nat} (G : GH K hB) (hk : keepIn K (.ref f) = true) (hf : Ev prog w hB D env ns vals own (.Name x p) (.ref f)) (hes : EvL prog w hB D env ns vals own es avs) (ha : Hnds own avs args) (F : FnX prog w hB D' C f args) (hd : D' ≤ D) :
    EvX prog w hB D ε env ns C vals own (.Call (.Name x p) es [] pos) := fun Φ s q A fr E ok hfr hff hE => by
  refine Call_Name_ (wpAny_mono (hf Φ s q.toR A E ok) (fun v s₁ h₁ => ?_) fun _ _ e => e)
  obtain ⟨k₁, rfl⟩ := h₁
  have q₁ := q.step k₁
  refine callWith_fn hk (hes.1 pos) (wpAny_mono (hes.2 _ s₁ q₁.toR A E pos ok) (fun vs s₂ h₂ => ?_) fun _ _ e => e)
  have q₂ := q₁.step h₂.1
  have hff2 : s₂.heap.FunFrames hB (env :: fr) := hff.of_keeps fun b o e _ => ⟨o, Keeps.keep h₂.1 _ _ (Keeps.keep k₁ b o e), rfl⟩
  refine ⟨fun a o e => q₂.toR.base' _ _ (G.kin a o e), wpAny_call (codeAny_mono (F (env :: fr) A s₂ vs (ok.le hd) hfr hff2 q₂.toR.base' (ha.get q₂.toR (Le.refl _) q₂.frz h₂.2)) fun r s₃ h₃ => ?_)⟩
  obtain ⟨e, rfl, h₃⟩ := h₃
  exact hE e s₃ (Flies.of (k := Keeps.tr k₁ h₂.1) h₃)
theorem EvX.cls {x : Str} {p pos : Pos} {es : List Expr} {C' : Addr} {avs : List AV} {D' : Nat} (G : GH K hB) (hk : keepIn K (.ref C') = true) (hm : makesIn K C' = true) (hi : findIn K (.ref C') "__init__" = some (some (.ref f))) (ht : typeIn K (.ref f) = some (.type "function"))
    (hf : Ev prog w hB D env ns vals own (.Name x p) (.ref C')) (hes : EvL prog w hB D env ns vals own es avs) (hav : ∀ x ∈ avs, Scal x = true) (F : ∀ dx, FnX prog w hB D' C f (.inst C' dx :: avs)) (hd : D' + 1 ≤ D) :
    EvX prog w hB D ε env ns C vals own (.Call (.Name x p) es [] pos) := fun Φ s q A fr E ok hfr hff hE => by
  refine Call_Name_ (wpAny_mono (hf Φ s q.toR A E ok) (fun v s₁ h₁ => ?_) fun _ _ e => e)
  obtain ⟨k₁, rfl⟩ := h₁
  have q₁ := q.step k₁
  refine callWith_fn hk (hes.1 pos) (wpAny_mono (hes.2 _ s₁ q₁.toR A E pos ok) (fun vs s₂ h₂ => ?_) fun _ _ e => e)
  have q₂ := q₁.step h₂.1
  have X : K.In s₂.heap := fun a o e => q₂.toR.base' _ _ (G.kin a o e)
  refine ⟨X, wpAny_call ?_⟩
  have hff2 : s₂.heap.FunFrames hB (env :: fr) := hff.of_keeps fun b o e _ => ⟨o, Keeps.keep h₂.1 _ _ (Keeps.keep k₁ b o e), rfl⟩
  have k02 := Keeps.tr k₁ h₂.1
  have hbs := q₂.toR.base'
  have hr := h₂.2
  clear h₂ q₂ q₁ q hff
  obtain ⟨hh, g, d, t, os⟩ := s₂
  refine make_core (makes_of X hm) (looks_findIn X hi) (fun self => bind_fn X self ht) (.inl rfl) ?_
  have kp : ∀ b o, hh.get? b = some o → ((hh.push emptyDict).push (instObj C' hh.objs.size)).get? b = some o := fun b o e => Heap.get?_push_of_some _ (Heap.get?_push_of_some _ e)
  have hx : ((hh.push emptyDict).push (instObj C' hh.objs.size)).get? (hh.objs.size + 1) = some (instObj C' hh.objs.size) := by
    have := Heap.get?_push_size (hh.push emptyDict) (o := instObj C' hh.objs.size) rfl
    rwa [Heap.size_push] at this
  have hfr2 : (A.under (.builtin "type.__call__" ⟨.ref C' :: vs, []⟩)).frames = some (env :: fr) := hfr
  refine codeAny_mono (F hh.objs.size (env :: fr) (A.under (.builtin "type.__call__" ⟨.ref C' :: vs, []⟩)) ⟨(hh.push emptyDict).push (instObj C' hh.objs.size), g, d, t, os⟩ (.ref (hh.objs.size + 1) :: vs) ((ok.le hd).make) hfr2
    (hff2.of_keeps fun b o e _ => ⟨o, kp b o e, rfl⟩) (fun b o e => kp b o (hbs b o e)) ⟨⟨_, rfl, hx⟩, Scal.all hav hr⟩) fun r s₃ h₃ => ?_
  obtain ⟨e, rfl, a0, h', tk, rfl, hfl, hu⟩ := h₃
  refine hE e _ (Flies.of (k := k02) ⟨a0, h', tk, rfl, hfl, (Heap.UpToSlots.of_keeps kp).trans hu⟩)
end
end Kx
end

section -- X6
open PySem PySem.W PyProof.Rows
set_option Elab.async false
set_option maxRecDepth 100000
set_option linter.unusedVariables false
set_option maxHeartbeats 1000000
namespace Kx
section
variable {prog : Program} {w : World} {hB : Heap} {K : Frag} {D : Nat} {env : Env} {ns ns' : List (Str × NameKind)} {vals vals' : List (Option AV)} {own own' : List (Addr × MO)} {ε : Ent} {s₀ s s' : Shared} {Φ : FH}
variable {C : Addr} {fr : List Env} {A : Around} {E : Value → Shared → Prop}
theorem name_any {x : Str} {p : Pos} {i : Nat} {v : Value} {Q : Value → Shared → Prop} (G : GH K hB) (ok : EnvOk env ns) (hb : hB.StaysIn s.heap) (hx : At ns i (x, .globalImplicit)) (e : nsIn K mainGlobals x = some (some v)) (h : Q v s) (hd : (x == ("__debug__" : Str)) = false := by rfl) : wpAny (model prog w) A (eval (.Name x p) env) Q E s := by
  obtain ⟨mg, hg⟩ := G.g
  refine Calls.Name_function_global ok.kind (ok.kindOf hx.get) (Calls.loadGlobal_global (mg := mg) (by rw [ok.globals]; exact hg.keeps hb) (mg_of G.kin hg e) ?_) hd
  exact h
variable {nm qn : Str} {N f : Addr} {bs : List Value} {hdct : Bool} {sn : List Str} {sub : List Value} {ab : Bool} {col : Option Bool} {dd : Option Addr} {k0 k1 k2 k3 k5 : Option Value}
theorem Try_catch {body suite : List Stmt} {b₀ : Stmt} {x : Str} {np hpos pos : Pos} {i : Nat} {Q : Flow → Shared → Prop} (G : GH K hB) (ok : EnvOk env ns) (hC : K.lookup C = some (excClassObj nm qn C N bs [.type "Exception", .type "BaseException", .type "object"] hdct sn sub ab col dd k0 k1 k2 k3 k5 "Exception.__new__"))
    (hx : At ns i (x, .globalImplicit)) (e : nsIn K mainGlobals x = some (some (.ref C))) (hfr : A.frames = some (env :: fr)) (hf : env.frame = some env.locals)
    (hbody : wpAny (model prog w) A (execs body env) (fun _ _ => False) (fun e s₁ => ∃ a, e = .ref a ∧ Flies hB (env :: fr) C s s₁ a) s)
    (hsuite : ∀ a h' tk, hB.StaysIn h' → h'.FunFrames hB (env :: fr) → s.heap.UpToSlots h' → ∀ E', wpAny (model prog w) (A.mark (some (.ref a))) (execs (b₀ :: suite) env) Q E' { s with heap := h', toks := tk }) (hd : (x == ("__debug__" : Str)) = false := by rfl) :
    wpAny (model prog w) A (exec (.Try body [.ExceptHandler (some (.Name x np)) none (b₀ :: suite) hpos] [] [] pos) env) Q E s := by
  rw [arm_exec_Try]
  refine wpAny_bind (wpAny_standAt (wpAny_tryStmt_except (wpAny_mono hbody (fun f s₁ h₁ => h₁.elim) fun e s₁ h₁ => ?_)))
  obtain ⟨a, rfl, a0, h1, tk, rfl, hfl, hu⟩ := h₁
  refine wpAny_looks_onW (s := { s with heap := h1, toks := tk }) hfr hf hfl fun h2 hh2 hu2 => ?_
  refine wpAny_landsW (s := { s with heap := h2, toks := tk }) hh2 fun h3 hf3 hu3 => ?_
  refine wpAny_handleBy_cons (codeAny_handlers_test (name_any (s := { s with heap := h3, toks := tk }) G ok hf3.1 hx e ?_ hd)) (by intro e; cases e)
  obtain ⟨ob, hob, hcls⟩ := hf3.there
  refine wpAny_excMatches_sub_self (hf3.1 _ _ (G.kin _ _ hC)) hob hcls (by decide +kernel) ?_
  show codeAny _ _ (.handlers (.ref a) [.ExceptHandler none none (b₀ :: suite) hpos] env) _ _
  refine codeAny_handlers_suite (lands_againW (s := { s with heap := h3, toks := tk }) hf3 fun h4 hf4 hu4 => ?_)
  exact hsuite a h4 tk hf4.1 hf4.2.2.1 (((hu.trans hu2).trans hu3).trans hu4) _

variable {name qual : Str} {as : List Arg} {body : List Stmt} {more : List (Str × Const)} {pm cdv ct oc : Value} {od : Option Addr} {osl : Array (Option Value)} {args : List AV} {nz : Nat}
theorem FnX.assign {x : Str} {p pos : Pos} {e : Expr} {rest : List Stmt} (G : GH K hB)
    (ho : K.lookup f = some ⟨oc, od, .func (fnOf name qual (parsOf as) (.Assign [.Name x p] e pos :: rest) (scopeOf ns' more) .none .none .none pm Option.none cdv ct), osl⟩) (hcd : codeIn K cdv qual = true) (hok : namesOk ns' (as.map (·.arg)) = true) (hl : as.length = args.length)
    (hb : ∀ vs : List Value, vs.length = as.length → bindArgs (fnOf name qual (parsOf as) (.Assign [.Name x p] e pos :: rest) (scopeOf ns' more) .none .none .none pm Option.none cdv ct) ⟨vs, []⟩ = pure ((as.map (·.arg)).zip vs))
    (h : ∀ ε env, EnvOk env ns' → EvX prog w hB D ε env ns' C (initVals nz args) [] e ∧ swapsWith e (some (.Name x p)) pos.line env = pure false) : FnX prog w hB (D + 1) C f args := fun fr A s vs hA hfr hff hbs hr => by
  refine enter (nz := nz) (P := fun _ => True) (Φ₀ := s.heap.get?) G (defOk_of hok) hA (hbs _ _ (defIn G ho hcd).1) rfl ((defIn G ho hcd).2.keeps hbs) rfl (by simpa using hl) hbs (binds_ok (by simpa using hr.length.trans hl.symm) hb) hr hbs (fun _ _ e => e) (fun _ _ _ => trivial) fun s₁ env he q hA' => ?_
  have hf : env.frame = some env.locals := by rw [he]; rfl
  have hLs : env.locals = s.heap.objs.size := by rw [he]; rfl
  have hn : hB.get? env.locals = none := by
    cases e : hB.get? env.locals with
    | none => rfl
    | some o => have := hbs _ _ e; rw [hLs, get_size] at this; cases this
  have hok' : EnvOk env ns' := by rw [he]; exact frame_ok hok
  obtain ⟨hx, hsw⟩ := h ⟨s, fun _ => True⟩ env hok'
  refine wpAny_execs_cons (wpAny_Assign_Name (wpAny_mono (hx _ s₁ q _ fr _ hA' (deeper_frames hfr) (q.frames hff hf hn) fun e s' hfl => ?_) (fun _ _ h' => h'.elim) fun _ _ e => e) hsw)
  obtain ⟨a0, h1, tk, rfl, hfl, hu⟩ := hfl
  refine wpAny_leaves_onW (s := { s₁ with heap := h1, toks := tk }) (deeper_frames hfr) hf hfl fun h2 hf2 hu2 => ?_
  have k1 := q.keeps
  obtain ⟨hk, tk1, rfl, kk⟩ := k1
  exact ⟨e, rfl, a0, h2, tk, rfl, hf2, ((Heap.UpToSlots.of_keeps kk).trans hu).trans hu2⟩
noncomputable def FnV (prog : Program) (w : World) (hB : Heap) (D : Nat) (f : Addr) (args : List AV) (v : Value) : Prop :=
  ∀ fr A s vs, AOk D A → A.frames = some fr → s.heap.FunFrames hB fr → (∀ a o, hB.get? a = some o → s.heap.get? a = some o) → Rs s.heap.get? args vs →
    codeAny (model prog w) A (.call (.ref f) ⟨vs, []⟩) (fun r s' => r = .ok (.ret v) ∧ ∃ h' tk, s' = { s with heap := h', toks := tk } ∧ hB.StaysIn h' ∧ s.heap.UpToSlots h') s
theorem FnV.tryRet {x : Str} {np hpos pos rp rp2 cp : Pos} {e : Expr} {i kk : Nat} (G : GH K hB) (hC : K.lookup C = some (excClassObj nm qn C N bs [.type "Exception", .type "BaseException", .type "object"] hdct sn sub ab col dd k0 k1 k2 k3 k5 "Exception.__new__"))
    (ho : K.lookup f = some ⟨oc, od, .func (fnOf name qual (parsOf as) [.Try [.Return (some e) rp] [.ExceptHandler (some (.Name x np)) none [.Return (some (.Constant .none kk cp)) rp2] hpos] [] [] pos] (scopeOf ns' more) .none .none .none pm Option.none cdv ct), osl⟩) (hcd : codeIn K cdv qual = true) (hok : namesOk ns' (as.map (·.arg)) = true) (hl : as.length = args.length)
    (hb : ∀ vs : List Value, vs.length = as.length → bindArgs (fnOf name qual (parsOf as) [.Try [.Return (some e) rp] [.ExceptHandler (some (.Name x np)) none [.Return (some (.Constant .none kk cp)) rp2] hpos] [] [] pos] (scopeOf ns' more) .none .none .none pm Option.none cdv ct) ⟨vs, []⟩ = pure ((as.map (·.arg)).zip vs))
    (hx : At ns' i (x, .globalImplicit)) (hm : nsIn K mainGlobals x = some (some (.ref C)))
    (h : ∀ ε env, EnvOk env ns' → EvX prog w hB D ε env ns' C (initVals nz args) [] e) (hdb : (x == ("__debug__" : Str)) = false := by rfl) : FnV prog w hB (D + 1) f args .none := fun fr A s vs hA hfr hff hbs hr => by
  refine enter (nz := nz) (P := fun _ => True) (Φ₀ := s.heap.get?) G (defOk_of hok) hA (hbs _ _ (defIn G ho hcd).1) rfl ((defIn G ho hcd).2.keeps hbs) rfl (by simpa using hl) hbs (binds_ok (by simpa using hr.length.trans hl.symm) hb) hr hbs (fun _ _ e => e) (fun _ _ _ => trivial) fun s₁ env he q hA' => ?_
  have hf : env.frame = some env.locals := by rw [he]; rfl
  have hLs : env.locals = s.heap.objs.size := by rw [he]; rfl
  have hn : hB.get? env.locals = none := by
    cases e : hB.get? env.locals with
    | none => rfl
    | some o => have := hbs _ _ e; rw [hLs, get_size] at this; cases this
  have hok' : EnvOk env ns' := by rw [he]; exact frame_ok hok
  have k1 : Keeps s s₁ := q.keeps
  refine wpAny_execs_cons ?_
  refine Try_catch (s := s₁) (fr := fr) G hok' hC hx hm (deeper_frames hfr) hf ?_ (fun a h' tk hst hff' hu E' => ?_) hdb
  · exact wpAny_execs_cons (wpAny_Return_some (wpAny_mono (h _ env hok' _ s₁ q _ fr _ hA' (deeper_frames hfr) (q.frames hff hf hn) fun e s' hfl => ⟨e, rfl, hfl⟩) (fun _ _ h' => h'.elim) fun _ _ e => e))
  · obtain ⟨h1, tk1, rfl, kk⟩ := k1
    exact wpAny_execs_cons (wpAny_Return_some (wpAny_Constant_none ⟨rfl, h', tk, rfl, hst, (Heap.UpToSlots.of_keeps kk).trans hu⟩))
end
end Kx
end

section -- X7
open PySem PySem.W PyProof.Rows
set_option Elab.async false
set_option maxRecDepth 100000
set_option linter.unusedVariables false
set_option maxHeartbeats 1000000
namespace Kx
section
variable {prog : Program} {w : World} {hB : Heap} {K : Frag} {D : Nat} {env : Env} {ns ns' : List (Str × NameKind)} {vals vals' : List (Option AV)} {own own' : List (Addr × MO)} {ε : Ent} {s₀ s s' : Shared} {Φ : FH}
variable {C : Addr} {Q : Flw → List (Option AV) → List (Addr × MO) → Prop}
theorem ExR.ifT {t : Expr} {body orelse rest : List Stmt} {pos : Pos} (h : EvT prog w hB D env ns vals own t true) (hT : ExR prog w hB D ε env ns C body vals own) : ExR prog w hB D ε env ns C (.If t body orelse pos :: rest) vals own := fun Φ s q A E ok hE => by
  refine wpAny_execs_cons (wpAny_If (wpAny_mono (h Φ s q.toR A E ok) (fun v s₁ h₁ => ?_) fun _ _ e => e))
  obtain ⟨k₁, rfl⟩ := h₁
  exact wpAny_mono (hT _ s₁ (q.step k₁) A E ok hE) (fun _ _ h => h.elim) fun _ _ e => e
theorem St.tryRet {body : List Stmt} {h₀ : ExceptHandler} {hs : List ExceptHandler} {pos : Pos} (h : Ex prog w hB D ε env ns body vals own (fun fl v o => ∃ av, fl = .ret av ∧ Q (.ret av) v o)) : St prog w hB D ε env ns (.Try body (h₀ :: hs) [] [] pos) vals own Q := fun Φ s q A E ok => by
  rw [arm_exec_Try]
  refine wpAny_bind (wpAny_standAt (wpAny_tryStmt_except (wpAny_mono (h Φ s q A _ ok) (fun f s₁ h₁ => ?_) fun _ _ e => e)))
  obtain ⟨Φ', v, o, fl, a, b, c, av, rfl, d⟩ := h₁
  obtain ⟨u, rfl, hu⟩ := c
  exact ⟨Φ', v, o, .ret av, a, b, ⟨u, rfl, hu⟩, d⟩
variable {f : Addr} {name qual : Str} {as : List Arg} {body : List Stmt} {more : List (Str × Const)} {pm cdv ct oc : Value} {od : Option Addr} {osl : Array (Option Value)} {args : List AV} {nz : Nat}
theorem FnP.deepE {res : AV} (G : GH K hB)
    (ho : K.lookup f = some ⟨oc, od, .func (fnOf name qual (parsOf as) body (scopeOf ns' more) .none .none .none pm Option.none cdv ct), osl⟩) (hcd : codeIn K cdv qual = true) (hok : namesOk ns' (as.map (·.arg)) = true) (hl : as.length = args.length)
    (hb : ∀ vs : List Value, vs.length = as.length → bindArgs (fnOf name qual (parsOf as) body (scopeOf ns' more) .none .none .none pm Option.none cdv ct) ⟨vs, []⟩ = pure ((as.map (·.arg)).zip vs)) (hargs : ∀ x ∈ args, Scal x = true)
    (h : ∀ ε env, EnvOk env ns' → Ex prog w hB D ε env ns' body (initVals nz args) [] (fun fl _ _ => fl = .ret res)) : FnP prog w hB (D + 1) f args res := fun A s vs hA hbs hr => by
  refine enter (nz := nz) (P := fun a => (hB.get? a).isSome = true) (Φ₀ := hB.get?) G (defOk_of hok) hA (hbs _ _ (defIn G ho hcd).1) rfl ((defIn G ho hcd).2.keeps hbs) rfl (by simpa using hl) hbs (binds_ok (by simpa using hr.length.trans hl.symm) hb) (Scal.all hargs hr) (fun _ _ e => e) hbs (fun a o e => by rw [e]; rfl) fun s₁ env he q hA' => ?_
  subst he
  refine wpAny_mono (h _ _ (frame_ok hok) _ s₁ q _ _ hA') (fun fl s' h' => ?_) fun _ _ e => e
  obtain ⟨Φ', vals', own', fl', hle, q', hf, rfl⟩ := h'
  obtain ⟨v, rfl, hv⟩ := hf
  refine ⟨v, rfl, q'.keeps, hv.mono fun b ob e => ?_⟩
  unfold fresh
  cases hh : hB.get? b with
  | some o' => have e1 := q'.base b o' hh; rw [e] at e1; exact e1.symm
  | none =>
    rcases q'.nw b ob e with hp | hp
    · have hp' : (hB.get? b).isSome = true := hp
      rw [hh] at hp'; cases hp'
    · show (if (s.heap.get? b).isSome then none else s'.heap.get? b) = some ob
      rw [if_neg (by rw [show s.heap.get? b = none from hp]; decide)]
      exact q'.frz b ob e
end
end Kx
end

section -- X8
open PySem PySem.W PyProof.Rows
set_option Elab.async false
set_option maxRecDepth 100000
set_option linter.unusedVariables false
set_option maxHeartbeats 1000000
namespace Kx
section
variable {prog : Program} {w : World} {hB : Heap} {K : Frag} {D : Nat} {env : Env} {ns ns' : List (Str × NameKind)} {vals vals' : List (Option AV)} {own own' : List (Addr × MO)} {ε : Ent} {s₀ s s' : Shared} {Φ : FH}
variable {C : Addr} {fr : List Env} {Q : Flw → List (Option AV) → List (Addr × MO) → Prop}
noncomputable def Stays (hB : Heap) (s s' : Shared) : Prop := ∃ h' tk, s' = { s with heap := h', toks := tk } ∧ hB.StaysIn h'
theorem Stays.of {s s₁ s₂ : Shared} (k : Keeps s s₁) (h : Stays hB s₁ s₂) : Stays hB s s₂ := by
  obtain ⟨h1, tk, rfl, _⟩ := k
  obtain ⟨h2, tk2, rfl, x⟩ := h
  exact ⟨h2, tk2, rfl, x⟩
theorem Rel.stays (q : Rel hB ε env ns Φ vals own s) : Stays hB ε.s s := by
  obtain ⟨h1, tk, rfl, _⟩ := q.keeps
  exact ⟨h1, tk, rfl, fun b o e => q.frz _ _ (q.base _ _ e)⟩
noncomputable def ExT (prog : Program) (w : World) (hB : Heap) (D : Nat) (ε : Ent) (env : Env) (ns : List (Str × NameKind)) (ss : List Stmt) (vals : List (Option AV)) (own : List (Addr × MO)) : Prop :=
  ∀ Φ s, Rel hB ε env ns Φ vals own s → ∀ A fr E, AOkD D A → A.frames = some (env :: fr) → ε.s.heap.FunFrames hB fr → env.frame = some env.locals → hB.get? env.locals = none →
    wpD (model prog w) A (execs ss env) (fun f s' => f = .ret (.bool true) ∧ Stays hB ε.s s') E s
theorem execsD_cons {st : Stmt} {rest : List Stmt} {A : Around} {E : Value → Shared → Prop} {Q : Flow → Shared → Prop} (h : wpD (model prog w) A (exec st env) (fun f s₁ => match f with | .next => wpD (model prog w) A (execs rest env) Q E s₁ | f => Q f s₁) E s) : wpD (model prog w) A (execs (st :: rest) env) Q E s := by
  have e : execs (st :: rest) env = (do match ← exec st env with | .next => execs rest env | f => pure f) := rfl
  rw [e]
  refine wpD_bind (wpD_mono h (fun f s₁ h₁ => ?_) fun _ _ e => e)
  cases f <;> first | exact h₁ | exact wpD_pure h₁
theorem ExT.stD {st : Stmt} {rest : List Stmt} (h : StD prog w hB D ε env ns st vals own (fun fl v o => match fl with | .next => ExT prog w hB D ε env ns rest v o | .ret av => av = .bool true)) : ExT prog w hB D ε env ns (st :: rest) vals own := fun Φ s q A fr E ok hfr hε hf hn => by
  refine execsD_cons (wpD_mono (h Φ s q A E ok) (fun f s₁ h₁ => ?_) fun _ _ e => e)
  obtain ⟨Φ', v, o, fl, a, b, c, d⟩ := h₁
  cases fl with
  | next => cases c; exact d Φ' s₁ b A fr E ok hfr hε hf hn
  | ret av =>
    obtain ⟨u, rfl, hu⟩ := c
    obtain rfl : av = .bool true := d
    have hu' : u = .bool true := hu
    subst hu'
    exact ⟨rfl, b.stays⟩
theorem ExT.st {st : Stmt} {rest : List Stmt} (h : St prog w hB D ε env ns st vals own (fun fl v o => match fl with | .next => ExT prog w hB D ε env ns rest v o | .ret av => av = .bool true)) : ExT prog w hB D ε env ns (st :: rest) vals own := ExT.stD (StD.of h)
theorem ExT.if {t : Expr} {body rest : List Stmt} {pos : Pos} {b : Bool} (h : EvT prog w hB D env ns vals own t b) (hT : b = true → ExT prog w hB D ε env ns body vals own) (hF : b = false → ExT prog w hB D ε env ns rest vals own) : ExT prog w hB D ε env ns (.If t body [] pos :: rest) vals own := fun Φ s q A fr E ok hfr hε hf hn => by
  refine execsD_cons ?_
  rw [arm_exec_If]
  refine wpD_bind (wpD_standAt (wpD_bindA (wpAny_mono (h Φ s q.toR A E ok.ok) (fun v s₁ h₁ => ?_) fun _ _ e => e)))
  obtain ⟨k₁, rfl⟩ := h₁
  have q₁ := q.step k₁
  cases v with
  | true =>
    refine wpD_mono (hT rfl _ s₁ q₁ A fr E ok hfr hε hf hn) (fun f s₂ ⟨e, h⟩ => ?_) fun _ _ e => e
    subst e; exact ⟨rfl, h⟩
  | false =>
    refine wpD_mono (Q := fun f s' => f = .next ∧ s' = s₁) (wpD.of (wpAny_execs_nil (env := env) ⟨rfl, rfl⟩)) (fun f s₂ ⟨e, h⟩ => ?_) fun _ _ e => e
    subst e; subst h
    exact hF rfl _ _ q₁ A fr E ok hfr hε hf hn
theorem ExT.isNone {x : Str} {p cp pos pos2 p2 : Pos} {kk : Nat} {e : Expr} {f : Addr} {rest : List Stmt} {D' : Nat} (G : GH K hB) (hk : keepIn K (.ref f) = true) (hf : Ev prog w hB D env ns vals own (.Name x p) (.ref f))
    (he : EvS prog w hB D ε env ns vals own e (fun av _ => FnV prog w hB D' f [av] .none ∧ Scal av = true)) (hd : D' ≤ D) (hs : starEach [e] env = [(false, eval e env)] := by rfl) (hm : behindInMarks .Is (.Constant .none kk p2) = false := by with_unfolding_all rfl) :
    ExT prog w hB D ε env ns (.Return (some (.Compare (.Call (.Name x p) [e] [] cp) [.Is] [.Constant .none kk p2] pos2)) pos :: rest) vals own := fun Φ s q A fr E ok hfr hε hf' hn => by
  refine execsD_cons (wpD.of (wpAny_Return_some (wpAny_Compare1 (Call_Name_ (wpAny_mono (hf Φ s q.toR A E ok.ok) (fun v s₁ h₁ => ?_) fun _ _ e => e)) hm)))
  obtain ⟨k₁, rfl⟩ := h₁
  have q₁ := q.step k₁
  rw [hs]
  refine callWith_fn hk rfl (Calls.spliced_cons (wpAny_mono (he _ s₁ q₁ A E ok.ok) (fun v s₂ h₂ => Calls.spliced_nil ?_) fun _ _ e => e))
  obtain ⟨Φ₂, av, o, hle, q₂, hr, F, hsc⟩ := h₂
  refine ⟨fun a o e => q₂.toR.base' _ _ (G.kin a o e), wpAny_call (codeAny_mono (F (env :: fr) A s₂ [v] (ok.ok.le hd) hfr (q₂.frames hε hf' hn) q₂.toR.base' ⟨Scal.any hsc hr, trivial⟩) fun r s₃ h₃ => ?_)⟩
  obtain ⟨rfl, h', tk, rfl, hst, hu⟩ := h₃
  refine wpAny_Constant_none (wpAny_is_self rfl ⟨rfl, ?_⟩)
  exact Stays.of q₂.keeps ⟨h', tk, rfl, hst⟩
noncomputable def RightD (prog : Program) (w : World) (hB : Heap) (D : Nat) (f : Addr) (W : MO → Prop) : Prop :=
  ∀ (Φ : FH) fr A s a o mo, AOkD D A → A.frames = some fr → (s.heap.hide a).FunFrames hB fr → (∀ b o, hB.get? b = some o → Φ b = some o) → (∀ b o, Φ b = some o → s.heap.get? b = some o) → Φ a = none → s.heap.get? a = some o → MR Φ mo o → W mo →
    codeD (model prog w) A (.call (.ref f) ⟨[.ref a], []⟩) (fun r s' => r = .ok (.ret (.bool true)) ∧ Stays hB s s') s
variable {f : Addr} {name qual : Str} {as : List Arg} {body : List Stmt} {more : List (Str × Const)} {pm cdv ct oc : Value} {od : Option Addr} {osl : Array (Option Value)} {nz : Nat} {W : MO → Prop}
theorem RightD.mk (G : GH K hB)
    (ho : K.lookup f = some ⟨oc, od, .func (fnOf name qual (parsOf as) body (scopeOf ns' more) .none .none .none pm Option.none cdv ct), osl⟩) (hcd : codeIn K cdv qual = true) (hok : namesOk ns' (as.map (·.arg)) = true) (hl : as.length = 1)
    (hb : ∀ vs : List Value, vs.length = as.length → bindArgs (fnOf name qual (parsOf as) body (scopeOf ns' more) .none .none .none pm Option.none cdv ct) ⟨vs, []⟩ = pure ((as.map (·.arg)).zip vs))
    (h : ∀ ε env a mo, EnvOk env ns' → W mo → ExT prog w hB D ε env ns' body (initVals nz [.ref a]) [(a, mo)]) : RightD prog w hB (D + 1) f W := fun Φ₀ fr A s a o mo hA hfr hff hb0 hfz hna hoa hmo hW => by
  have hbs : ∀ b ob, hB.get? b = some ob → s.heap.get? b = some ob := fun b ob e => hfz b ob (hb0 b ob e)
  refine enterD (nz := nz) (args := [.ref a]) (P := fun b => (Φ₀ b).isSome = true) (Φ₀ := Φ₀) G (defOk_of hok) hA (hbs _ _ (defIn G ho hcd).1) rfl ((defIn G ho hcd).2.keeps hbs) rfl (by simpa using hl) hbs (binds_ok (by simpa using hl.symm) hb) ⟨rfl, trivial⟩ hb0 hfz (fun b ob e => by rw [e]; rfl) fun s₁ env he q hA' => ?_
  have hf : env.frame = some env.locals := by rw [he]; rfl
  have hLs : env.locals = s.heap.objs.size := by rw [he]; rfl
  have hn : hB.get? env.locals = none := by
    cases e : hB.get? env.locals with
    | none => rfl
    | some o => have := hbs _ _ e; rw [hLs, get_size] at this; cases this
  have hok' : EnvOk env ns' := by rw [he]; exact frame_ok hok
  refine wpD_mono (h _ env a mo hok' hW _ s₁ (q.enterOwn hna hoa hmo) _ fr _ hA' (deeper_frames hfr) hff hf hn) (fun fl s' h' => ?_) fun _ _ e => e
  obtain ⟨rfl, h', tk, rfl, hst⟩ := h'
  exact ⟨rfl, h', tk, rfl, hst⟩
end
end Kx
end

section -- X9
open PySem PySem.W PyProof.Rows
set_option Elab.async false
set_option maxRecDepth 100000
set_option linter.unusedVariables false
set_option maxHeartbeats 1000000
namespace Kx
section
variable {prog : Program} {w : World} {hB : Heap} {K : Frag} {D : Nat} {env : Env} {ns ns' : List (Str × NameKind)} {vals vals' : List (Option AV)} {own own' : List (Addr × MO)} {ε : Ent} {s₀ s s' : Shared} {Φ : FH}
theorem EvS.itemS {v sl : Expr} {pos : Pos} {xs : List AV} {P P' : AV → List (Addr × MO) → Prop} (hv : Ev prog w hB D env ns vals own v (.lst xs)) (hi : EvS prog w hB D ε env ns vals own sl P')
    (hx : ∀ av o, P' av o → ∃ k x, av = .int k ∧ 0 ≤ k ∧ k < 2 ^ 63 ∧ xs[k.toNat]? = some x ∧ P x o)
    (hs : ∀ o i, subscripted sl false o i = operate [o, i] (getItem o i) := by intro _ _; rfl) : EvS prog w hB D ε env ns vals own (.Subscript v sl pos) P := fun Φ s q A E ok => by
  refine Subscript_ (wpAny_mono (hv Φ s q.toR A E ok) (fun va s₁ h₁ => wpAny_mono (hi _ s₁ (q.step h₁.1) A E ok) (fun vb s₂ h₂ => ?_) fun _ _ e => e) fun _ _ e => e)
  obtain ⟨Φ₂, av, o, hle, q₂, hr, hp⟩ := h₂
  obtain ⟨k, x, rfl, h0, hk, hxx, hP⟩ := hx _ _ hp
  obtain ⟨_, rfl⟩ := hr
  obtain ⟨a, vs, n, rfl, ha, hrs⟩ := R.mono hle h₁.2
  obtain ⟨val, hval, hR⟩ := hrs.get _ _ hxx
  exact tail_any (isList_of (q₂.frz _ _ ha)).typeIs slot_list_getitem.lookup (wpAny_getItem_list (isList_of (q₂.frz _ _ ha)) h0 hk (by simpa using hval) ⟨Φ₂, x, o, Le.trans (grow_le q.frz) hle, q₂, hR, hP⟩) (hs _ _)
theorem cg_eqIL {l : List Nat} : CmG prog w .Eq (.lst (IL l)) (.lst (IL l)) true := fun Φ s va vb A E hf ok ra rb => by
  obtain ⟨a, us, n, rfl, ha, hu⟩ := ra
  obtain ⟨b, vs, m, rfl, hb, hv⟩ := rb
  have e1 : us.toArray.size = l.length := by rw [List.size_toArray, hu.length, IL_length]
  have e2 : vs.toArray.size = l.length := by rw [List.size_toArray, hv.length, IL_length]
  refine SeqAt.eq_listAt (e := fun _ => true) (isList_of (hf _ _ ha)) (isList_of (hf _ _ hb)) (e1.trans e2.symm) (by have := ok.units; (first | lia | omega)) (fun j h1 h2 => ?_) ⟨Keeps.rfl', ?_⟩
  · have hj : j < l.length := by (first | lia | omega)
    obtain ⟨v1, g1, t1, r1⟩ := hu.get j _ (IL_get hj)
    obtain ⟨v2, g2, t2, r2⟩ := hv.get j _ (IL_get hj)
    have f1 : us.toArray[j] = v1 := by
      rw [List.getElem_toArray]; exact Option.some.inj ((List.getElem?_eq_getElem (by simpa using h1)).symm.trans g1)
    have f2 : vs.toArray[j] = v2 := by
      rw [List.getElem_toArray]; exact Option.some.inj ((List.getElem?_eq_getElem (by simpa using h2)).symm.trans g2)
    rw [f1, f2, r1, r2]
    have := SeqAt.EqAt.int_int (A := A.in1) (s := s) ((l.getD j 0 : Nat) : Int) t1 ((l.getD j 0 : Nat) : Int) t2
    rw [beq_self_eq_true] at this
    exact this
  · congr 1
    simp
end
end Kx
end

section -- X10
open PySem PySem.W PyProof.Rows
set_option Elab.async false
set_option maxRecDepth 100000
set_option linter.unusedVariables false
set_option maxHeartbeats 1000000
namespace Kx
section
variable {prog : Program} {w : World} {hB : Heap} {K : Frag} {D : Nat} {env : Env} {ns ns' : List (Str × NameKind)} {vals vals' : List (Option AV)} {own own' : List (Addr × MO)} {ε : Ent} {s₀ s s' : Shared} {Φ : FH}
theorem EvS.cmpK {op : CmpOp} {l r : Expr} {pos : Pos} {b : AV} {P P' : AV → List (Addr × MO) → Prop} (hl : EvS prog w hB (D + 1) ε env ns vals own l P') (hr : ∀ o, Ev prog w hB (D + 1) env ns vals o r b)
    (hx : ∀ av o, P' av o → ∃ c, CmG prog w op av b c ∧ P (.bool c) o)
    (hm : behindInMarks op r = false := by with_unfolding_all rfl) : EvS prog w hB (D + 1) ε env ns vals own (.Compare l [op] [r] pos) P := fun Φ s q A E ok => by
  refine wpAny_Compare1 (wpAny_mono (hl Φ s q A E ok) (fun va s₁ h₁ => ?_) fun _ _ e => e) hm
  obtain ⟨Φ₁, av, o, hle, q₁, hav, hp⟩ := h₁
  refine wpAny_mono (hr o _ s₁ q₁.toR A E ok) (fun vb s₂ h₂ => ?_) fun _ _ e => e
  obtain ⟨c, hop, hP⟩ := hx _ _ hp
  have q₂ := q₁.step h₂.1
  refine wpAny_mono (hop _ s₂ va vb A E q₂.frz (ok.le (by (first | lia | omega))) (R.mono (grow_le q₁.frz) hav) h₂.2) (fun v s₃ h₃ => ?_) fun _ _ e => e
  obtain ⟨k₃, rfl⟩ := h₃
  exact ⟨_, .bool c, o, Le.trans hle (Le.trans (grow_le q₁.frz) (grow_le q₂.frz)), q₂.step k₃, rfl, hP⟩
end
end Kx
end

section -- X11
open PySem PySem.W PyProof.Rows
set_option Elab.async false
set_option maxRecDepth 100000
set_option linter.unusedVariables false
set_option maxHeartbeats 1000000
namespace Kx
section
variable {prog : Program} {w : World} {hB : Heap} {K : Frag} {D : Nat} {env : Env} {ns ns' : List (Str × NameKind)} {vals vals' : List (Option AV)} {own own' : List (Addr × MO)} {ε : Ent} {s₀ s s' : Shared} {Φ : FH}
variable {C : Addr} {fr : List Env} {Q : Flw → List (Option AV) → List (Addr × MO) → Prop}
theorem wpD_tryOk {M : Model} {A : Around} {E : Value → Shared → Prop} {body orelse : Sem Flow} {h₀ : ExceptHandler} {hs : List ExceptHandler} {Q : Flow → Shared → Prop}
    (h : wpD M A body (fun f s₁ => match f with | .next => wpD M A orelse Q E s₁ | f => Q f s₁) (fun _ _ => False) s) : wpD M A (tryStmt false body (h₀ :: hs) orelse [] env) Q E s := by
  unfold tryStmt
  simp only [List.isEmpty_nil, if_true, List.isEmpty_cons, Bool.false_and, Bool.false_eq_true, if_false]
  refine wpD_bind (wpD_attempt (wpD_mono h (fun f s₁ h₁ => ?_) fun e s₁ h₁ => h₁.elim))
  cases f <;> first | exact h₁ | exact wpD_pure h₁
theorem StD.tryOk {body : List Stmt} {h₀ : ExceptHandler} {hs : List ExceptHandler} {pos : Pos} (h : ExD prog w hB D ε env ns body vals own (fun fl v o => fl = .next ∧ Q .next v o)) : StD prog w hB D ε env ns (.Try body (h₀ :: hs) [] [] pos) vals own Q := fun Φ s q A E ok => by
  rw [arm_exec_Try]
  refine wpD_bind (wpD_standAt (wpD_tryOk (wpD_mono (h Φ s q A _ ok) (fun f s₁ h₁ => ?_) fun _ _ e => e)))
  obtain ⟨Φ', v, o, fl, a, b, c, d⟩ := h₁
  obtain ⟨rfl, d⟩ := d
  cases c
  exact wpD.of (wpAny_execs_nil ⟨Φ', v, o, .next, a, b, rfl, d⟩)
variable {nm qn : Str} {N f : Addr} {bs : List Value} {hdct : Bool} {sn : List Str} {sub : List Value} {ab : Bool} {col : Option Bool} {dd : Option Addr} {k0 k1 k2 k3 k5 : Option Value}
theorem ExT.catch {x y z : Str} {np hpos pos yp apos zp up rp : Pos} {e : Expr} {i j : Nat} {rest : List Stmt} (G : GH K hB) (hC : K.lookup C = some (excClassObj nm qn C N bs [.type "Exception", .type "BaseException", .type "object"] hdct sn sub ab col dd k0 k1 k2 k3 k5 "Exception.__new__"))
    (hx : At ns i (x, .globalImplicit)) (hm : nsIn K mainGlobals x = some (some (.ref C))) (hz : At ns j (z, .local)) (hv : At vals j (some (.bool false)))
    (h : EvX prog w hB D ε env ns C vals own e) (hsw : swapsWith e (some (.Name y yp)) apos.line env = pure false) (hd : (x == ("__debug__" : Str)) = false := by rfl) (hd2 : (z == ("__debug__" : Str)) = false := by rfl) :
    ExT prog w hB D ε env ns (.Try [.Assign [.Name y yp] e apos] [.ExceptHandler (some (.Name x np)) none [.Return (some (.UnaryOp .Not (.Name z zp) up)) rp] hpos] [] [] pos :: rest) vals own := fun Φ s q A fr E ok hfr hε hf hn => by
  obtain ⟨m, cm, I, hvars⟩ := q.inn
  obtain ⟨v, hval, hr⟩ := hvars j z _ _ hz.get hv.get
  have hr' : v = .bool false := hr
  subst hr'
  have hns := I.toInCall.ns
  refine execsD_cons (wpD.of (Try_catch (s := s) (fr := fr) G q.ok hC hx hm hfr hf ?_ (fun a h' tk hst hff' hu E' => ?_) hd))
  · exact wpAny_execs_cons (wpAny_Assign_Name (wpAny_mono (h Φ s q A fr _ ok.ok hfr (q.frames hε hf hn) fun e s' hfl => ⟨e, rfl, hfl⟩) (fun _ _ h' => h'.elim) fun _ _ e => e) hsw)
  · refine wpAny_execs_cons (wpAny_Return_some (wpAny_UnaryOp (wpAny_Name (wpAny_loadName_local q.ok.kind (q.ok.kindOf hz.get) (hu.ns hns) hval (not_of (wpAny_truthy_bool ?_))) hd2)))
    exact ⟨rfl, Stays.of q.keeps ⟨h', tk, rfl, hst⟩⟩
theorem EvX.meth {o : Expr} {name : Str} {apos pos : Pos} {es : List Expr} {C' f : Addr} {names : List Str} {xs avs args : List AV} {D' : Nat} {pl : Sem Bool} (G : GH K hB) (hc : ClsOk K C') (hk : keepIn K (.ref f) = true) (ho : Ev prog w hB D env ns vals own o (.obj C' names xs))
    (hm : findIn K (.ref C') name = some (some (.ref f))) (ht : typeIn K (.ref f) = some (.type "function")) (hn : names.contains name = false) (hes : EvL prog w hB D env ns vals own es avs) (ha : Hnds own avs args)
    (F : FnX prog w hB D' C f (.obj C' names xs :: args)) (hd : D' ≤ D)
    (he : eval (.Call (.Attribute o name apos) es [] pos) env = (do
      let ov ← eval o env
      standAt apos.atName
      let (f, first) ← holding [ov] (getMethod ov name pl)
      callWith pos f first (backTo pos (starEach es env)) (backToKw pos (keywordEach [] env))) := by rfl) : EvX prog w hB D ε env ns C vals own (.Call (.Attribute o name apos) es [] pos) := fun Φ s q A fr E ok hfr hff hE => by
  refine meth_core G hc hk ho hm ht hn hes ha q.toR ok (fun s₁ s₂ v vs k₁ k₂ q₂ hr => ?_) he
  have hff2 : s₂.heap.FunFrames hB (env :: fr) := hff.of_keeps fun b o e _ => ⟨o, Keeps.keep k₂ _ _ (Keeps.keep k₁ b o e), rfl⟩
  refine wpAny_call (codeAny_mono (F (env :: fr) A s₂ _ (ok.le hd) hfr hff2 q₂.base' hr) fun r s₃ h₃ => ?_)
  obtain ⟨e, rfl, h₃⟩ := h₃
  exact hE e s₃ (Flies.of (k := Keeps.tr k₁ k₂) h₃)
end
end Kx
end

section -- X12
open PySem PySem.W PyProof.Rows
set_option Elab.async false
set_option maxRecDepth 100000
set_option linter.unusedVariables false
set_option maxHeartbeats 1000000
namespace Kx
section
variable {prog : Program} {w : World} {hB : Heap} {K : Frag} {D : Nat} {env : Env} {ns ns' : List (Str × NameKind)} {vals vals' : List (Option AV)} {own own' : List (Addr × MO)} {ε : Ent} {s₀ s s' : Shared} {Φ : FH}
theorem EvS.callMS {x : Str} {p pos : Pos} {es : List Expr} {f a : Addr} {j : Nat} {P : AV → List (Addr × MO) → Prop} (G : GH K hB) (hk : keepIn K (.ref f) = true) (hf : Ev prog w hB D env ns vals own (.Name x p) (.ref f))
    (hes : EvsS prog w hB D ε env ns vals own es (fun avs o => ∃ mo Pq D', D' ≤ D ∧ At o j (a, mo) ∧ FnM prog w hB D' f avs a mo Pq ∧ ∀ res mo', Pq res mo' → ∃ own', SetAt o j (a, mo') own' ∧ P res own')) :
    EvS prog w hB D ε env ns vals own (.Call (.Name x p) es [] pos) P := fun Φ s q A E ok => by
  refine Call_Name_ (wpAny_mono (hf Φ s q.toR A E ok) (fun v s₁ h₁ => ?_) fun _ _ e => e)
  obtain ⟨k₁, rfl⟩ := h₁
  have q₁ := q.step k₁
  refine callWith_fn hk (hes.1 pos) (wpAny_mono (hes.2 _ s₁ q₁ A E pos ok) (fun vs s₂ h₂ => ?_) fun _ _ e => e)
  obtain ⟨Φ₂, avs, o2, hle, q₂, hrs, mo, Pq, D', hd, hj, F, hP⟩ := h₂
  obtain ⟨f1, f2, f3, f4, o, f5, fr⟩ := q₂.owns a mo hj.mem
  refine ⟨fun b ob e => q₂.toR.base' _ _ (G.kin b ob e), wpAny_call (codeAny_mono (F _ A s₂ vs o (ok.le hd) q₂.base q₂.frz f1 f5 fr hrs) fun r s₃ h₃ => ?_)⟩
  obtain ⟨val, res, mo', o', rfl, k, ho', hm', hR, hp⟩ := h₃
  obtain ⟨own', hs, hp'⟩ := hP res mo' hp
  exact ⟨_, res, own', ((grow_le q.frz).trans hle).trans (grow_le q₂.frz), q₂.mut k hj hs ho' hm', hR, hp'⟩
end
end Kx
end

section -- X13
open PySem PySem.W PyProof.Rows
set_option Elab.async false
set_option maxRecDepth 100000
set_option linter.unusedVariables false
set_option maxHeartbeats 1000000
namespace Kx
section
variable {prog : Program} {w : World} {hB : Heap} {K : Frag} {D : Nat} {env : Env} {ns ns' : List (Str × NameKind)} {vals vals' : List (Option AV)} {own own' : List (Addr × MO)} {ε : Ent} {s₀ s s' : Shared} {Φ : FH}
variable {C : Addr} {fr : List Env}
noncomputable def EvR (prog : Program) (w : World) (hB : Heap) (D : Nat) (ε : Ent) (env : Env) (ns : List (Str × NameKind)) (vals : List (Option AV)) (own : List (Addr × MO)) (e : Expr) : Prop :=
  ∀ Φ s, Rel hB ε env ns Φ vals own s → ∀ A fr E, AOkD D A → A.frames = some (env :: fr) → ε.s.heap.FunFrames hB fr → env.frame = some env.locals → hB.get? env.locals = none →
    wpD (model prog w) A (eval e env) (fun v s' => v = .bool true ∧ Stays hB s s') E s
theorem ExT.ret {e : Expr} {pos : Pos} {rest : List Stmt} (h : EvR prog w hB D ε env ns vals own e) : ExT prog w hB D ε env ns (.Return (some e) pos :: rest) vals own := fun Φ s q A fr E ok hfr hε hf hn => by
  refine execsD_cons ?_
  have e' : exec (.Return (some e) pos) env = (do standAt pos; return .ret (← eval e env)) := rfl
  rw [e']
  refine wpD_bind (wpD_standAt (wpD_bind (wpD_mono (h Φ s q A fr E ok hfr hε hf hn) (fun v s₁ ⟨a, b⟩ => ?_) fun _ _ e => e)))
  subst a
  exact wpD_pure ⟨rfl, Stays.of q.keeps b⟩
theorem EvR.ite {t x y : Expr} {pos : Pos} {b : Bool} (ht : EvT prog w hB D env ns vals own t b) (hx : b = true → EvR prog w hB D ε env ns vals own x) (hy : b = false → EvR prog w hB D ε env ns vals own y) : EvR prog w hB D ε env ns vals own (.IfExp t x y pos) := fun Φ s q A fr E ok hfr hε hf hn => by
  rw [arm_eval_IfExp]
  refine wpD_bindA (wpAny_mono (ht Φ s q.toR A E ok.ok) (fun v s₁ h₁ => ?_) fun _ _ e => e)
  obtain ⟨k₁, rfl⟩ := h₁
  cases v with
  | true => exact wpD_mono (hx rfl _ s₁ (q.step k₁) A fr E ok hfr hε hf hn) (fun v s₂ ⟨a, b⟩ => ⟨a, Stays.of k₁ b⟩) fun _ _ e => e
  | false => exact wpD_mono (hy rfl _ s₁ (q.step k₁) A fr E ok hfr hε hf hn) (fun v s₂ ⟨a, b⟩ => ⟨a, Stays.of k₁ b⟩) fun _ _ e => e
theorem Rel.framesHide {a : Addr} {mo : MO} (q : Rel hB ε env ns Φ vals own s) (h : ε.s.heap.FunFrames hB fr) (hf : env.frame = some env.locals) (hn : hB.get? env.locals = none) (ha : (a, mo) ∈ own) : (s.heap.hide a).FunFrames hB (env :: fr) := by
  obtain ⟨f1, f2, f3, f4, ob, f5, f6⟩ := q.owns a mo ha
  have hk : ∀ b, b ≠ a → (s.heap.hide a).get? b = s.heap.get? b := fun b hb => Heap.hide_ne _ hb
  obtain ⟨m, cm, I, _⟩ := q.inn
  obtain ⟨o, es, ep, ho, hd, _⟩ := I.toInCall.ns
  refine ⟨by rw [q.ok.kind]; decide, ⟨env.locals, o, hf, hn, by rw [hk _ (Ne.symm f3)]; exact ho, fun vs e => by rw [hd] at e; cases e⟩, h.of_keeps fun b o e _ => ⟨o, ?_, rfl⟩⟩
  rw [hk b (fun e' => by subst e'; rw [f2] at e; cases e)]
  exact Keeps.keep q.keeps b o e
theorem EvR.call {x : Str} {p pos : Pos} {e1 : Expr} {f a : Addr} {j : Nat} {mo : MO} {W : MO → Prop} {D' : Nat} (G : GH K hB) (hk : keepIn K (.ref f) = true) (hf : Ev prog w hB D env ns vals own (.Name x p) (.ref f)) (hes : EvL prog w hB D env ns vals own [e1] [.ref a])
    (hj : At own j (a, mo)) (F : RightD prog w hB D' f W) (hW : W mo) (hd : D' ≤ D) : EvR prog w hB D ε env ns vals own (.Call (.Name x p) [e1] [] pos) := fun Φ s q A fr E ok hfr hε hff hn => by
  refine CallD_Name (wpAny_mono (hf Φ s q.toR A E ok.ok) (fun v s₁ h₁ => ?_) fun _ _ e => e)
  obtain ⟨k₁, rfl⟩ := h₁
  have q₁ := q.step k₁
  refine callWithD_fn hk (hes.1 pos) (wpAny_mono (hes.2 _ s₁ q₁.toR A E pos ok.ok) (fun vs s₂ h₂ => ?_) fun _ _ e => e)
  have q₂ := q₁.step h₂.1
  obtain ⟨v1, rfl, hv1⟩ := h₂.2.one
  have hv : v1 = .ref a := hv1
  subst hv
  obtain ⟨f1, f2, f3, f4, o, f5, f6⟩ := q₂.owns a mo hj.mem
  refine ⟨fun a o e => q₂.toR.base' _ _ (G.kin a o e), wpD_call (codeD_mono (F _ (env :: fr) A s₂ a o mo (ok.le hd) hfr (q₂.framesHide hε hff hn hj.mem) q₂.base q₂.frz f1 f5 f6 hW) fun r s₃ h₃ => ?_)⟩
  obtain ⟨hr', h₃⟩ := h₃
  subst hr'
  exact ⟨rfl, Stays.of (Keeps.tr k₁ h₂.1) h₃⟩
end
end Kx
end

section -- X14
open PySem PySem.W PyProof.Rows
set_option Elab.async false
set_option maxRecDepth 100000
set_option linter.unusedVariables false
set_option maxHeartbeats 1000000
namespace Kx
section
variable {prog : Program} {w : World} {hB : Heap} {K : Frag} {D : Nat} {env : Env} {ns ns' : List (Str × NameKind)} {vals vals' : List (Option AV)} {own own' : List (Addr × MO)} {ε : Ent} {s₀ s s' : Shared} {Φ : FH}
theorem ty_int {z : Int} : TyG prog w "int" [.int z] (.int z) := fun Φ s vs A E hf ok hr => by
  obtain ⟨v, rfl, t, rfl⟩ := hr.one
  exact call_int_int ⟨Keeps.rfl', t, rfl⟩
noncomputable def cellN (z : Int) : Nat := (z % 2147483647).toNat
theorem cellN_eq {z : Int} : z % 2147483647 = ((cellN z : Nat) : Int) := by unfold cellN; (first | lia | omega)
end
end Kx
end

section -- X15
open PySem PySem.W PyProof.Rows
set_option Elab.async false
set_option maxRecDepth 100000
set_option linter.unusedVariables false
set_option maxHeartbeats 1000000
namespace Kx
section
variable {prog : Program} {w : World} {hB : Heap} {K : Frag} {D : Nat} {env : Env} {ns ns' : List (Str × NameKind)} {vals vals' : List (Option AV)} {own own' : List (Addr × MO)} {ε : Ent} {s₀ s s' : Shared} {Φ : FH}
variable {f : Addr} {name qual : Str} {as : List Arg} {body : List Stmt} {more : List (Str × Const)} {pm cdv ct oc : Value} {od : Option Addr} {osl : Array (Option Value)} {nz : Nat} {W : MO → Prop}
noncomputable def LawD (prog : Program) (w : World) (hB : Heap) (D : Nat) (f : Addr) (args : List AV) : Prop :=
  ∀ fr A s vs, AOkD D A → A.frames = some fr → s.heap.FunFrames hB fr → (∀ b o, hB.get? b = some o → s.heap.get? b = some o) → Rs hB.get? args vs →
    codeD (model prog w) A (.call (.ref f) ⟨vs, []⟩) (fun r s' => r = .ok (.ret (.bool true)) ∧ Stays hB s s') s
theorem LawD.mk {args : List AV} (G : GH K hB)
    (ho : K.lookup f = some ⟨oc, od, .func (fnOf name qual (parsOf as) body (scopeOf ns' more) .none .none .none pm Option.none cdv ct), osl⟩) (hcd : codeIn K cdv qual = true) (hok : namesOk ns' (as.map (·.arg)) = true) (hl : as.length = args.length)
    (hb : ∀ vs : List Value, vs.length = as.length → bindArgs (fnOf name qual (parsOf as) body (scopeOf ns' more) .none .none .none pm Option.none cdv ct) ⟨vs, []⟩ = pure ((as.map (·.arg)).zip vs))
    (h : ∀ ε env, EnvOk env ns' → ExT prog w hB D ε env ns' body (initVals nz args) []) : LawD prog w hB (D + 1) f args := fun fr A s vs hA hfr hff hbs hr => by
  refine enterD (nz := nz) (args := args) (P := fun b => (hB.get? b).isSome = true) (Φ₀ := hB.get?) G (defOk_of hok) hA (hbs _ _ (defIn G ho hcd).1) rfl ((defIn G ho hcd).2.keeps hbs) rfl (by simpa using hl) hbs (binds_ok (by simpa using hr.length.trans hl.symm) hb) hr (fun _ _ e => e) hbs (fun b ob e => by rw [e]; rfl) fun s₁ env he q hA' => ?_
  have hf : env.frame = some env.locals := by rw [he]; rfl
  have hLs : env.locals = s.heap.objs.size := by rw [he]; rfl
  have hn : hB.get? env.locals = none := by
    cases e : hB.get? env.locals with
    | none => rfl
    | some o => have := hbs _ _ e; rw [hLs, get_size] at this; cases this
  have hok' : EnvOk env ns' := by rw [he]; exact frame_ok hok
  refine wpD_mono (h _ env hok' _ s₁ q _ fr _ hA' (deeper_frames hfr) hff hf hn) (fun fl s' h' => ?_) fun _ _ e => e
  obtain ⟨rfl, h', tk, rfl, hst⟩ := h'
  exact ⟨rfl, h', tk, rfl, hst⟩
end
end Kx
end

example (P : Params) : (Kx.heapK P, PySem.Challenge.rw_pq0390_01.name) = (Kx.heapK P, PySem.Challenge.rw_pq0390_01.name) := by k_fill; rfl
namespace Kx
section
set_option compiler.extract_closed false
local macro_rules | `(tactic| wtm_at "om") => `(tactic| (first | lia | omega))
local macro_rules | `(tactic| wtm_at "at") => `(tactic| first | with_reducible exact At.head | ((with_reducible apply At.tail); wtm_at "at"))
local macro_rules | `(tactic| wtm_at "set") => `(tactic| first | with_reducible exact SetAt.head | ((with_reducible apply SetAt.tail); wtm_at "set"))
local macro_rules | `(tactic| wtm_at "mem") => `(tactic| first | with_reducible exact List.mem_cons_self | ((with_reducible apply List.mem_cons_of_mem); wtm_at "mem"))
local macro_rules | `(tactic| wtm_at "lc") => `(tactic| first | with_reducible exact Or.inl rfl | with_reducible exact Or.inr rfl)
local macro_rules | `(tactic| wtm_at "num") => `(tactic| first | (with_reducible assumption) | wtm_at "om" | decide | (with_reducible solve_by_elim) | (simp only [List.length_set, List.length_map, List.length_range, List.length_replicate, List.length_append, List.length_cons, List.length_nil, IL_length] at *; wtm_at "om"))
local macro_rules | `(tactic| wtm_at "lv") => `(tactic| first | with_reducible exact LV.frz | ((with_reducible apply LV.own); wtm_at "mem"))
local macro_rules | `(tactic| wtm_at "mulx") => `(tactic| first | ((with_reducible apply mulL); wtm_at "om") | ((with_reducible apply mulR); wtm_at "om") | mul_fits)
local macro_rules | `(tactic| wtm_at "size") => `(tactic| (simp only [List.length_cons, List.length_nil, List.length_append, List.length_map, List.length_set, IL_length, sizeLine_eq]; first | done | wtm_at "om"))
local macro_rules | `(tactic| wtm_at "ev") => `(tactic| first | ((with_reducible apply Ev.nat (h := ?hn)); (case hn => first | with_reducible exact natlit | rfl)) | ((with_reducible apply Ev.loc); (case hx => wtm_at "at"); (case hv => wtm_at "at"); (case hd => rfl)) | ((with_reducible apply Ev.cel); (case hx => wtm_at "at"); (case hv => wtm_at "at"); (case hd => rfl)) | ((with_reducible apply Ev.globN); (case G => (with_reducible assumption)); (case hx => wtm_at "at"); (case e => k_is); (case hn => first | with_reducible exact natlit | rfl); (case hd => rfl)) | ((with_reducible apply Ev.globR); (case G => (with_reducible assumption)); (case hx => wtm_at "at"); (case e => k_is); (case hd => rfl)) | ((with_reducible apply Ev.bltT); (case G => (with_reducible assumption)); (case hx => wtm_at "at"); (case e => k_is); (case hb => kernel_rfl); (case hn => decide +kernel); (case hd => rfl)) | ((with_reducible apply Ev.bltB); (case G => (with_reducible assumption)); (case hx => wtm_at "at"); (case e => k_is); (case hb => kernel_rfl); (case hn => decide +kernel); (case hd => rfl)) | ((with_reducible first | apply Ev.addN | apply Ev.shrN | apply Ev.andN | apply Ev.orN | apply Ev.xorN); (case hl => wtm_at "ev"); (case hr => wtm_at "ev")) | ((with_reducible first | apply Ev.subN | apply Ev.modN); (case hl => wtm_at "ev"); (case hr => wtm_at "ev"); (case h => wtm_at "num")) | ((with_reducible apply Ev.mulN); (case hl => wtm_at "ev"); (case hr => wtm_at "ev"); (case h => wtm_at "mulx")) | ((with_reducible apply Ev.divN); (case hl => wtm_at "ev"); (case hr => wtm_at "ev"); (case h => wtm_at "num"); (case k => first | decide +kernel | (with_reducible assumption) | wtm_at "log")) | ((with_reducible first | apply Ev.shlN | apply Ev.powN); (case hl => wtm_at "ev"); (case hr => wtm_at "ev"); (case h => wtm_at "num"); (case k => wtm_at "num")) | ((with_reducible apply Ev.itemPrev); (case hv => wtm_at "ev"); (case hl => wtm_at "lv"); (case ha => wtm_at "ev"); (case hb => wtm_at "ev"); (case hk => wtm_at "num"); (case hz => wtm_at "num"); (case hs => intro _ _; rfl)) | ((with_reducible apply Ev.itemN); (case hv => wtm_at "ev"); (case hl => wtm_at "lv"); (case hi => wtm_at "ev"); (case hk => wtm_at "num"); (case hz => wtm_at "num"); (case hs => intro _ _; rfl)) | ((with_reducible apply Ev.itemTup); (case hv => wtm_at "ev"); (case hi => wtm_at "ev"); (case hk => wtm_at "num"); (case hx => rfl); (case hs => intro _ _; rfl)) | ((with_reducible apply Ev.tuple); (case h => wtm_at "evl"); (case hl => wtm_at "size")) | ((with_reducible apply Ev.meth); (case G => (with_reducible assumption)); (case ho => wtm_at "ev"); (case hc => (with_reducible assumption)); (case hm => k_is); (case hk => k_is); (case ht => k_is); (case hn => decide +kernel); (case hes => wtm_at "evl"); (case ha => wtm_at "hnds"); (case F => wtm_at "fn"); (case hd => decide); (case he => rfl)) | ((with_reducible apply Ev.call); (case G => (with_reducible assumption)); (case hf => wtm_at "ev"); (case hk => k_is); (case hes => wtm_at "evl"); (case ha => wtm_at "hnds"); (case F => wtm_at "fn"); (case hd => decide)) | ((with_reducible apply Ev.cls); (case G => (with_reducible assumption)); (case hf => wtm_at "ev"); (case hk => k_is); (case hm => k_is); (case hi => k_is); (case ht => k_is); (case hes => wtm_at "evl"); (case F => wtm_at "fn"); (case hd => decide)) | ((with_reducible apply Ev.attr); (case G => (with_reducible assumption)); (case hv => wtm_at "ev"); (case hc => (with_reducible assumption)); (case hm => k_is); (case nd => decide +kernel); (case hn => wtm_at "at"); (case hx => wtm_at "at"); (case hh => first | exact handed_int | exact handed_lst | exact handed_obj); (case he => rfl)) | ((with_reducible apply Ev.itemK); (case hv => wtm_at "ev"); (case hl => wtm_at "lv"); (case hi => wtm_at "ev"); (case hk => wtm_at "num"); (case hx => rfl); (case hs => intro _ _; rfl)))
local macro_rules | `(tactic| wtm_at "evl") => `(tactic| first | with_reducible exact EvL.nil | ((with_reducible apply EvL.cons); (case h => wtm_at "ev"); (case k => wtm_at "evl"); (case he => rfl)))
local macro_rules | `(tactic| wtm_at "hnds") => `(tactic| first | with_reducible exact Hnds.nil | ((with_reducible apply Hnds.cons); (case h => first | ((with_reducible apply Hnd.own); wtm_at "mem") | with_reducible exact Hnd.same); (case k => wtm_at "hnds")))
local macro_rules | `(tactic| wtm_at "cap") => `(tactic| first | with_reducible exact Cap.nil | ((with_reducible apply Cap.glob); wtm_at "cap") | ((with_reducible apply Cap.loc); wtm_at "cap") | ((with_reducible apply Cap.cell); wtm_at "cap") | ((with_reducible apply Cap.free); (case hj => wtm_at "at"); (case hv => wtm_at "at"); (case h => wtm_at "cap")))
local macro_rules | `(tactic| wtm_at "evn") => `(tactic| first | ((with_reducible apply EvN.list); (case h => wtm_at "evl"); (case hl => wtm_at "size")) | ((with_reducible apply EvN.bin); (case hl => ((with_reducible apply EvN.toEv); wtm_at "evn")); (case hr => wtm_at "ev"); (case hop => ((with_reducible apply np_mulList) <;> wtm_at "num"))) | ((with_reducible apply EvN.call); (case G => (with_reducible assumption)); (case hf => wtm_at "ev"); (case hk => k_is); (case hes => wtm_at "evl"); (case ha => wtm_at "hnds"); (case F => wtm_at "fn"); (case hd => decide)) | ((with_reducible apply EvN.compN); (case hit => wtm_at "it"); (case hcap => wtm_at "cap"); (case hx => wtm_at "at"); (case hk => first | exact .inl rfl | exact .inr ⟨rfl, by decide +kernel⟩); (case hsz => wtm_at "num"); (case helt => ((intro i C hi); (simp only [List.set_cons_succ, List.set_cons_zero, List.cons_append, List.nil_append]); wtm_at "ev")); (case hnd => decide +kernel); (case hkind => rfl); (case hlx => decide +kernel); (case hs => intro _; rfl)) | ((with_reducible apply EvN.callTy); (case hf => wtm_at "ev"); (case hes => wtm_at "evl"); (case F => ((with_reducible apply ty_list); wtm_at "size"))) | with_reducible exact EvN.dict0)
local macro_rules | `(tactic| wtm_at "it") => `(tactic| first | ((with_reducible apply EvIt.range1); (case hf => wtm_at "ev"); (case h => wtm_at "ev"); (case hn => wtm_at "num"); (case he => intro _; rfl)) | ((with_reducible apply EvIt.range3); (case hf => wtm_at "ev"); (case h => wtm_at "ev"); (case h' => wtm_at "ev"); (case h'' => wtm_at "ev"); (case ha => wtm_at "num"); (case hb => wtm_at "num"); (case hc => wtm_at "num"); (case hc' => wtm_at "num"); (case he => intro _; rfl); (case he' => intro _; rfl); (case he'' => intro _; rfl)) | ((with_reducible apply EvIt.list); wtm_at "ev"))
local macro_rules | `(tactic| wtm_at "evt") => `(tactic| first | ((with_reducible apply EvT.cmp); (case hl => wtm_at "ev"); (case hr => wtm_at "ev"); (case hop => first | with_reducible exact cg_eqN | with_reducible exact cg_neN | with_reducible exact cg_ltN | with_reducible exact cg_leN | with_reducible exact cg_gtN | with_reducible exact cg_geN); (case hm => with_unfolding_all rfl)) | ((with_reducible apply EvT.not); (case hx => wtm_at "evt")) | ((with_reducible apply EvT.and2); (case hx => wtm_at "evt"); (case hy => intro _; wtm_at "evt")) | ((with_reducible apply EvT.or2); (case hx => wtm_at "evt"); (case hy => intro _; wtm_at "evt")))
local macro_rules | `(tactic| wtm_at "sts") => `(tactic| first | with_reducible exact Sts.nil | ((with_reducible apply Sts.cons); (case hx => wtm_at "at"); (case hk => wtm_at "lc"); (case hs => wtm_at "set"); (case h => wtm_at "sts")))
local macro_rules | `(tactic| wtm_at "nms") => `(tactic| first | with_reducible exact Nms.nil | ((with_reducible apply Nms.cons); wtm_at "nms"))
local macro_rules | `(tactic| wtm_at "scal") => `(tactic| first | exact List.forall_mem_nil _ | (refine List.forall_mem_cons.mpr ⟨rfl, ?_⟩; wtm_at "scal"))
local macro_rules | `(tactic| wtm_at "fn") => `(tactic| (with_reducible assumption))
local macro_rules | `(tactic| wtm_at "cs") => `(tactic| first | exact Cs.nil | ((apply Cs.cons natlit); wtm_at "cs") | (apply Cs.neg; wtm_at "cs"))


section
section
variable {prog : Program} {w : World} {hB : Heap} {D : Nat} {P : Params}
noncomputable def rotS (lane : Nat) : Nat → List (Nat × Nat) × Nat × Nat
  | 0 => (List.replicate 25 (0, 0), 1, 0)
  | i + 1 => ((rotS lane i).1.set ((rotS lane i).2.1 + 5 * (rotS lane i).2.2) ((i + 1) * (i + 2) / 2 % lane, (rotS lane i).2.2 + 5 * ((2 * (rotS lane i).2.1 + 3 * (rotS lane i).2.2) % 5)), (rotS lane i).2.2, (2 * (rotS lane i).2.1 + 3 * (rotS lane i).2.2) % 5)
theorem rotS_ok (lane : Nat) : ∀ i, (rotS lane i).1.length = 25 ∧ (rotS lane i).2.1 < 5 ∧ (rotS lane i).2.2 < 5
  | 0 => ⟨by simp [rotS], by simp [rotS], by simp [rotS]⟩
  | i + 1 => by
    have h := rotS_ok lane i
    refine ⟨by simp [rotS, h.1], h.2.2, Nat.mod_lt _ (by decide)⟩
noncomputable def PL (l : List (Nat × Nat)) : List AV := l.map fun p => AV.tup [.int (p.1 : Int), .int (p.2 : Int)]
theorem PL_length {l : List (Nat × Nat)} : (PL l).length = l.length := List.length_map ..

theorem rotations_spec (G : GH (heapK P) hB) (lane : Nat) (h1 : 0 < lane) (h2 : lane ≤ 64) : FnN prog w hB 2 48 [.int (lane : Int)] (.lst (PL (rotS lane 24).1)) := by
  refine' FnN.deepK (nz := 8) G ?ho ?hcd ?hok ?hl ?hb ?ha ?h
  case ho => k_is
  case hcd => k_is
  case hok => decide +kernel
  case hl => rfl
  case hb => ((intro vs hv; rcases vs with _ | ⟨a0, _ | ⟨a1, _ | ⟨a2, _ | ⟨a3, _ | ⟨a4, _ | ⟨a5, _ | ⟨a6, vs⟩⟩⟩⟩⟩⟩⟩ <;> first | (simp at hv; done) | rfl))
  case ha => wtm_at "scal"
  case h =>
    intro ε L
    simp only [initVals, List.map_cons, List.map_nil, List.replicate, List.append_nil, List.nil_append, List.cons_append]
    (first | (((with_reducible apply Ex.cons); (with_reducible apply St.assign); (case h => wtm_at "ev"); (case hx => wtm_at "at"); (case hk => wtm_at "lc"); (case hs => wtm_at "set"); (case hsw => (first | rfl | ((refine EnvOk.open (P := fun e => swapsWith _ _ _ e = _) (by (with_reducible assumption)) ?_); intros; rfl))); (with_reducible apply Then.next))) | (((with_reducible apply Ex.cons); (with_reducible apply St.assignN); (case h => wtm_at "evn"); (case hx => wtm_at "at"); (case hk => wtm_at "lc"); (case hs => (intro _; wtm_at "set")); (case hsw => (first | rfl | ((refine EnvOk.open (P := fun e => swapsWith _ _ _ e = _) (by (with_reducible assumption)) ?_); intros; rfl))); intro _; (with_reducible apply Then.next))) | (((with_reducible apply Ex.cons); (with_reducible apply St.aug); (case hx => wtm_at "at"); (case hk => wtm_at "lc"); (case ha => wtm_at "at"); (case h => wtm_at "ev"); (case ho => (first | with_reducible exact ig_addN | with_reducible exact ig_xor | ((with_reducible apply ig_mulN); wtm_at "mulx"))); (case hs => wtm_at "set"); (with_reducible apply Then.next))) | (((with_reducible apply Ex.cons); (with_reducible apply St.setItem); (case hv => wtm_at "ev"); (case ho => wtm_at "ev"); (case hi => wtm_at "ev"); (case hj => wtm_at "at"); (case hs => (first | ((with_reducible apply sg_IL) <;> wtm_at "num") | ((with_reducible apply sg_listN) <;> wtm_at "num"))); (case hset => wtm_at "set"); (case hsw => (first | rfl | ((refine EnvOk.open (P := fun e => swapsWith _ _ _ e = _) (by (with_reducible assumption)) ?_); intros; rfl))); (with_reducible apply Then.next))) | (((with_reducible apply Ex.cons); (with_reducible apply St.meth); (case ho => wtm_at "ev"); (case hj => wtm_at "at"); (case hn => (first | exact ng_list PySem.F.slot_list_append (by kernel_rfl) | exact ng_list PySem.F.slot_list_extend (by kernel_rfl))); (case hes => wtm_at "evl"); (case F => (first | ((with_reducible apply mg_append); wtm_at "size"))); (case hset => wtm_at "set"); (case hi => exact interactive_ok (by (with_reducible assumption))); (case hs => rfl); (case he => rfl); (with_reducible apply Then.next))))
    rename_i a
    refine Ex.cons (St.tup (by wtm_at "nms") (EvS.ofEv (by wtm_at "ev") ⟨_, _, rfl, rfl, by wtm_at "sts", Then.next ?_⟩))
    refine Ex.cons (St.forR (fun i v o => o = [(a, .lst (PL (rotS lane i).1))] ∧ ∃ n l, v = [some (.int (lane : Int)), some (.ref a), some (.int ((rotS lane i).2.1 : Nat)), some (.int ((rotS lane i).2.2 : Nat)), n, l, none, none, none]) (by wtm_at "it") (by wtm_at "at") (by wtm_at "lc") ⟨rfl, _, _, rfl⟩ (fun i v o h => by obtain ⟨_, n, l, rfl⟩ := h; ((simp only [List.length_cons, List.length_nil]; (first | lia | omega)))) ?_ ?_)
    · rintro i v o rw hi ⟨rfl, n, l, rfl⟩
      obtain ⟨k1, k2, k3⟩ := rotS_ok lane i
      have k4 : (PL (rotS lane i).1).length = 25 := by rw [PL_length]; exact k1
      (simp only [List.set_cons_succ, List.set_cons_zero, List.cons_append, List.nil_append])
      (first | (((with_reducible apply Ex.cons); (with_reducible apply St.assign); (case h => wtm_at "ev"); (case hx => wtm_at "at"); (case hk => wtm_at "lc"); (case hs => wtm_at "set"); (case hsw => (first | rfl | ((refine EnvOk.open (P := fun e => swapsWith _ _ _ e = _) (by (with_reducible assumption)) ?_); intros; rfl))); (with_reducible apply Then.next))) | (((with_reducible apply Ex.cons); (with_reducible apply St.assignN); (case h => wtm_at "evn"); (case hx => wtm_at "at"); (case hk => wtm_at "lc"); (case hs => (intro _; wtm_at "set")); (case hsw => (first | rfl | ((refine EnvOk.open (P := fun e => swapsWith _ _ _ e = _) (by (with_reducible assumption)) ?_); intros; rfl))); intro _; (with_reducible apply Then.next))) | (((with_reducible apply Ex.cons); (with_reducible apply St.aug); (case hx => wtm_at "at"); (case hk => wtm_at "lc"); (case ha => wtm_at "at"); (case h => wtm_at "ev"); (case ho => (first | with_reducible exact ig_addN | with_reducible exact ig_xor | ((with_reducible apply ig_mulN); wtm_at "mulx"))); (case hs => wtm_at "set"); (with_reducible apply Then.next))) | (((with_reducible apply Ex.cons); (with_reducible apply St.setItem); (case hv => wtm_at "ev"); (case ho => wtm_at "ev"); (case hi => wtm_at "ev"); (case hj => wtm_at "at"); (case hs => (first | ((with_reducible apply sg_IL) <;> wtm_at "num") | ((with_reducible apply sg_listN) <;> wtm_at "num"))); (case hset => wtm_at "set"); (case hsw => (first | rfl | ((refine EnvOk.open (P := fun e => swapsWith _ _ _ e = _) (by (with_reducible assumption)) ?_); intros; rfl))); (with_reducible apply Then.next))) | (((with_reducible apply Ex.cons); (with_reducible apply St.meth); (case ho => wtm_at "ev"); (case hj => wtm_at "at"); (case hn => (first | exact ng_list PySem.F.slot_list_append (by kernel_rfl) | exact ng_list PySem.F.slot_list_extend (by kernel_rfl))); (case hes => wtm_at "evl"); (case F => (first | ((with_reducible apply mg_append); wtm_at "size"))); (case hset => wtm_at "set"); (case hi => exact interactive_ok (by (with_reducible assumption))); (case hs => rfl); (case he => rfl); (with_reducible apply Then.next))))
      (first | (((with_reducible apply Ex.cons); (with_reducible apply St.assign); (case h => wtm_at "ev"); (case hx => wtm_at "at"); (case hk => wtm_at "lc"); (case hs => wtm_at "set"); (case hsw => (first | rfl | ((refine EnvOk.open (P := fun e => swapsWith _ _ _ e = _) (by (with_reducible assumption)) ?_); intros; rfl))); (with_reducible apply Then.next))) | (((with_reducible apply Ex.cons); (with_reducible apply St.assignN); (case h => wtm_at "evn"); (case hx => wtm_at "at"); (case hk => wtm_at "lc"); (case hs => (intro _; wtm_at "set")); (case hsw => (first | rfl | ((refine EnvOk.open (P := fun e => swapsWith _ _ _ e = _) (by (with_reducible assumption)) ?_); intros; rfl))); intro _; (with_reducible apply Then.next))) | (((with_reducible apply Ex.cons); (with_reducible apply St.aug); (case hx => wtm_at "at"); (case hk => wtm_at "lc"); (case ha => wtm_at "at"); (case h => wtm_at "ev"); (case ho => (first | with_reducible exact ig_addN | with_reducible exact ig_xor | ((with_reducible apply ig_mulN); wtm_at "mulx"))); (case hs => wtm_at "set"); (with_reducible apply Then.next))) | (((with_reducible apply Ex.cons); (with_reducible apply St.setItem); (case hv => wtm_at "ev"); (case ho => wtm_at "ev"); (case hi => wtm_at "ev"); (case hj => wtm_at "at"); (case hs => (first | ((with_reducible apply sg_IL) <;> wtm_at "num") | ((with_reducible apply sg_listN) <;> wtm_at "num"))); (case hset => wtm_at "set"); (case hsw => (first | rfl | ((refine EnvOk.open (P := fun e => swapsWith _ _ _ e = _) (by (with_reducible assumption)) ?_); intros; rfl))); (with_reducible apply Then.next))) | (((with_reducible apply Ex.cons); (with_reducible apply St.meth); (case ho => wtm_at "ev"); (case hj => wtm_at "at"); (case hn => (first | exact ng_list PySem.F.slot_list_append (by kernel_rfl) | exact ng_list PySem.F.slot_list_extend (by kernel_rfl))); (case hes => wtm_at "evl"); (case F => (first | ((with_reducible apply mg_append); wtm_at "size"))); (case hset => wtm_at "set"); (case hi => exact interactive_ok (by (with_reducible assumption))); (case hs => rfl); (case he => rfl); (with_reducible apply Then.next))))
      refine Ex.cons (St.tup (by wtm_at "nms") (EvS.ofEv (by wtm_at "ev") ⟨_, _, rfl, rfl, by wtm_at "sts", Then.next (Ex.nil ⟨[_], rfl, ?_⟩)⟩))
      refine ⟨?_, _, _, rfl⟩
      simp only [rotS, PL, List.map_set]
    · rintro v o ⟨rfl, n, l, rfl⟩
      refine Then.next (Ex.cons (St.ret (by wtm_at "ev") ⟨a, rfl, .head _⟩))
end
end

section
section
variable {prog : Program} {w : World} {hB : Heap} {D : Nat} {P : Params}
noncomputable def regN (r : Nat) : Nat := if decide (256 ≤ r * 2) = true then r * 2 ^^^ 369 else r * 2
theorem regN_lt : ∀ r, r < 256 → regN r < 256 := by decide +kernel
noncomputable def rwIn (length r0 : Nat) : Nat → Nat × Nat
  | 0 => (0, r0)
  | p + 1 => (if ((rwIn length r0 p).2 % 2 == 1 && decide (p ≤ length)) = true then (rwIn length r0 p).1 + 1 <<< (1 <<< p - 1) else (rwIn length r0 p).1, regN (rwIn length r0 p).2)
noncomputable def rwS (length : Nat) : Nat → List Nat × Nat
  | 0 => ([], 1)
  | n + 1 => ((rwS length n).1 ++ [(rwIn length (rwS length n).2 7).1], (rwIn length (rwS length n).2 7).2)
theorem rwIn_lt {length r0 : Nat} (h : r0 < 256) : ∀ p, (rwIn length r0 p).2 < 256
  | 0 => h
  | p + 1 => regN_lt _ (rwIn_lt h p)
theorem rwS_lt {length : Nat} : ∀ n, (rwS length n).2 < 256 ∧ (rwS length n).1.length = n
  | 0 => ⟨by simp [rwS], rfl⟩
  | n + 1 => by
    have h := rwIn_lt (length := length) (rwS_lt (length := length) n).1 7
    simp only [rwS, List.length_append, List.length_cons, List.length_nil, (rwS_lt n).2]
    exact ⟨h, trivial⟩

theorem round_words_spec (G : GH (heapK P) hB) (length rounds : Nat) (h1 : length < 7) (h2 : rounds < 100) : FnN prog w hB 2 55 [.int (length : Int), .int (rounds : Int)] (.lst (IL (rwS length rounds).1)) := by
  refine' FnN.flatE (nz := 7) G ?ho ?hcd ?hok ?hl ?hb ?ha ?h
  case ho => k_is
  case hcd => k_is
  case hok => decide +kernel
  case hl => rfl
  case hb => ((intro vs hv; rcases vs with _ | ⟨a0, _ | ⟨a1, _ | ⟨a2, _ | ⟨a3, _ | ⟨a4, _ | ⟨a5, _ | ⟨a6, vs⟩⟩⟩⟩⟩⟩⟩ <;> first | (simp at hv; done) | rfl))
  case ha => exact IL_scal
  case h =>
    intro ε env hE
    simp only [initVals, List.map_cons, List.map_nil, List.replicate, List.nil_append, List.cons_append]
    refine Ex.cons (St.tupSwap (names := ["found", "register"]) (xs := ["register", "found"]) (EvS.tuple (EvsS.cons (EvS.ofEvN (by wtm_at "evn") (fun a => EvsS.cons (EvS.ofEv (by wtm_at "ev") (EvsS.nil ⟨by wtm_at "size", _, [_, _], _, rfl, rfl, rfl, by wtm_at "sts", Then.next ?_⟩)) (fun _ => rfl))) (fun _ => rfl))) (by (first | rfl | ((refine EnvOk.open (P := fun e => swappedStores _ _ e = _) (by (with_reducible assumption)) ?_); intros; rfl))) rfl)
    refine Ex.cons (St.forM [true, true, true, true, false, false, false, false, false] (fun i v o => o = [(a, .lst (IL (rwS length i).1))] ∧ v = [some (.int (length : Int)), some (.int (rounds : Int)), some (.ref a), some (.int ((rwS length i).2 : Nat)), none, none, none, none, none]) (by wtm_at "it") (by wtm_at "at") (by wtm_at "lc") ⟨rfl, rfl⟩ (fun i v o h => by obtain ⟨_, rfl⟩ := h; ((simp only [List.length_cons, List.length_nil]; (first | lia | omega)))) ?_ ?_)
    · rintro i v o rw hi ⟨rfl, rfl⟩
      obtain ⟨k1, k2⟩ := rwS_lt (length := length) i
      (simp only [List.set_cons_succ, List.set_cons_zero, List.cons_append, List.nil_append])
      (first | (((with_reducible apply Ex.cons); (with_reducible apply St.assign); (case h => wtm_at "ev"); (case hx => wtm_at "at"); (case hk => wtm_at "lc"); (case hs => wtm_at "set"); (case hsw => (first | rfl | ((refine EnvOk.open (P := fun e => swapsWith _ _ _ e = _) (by (with_reducible assumption)) ?_); intros; rfl))); (with_reducible apply Then.next))) | (((with_reducible apply Ex.cons); (with_reducible apply St.assignN); (case h => wtm_at "evn"); (case hx => wtm_at "at"); (case hk => wtm_at "lc"); (case hs => (intro _; wtm_at "set")); (case hsw => (first | rfl | ((refine EnvOk.open (P := fun e => swapsWith _ _ _ e = _) (by (with_reducible assumption)) ?_); intros; rfl))); intro _; (with_reducible apply Then.next))) | (((with_reducible apply Ex.cons); (with_reducible apply St.aug); (case hx => wtm_at "at"); (case hk => wtm_at "lc"); (case ha => wtm_at "at"); (case h => wtm_at "ev"); (case ho => (first | with_reducible exact ig_addN | with_reducible exact ig_xor | ((with_reducible apply ig_mulN); wtm_at "mulx"))); (case hs => wtm_at "set"); (with_reducible apply Then.next))) | (((with_reducible apply Ex.cons); (with_reducible apply St.setItem); (case hv => wtm_at "ev"); (case ho => wtm_at "ev"); (case hi => wtm_at "ev"); (case hj => wtm_at "at"); (case hs => (first | ((with_reducible apply sg_IL) <;> wtm_at "num") | ((with_reducible apply sg_listN) <;> wtm_at "num"))); (case hset => wtm_at "set"); (case hsw => (first | rfl | ((refine EnvOk.open (P := fun e => swapsWith _ _ _ e = _) (by (with_reducible assumption)) ?_); intros; rfl))); (with_reducible apply Then.next))) | (((with_reducible apply Ex.cons); (with_reducible apply St.meth); (case ho => wtm_at "ev"); (case hj => wtm_at "at"); (case hn => (first | exact ng_list PySem.F.slot_list_append (by kernel_rfl) | exact ng_list PySem.F.slot_list_extend (by kernel_rfl))); (case hes => wtm_at "evl"); (case F => (first | ((with_reducible apply mg_append); wtm_at "size"))); (case hset => wtm_at "set"); (case hi => exact interactive_ok (by (with_reducible assumption))); (case hs => rfl); (case he => rfl); (with_reducible apply Then.next))))
      refine Ex.cons (St.forM [true, true, true, true, true, true, false, false, false] (fun j v o => o = (a, .lst (IL (rwS length i).1)) :: rw ∧ v = [some (.int (length : Int)), some (.int (rounds : Int)), some (.ref a), some (.int ((rwIn length (rwS length i).2 j).2 : Nat)), some (.int (i : Int)), some (.int ((rwIn length (rwS length i).2 j).1 : Nat)), none, none, none]) (by wtm_at "it") (by wtm_at "at") (by wtm_at "lc") ⟨rfl, rfl⟩ (fun i v o h => by obtain ⟨_, rfl⟩ := h; ((simp only [List.length_cons, List.length_nil]; (first | lia | omega)))) ?_ ?_)
      · rintro j v o rw' hj ⟨rfl, rfl⟩
        have k3 := rwIn_lt (length := length) k1 j
        obtain ⟨k4, k5⟩ : 1 ≤ 1 <<< j ∧ 1 <<< j ≤ 64 := by
          have : j = 0 ∨ j = 1 ∨ j = 2 ∨ j = 3 ∨ j = 4 ∨ j = 5 ∨ j = 6 := by (first | lia | omega)
          rcases this with rfl | rfl | rfl | rfl | rfl | rfl | rfl <;> decide
        (simp only [List.set_cons_succ, List.set_cons_zero, List.cons_append, List.nil_append])
        refine Ex.consV [some (.int (length : Int)), some (.int (rounds : Int)), some (.ref a), some (.int ((rwIn length (rwS length i).2 j).2 : Nat)), some (.int (i : Int)), some (.int ((rwIn length (rwS length i).2 (j + 1)).1 : Nat)), some (.int (j : Int)), none, none] ((a, .lst (IL (rwS length i).1)) :: (rw ++ rw')) (St.if (by wtm_at "evt") (fun h => ?_) (fun h => ?_)) ?_
        · (((with_reducible apply Ex.cons); (with_reducible apply St.aug); (case hx => wtm_at "at"); (case hk => wtm_at "lc"); (case ha => wtm_at "at"); (case h => wtm_at "ev"); (case ho => (first | with_reducible exact ig_addN | with_reducible exact ig_xor | ((with_reducible apply ig_mulN); wtm_at "mulx"))); (case hs => wtm_at "set"); (with_reducible apply Then.next)))
          refine Ex.nil ⟨rfl, ?_, rfl⟩
          simp only [rwIn, h, if_true]
        · refine Ex.nil ⟨rfl, ?_, rfl⟩
          simp only [rwIn, h, if_false, Bool.false_eq_true]
        · (first | (((with_reducible apply Ex.cons); (with_reducible apply St.assign); (case h => wtm_at "ev"); (case hx => wtm_at "at"); (case hk => wtm_at "lc"); (case hs => wtm_at "set"); (case hsw => (first | rfl | ((refine EnvOk.open (P := fun e => swapsWith _ _ _ e = _) (by (with_reducible assumption)) ?_); intros; rfl))); (with_reducible apply Then.next))) | (((with_reducible apply Ex.cons); (with_reducible apply St.assignN); (case h => wtm_at "evn"); (case hx => wtm_at "at"); (case hk => wtm_at "lc"); (case hs => (intro _; wtm_at "set")); (case hsw => (first | rfl | ((refine EnvOk.open (P := fun e => swapsWith _ _ _ e = _) (by (with_reducible assumption)) ?_); intros; rfl))); intro _; (with_reducible apply Then.next))) | (((with_reducible apply Ex.cons); (with_reducible apply St.aug); (case hx => wtm_at "at"); (case hk => wtm_at "lc"); (case ha => wtm_at "at"); (case h => wtm_at "ev"); (case ho => (first | with_reducible exact ig_addN | with_reducible exact ig_xor | ((with_reducible apply ig_mulN); wtm_at "mulx"))); (case hs => wtm_at "set"); (with_reducible apply Then.next))) | (((with_reducible apply Ex.cons); (with_reducible apply St.setItem); (case hv => wtm_at "ev"); (case ho => wtm_at "ev"); (case hi => wtm_at "ev"); (case hj => wtm_at "at"); (case hs => (first | ((with_reducible apply sg_IL) <;> wtm_at "num") | ((with_reducible apply sg_listN) <;> wtm_at "num"))); (case hset => wtm_at "set"); (case hsw => (first | rfl | ((refine EnvOk.open (P := fun e => swapsWith _ _ _ e = _) (by (with_reducible assumption)) ?_); intros; rfl))); (with_reducible apply Then.next))) | (((with_reducible apply Ex.cons); (with_reducible apply St.meth); (case ho => wtm_at "ev"); (case hj => wtm_at "at"); (case hn => (first | exact ng_list PySem.F.slot_list_append (by kernel_rfl) | exact ng_list PySem.F.slot_list_extend (by kernel_rfl))); (case hes => wtm_at "evl"); (case F => (first | ((with_reducible apply mg_append); wtm_at "size"))); (case hset => wtm_at "set"); (case hi => exact interactive_ok (by (with_reducible assumption))); (case hs => rfl); (case he => rfl); (with_reducible apply Then.next))))
          refine Ex.consV [some (.int (length : Int)), some (.int (rounds : Int)), some (.ref a), some (.int ((rwIn length (rwS length i).2 (j + 1)).2 : Nat)), some (.int (i : Int)), some (.int ((rwIn length (rwS length i).2 (j + 1)).1 : Nat)), some (.int (j : Int)), none, none] ((a, .lst (IL (rwS length i).1)) :: (rw ++ rw')) (St.if (by wtm_at "evt") (fun h => ?_) (fun h => ?_)) ?_
          · (first | (((with_reducible apply Ex.cons); (with_reducible apply St.assign); (case h => wtm_at "ev"); (case hx => wtm_at "at"); (case hk => wtm_at "lc"); (case hs => wtm_at "set"); (case hsw => (first | rfl | ((refine EnvOk.open (P := fun e => swapsWith _ _ _ e = _) (by (with_reducible assumption)) ?_); intros; rfl))); (with_reducible apply Then.next))) | (((with_reducible apply Ex.cons); (with_reducible apply St.assignN); (case h => wtm_at "evn"); (case hx => wtm_at "at"); (case hk => wtm_at "lc"); (case hs => (intro _; wtm_at "set")); (case hsw => (first | rfl | ((refine EnvOk.open (P := fun e => swapsWith _ _ _ e = _) (by (with_reducible assumption)) ?_); intros; rfl))); intro _; (with_reducible apply Then.next))) | (((with_reducible apply Ex.cons); (with_reducible apply St.aug); (case hx => wtm_at "at"); (case hk => wtm_at "lc"); (case ha => wtm_at "at"); (case h => wtm_at "ev"); (case ho => (first | with_reducible exact ig_addN | with_reducible exact ig_xor | ((with_reducible apply ig_mulN); wtm_at "mulx"))); (case hs => wtm_at "set"); (with_reducible apply Then.next))) | (((with_reducible apply Ex.cons); (with_reducible apply St.setItem); (case hv => wtm_at "ev"); (case ho => wtm_at "ev"); (case hi => wtm_at "ev"); (case hj => wtm_at "at"); (case hs => (first | ((with_reducible apply sg_IL) <;> wtm_at "num") | ((with_reducible apply sg_listN) <;> wtm_at "num"))); (case hset => wtm_at "set"); (case hsw => (first | rfl | ((refine EnvOk.open (P := fun e => swapsWith _ _ _ e = _) (by (with_reducible assumption)) ?_); intros; rfl))); (with_reducible apply Then.next))) | (((with_reducible apply Ex.cons); (with_reducible apply St.meth); (case ho => wtm_at "ev"); (case hj => wtm_at "at"); (case hn => (first | exact ng_list PySem.F.slot_list_append (by kernel_rfl) | exact ng_list PySem.F.slot_list_extend (by kernel_rfl))); (case hes => wtm_at "evl"); (case F => (first | ((with_reducible apply mg_append); wtm_at "size"))); (case hset => wtm_at "set"); (case hi => exact interactive_ok (by (with_reducible assumption))); (case hs => rfl); (case he => rfl); (with_reducible apply Then.next))))
            refine Ex.nil ⟨rfl, ?_, rfl⟩
            simp only [rwIn, regN, h, if_true]
          · refine Ex.nil ⟨rfl, ?_, rfl⟩
            simp only [rwIn, regN, h, if_false, Bool.false_eq_true]
          · exact Ex.nil ⟨_, rfl, rfl, rfl⟩
      · rintro v o ⟨rfl, hv⟩
        refine Then.next (Ex.masked hv ?_)
        (first | (((with_reducible apply Ex.cons); (with_reducible apply St.assign); (case h => wtm_at "ev"); (case hx => wtm_at "at"); (case hk => wtm_at "lc"); (case hs => wtm_at "set"); (case hsw => (first | rfl | ((refine EnvOk.open (P := fun e => swapsWith _ _ _ e = _) (by (with_reducible assumption)) ?_); intros; rfl))); (with_reducible apply Then.next))) | (((with_reducible apply Ex.cons); (with_reducible apply St.assignN); (case h => wtm_at "evn"); (case hx => wtm_at "at"); (case hk => wtm_at "lc"); (case hs => (intro _; wtm_at "set")); (case hsw => (first | rfl | ((refine EnvOk.open (P := fun e => swapsWith _ _ _ e = _) (by (with_reducible assumption)) ?_); intros; rfl))); intro _; (with_reducible apply Then.next))) | (((with_reducible apply Ex.cons); (with_reducible apply St.aug); (case hx => wtm_at "at"); (case hk => wtm_at "lc"); (case ha => wtm_at "at"); (case h => wtm_at "ev"); (case ho => (first | with_reducible exact ig_addN | with_reducible exact ig_xor | ((with_reducible apply ig_mulN); wtm_at "mulx"))); (case hs => wtm_at "set"); (with_reducible apply Then.next))) | (((with_reducible apply Ex.cons); (with_reducible apply St.setItem); (case hv => wtm_at "ev"); (case ho => wtm_at "ev"); (case hi => wtm_at "ev"); (case hj => wtm_at "at"); (case hs => (first | ((with_reducible apply sg_IL) <;> wtm_at "num") | ((with_reducible apply sg_listN) <;> wtm_at "num"))); (case hset => wtm_at "set"); (case hsw => (first | rfl | ((refine EnvOk.open (P := fun e => swapsWith _ _ _ e = _) (by (with_reducible assumption)) ?_); intros; rfl))); (with_reducible apply Then.next))) | (((with_reducible apply Ex.cons); (with_reducible apply St.meth); (case ho => wtm_at "ev"); (case hj => wtm_at "at"); (case hn => (first | exact ng_list PySem.F.slot_list_append (by kernel_rfl) | exact ng_list PySem.F.slot_list_extend (by kernel_rfl))); (case hes => wtm_at "evl"); (case F => (first | ((with_reducible apply mg_append); wtm_at "size"))); (case hset => wtm_at "set"); (case hi => exact interactive_ok (by (with_reducible assumption))); (case hs => rfl); (case he => rfl); (with_reducible apply Then.next))))
        refine Ex.nil ⟨[_], rfl, ?_⟩
        simp only [rwS, IL_one, IL_append]
        exact ⟨trivial, rfl⟩
    · rintro v o ⟨rfl, hv⟩
      refine Then.next (Ex.masked hv (Ex.cons (St.ret (by wtm_at "ev") ⟨a, rfl, .head _⟩)))
end
end

section
section
variable {prog : Program} {w : World} {hB : Heap} {D : Nat} {P : Params}
theorem shl_inj : ∀ i, i < 7 → ∀ j, j < 7 → (1 <<< i == 1 <<< j) = (i == j) := by decide +kernel
theorem logarithm_spec (G : GH (heapK P) hB) (l : Nat) (h1 : l < 7) : FnP prog w hB 2 41 [.int ((1 <<< l : Nat) : Int)] (.int (l : Int)) := by
  refine' FnP.scalE (nz := 3) G ?ho ?hcd ?hok ?hl ?hb rfl ?h
  case ho => k_is
  case hcd => k_is
  case hok => decide +kernel
  case hl => rfl
  case hb => ((intro vs hv; rcases vs with _ | ⟨a0, _ | ⟨a1, _ | ⟨a2, _ | ⟨a3, _ | ⟨a4, _ | ⟨a5, _ | ⟨a6, vs⟩⟩⟩⟩⟩⟩⟩ <;> first | (simp at hv; done) | rfl))
  case h =>
    intro ε env hE
    simp only [initVals, List.map_cons, List.map_nil, List.replicate, List.nil_append, List.cons_append]
    refine Ex.cons (St.forR (fun i v o => i ≤ l ∧ o = [] ∧ ∃ n, v = [some (.int ((1 <<< l : Nat) : Int)), n, none, none]) (by wtm_at "it") (by wtm_at "at") (by wtm_at "lc") ⟨by (first | lia | omega), rfl, _, rfl⟩ (fun i v o h => by obtain ⟨_, _, n, rfl⟩ := h; ((simp only [List.length_cons, List.length_nil]; (first | lia | omega)))) ?_ ?_)
    · rintro i v o rw hi ⟨hle, rfl, n, rfl⟩
      (simp only [List.set_cons_succ, List.set_cons_zero, List.cons_append, List.nil_append])
      refine Ex.cons (St.if (by wtm_at "evt") (fun h => ?_) (fun h => ?_))
      · rw [shl_inj i hi l h1] at h
        obtain rfl : i = l := by simpa using h
        exact Ex.cons (St.ret (by wtm_at "ev") ⟨[], rfl, rfl⟩)
      · rw [shl_inj i hi l h1] at h
        have : i ≠ l := by simpa using h
        exact Ex.nil (Ex.nil ⟨[], rfl, by (first | lia | omega), rfl, _, rfl⟩)
    · rintro v o ⟨hle, rfl, n, rfl⟩
      (first | lia | omega)
local macro_rules | `(tactic| wtm_at "fn") => `(tactic| first
  | ((with_reducible apply logarithm_spec) <;> first | (with_reducible assumption) | (first | lia | omega))
  | ((with_reducible apply rotations_spec) <;> first | (with_reducible assumption) | (first | lia | omega))
  | ((with_reducible apply round_words_spec) <;> first | (with_reducible assumption) | (first | lia | omega)))
theorem lane_pos : ∀ l, l < 7 → 1 ≤ 1 <<< l ∧ 1 <<< l ≤ 64 := by decide +kernel
theorem init_spec (G : GH (heapK P) hB) (l : Nat) (h1 : l < 7) : FnI prog w hB 4 96 69 [.int ((1 <<< l : Nat) : Int)] ["lane", "mask", "turns", "words"] [.int ((1 <<< l : Nat) : Int), .int (((1 <<< (1 <<< l)) - 1 : Nat) : Int), .lst (PL (rotS (1 <<< l) 24).1), .lst (IL (rwS l (12 + 2 * l)).1)] := fun dx => by
  obtain ⟨k1, k2⟩ := lane_pos l h1
  have k3 : 1 ≤ 1 <<< (1 <<< l) := by rw [Nat.shiftLeft_eq, Nat.one_mul]; exact Nat.two_pow_pos _
  refine' FnM.mk (nz := 4) G ?ho ?hcd ?hok ?hl ?hb ?h
  case ho => k_is
  case hcd => k_is
  case hok => decide +kernel
  case hl => rfl
  case hb => ((intro vs hv; rcases vs with _ | ⟨a0, _ | ⟨a1, _ | ⟨a2, _ | ⟨a3, _ | ⟨a4, _ | ⟨a5, _ | ⟨a6, vs⟩⟩⟩⟩⟩⟩⟩ <;> first | (simp at hv; done) | rfl))
  case h =>
    intro ε env hE
    simp only [initVals, List.map_cons, List.map_nil, List.replicate, List.nil_append, List.cons_append]
    (((with_reducible apply Ex.cons); (with_reducible apply St.assign); (case h => wtm_at "ev"); (case hx => wtm_at "at"); (case hk => wtm_at "lc"); (case hs => wtm_at "set"); (case hsw => (first | rfl | ((refine EnvOk.open (P := fun e => swapsWith _ _ _ e = _) (by (with_reducible assumption)) ?_); intros; rfl))); (with_reducible apply Then.next)))
    (((with_reducible apply Ex.cons); (with_reducible apply St.setAttr); (case G => (with_reducible assumption)); (case ho => wtm_at "ev"); (case hs => k_is); (case hp => k_is); (case ht => k_is); (case hh => k_is); (case hv => first | wtm_at "ev" | ((with_reducible apply EvN.toEv); wtm_at "evn")); (case hj => wtm_at "at"); (case hn => rfl); (case hz => decide); (case hset => wtm_at "set"); (case hsw => (first | rfl | ((refine EnvOk.open (P := fun e => swapsWith _ _ _ e = _) (by (with_reducible assumption)) ?_); intros; rfl))); (with_reducible apply Then.next)))
    simp only [List.nil_append]
    (((with_reducible apply Ex.cons); (with_reducible apply St.setAttr); (case G => (with_reducible assumption)); (case ho => wtm_at "ev"); (case hs => k_is); (case hp => k_is); (case ht => k_is); (case hh => k_is); (case hv => first | wtm_at "ev" | ((with_reducible apply EvN.toEv); wtm_at "evn")); (case hj => wtm_at "at"); (case hn => rfl); (case hz => decide); (case hset => wtm_at "set"); (case hsw => (first | rfl | ((refine EnvOk.open (P := fun e => swapsWith _ _ _ e = _) (by (with_reducible assumption)) ?_); intros; rfl))); (with_reducible apply Then.next)))
    simp only [List.nil_append, List.cons_append]
    (((with_reducible apply Ex.cons); (with_reducible apply St.setAttr); (case G => (with_reducible assumption)); (case ho => wtm_at "ev"); (case hs => k_is); (case hp => k_is); (case ht => k_is); (case hh => k_is); (case hv => first | wtm_at "ev" | ((with_reducible apply EvN.toEv); wtm_at "evn")); (case hj => wtm_at "at"); (case hn => rfl); (case hz => decide); (case hset => wtm_at "set"); (case hsw => (first | rfl | ((refine EnvOk.open (P := fun e => swapsWith _ _ _ e = _) (by (with_reducible assumption)) ?_); intros; rfl))); (with_reducible apply Then.next)))
    simp only [List.nil_append, List.cons_append]
    (((with_reducible apply Ex.cons); (with_reducible apply St.setAttr); (case G => (with_reducible assumption)); (case ho => wtm_at "ev"); (case hs => k_is); (case hp => k_is); (case ht => k_is); (case hh => k_is); (case hv => first | wtm_at "ev" | ((with_reducible apply EvN.toEv); wtm_at "evn")); (case hj => wtm_at "at"); (case hn => rfl); (case hz => decide); (case hset => wtm_at "set"); (case hsw => (first | rfl | ((refine EnvOk.open (P := fun e => swapsWith _ _ _ e = _) (by (with_reducible assumption)) ?_); intros; rfl))); (with_reducible apply Then.next)))
    simp only [List.nil_append, List.cons_append]
    exact Ex.nil ⟨0, _, .none, .head, .next, rfl, rfl⟩
end
end

section
section
variable {prog : Program} {w : World} {hB : Heap} {D : Nat} {P : Params}
theorem spongeOk : ClsOk (heapK P) 96 := ⟨by k_is, by k_is, _, by k_is, rfl⟩
noncomputable def rotF (w word b : Nat) : Nat := (word <<< b ||| word >>> (w - b)) &&& (1 <<< w - 1)
noncomputable abbrev spg (w : Nat) (turns : List (Nat × Nat)) (words : List Nat) : AV := .obj 96 ["lane", "mask", "turns", "words"] [.int (w : Int), .int ((1 <<< w - 1 : Nat) : Int), .lst (PL turns), .lst (IL words)]
theorem turned_spec (G : GH (heapK P) hB) (w' word b : Nat) (turns : List (Nat × Nat)) (words : List Nat) (h1 : b ≤ w') (h2 : w' ≤ 64) (h3 : word < 2 ^ 64) : FnP prog w hB 2 76 [spg w' turns words, .int (word : Int), .int (b : Int)] (.int ((rotF w' word b : Nat) : Int)) := by
  unfold rotF
  refine' FnP.scalE (nz := 0) G ?ho ?hcd ?hok ?hl ?hb rfl ?h
  case ho => k_is
  case hcd => k_is
  case hok => decide +kernel
  case hl => rfl
  case hb => ((intro vs hv; rcases vs with _ | ⟨a0, _ | ⟨a1, _ | ⟨a2, _ | ⟨a3, _ | ⟨a4, _ | ⟨a5, _ | ⟨a6, vs⟩⟩⟩⟩⟩⟩⟩ <;> first | (simp at hv; done) | rfl))
  case h =>
    intro ε env hE
    simp only [initVals, List.map_cons, List.map_nil, List.replicate, List.append_nil]
    have hS := spongeOk (P := P)
    exact Ex.cons (St.ret (by wtm_at "ev") rfl)
theorem PL_get {l : List (Nat × Nat)} {i : Nat} (h : i < l.length) : (PL l)[i]? = some (AV.tup [.int (((l.getD i (0, 0)).1 : Nat) : Int), .int (((l.getD i (0, 0)).2 : Nat) : Int)]) := by
  unfold PL
  rw [List.getElem?_map, List.getElem?_eq_getElem h, List.getD_eq_getElem?_getD, List.getElem?_eq_getElem h]; rfl
theorem Ev.itemPL {env : Env} {ns : List (Str × NameKind)} {vals : List (Option AV)} {own : List (Addr × MO)} {v sl : Expr} {pos : Pos} {av : AV} {l : List (Nat × Nat)} {k : Nat} (hv : Ev prog w hB D env ns vals own v av) (hl : LV own av (PL l)) (hi : Ev prog w hB D env ns vals own sl (.int (k : Int))) (hk : k < l.length) (hz : l.length ≤ 2 ^ 62)
    (hs : ∀ o i, subscripted sl false o i = operate [o, i] (getItem o i) := by intro _ _; rfl) : Ev prog w hB D env ns vals own (.Subscript v sl pos) (.tup [.int (((l.getD k (0, 0)).1 : Nat) : Int), .int (((l.getD k (0, 0)).2 : Nat) : Int)]) :=
  Ev.item hv hl hi (by (first | lia | omega)) (by (first | lia | omega)) (PL_get hk) hs
local macro_rules | `(tactic| wtm_at "fn") => `(tactic| ((with_reducible apply turned_spec) <;> wtm_at "num"))
noncomputable def colsF (a : List Nat) : List Nat := (List.range 5).map fun x => a.getD x 0 ^^^ a.getD (x + 5) 0 ^^^ a.getD (x + 10) 0 ^^^ a.getD (x + 15) 0 ^^^ a.getD (x + 20) 0
noncomputable def sidesF (w : Nat) (c : List Nat) : List Nat := (List.range 5).map fun x => c.getD ((x + c.length - 1) % c.length) 0 ^^^ rotF w (c.getD ((x + 1) % 5) 0) (1 % w)
noncomputable def movS (w : Nat) (turns : List (Nat × Nat)) (a s : List Nat) : Nat → List Nat
  | 0 => List.replicate 25 0
  | i + 1 => (movS w turns a s i).set (turns.getD i (0, 0)).2 (rotF w (a.getD i 0 ^^^ s.getD (i % 5) 0) (turns.getD i (0, 0)).1)
noncomputable def chiF (w : Nat) (m : List Nat) (r x : Nat) : Nat := m.getD (r + x) 0 ^^^ (m.getD (r + (x + 2) % 5) 0 &&& (m.getD (r + (x + 1) % 5) 0 ^^^ (1 <<< w - 1)))
noncomputable def chiS (w : Nat) (m : List Nat) (i j : Nat) : List Nat := ((List.range i).flatMap fun r => (List.range 5).map (chiF w m (r * 5))) ++ (List.range j).map (chiF w m (i * 5))
theorem chiS_row {w : Nat} {m : List Nat} {i : Nat} : chiS w m i 5 = chiS w m (i + 1) 0 := by
  unfold chiS; rw [List.range_succ (n := i), List.flatMap_append]; simp
theorem chiS_one {w : Nat} {m : List Nat} {i j : Nat} : chiS w m i j ++ [chiF w m (i * 5) j] = chiS w m i (j + 1) := by
  unfold chiS; rw [List.range_succ (n := j), List.map_append, List.append_assoc]; rfl
theorem chiS_len {w : Nat} {m : List Nat} {i j : Nat} : (chiS w m i j).length = i * 5 + j := by
  unfold chiS; induction i with
  | zero => simp
  | succ i ih => rw [List.range_succ (n := i), List.flatMap_append]; simp at ih ⊢; (first | lia | omega)
noncomputable def mixF (w : Nat) (turns : List (Nat × Nat)) (a : List Nat) : List Nat := chiS w (movS w turns a (sidesF w (colsF a)) 25) 5 0
theorem movS_len {w : Nat} {turns : List (Nat × Nat)} {a s : List Nat} : ∀ i, (movS w turns a s i).length = 25
  | 0 => by simp [movS]
  | i + 1 => by rw [movS, List.length_set, movS_len i]
theorem mixed_spec (G : GH (heapK P) hB) (w' : Nat) (turns : List (Nat × Nat)) (words a : List Nat) (h0 : 1 ≤ w') (h2 : w' ≤ 64) (ha : a.length = 25) (hA : ∀ i, a.getD i 0 < 2 ^ 64) (hc : ∀ i, (colsF a).getD i 0 < 2 ^ 64) (hs : ∀ i j, a.getD i 0 ^^^ (sidesF w' (colsF a)).getD j 0 < 2 ^ 64) (ht : turns.length = 25) (hT : ∀ i, (turns.getD i (0, 0)).1 ≤ w') (hT2 : ∀ i, (turns.getD i (0, 0)).2 < 25) : FnN prog w hB 4 81 [spg w' turns words, .lst (IL a)] (.lst (IL (mixF w' turns a))) := by
  refine' FnN.flatE (nz := 12) G ?ho ?hcd ?hok ?hl ?hb ?ha ?h
  case ho => k_is
  case hcd => k_is
  case hok => decide +kernel
  case hl => rfl
  case hb => ((intro vs hv; rcases vs with _ | ⟨a0, _ | ⟨a1, _ | ⟨a2, _ | ⟨a3, _ | ⟨a4, _ | ⟨a5, _ | ⟨a6, vs⟩⟩⟩⟩⟩⟩⟩ <;> first | (simp at hv; done) | rfl))
  case ha => exact IL_scal
  case h =>
    intro ε env hE
    simp only [initVals, List.map_cons, List.map_nil, List.replicate, List.nil_append, List.cons_append]
    have hS := spongeOk (P := P)
    (((with_reducible apply Ex.cons); (with_reducible apply St.assign); (case h => ((with_reducible apply EvN.toEv); wtm_at "evn")); (case hx => wtm_at "at"); (case hk => wtm_at "lc"); (case hs => wtm_at "set"); (case hsw => (first | rfl | ((refine EnvOk.open (P := fun e => swapsWith _ _ _ e = _) (by (with_reducible assumption)) ?_); intros; rfl))); (with_reducible apply Then.next)))
    have hc' := hc
    have hm1 : 1 % w' ≤ w' := Nat.le_of_lt (Nat.mod_lt _ h0)
    have hcl : (colsF a).length = 5 := by simp [colsF]
    have e : (List.range 5).map (fun x => a.getD x 0 ^^^ a.getD (x + 5) 0 ^^^ a.getD (x + 10) 0 ^^^ a.getD (x + 15) 0 ^^^ a.getD (x + 20) 0) = colsF a := rfl
    rw [e]
    (((with_reducible apply Ex.cons); (with_reducible apply St.assignCompN); (case hit => wtm_at "it"); (case hcap => wtm_at "cap"); (case hx => wtm_at "at"); (case hk => first | exact .inl rfl | exact .inr ⟨rfl, by decide +kernel⟩); (case hsz => wtm_at "num"); (case helt => ((intro i C hi); (simp only [List.set_cons_succ, List.set_cons_zero, List.cons_append, List.nil_append]); wtm_at "ev")); (case hy => wtm_at "at"); (case hset => (intro _; wtm_at "set")); (case hsw => (first | rfl | ((refine EnvOk.open (P := fun e => swapsWith _ _ _ e = _) (by (with_reducible assumption)) ?_); intros; rfl))); (case hnd => decide +kernel); (case hkind => rfl); (case hlx => decide +kernel); (case hs => intro _; rfl); (intro _); (with_reducible apply Then.next)))
    rename_i sd
    have e : (List.range 5).map (fun x => (colsF a).getD ((x + (colsF a).length - 1) % (colsF a).length) 0 ^^^ rotF w' ((colsF a).getD ((x + 1) % 5) 0) (1 % w')) = sidesF w' (colsF a) := rfl
    rw [e]
    (((with_reducible apply Ex.cons); (with_reducible apply St.assignN); (case h => wtm_at "evn"); (case hx => wtm_at "at"); (case hk => wtm_at "lc"); (case hs => (intro _; wtm_at "set")); (case hsw => (first | rfl | ((refine EnvOk.open (P := fun e => swapsWith _ _ _ e = _) (by (with_reducible assumption)) ?_); intros; rfl))); intro _; (with_reducible apply Then.next)))
    rename_i mv
    simp only [IL_rep]
    have hsl : (sidesF w' (colsF a)).length = 5 := by simp [sidesF]
    have hml : ∀ i, (movS w' turns a (sidesF w' (colsF a)) i).length = 25 := movS_len
    refine Ex.cons (St.forM [true, true, false, true, true, true, false, false, false, false, false, false, false, false] (fun i v o => o = [(mv, .lst (IL (movS w' turns a (sidesF w' (colsF a)) i))), (sd, .lst (IL (sidesF w' (colsF a))))] ∧ v = [some (spg w' turns words), some (.lst (IL a)), none, some (.lst (IL (colsF a))), some (.ref sd), some (.ref mv), none, none, none, none, none, none, none, none]) (by wtm_at "it") (by wtm_at "at") (by wtm_at "lc") ⟨rfl, rfl⟩ (fun i v o h => by obtain ⟨_, rfl⟩ := h; ((simp only [List.length_cons, List.length_nil]; (first | lia | omega)))) ?_ ?_)
    · rintro i v o rw hi ⟨rfl, rfl⟩
      have hmi := hml i
      (simp only [List.set_cons_succ, List.set_cons_zero, List.cons_append, List.nil_append])
      refine Ex.cons (St.tup (by wtm_at "nms") (EvS.ofEv (Ev.itemPL (by wtm_at "ev") (by wtm_at "lv") (by wtm_at "ev") (by wtm_at "num") (by wtm_at "num")) ⟨_, _, rfl, rfl, by wtm_at "sts", Then.next ?_⟩) (by rfl) (by (first | rfl | ((refine EnvOk.open (P := fun e => swappedStores _ _ e = _) (by (with_reducible assumption)) ?_); intros; rfl))))
      have hg := hT2 i
      have hb' := hT i
      have hx' := hs i (i % 5)
      (with_reducible apply Ex.cons); (with_reducible apply St.setItem)
      case hv =>
        (with_reducible apply Ev.meth)
        case G => assumption
        case ho => wtm_at "ev"
        case hc => assumption
        case hm => k_is
        case hk => k_is
        case ht => k_is
        case hn => decide +kernel
        case hes => wtm_at "evl"
        case ha => wtm_at "hnds"
        case F => wtm_at "fn"
        case hd => decide
        case he => rfl
      case ho => wtm_at "ev"
      case hi => wtm_at "ev"
      case hj => wtm_at "at"
      case hs => (first | ((with_reducible apply sg_IL) <;> wtm_at "num") | ((with_reducible apply sg_listN) <;> wtm_at "num"))
      case hset => wtm_at "set"
      case hsw => rfl
      (with_reducible apply Then.next)
      exact Ex.nil ⟨[_, _], rfl, rfl, rfl⟩
    · rintro v o ⟨rfl, hv⟩
      refine Then.next (Ex.masked hv ?_)
      (((with_reducible apply Ex.cons); (with_reducible apply St.assignN); (case h => wtm_at "evn"); (case hx => wtm_at "at"); (case hk => wtm_at "lc"); (case hs => (intro _; wtm_at "set")); (case hsw => (first | rfl | ((refine EnvOk.open (P := fun e => swapsWith _ _ _ e = _) (by (with_reducible assumption)) ?_); intros; rfl))); intro _; (with_reducible apply Then.next)))
      rename_i fo
      have hm25 := hml 25
      unfold mixF
      generalize movS w' turns a (sidesF w' (colsF a)) 25 = m at hm25
      refine Ex.cons (St.forM [true, true, false, true, true, true, false, false, false, true, false, false, false, false] (fun i v o => o = [(fo, .lst (IL (chiS w' m i 0))), (mv, .lst (IL m)), (sd, .lst (IL (sidesF w' (colsF a))))] ∧ v = [some (spg w' turns words), some (.lst (IL a)), none, some (.lst (IL (colsF a))), some (.ref sd), some (.ref mv), none, none, none, some (.ref fo), none, none, none, none]) (by wtm_at "it") (by wtm_at "at") (by wtm_at "lc") ⟨rfl, rfl⟩ (fun i v o h => by obtain ⟨_, rfl⟩ := h; ((simp only [List.length_cons, List.length_nil]; (first | lia | omega)))) ?_ ?_)
      · rintro i v o rw hi ⟨rfl, rfl⟩
        have hi5 : i < 5 := by (first | lia | omega)
        (simp only [List.set_cons_succ, List.set_cons_zero, List.cons_append, List.nil_append])
        refine Ex.cons (St.forM [true, true, false, true, true, true, false, false, false, true, true, false, false, false] (fun j v o => o = (fo, .lst (IL (chiS w' m i j))) :: (mv, .lst (IL m)) :: (sd, .lst (IL (sidesF w' (colsF a)))) :: rw ∧ v = [some (spg w' turns words), some (.lst (IL a)), none, some (.lst (IL (colsF a))), some (.ref sd), some (.ref mv), none, none, none, some (.ref fo), some (.int ((0 + i * 5 : Nat) : Int)), none, none, none]) (by wtm_at "it") (by wtm_at "at") (by wtm_at "lc") ⟨rfl, rfl⟩ (fun i v o h => by obtain ⟨_, rfl⟩ := h; ((simp only [List.length_cons, List.length_nil]; (first | lia | omega)))) ?_ ?_)
        · rintro j v o rw' hj ⟨rfl, rfl⟩
          (simp only [List.set_cons_succ, List.set_cons_zero, List.cons_append, List.nil_append])
          have hlen := chiS_len (w := w') (m := m) (i := i) (j := j)
          (((with_reducible apply Ex.cons); (with_reducible apply St.assign); (case h => wtm_at "ev"); (case hx => wtm_at "at"); (case hk => wtm_at "lc"); (case hs => wtm_at "set"); (case hsw => (first | rfl | ((refine EnvOk.open (P := fun e => swapsWith _ _ _ e = _) (by (with_reducible assumption)) ?_); intros; rfl))); (with_reducible apply Then.next)))
          (((with_reducible apply Ex.cons); (with_reducible apply St.meth); (case ho => wtm_at "ev"); (case hj => wtm_at "at"); (case hn => (first | exact ng_list PySem.F.slot_list_append (by kernel_rfl) | exact ng_list PySem.F.slot_list_extend (by kernel_rfl))); (case hes => wtm_at "evl"); (case F => (first | ((with_reducible apply mg_append); wtm_at "size"))); (case hset => wtm_at "set"); (case hi => exact interactive_ok (by (with_reducible assumption))); (case hs => rfl); (case he => rfl); (with_reducible apply Then.next)))
          refine Ex.nil ⟨_ :: _ :: _ :: _, rfl, ?_, rfl⟩
          simp only [Nat.zero_add, IL_one, IL_append]
          rw [← chiS_one]
          rfl
        · rintro v o ⟨rfl, hv⟩
          refine Then.next (Ex.masked hv (Ex.nil ⟨[_, _, _], rfl, ?_, rfl⟩))
          rw [← chiS_row]
      · rintro v o ⟨rfl, hv⟩
        refine Then.next (Ex.masked hv (Ex.cons (St.ret (by wtm_at "ev") ⟨fo, rfl, .head _⟩)))
end
end

section
section
variable {prog : Program} {w : World} {hB : Heap} {D : Nat} {P : Params}
structure LOk (w : Nat) (a : List Nat) : Prop where
  len : a.length = 25
  lt : ∀ i, a.getD i 0 < 2 ^ w
theorem rotF_lt {w x b : Nat} : rotF w x b < 2 ^ w := by
  unfold rotF
  refine Nat.lt_of_le_of_lt Nat.and_le_right ?_
  rw [Nat.shiftLeft_eq, Nat.one_mul]
  have := Nat.two_pow_pos w
  (first | lia | omega)
theorem getD_map_range {n : Nat} {f : Nat → Nat} {i : Nat} : ((List.range n).map f).getD i 0 = if i < n then f i else 0 := by
  rw [List.getD_eq_getElem?_getD, List.getElem?_map]
  split
  · rename_i h; rw [List.getElem?_range h]; rfl
  · rename_i h; rw [List.getElem?_eq_none (by simpa using h)]; rfl
theorem cols_lt {w : Nat} {a : List Nat} (h : LOk w a) (i : Nat) : (colsF a).getD i 0 < 2 ^ w := by
  unfold colsF
  rw [getD_map_range]
  split
  · exact Nat.xor_lt_two_pow (Nat.xor_lt_two_pow (Nat.xor_lt_two_pow (Nat.xor_lt_two_pow (h.lt _) (h.lt _)) (h.lt _)) (h.lt _)) (h.lt _)
  · exact Nat.two_pow_pos w
theorem sides_lt {w : Nat} {c : List Nat} (h : ∀ i, c.getD i 0 < 2 ^ w) (i : Nat) : (sidesF w c).getD i 0 < 2 ^ w := by
  unfold sidesF
  rw [getD_map_range]
  split
  · exact Nat.xor_lt_two_pow (h _) rotF_lt
  · exact Nat.two_pow_pos w
theorem getD_set {l : List Nat} {i j x : Nat} : (l.set i x).getD j 0 = if i = j ∧ i < l.length then x else l.getD j 0 := by
  rw [List.getD_eq_getElem?_getD, List.getElem?_set, List.getD_eq_getElem?_getD]
  by_cases h : i = j
  · subst h
    by_cases h2 : i < l.length
    · simp [h2]
    · simp [h2]
  · simp [h]
theorem movS_lt {w : Nat} {turns : List (Nat × Nat)} {a s : List Nat} : ∀ i j, (movS w turns a s i).getD j 0 < 2 ^ w
  | 0, j => by
    rw [movS, List.getD_eq_getElem?_getD, List.getElem?_replicate]
    split <;> exact Nat.two_pow_pos w
  | i + 1, j => by
    rw [movS, getD_set]
    split
    · exact rotF_lt
    · exact movS_lt i j
theorem chiF_lt {w : Nat} {m : List Nat} (h : ∀ j, m.getD j 0 < 2 ^ w) (r x : Nat) : chiF w m r x < 2 ^ w :=
  Nat.xor_lt_two_pow (h _) (Nat.lt_of_le_of_lt Nat.and_le_left (h _))
theorem chiS_mem {w : Nat} {m : List Nat} (h : ∀ j, m.getD j 0 < 2 ^ w) {i j : Nat} : ∀ x ∈ chiS w m i j, x < 2 ^ w := by
  intro x hx
  unfold chiS at hx
  rcases List.mem_append.mp hx with hx | hx
  · obtain ⟨r, _, hx⟩ := List.mem_flatMap.mp hx
    obtain ⟨y, _, rfl⟩ := List.mem_map.mp hx
    exact chiF_lt h _ _
  · obtain ⟨y, _, rfl⟩ := List.mem_map.mp hx
    exact chiF_lt h _ _
theorem getD_lt {l : List Nat} {n : Nat} (h : ∀ x ∈ l, x < 2 ^ n) (i : Nat) : l.getD i 0 < 2 ^ n := by
  rw [List.getD_eq_getElem?_getD]
  cases e : l[i]? with
  | none => exact Nat.two_pow_pos n
  | some x => exact h x (List.mem_of_getElem? e)
theorem mixF_ok {w : Nat} {turns : List (Nat × Nat)} {a : List Nat} : LOk w (mixF w turns a) :=
  ⟨by unfold mixF; rw [chiS_len], fun i => getD_lt (chiS_mem (movS_lt 25)) i⟩
structure TOk (w : Nat) (turns : List (Nat × Nat)) : Prop where
  len : turns.length = 25
  by' : ∀ i, (turns.getD i (0, 0)).1 ≤ w
  goal : ∀ i, (turns.getD i (0, 0)).2 < 25
noncomputable def permS (w : Nat) (turns : List (Nat × Nat)) (words a : List Nat) : Nat → List Nat
  | 0 => a
  | i + 1 => (mixF w turns (permS w turns words a i)).set 0 ((mixF w turns (permS w turns words a i)).getD 0 0 ^^^ words.getD i 0)
theorem permS_ok {w : Nat} {turns : List (Nat × Nat)} {words a : List Nat} (ha : LOk w a) (hw : ∀ i, words.getD i 0 < 2 ^ w) : ∀ i, LOk w (permS w turns words a i)
  | 0 => ha
  | i + 1 => by
    have h := mixF_ok (w := w) (turns := turns) (a := permS w turns words a i)
    refine ⟨by rw [permS, List.length_set, h.len], fun j => ?_⟩
    rw [permS, getD_set]
    split
    · exact Nat.xor_lt_two_pow (h.lt _) (hw _)
    · exact h.lt _
noncomputable def permF (w : Nat) (turns : List (Nat × Nat)) (words a : List Nat) : List Nat := permS w turns words a words.length
theorem mixed_ok (G : GH (heapK P) hB) (w' : Nat) (turns : List (Nat × Nat)) (words a : List Nat) (h0 : 1 ≤ w') (h2 : w' ≤ 64) (ha : LOk w' a) (ht : TOk w' turns) : FnN prog w hB 4 81 [spg w' turns words, .lst (IL a)] (.lst (IL (mixF w' turns a))) := by
  have hp : 2 ^ w' ≤ 2 ^ 64 := Nat.pow_le_pow_right (by decide) h2
  exact mixed_spec G w' turns words a h0 h2 ha.len (fun i => Nat.lt_of_lt_of_le (ha.lt i) hp) (fun i => Nat.lt_of_lt_of_le (cols_lt ha i) hp) (fun i j => Nat.lt_of_lt_of_le (Nat.xor_lt_two_pow (ha.lt i) (sides_lt (cols_lt ha) j)) hp) ht.len ht.by' ht.goal
theorem permuted_spec (G : GH (heapK P) hB) (w' : Nat) (turns : List (Nat × Nat)) (words a : List Nat) (h0 : 1 ≤ w') (h2 : w' ≤ 64) (ha : LOk w' a) (ht : TOk w' turns) (hw : ∀ i, words.getD i 0 < 2 ^ w') (hwl : words.length ≤ 100) : FnN prog w hB 6 88 [spg w' turns words, .lst (IL a)] (.lst (IL (permF w' turns words a))) := by
  refine' FnN.flatE (nz := 3) G ?ho ?hcd ?hok ?hl ?hb ?ha ?h
  case ho => k_is
  case hcd => k_is
  case hok => decide +kernel
  case hl => rfl
  case hb => ((intro vs hv; rcases vs with _ | ⟨a0, _ | ⟨a1, _ | ⟨a2, _ | ⟨a3, _ | ⟨a4, _ | ⟨a5, _ | ⟨a6, vs⟩⟩⟩⟩⟩⟩⟩ <;> first | (simp at hv; done) | rfl))
  case ha => exact IL_scal
  case h =>
    intro ε env hE
    simp only [initVals, List.map_cons, List.map_nil, List.replicate, List.nil_append, List.cons_append]
    have hS := spongeOk (P := P)
    have hal := ha.len
    (((with_reducible apply Ex.cons); (with_reducible apply St.assignN); (case h => wtm_at "evn"); (case hx => wtm_at "at"); (case hk => wtm_at "lc"); (case hs => (intro _; wtm_at "set")); (case hsw => (first | rfl | ((refine EnvOk.open (P := fun e => swapsWith _ _ _ e = _) (by (with_reducible assumption)) ?_); intros; rfl))); intro _; (with_reducible apply Then.next)))
    rename_i fo
    refine Ex.cons (St.forR (fun i v o => ∃ fo, o = [(fo, .lst (IL (permS w' turns words a i)))] ∧ ∃ x, v = [some (spg w' turns words), some (.lst (IL a)), some (.ref fo), x, none]) (EvIt.IL (by wtm_at "ev")) (by wtm_at "at") (by wtm_at "lc") ⟨_, rfl, _, rfl⟩ (fun i v o h => by obtain ⟨_, _, p, rfl⟩ := h; ((simp only [List.length_cons, List.length_nil]; (first | lia | omega)))) ?_ ?_)
    · rintro i v o rw hi ⟨fo', rfl, x, rfl⟩
      have hp := permS_ok (turns := turns) (words := words) ha hw i
      have F := mixed_ok (prog := prog) (w := w) G w' turns words _ h0 h2 hp ht
      have hm := (mixF_ok (w := w') (turns := turns) (a := permS w' turns words a i)).len
      (simp only [List.set_cons_succ, List.set_cons_zero, List.cons_append, List.nil_append])
      (((with_reducible apply Ex.cons); (with_reducible apply St.assignN); (case h => (((with_reducible apply EvN.meth); (case G => (with_reducible assumption)); (case ho => wtm_at "ev"); (case hc => (with_reducible assumption)); (case hm => k_is); (case hk => k_is); (case ht => k_is); (case hn => decide +kernel); (case hes => wtm_at "evl"); (case ha => wtm_at "hnds"); (case F => wtm_at "fn"); (case hd => decide); (case he => rfl)))); (case hx => wtm_at "at"); (case hk => wtm_at "lc"); (case hs => (intro _; wtm_at "set")); (case hsw => (first | rfl | ((refine EnvOk.open (P := fun e => swapsWith _ _ _ e = _) (by (with_reducible assumption)) ?_); intros; rfl))); intro _; (with_reducible apply Then.next)))
      refine Ex.drop (.tail .head) ?_
      (((with_reducible apply Ex.cons); (with_reducible apply St.augItem); (case ho => wtm_at "ev"); (case hi => wtm_at "ev"); (case hj => wtm_at "at"); (case hg => (first | ((with_reducible apply gg_IL) <;> wtm_at "num"))); (case hv => wtm_at "ev"); (case hop => (first | with_reducible exact ig_addN | with_reducible exact ig_xor | ((with_reducible apply ig_mulN); wtm_at "mulx"))); (case hs => (first | ((with_reducible apply sg_IL) <;> wtm_at "num") | ((with_reducible apply sg_listN) <;> wtm_at "num"))); (case hset => wtm_at "set"); (case haug => intro _ _ _; rfl); (with_reducible apply Then.next)))
      exact Ex.nil ⟨[_], rfl, _, rfl, _, rfl⟩
    · rintro v o ⟨fo', rfl, x, rfl⟩
      refine Then.next (Ex.cons (St.ret (by wtm_at "ev") ⟨fo', rfl, .head _⟩))
end
end

section
section
variable {prog : Program} {w : World} {hB : Heap} {D : Nat} {P : Params}
theorem padded_spec (G : GH (heapK P) hB) (l : List Nat) (rate pad : Nat) (h : ∀ x ∈ l, x < 256) (hr : 0 < rate) (hp : pad < 128) (hz : l.length + rate ≤ 1000000) : FnD prog w hB 2 107 [.bytes (BY l), .int (rate : Int), .int (pad : Int)] (.bytes (BY (padF l rate pad))) := by
  refine' FnD.mk (nz := 5) G ?ho ?hcd ?hok ?hl ?hb rfl ?h
  case ho => k_is
  case hcd => k_is
  case hok => decide +kernel
  case hl => rfl
  case hb => ((intro vs hv; rcases vs with _ | ⟨a0, _ | ⟨a1, _ | ⟨a2, _ | ⟨a3, _ | ⟨a4, _ | ⟨a5, _ | ⟨a6, vs⟩⟩⟩⟩⟩⟩⟩ <;> first | (simp at hv; done) | rfl))
  case h =>
    intro ε env hE
    simp only [initVals, List.map_cons, List.map_nil, List.replicate, List.nil_append, List.cons_append]
    have hsz := sizeLine_eq
    have h1 := Nat.mod_lt l.length hr
    have hlk : ∀ k, (l ++ [pad] ++ List.replicate k 0).length = l.length + 1 + k := fun k => by simp; (first | lia | omega)
    have hpl := padF_len (l := l) (rate := rate) (pad := pad)
    refine ExD.cons (StD.assignS (by wtm_at "at") (by wtm_at "lc") (EvSD.bta1 (by wtm_at "ev") (by wtm_at "ev") (by rw [BY_size]; (first | lia | omega)) (fun fo => ⟨_, by wtm_at "set", ?_⟩) (by rfl)) (by (first | rfl | ((refine EnvOk.open (P := fun e => swapsWith _ _ _ e = _) (by (with_reducible assumption)) ?_); intros; rfl))))
    refine ExD.cons (StD.meth (by wtm_at "ev") (by wtm_at "at") (ng_bta tl_bta_append ty_append) (by wtm_at "evl") (md_appendB (by (first | lia | omega)) (by (first | lia | omega))) (by wtm_at "set") ?_ (interactive_ok hE) (by rfl) (by rfl))
    refine ExD.cons (StD.while (n := rate - 1 - l.length % rate) (fun i v o => ∃ k, k + i = rate - 1 - l.length % rate ∧ o = [(fo, .bta (BY (l ++ [pad] ++ List.replicate k 0)))] ∧ v = [some (.bytes (BY l)), some (.int (rate : Int)), some (.int (pad : Int)), some (.ref fo), none, none, none, none]) ⟨0, by (first | lia | omega), by simp, rfl⟩ ?_)
    rintro i v o ⟨k, hk, rfl, rfl⟩
    refine ⟨_, EvT.cmp (Ev.modN (Ev.callBlO (by wtm_at "ev") (by wtm_at "ev") (by wtm_at "at") (bo_lenB (by simp; (first | lia | omega))) (by rfl)) (by wtm_at "ev") hr) (by wtm_at "ev") cg_neN (by with_unfolding_all rfl), fun ht => ?_, fun hf => ?_⟩
    · refine ExD.cons (StD.meth (by wtm_at "ev") (by wtm_at "at") (ng_bta tl_bta_append ty_append) (by wtm_at "evl") (md_appendB (n := 0) (by (first | lia | omega)) (by simp; (first | lia | omega))) (by wtm_at "set") ?_ (interactive_ok hE) (by rfl) (by rfl))
      refine ExD.of (Ex.nil ⟨rfl, i - 1, ?_, k + 1, ?_, ?_, rfl⟩)
      · rcases Nat.eq_zero_or_pos i with rfl | hi
        · exact absurd ((pad_mod (n := l.length) (k := k) hr (by (first | lia | omega))).mpr (by (first | lia | omega))) (by rw [hlk] at ht; simpa using ht)
        · (first | lia | omega)
      · rcases Nat.eq_zero_or_pos i with rfl | hi
        · exact absurd ((pad_mod (n := l.length) (k := k) hr (by (first | lia | omega))).mpr (by (first | lia | omega))) (by rw [hlk] at ht; simpa using ht)
        · (first | lia | omega)
      · rw [List.append_assoc, List.append_assoc, ← List.replicate_succ', List.append_assoc]
    · have hk' : k = rate - 1 - l.length % rate := (pad_mod hr (by (first | lia | omega))).mp (by rw [hlk] at hf; simpa using hf)
      have e : l ++ [pad] ++ List.replicate k 0 = padM l rate pad := by rw [hk']; rfl
      rw [e]
      have hl := padM_len (l := l) (rate := rate) (pad := pad)
      have hx := xor128 (padM_last (l := l) (rate := rate) hp)
      refine ExD.of ?_
      refine Ex.cons (St.augItem (by wtm_at "ev") (Ev.neg (by wtm_at "ev")) (by wtm_at "at") (gg_BY (by (first | lia | omega)) (by (first | lia | omega)) (padM_lt h hp)) (by wtm_at "ev") (by (first | with_reducible exact ig_addN | with_reducible exact ig_xor | ((with_reducible apply ig_mulN); wtm_at "mulx"))) (sg_BY (by (first | lia | omega)) (by (first | lia | omega)) ?_) (by wtm_at "set") ?_ (by intro _ _ _; rfl))
      · rw [hx]; have := padM_last (l := l) (rate := rate) hp; (first | lia | omega)
      · refine Then.next ?_
        rw [hx]
        have e2 : (padM l rate pad).set ((padM l rate pad).length - 1) ((padM l rate pad).getD ((padM l rate pad).length - 1) 0 + 128) = padF l rate pad := rfl
        rw [e2]
        refine Ex.cons (St.ret (Ev.callTyO (by wtm_at "ev") (by wtm_at "ev") (by wtm_at "at") (to_bytesB (by (first | lia | omega))) (by rfl)) rfl)
end
end

section
section
variable {prog : Program} {w : World} {hB : Heap} {D : Nat} {P : Params}
theorem lg8 {q : Nat} (h : q ≤ 8) : q.log2 < 9000 := by
  rcases Nat.eq_zero_or_pos q with rfl | hp
  · decide
  · exact Nat.lt_trans ((Nat.log2_lt (n := q) (k := 60) (Nat.ne_of_gt hp)).mpr (by (first | lia | omega))) (by decide)
theorem absI_ok {w' q rate : Nat} {pd a : List Nat} {i : Nat} (hw : w' = 8 * q) (hp : ∀ x ∈ pd, x < 256) (ha : LOk w' a) : ∀ j, LOk w' (absI q rate pd i a j)
  | 0 => ha
  | j + 1 => by
    have h := absI_ok (rate := rate) (i := i) hw hp ha j
    refine ⟨by rw [absI, List.length_set, h.len], fun k => ?_⟩
    rw [absI, getD_set]
    split
    · refine Nat.xor_lt_two_pow (h.lt _) (Nat.lt_of_lt_of_le (leV_lt fun x hx => hp x (cut_mem hx)) ?_)
      rw [hw, Nat.pow_mul]
      exact Nat.pow_le_pow_right (by decide) pieceL_len
    · exact h.lt _
theorem absO_ok {w' q rate : Nat} {pd : List Nat} {perm : List Nat → List Nat} {X : List Nat → Prop} (hw : w' = 8 * q) (hp : ∀ x ∈ pd, x < 256) (hF : ∀ a, LOk w' a → X a ∧ LOk w' (perm a)) : ∀ i, LOk w' (absO q rate perm pd i)
  | 0 => ⟨by simp [absO], fun i => by
    rw [absO, List.getD_eq_getElem?_getD, List.getElem?_replicate]
    split <;> exact Nat.two_pow_pos _⟩
  | i + 1 => (hF _ (absI_ok hw hp (absO_ok hw hp hF i) _)).2
theorem sqP_ok {w' : Nat} {a : List Nat} {perm : List Nat → List Nat} {X : List Nat → Prop} (hF : ∀ a, LOk w' a → X a ∧ LOk w' (perm a)) (ha : LOk w' a) : ∀ i, LOk w' (sqP perm a i)
  | 0 => ha
  | i + 1 => (hF _ (sqP_ok hF ha i)).2
theorem padF_mem {l : List Nat} {rate pad : Nat} (h : ∀ x ∈ l, x < 256) (hp : pad < 128) : ∀ x ∈ padF l rate pad, x < 256 := by
  intro x hx
  unfold padF at hx
  rcases List.mem_or_eq_of_mem_set hx with hx | rfl
  · exact padM_lt h hp x hx
  · have := padM_last (l := l) (rate := rate) hp; (first | lia | omega)
theorem absorbed_spec (G : GH (heapK P) hB) (q : Nat) (turns : List (Nat × Nat)) (words l : List Nat) (rate size pad : Nat) (h0 : 1 ≤ q) (h2 : q ≤ 8) (ht : TOk (8 * q) turns) (hw : ∀ i, words.getD i 0 < 2 ^ (8 * q)) (hwl : words.length ≤ 100)
    (h : ∀ x ∈ l, x < 256) (hr : 0 < rate) (hr2 : rate ≤ 25 * q) (hp : pad < 128) (hz : l.length ≤ 10000) (hs : size ≤ 10000) :
    FnD prog w hB 8 93 [spg (8 * q) turns words, .bytes (BY l), .int (rate : Int), .int (size : Int), .int (pad : Int)] (.bytes (BY (absF q rate (permF (8 * q) turns words) (padF l rate pad) size))) := by
  refine' FnD.mk (nz := 16) G ?ho ?hcd ?hok ?hl ?hb rfl ?h
  case ho => k_is
  case hcd => k_is
  case hok => decide +kernel
  case hl => rfl
  case hb => ((intro vs hv; rcases vs with _ | ⟨a0, _ | ⟨a1, _ | ⟨a2, _ | ⟨a3, _ | ⟨a4, _ | ⟨a5, _ | ⟨a6, vs⟩⟩⟩⟩⟩⟩⟩ <;> first | (simp at hv; done) | rfl))
  case h =>
    intro ε env hE
    simp only [initVals, List.map_cons, List.map_nil, List.replicate, List.nil_append, List.cons_append]
    have hsz := sizeLine_eq
    have hS := spongeOk (P := P)
    have hF : ∀ a, LOk (8 * q) a → FnN prog w hB 6 88 [spg (8 * q) turns words, .lst (IL a)] (.lst (IL (permF (8 * q) turns words a))) ∧ LOk (8 * q) (permF (8 * q) turns words a) := fun a ha => ⟨permuted_spec G (8 * q) turns words a (by (first | lia | omega)) (by (first | lia | omega)) ha ht hw hwl, permS_ok ha hw _⟩
    generalize permF (8 * q) turns words = perm at *
    have hq : 0 < q ∧ q ≤ 8 := ⟨h0, h2⟩
    have hpl := padF_len (l := l) (rate := rate) (pad := pad)
    have h1 := Nat.mod_lt l.length hr
    have hP := padded_spec (prog := prog) (w := w) G l rate pad h hr hp (by (first | lia | omega))
    refine ExD.st (St.assign (Ev.divN (by wtm_at "ev") (by wtm_at "ev") (by decide) (by decide +kernel)) (by wtm_at "at") (by wtm_at "lc") (by wtm_at "set") ?_ (by (first | rfl | ((refine EnvOk.open (P := fun e => swapsWith _ _ _ e = _) (by (with_reducible assumption)) ?_); intros; rfl))))
    rw [Nat.mul_div_cancel_left q (by decide)]
    refine ExD.st (St.if (EvT.or2 (EvT.cmp (by wtm_at "ev") (by wtm_at "ev") cg_eqN (by with_unfolding_all rfl)) (fun _ => EvT.not (EvT.cmp2 (by wtm_at "ev") (by wtm_at "ev") cg_leN (by wtm_at "ev") cg_leN (by with_unfolding_all rfl)))) (fun hb => ?_) (fun _ => Ex.nil ?_))
    · simp at hb
      (first | lia | omega)
    refine ExD.cons (StD.tupSwap (names := ["lanes", "padded"]) (xs := ["padded", "lanes"]) (EvSD.pair (EvS.ofEvN (by wtm_at "evn") fun lo => EvSD.call G (by k_is) (by wtm_at "ev") (by wtm_at "evl") (by wtm_at "hnds") hP (by decide) ⟨_, [_, _], _, rfl, rfl, rfl, by wtm_at "sts", ?_⟩) (by rfl)) (by (first | rfl | ((refine EnvOk.open (P := fun e => swappedStores _ _ e = _) (by (with_reducible assumption)) ?_); intros; rfl))) rfl)
    have hpd : (padF l rate pad).length ≤ 20000 := by have := hq.2; (first | lia | omega)
    have hpm := padF_mem (rate := rate) h hp
    generalize padF l rate pad = pd at *
    have hN : (rate - 0 + q - 1) / q ≤ 25 := by
      have : (rate - 0 + q - 1) / q < 26 := (Nat.div_lt_iff_lt_mul h0).mpr (by (first | lia | omega))
      (first | lia | omega)
    refine ExD.st (St.forR (fun i v o => ∃ lo, o = [(lo, .lst (IL (absO q rate perm pd i)))] ∧ ∃ b a p, v = [some (spg (8 * q) turns words), some (.bytes (BY l)), some (.int (rate : Int)), some (.int (size : Int)), some (.int (pad : Int)), some (.int (q : Int)), some (.ref lo), some (.bytes (BY pd)), b, a, p, none, none, none, none, none, none, none, none, none, none])
      (EvIt.range3 (by wtm_at "ev") (by wtm_at "ev") (Ev.callBl (by wtm_at "ev") (by wtm_at "evl") (bl_lenY (by (first | lia | omega)))) (by wtm_at "ev") (by (first | lia | omega)) (by (first | lia | omega)) hr (by (first | lia | omega))) (by wtm_at "at") (by wtm_at "lc") ⟨lo, by simp only [IL_rep]; rfl, _, _, _, rfl⟩ (fun i v o h => by obtain ⟨_, _, _, _, _, rfl⟩ := h; ((simp only [List.length_cons, List.length_nil]; (first | lia | omega)))) ?_ ?_)
    · rintro i v o rw hi ⟨lo, rfl, b, a, p, rfl⟩
      have hO := absO_ok (w' := 8 * q) (rate := rate) rfl hpm hF i
      (simp only [List.set_cons_succ, List.set_cons_zero, List.cons_append, List.nil_append])
      refine Ex.cons (St.forR (fun j v o => o = (lo, .lst (IL (absI q rate pd i (absO q rate perm pd i) j))) :: rw ∧ ∃ a p, v = [some (spg (8 * q) turns words), some (.bytes (BY l)), some (.int (rate : Int)), some (.int (size : Int)), some (.int (pad : Int)), some (.int (q : Int)), some (.ref lo), some (.bytes (BY pd)), some (.int ((0 + i * rate : Nat) : Int)), a, p, none, none, none, none, none, none, none, none, none, none])
        (by wtm_at "it") (by wtm_at "at") (by wtm_at "lc") ⟨rfl, _, _, rfl⟩ (fun i v o h => by obtain ⟨_, _, _, rfl⟩ := h; ((simp only [List.length_cons, List.length_nil]; (first | lia | omega)))) ?_ ?_)
      · rintro j v o rw' hj ⟨rfl, a, p, rfl⟩
        have hI := absI_ok (w' := 8 * q) (q := q) (rate := rate) (pd := pd) (i := i) rfl hpm hO j
        have hdiv : (0 + j * q) / q = j := by rw [Nat.zero_add, Nat.mul_div_cancel _ h0]
        have hlen := hI.len
        (simp only [List.set_cons_succ, List.set_cons_zero, List.cons_append, List.nil_append])
        refine Ex.cons (St.assign (Ev.sliceY (by wtm_at "ev") (.some (by wtm_at "ev")) (.some (Ev.addN (by wtm_at "ev") (Ev.callBl (by wtm_at "ev") (by wtm_at "evl") bl_min))) (by (first | lia | omega))) (by wtm_at "at") (by wtm_at "lc") (by wtm_at "set") (Then.next ?_) (by (first | rfl | ((refine EnvOk.open (P := fun e => swapsWith _ _ _ e = _) (by (with_reducible assumption)) ?_); intros; rfl))))
        refine Ex.cons (St.augItem (by wtm_at "ev") ((Ev.divN (by wtm_at "ev") (by wtm_at "ev") h0 (lg8 h2)).eq (by rw [hdiv])) (by wtm_at "at") (gg_IL (by (first | lia | omega)) (by (first | lia | omega))) (Ev.fromBytesY G (by k_is) (by wtm_at "ev") (by wtm_at "ev") (by exact Nat.le_trans (pieceL_len (rate := rate) (pd := pd) (i := i) (j := j)) h2) (fun x hx => hpm x (cut_mem hx)) (by rfl) (by rfl)) ig_xor (by (first | ((with_reducible apply sg_IL) <;> wtm_at "num") | ((with_reducible apply sg_listN) <;> wtm_at "num"))) (by wtm_at "set") (Then.next ?_) (by intro _ _ _; rfl))
        exact Ex.nil ⟨_ :: _, rfl, rfl, _, _, rfl⟩
      · rintro v o ⟨rfl, a, p, rfl⟩
        refine Then.next ?_
        have F := hF _ (absI_ok (w' := 8 * q) (q := q) (rate := rate) (pd := pd) (i := i) rfl hpm hO ((rate - 0 + q - 1) / q))
        have F1 := F.1
        (((with_reducible apply Ex.cons); (with_reducible apply St.assignN); (case h => (((with_reducible apply EvN.meth); (case G => (with_reducible assumption)); (case ho => wtm_at "ev"); (case hc => (with_reducible assumption)); (case hm => k_is); (case hk => k_is); (case ht => k_is); (case hn => decide +kernel); (case hes => wtm_at "evl"); (case ha => wtm_at "hnds"); (case F => wtm_at "fn"); (case hd => decide); (case he => rfl)))); (case hx => wtm_at "at"); (case hk => wtm_at "lc"); (case hs => (intro _; wtm_at "set")); (case hsw => (first | rfl | ((refine EnvOk.open (P := fun e => swapsWith _ _ _ e = _) (by (with_reducible assumption)) ?_); intros; rfl))); intro _; (with_reducible apply Then.next)))
        refine Ex.drop (.tail .head) ?_
        exact Ex.nil ⟨[_], rfl, _, rfl, _, _, _, rfl⟩
    · rintro v o ⟨lo, rfl, b, a, p, rfl⟩
      have hO := absO_ok (w' := 8 * q) (rate := rate) rfl hpm hF ((pd.length - 0 + rate - 1) / rate)
      unfold absF
      generalize absO q rate perm pd ((pd.length - 0 + rate - 1) / rate) = a0 at hO
      refine ExD.freezeAt (by wtm_at "at") .head (by wtm_at "set") ?_
      refine ExD.cons (StD.assignS (by wtm_at "at") (by wtm_at "lc") (EvSD.bta0 (by wtm_at "ev") (fun fo => ⟨_, by wtm_at "set", ?_⟩)) (by (first | rfl | ((refine EnvOk.open (P := fun e => swapsWith _ _ _ e = _) (by (with_reducible assumption)) ?_); intros; rfl))))
      have hsl := sqF_len (q := q) (rate := rate) (perm := perm) (a := a0) (fun k => (sqP_ok hF hO k).len) hr2
      have hK : ∀ k, k * rate < size ↔ k < (size + rate - 1) / rate := fun k => by
        rw [Nat.lt_iff_add_one_le, Nat.lt_iff_add_one_le, Nat.le_div_iff_mul_le hr, Nat.succ_mul]; (first | lia | omega)
      refine ExD.cons (StD.while (n := (size + rate - 1) / rate) (fun n v o => ∃ k, k + n = (size + rate - 1) / rate ∧ o = [(fo, .bta (BY (sqF q rate perm a0 k)))] ∧ v = [some (spg (8 * q) turns words), some (.bytes (BY l)), some (.int (rate : Int)), some (.int (size : Int)), some (.int (pad : Int)), some (.int (q : Int)), some (.lst (IL (sqP perm a0 (k - 1)))), some (.bytes (BY pd)), b, a, p, some (.ref fo), none, none, none, none, none, none, none, none, none]) ⟨0, by (first | lia | omega), rfl, rfl⟩ ?_)
      rintro n v o ⟨k, hk, rfl, rfl⟩
      have hsk := hsl k
      have hks : k * rate ≤ 10000 + 200 := by
        rcases Nat.eq_zero_or_pos k with rfl | hp
        · (first | lia | omega)
        · have h3 := (hK (k - 1)).mpr (by (first | lia | omega))
          have h4 : k * rate = (k - 1) * rate + rate := by rw [← Nat.succ_mul]; congr 1; (first | lia | omega)
          (first | lia | omega)
      refine ⟨_, EvT.cmp (Ev.callBlO (by wtm_at "ev") (by wtm_at "ev") (by wtm_at "at") (bo_lenB (by (first | lia | omega))) (by rfl)) (by wtm_at "ev") cg_ltN (by with_unfolding_all rfl), fun ht => ?_, fun hf => ?_⟩
      · rw [hsk] at ht
        have hlt := (hK k).mp (by simpa using ht)
        have hP1 := sqP_ok hF hO (k - 1)
        have F := hF _ hP1
        have F1 := F.1
        refine ExD.consV [some (spg (8 * q) turns words), some (.bytes (BY l)), some (.int (rate : Int)), some (.int (size : Int)), some (.int (pad : Int)), some (.int (q : Int)), some (.lst (IL (sqP perm a0 k))), some (.bytes (BY pd)), b, a, p, some (.ref fo), none, none, none, none, none, none, none, none, none] [(fo, .bta (BY (sqF q rate perm a0 k)))] (StD.of (St.if (EvT.cmp (Ev.callBlO (by wtm_at "ev") (by wtm_at "ev") (by wtm_at "at") (bo_lenB (by (first | lia | omega))) (by rfl)) (by wtm_at "ev") cg_gtN (by with_unfolding_all rfl)) (fun hb => ?_) (fun hb => Ex.nil ⟨rfl, ?_, rfl⟩))) ?_
        · rw [hsk] at hb
          obtain ⟨k, rfl⟩ : ∃ k', k = k' + 1 := by
            rcases Nat.eq_zero_or_pos k with rfl | hp
            · simp at hb
            · exact ⟨k - 1, by (first | lia | omega)⟩
          rw [Nat.add_sub_cancel] at F1 ⊢
          have e : sqP perm a0 (k + 1) = perm (sqP perm a0 k) := rfl
          rw [e]
          refine Ex.cons (St.assign (EvN.toEv (by (((with_reducible apply EvN.meth); (case G => (with_reducible assumption)); (case ho => wtm_at "ev"); (case hc => (with_reducible assumption)); (case hm => k_is); (case hk => k_is); (case ht => k_is); (case hn => decide +kernel); (case hes => wtm_at "evl"); (case ha => wtm_at "hnds"); (case F => wtm_at "fn"); (case hd => decide); (case he => rfl))))) (by wtm_at "at") (by wtm_at "lc") (by wtm_at "set") (Then.next (Ex.nil ⟨rfl, rfl, rfl⟩)) (by (first | rfl | ((refine EnvOk.open (P := fun e => swapsWith _ _ _ e = _) (by (with_reducible assumption)) ?_); intros; rfl))))
        · rw [hsk] at hb
          rcases Nat.eq_zero_or_pos k with rfl | hp
          · rfl
          · exact absurd hb (by rw [decide_eq_true (Nat.mul_pos hp hr)]; decide)
        · have hP2 := sqP_ok hF hO k
          have hlen := hP2.len
          have hb8 : ∀ i, (sqP perm a0 k).getD i 0 < 256 ^ q := fun i => by have := hP2.lt i; rwa [Nat.pow_mul] at this
          have hol := octsL_len (q := q) (a := sqP perm a0 k)
          have hbl : (List.range (sqP perm a0 k).length).map (fun i => AV.bytes (BY (leB q ((sqP perm a0 k).getD i 0)))) = BL ((List.range (sqP perm a0 k).length).map fun i => leB q ((sqP perm a0 k).getD i 0)) := by unfold BL; rw [List.map_map]; rfl
          refine ExD.cons (StD.meth (by wtm_at "ev") (by wtm_at "at") (ng_bta tl_bta_extend ty_extend) (EvL.cons (Ev.sliceY (Ev.join Ev.bytes (hbl ▸ EvN.toEv (EvN.compR (EvIt.IL (by wtm_at "ev")) (by wtm_at "cap") (by wtm_at "at") (.inl rfl) (by (first | lia | omega)) (fun i C hi => ?_) (by decide +kernel) rfl (by decide +kernel) (by intro _; rfl))) (by simp; (first | lia | omega)) (by exact Nat.le_trans (Nat.le_of_eq hol) (by rw [hlen]; (first | lia | omega))) (by rw [typeLookup_type, builtinLookup_eq_fast]; kernel_rfl) (by rfl) (by rfl)) .none (.some (by wtm_at "ev")) (by exact Nat.le_trans (Nat.le_of_eq hol) (by rw [hlen]; (first | lia | omega)))) EvL.nil (by rfl)) (md_extendB ?_) (by wtm_at "set") ?_ (interactive_ok hE) (by rfl) (by rfl))
          · have hc : (cut (octsL q (sqP perm a0 k)) none (some rate)).length ≤ rate := by have := cut_length_le (octsL q (sqP perm a0 k)) none (some rate); unfold cut; rw [List.length_take]; exact Nat.min_le_left _ _
            have h3 : (sqF q rate perm a0 k).length + rate ≤ sizeLine := by (first | lia | omega)
            exact Nat.le_trans (Nat.add_le_add_left hc _) h3
          · exact ExD.of (Ex.nil ⟨rfl, n - 1, by (first | lia | omega), k + 1, by (first | lia | omega), rfl, rfl⟩)
          · (simp only [List.set_cons_succ, List.set_cons_zero, List.cons_append, List.nil_append])
            refine Ev.toBytes (by wtm_at "ev") (by wtm_at "ev") h2 (hb8 _) (by rfl) (by rfl)
      · rw [hsk] at hf
        have hf' := (not_congr (hK k)).mp (by simpa using hf)
        obtain rfl : k = (size + rate - 1) / rate := by (first | lia | omega)
        refine ExD.of (Ex.cons (St.ret (Ev.callTyN (by wtm_at "ev") (EvN.sliceB (by wtm_at "ev") (by wtm_at "at") (by wtm_at "ev") (by (first | lia | omega))) (to_bytesB (by rw [List.length_take]; (first | lia | omega))) (by rfl)) rfl))
end
end

section
section
variable {prog : Program} {w : World} {hB : Heap} {D : Nat} {P : Params}
noncomputable def tuF (w : Nat) : List (Nat × Nat) := (rotS w 24).1
noncomputable def woF (l : Nat) : List Nat := (rwS l (12 + 2 * l)).1
theorem tuF_all : ∀ l, l < 7 → (tuF (1 <<< l)).length = 25 ∧ ∀ p ∈ tuF (1 <<< l), p.1 ≤ 1 <<< l ∧ p.2 < 25 := by decide +kernel
theorem woF_all : ∀ l, l < 7 → (woF l).length = 12 + 2 * l ∧ ∀ x ∈ woF l, x < 2 ^ (1 <<< l) := by decide +kernel
theorem tuF_ok {l w' : Nat} (h : l < 7) (hw : w' = 1 <<< l) : TOk w' (tuF w') := by
  subst hw
  obtain ⟨h1, h2⟩ := tuF_all l h
  have h3 : ∀ i, (tuF (1 <<< l)).getD i (0, 0) = (0, 0) ∨ (tuF (1 <<< l)).getD i (0, 0) ∈ tuF (1 <<< l) := fun i => by
    rw [List.getD_eq_getElem?_getD]
    cases e : (tuF (1 <<< l))[i]? with
    | none => exact .inl rfl
    | some x => exact .inr (List.mem_of_getElem? e)
  refine ⟨h1, fun i => ?_, fun i => ?_⟩ <;> rcases h3 i with e | e
  · rw [e]; exact Nat.zero_le _
  · exact (h2 _ e).1
  · rw [e]; decide
  · exact (h2 _ e).2
theorem woF_ok {l w' : Nat} (h : l < 7) (hw : w' = 1 <<< l) (i : Nat) : (woF l).getD i 0 < 2 ^ w' := by
  subst hw; exact getD_lt (woF_all l h).2 i
theorem init_w (G : GH (heapK P) hB) (l w' : Nat) (h : l < 7) (hw : w' = 1 <<< l) : FnI prog w hB 4 96 69 [.int (w' : Int)] ["lane", "mask", "turns", "words"] [.int (w' : Int), .int ((1 <<< w' - 1 : Nat) : Int), .lst (PL (tuF w')), .lst (IL (woF l))] := by
  subst hw; exact init_spec G l h
theorem permuted_w (G : GH (heapK P) hB) (l w' : Nat) (a : List Nat) (h : l < 7) (hw : w' = 1 <<< l) (ha : LOk w' a) : FnN prog w hB 6 88 [spg w' (tuF w') (woF l), .lst (IL a)] (.lst (IL (permF w' (tuF w') (woF l) a))) := by
  obtain ⟨k1, k2⟩ := lane_pos l h
  exact permuted_spec G w' _ _ a (by (first | lia | omega)) (by (first | lia | omega)) ha (tuF_ok h hw) (woF_ok h hw) (by rw [(woF_all l h).1]; (first | lia | omega))
theorem absorbed_w (G : GH (heapK P) hB) (l w' q : Nat) (o : List Nat) (rate size pad : Nat) (hl : l < 7) (hw : w' = 1 <<< l) (hq : w' = 8 * q) (h : ∀ x ∈ o, x < 256) (hr : 0 < rate) (hr2 : rate ≤ 25 * q) (hp : pad < 128) (hz : o.length ≤ 10000) (hs : size ≤ 10000) :
    FnD prog w hB 8 93 [spg w' (tuF w') (woF l), .bytes (BY o), .int (rate : Int), .int (size : Int), .int (pad : Int)] (.bytes (BY (absF q rate (permF w' (tuF w') (woF l)) (padF o rate pad) size))) := by
  obtain ⟨k1, k2⟩ := lane_pos l hl
  have := absorbed_spec (prog := prog) (w := w) G q (tuF w') (woF l) o rate size pad (by (first | lia | omega)) (by (first | lia | omega)) (hq ▸ tuF_ok hl hw) (hq ▸ woF_ok hl hw) (by rw [(woF_all l hl).1]; (first | lia | omega)) h hr hr2 hp hz hs
  rwa [← hq] at this
noncomputable def hashF (o : List Nat) : List Nat := absF 8 136 (permF 64 (tuF 64) (woF 6)) (padF o 136 1) 32
theorem keccak256_spec (G : GH (heapK P) hB) (o : List Nat) (h : ∀ x ∈ o, x < 256) (hz : o.length ≤ 10000) : FnD prog w hB 9 114 [.bytes (BY o)] (.bytes (BY (hashF o))) := by
  refine' FnD.mk (nz := 5) G ?ho ?hcd ?hok ?hl ?hb rfl ?h
  case ho => k_is
  case hcd => k_is
  case hok => decide +kernel
  case hl => rfl
  case hb => ((intro vs hv; rcases vs with _ | ⟨a0, _ | ⟨a1, _ | ⟨a2, _ | ⟨a3, _ | ⟨a4, _ | ⟨a5, _ | ⟨a6, vs⟩⟩⟩⟩⟩⟩⟩ <;> first | (simp at hv; done) | rfl))
  case h =>
    intro ε env hE
    simp only [initVals, List.map_cons, List.map_nil, List.replicate, List.nil_append, List.cons_append]
    have hS := spongeOk (P := P)
    have hI := init_w (prog := prog) (w := w) G 6 64 (by decide) (by decide)
    have hA := absorbed_w (prog := prog) (w := w) G 6 64 8 o 136 32 1 (by decide) (by decide) (by decide) h (by decide) (by decide) (by decide) hz (by decide)
    exact ExD.cons (StD.retS (EvSD.meth G hS (by k_is) (by wtm_at "ev") (by k_is) (by k_is) (by decide +kernel) (by wtm_at "evl") (by wtm_at "hnds") hA (by decide) rfl (by rfl)))
theorem kInit_spec (G : GH (heapK P) hB) : FnI prog w hB 6 138 128 [] ["sponge"] [spg 64 (tuF 64) (woF 6)] := fun dx => by
  refine' FnM.mk (nz := 2) G ?ho ?hcd ?hok ?hl ?hb ?h
  case ho => k_is
  case hcd => k_is
  case hok => decide +kernel
  case hl => rfl
  case hb => ((intro vs hv; rcases vs with _ | ⟨a0, _ | ⟨a1, _ | ⟨a2, _ | ⟨a3, _ | ⟨a4, _ | ⟨a5, _ | ⟨a6, vs⟩⟩⟩⟩⟩⟩⟩ <;> first | (simp at hv; done) | rfl))
  case h =>
    intro ε env hE
    simp only [initVals, List.map_cons, List.map_nil, List.replicate, List.nil_append, List.cons_append]
    have hI := init_w (prog := prog) (w := w) G 6 64 (by decide) (by decide)
    (((with_reducible apply Ex.cons); (with_reducible apply St.setAttr); (case G => (with_reducible assumption)); (case ho => wtm_at "ev"); (case hs => k_is); (case hp => k_is); (case ht => k_is); (case hh => k_is); (case hv => first | wtm_at "ev" | ((with_reducible apply EvN.toEv); wtm_at "evn")); (case hj => wtm_at "at"); (case hn => rfl); (case hz => decide); (case hset => wtm_at "set"); (case hsw => (first | rfl | ((refine EnvOk.open (P := fun e => swapsWith _ _ _ e = _) (by (with_reducible assumption)) ?_); intros; rfl))); (with_reducible apply Then.next)))
    simp only [List.nil_append, List.cons_append]
    exact Ex.nil ⟨0, _, .none, .head, .next, rfl, rfl⟩
theorem keccakOk : ClsOk (heapK P) 138 := ⟨by k_is, by k_is, _, by k_is, rfl⟩
theorem of_spec (G : GH (heapK P) hB) (o : List Nat) (h : ∀ x ∈ o, x < 256) (hz : o.length ≤ 10000) : FnD prog w hB 9 135 [.obj 138 ["sponge"] [spg 64 (tuF 64) (woF 6)], .bytes (BY o)] (.bytes (BY (hashF o))) := by
  refine' FnD.mk (nz := 3) G ?ho ?hcd ?hok ?hl ?hb rfl ?h
  case ho => k_is
  case hcd => k_is
  case hok => decide +kernel
  case hl => rfl
  case hb => ((intro vs hv; rcases vs with _ | ⟨a0, _ | ⟨a1, _ | ⟨a2, _ | ⟨a3, _ | ⟨a4, _ | ⟨a5, _ | ⟨a6, vs⟩⟩⟩⟩⟩⟩⟩ <;> first | (simp at hv; done) | rfl))
  case h =>
    intro ε env hE
    simp only [initVals, List.map_cons, List.map_nil, List.replicate, List.nil_append, List.cons_append]
    have hS := spongeOk (P := P)
    have hK := keccakOk (P := P)
    have hA := absorbed_w (prog := prog) (w := w) G 6 64 8 o 136 32 1 (by decide) (by decide) (by decide) h (by decide) (by decide) (by decide) hz (by decide)
    exact ExD.cons (StD.retS (EvSD.meth G hS (by k_is) (by wtm_at "ev") (by k_is) (by k_is) (by decide +kernel) (by wtm_at "evl") (by wtm_at "hnds") hA (by decide) rfl (by rfl)))
end
end

section
section
variable {prog : Program} {w : World} {hB : Heap} {D : Nat} {P : Params}

theorem laid_spec (G : GH (heapK P) hB) : FnN prog w hB 2 155 [] (.lst (IL laidL)) := by
  refine' FnN.cs G ?ho ?hcd ?hs ?hl ?he ?hx
  case ho => k_is
  case hcd => k_is
  case hs => wtm_at "cs"
  case hl => decide
  case he => rfl
  case hx => exact IL_scal
theorem widths_spec (G : GH (heapK P) hB) : FnN prog w hB 2 163 [] (.lst (IL [2, 4, 1, 8, 16, 32, 64, 1, 0])) := by
  refine' FnN.cs G ?ho ?hcd ?hs ?hl ?he ?hx
  case ho => k_is
  case hcd => k_is
  case hs => wtm_at "cs"
  case hl => decide
  case he => rfl
  case hx => exact IL_scal
theorem noWidths_spec (G : GH (heapK P) hB) : FnN prog w hB 2 170 [] (.lst (IL [0, 3, 5, 24, 63, 65, 128] ++ [.int (-8)])) := by
  refine' FnN.cs G ?ho ?hcd ?hs ?hl ?he ?hx
  case ho => k_is
  case hcd => k_is
  case hs => wtm_at "cs"
  case hl => decide
  case he => rfl
  case hx => exact fun x hx => (List.mem_append.mp hx).elim (IL_scal x) fun h => by rw [List.mem_singleton.mp h]; rfl
theorem lengths_spec (G : GH (heapK P) hB) : FnN prog w hB 2 177 [] (.lst (IL [0, 1, 134, 135, 136, 137, 271, 272, 273])) := by
  refine' FnN.cs G ?ho ?hcd ?hs ?hl ?he ?hx
  case ho => k_is
  case hcd => k_is
  case hs => wtm_at "cs"
  case hl => decide
  case he => rfl
  case hx => exact IL_scal
noncomputable def Wl (k : Nat) (mo : MO) : Prop := ∃ c n m, mo = .lst [.lst (IL c), .int ((n : Nat) : Int), .int ((m : Nat) : Int)] ∧ c.length ≤ 24 ∧ n ≤ k ∧ m < 65537
noncomputable def Drawn (k size : Nat) (res : AV) (mo : MO) : Prop := ∃ r : Nat, r < size ∧ res = .int (r : Int) ∧ Wl (k + 1) mo
theorem draw_spec (G : GH (heapK P) hB) (a : Addr) (mo : MO) (k size : Nat) (h : Wl k mo) (hk : k ≤ 100) (hs : 0 < size) : FnM prog w hB 2 184 [.ref a, .int (size : Int)] a mo (Drawn k size) := by
  obtain ⟨c, n, m, rfl, hc, hn, hm⟩ := h
  refine' FnM.mk (nz := 2) G ?ho ?hcd ?hok ?hl ?hb ?h
  case ho => k_is
  case hcd => k_is
  case hok => decide +kernel
  case hl => rfl
  case hb => ((intro vs hv; rcases vs with _ | ⟨a0, _ | ⟨a1, _ | ⟨a2, _ | ⟨a3, _ | ⟨a4, _ | ⟨a5, _ | ⟨a6, vs⟩⟩⟩⟩⟩⟩⟩ <;> first | (simp at hv; done) | rfl))
  case h =>
    intro ε env hE
    simp only [initVals, List.map_cons, List.map_nil, List.replicate, List.nil_append, List.cons_append]
    refine Ex.cons (St.assign (Ev.ite (av := .int (((if n < c.length then c.getD n 0 else m) : Nat) : Int)) (EvT.cmp (by wtm_at "ev") (Ev.callBl (by wtm_at "ev") (by wtm_at "evl") (bl_lenI (by (first | lia | omega)))) cg_ltN (by with_unfolding_all rfl)) (fun hb => ?_) (fun hb => ?_)) (by wtm_at "at") (by wtm_at "lc") (by wtm_at "set") (Then.next ?_) (by (first | rfl | ((refine EnvOk.open (P := fun e => swapsWith _ _ _ e = _) (by (with_reducible assumption)) ?_); intros; rfl))))
    · have hb' : n < c.length := by simpa using hb
      rw [if_pos hb']
      exact Ev.itemN (by wtm_at "ev") (by wtm_at "lv") (by wtm_at "ev") hb' (by (first | lia | omega))
    · have hb' : ¬ n < c.length := by simpa using hb
      rw [if_neg hb']
      wtm_at "ev"
    · generalize hg : (if n < c.length then c.getD n 0 else m) = g
      refine Ex.cons (St.setItem (by wtm_at "ev") (by wtm_at "ev") (by wtm_at "ev") (by wtm_at "at") (sg_K (by ((simp only [List.length_cons, List.length_nil]; (first | lia | omega)))) (by ((simp only [List.length_cons, List.length_nil]; (first | lia | omega))))) (by wtm_at "set") (Then.next ?_) (by (first | rfl | ((refine EnvOk.open (P := fun e => swapsWith _ _ _ e = _) (by (with_reducible assumption)) ?_); intros; rfl))))
      simp only [List.set_cons_succ, List.set_cons_zero]
      refine Ex.cons (St.setItem (by wtm_at "ev") (by wtm_at "ev") (by wtm_at "ev") (by wtm_at "at") (sg_K (by ((simp only [List.length_cons, List.length_nil]; (first | lia | omega)))) (by ((simp only [List.length_cons, List.length_nil]; (first | lia | omega))))) (by wtm_at "set") (Then.next ?_) (by (first | rfl | ((refine EnvOk.open (P := fun e => swapsWith _ _ _ e = _) (by (with_reducible assumption)) ?_); intros; rfl))))
      simp only [List.set_cons_succ, List.set_cons_zero]
      refine Ex.cons (St.ret (by wtm_at "ev") ⟨0, _, _, .head, .ret, g % size, Nat.mod_lt _ hs, rfl, c, _, _, rfl, hc, by (first | lia | omega), Nat.mod_lt _ (by decide)⟩)
noncomputable def TextP (k many : Nat) (res : AV) (mo : MO) : Prop := ∃ o : List Nat, res = .bytes (BY o) ∧ o.length = many ∧ (∀ x ∈ o, x < 256) ∧ Wl (k + 2) mo
theorem text_spec (G : GH (heapK P) hB) (a : Addr) (mo : MO) (k many : Nat) (h : Wl k mo) (hk : k ≤ 90) (hm : many ≤ 10000) : FnM prog w hB 4 220 [.ref a, .int (many : Int)] a mo (TextP k many) := by
  refine' FnM.mk (nz := 5) G ?ho ?hcd ?hok ?hl ?hb ?h
  case ho => k_is
  case hcd => k_is
  case hok => decide +kernel
  case hl => rfl
  case hb => ((intro vs hv; rcases vs with _ | ⟨a0, _ | ⟨a1, _ | ⟨a2, _ | ⟨a3, _ | ⟨a4, _ | ⟨a5, _ | ⟨a6, vs⟩⟩⟩⟩⟩⟩⟩ <;> first | (simp at hv; done) | rfl))
  case h =>
    intro ε env hE
    simp only [initVals, List.map_cons, List.map_nil, List.replicate, List.nil_append, List.cons_append]
    refine Ex.cons (St.tup (by wtm_at "nms") (EvS.tuple (EvsS.cons (EvS.callM G (by k_is) (by wtm_at "ev") (by wtm_at "evl") (by wtm_at "at") (draw_spec G a mo k 256 h (by (first | lia | omega)) (by decide)) (by decide) (fun res mo1 hr => ⟨_, by wtm_at "set", ?_⟩)) (fun _ => rfl))) (by rfl) (by (first | rfl | ((refine EnvOk.open (P := fun e => swappedStores _ _ e = _) (by (with_reducible assumption)) ?_); intros; rfl))))
    obtain ⟨seed, hs, rfl, h1⟩ := hr
    refine EvsS.cons (EvS.callM G (by k_is) (by wtm_at "ev") (by wtm_at "evl") (by wtm_at "at") (draw_spec G a mo1 (k + 1) 256 h1 (by (first | lia | omega)) (by decide)) (by decide) (fun res mo2 hr => ⟨_, by wtm_at "set", ?_⟩)) (fun _ => rfl)
    obtain ⟨step, hs2, rfl, h2⟩ := hr
    refine EvsS.nil ⟨by wtm_at "size", _, _, rfl, rfl, by wtm_at "sts", Then.next ?_⟩
    have hb : ∀ x ∈ (List.range many).map fun i => (seed + step * i + i * i / 7) % 256, x < 256 := fun x hx => by
      obtain ⟨i, _, rfl⟩ := List.mem_map.mp hx
      exact Nat.mod_lt _ (by decide)
    refine Ex.cons (St.ret (Ev.callTy (by wtm_at "ev") (EvL.cons (EvN.toEv (EvN.compN (f := fun i => (seed + step * i + i * i / 7) % 256) (by wtm_at "it") (by wtm_at "cap") (by wtm_at "at") (.inl rfl) (by (first | lia | omega)) ?_ (by decide +kernel) rfl (by decide +kernel) (by intro _; rfl))) EvL.nil (by rfl)) (ty_bytes hb (by rw [sizeLine_eq]; simp; (first | lia | omega)))) ⟨0, _, _, .head, .ret, _, rfl, by simp, hb, h2⟩)
    intro i C hi
    (simp only [List.set_cons_succ, List.set_cons_zero, List.cons_append, List.nil_append])
    wtm_at "ev"
end
end

section
section
variable {prog : Program} {w : World} {hB : Heap} {D : Nat} {P : Params}
noncomputable def LanesP (k w' : Nat) (res : AV) (mo : MO) : Prop := ∃ l : List Nat, res = .lst (IL l) ∧ LOk w' l ∧ Wl (k + 2) mo
theorem LOk_rep {w' x : Nat} (h : x < 2 ^ w') : LOk w' (List.replicate 25 x) := ⟨by simp, fun i => by
  rw [List.getD_eq_getElem?_getD, List.getElem?_replicate]
  split
  · exact h
  · exact Nat.two_pow_pos _⟩
theorem LOk_set {w' x i : Nat} {l : List Nat} (h : x < 2 ^ w') (hl : LOk w' l) : LOk w' (l.set i x) := ⟨by rw [List.length_set, hl.len], fun j => by
  rw [getD_set]
  split
  · exact h
  · exact hl.lt j⟩
theorem lanes_spec (G : GH (heapK P) hB) (a : Addr) (mo : MO) (k w' : Nat) (h : Wl k mo) (hk : k ≤ 90) (h0 : 1 ≤ w') (h1 : w' ≤ 64) : FnM prog w hB 4 191 [.ref a, .int (w' : Int)] a mo (LanesP k w') := by
  refine' FnM.mk (nz := 6) G ?ho ?hcd ?hok ?hl ?hb ?h
  case ho => k_is
  case hcd => k_is
  case hok => decide +kernel
  case hl => rfl
  case hb => ((intro vs hv; rcases vs with _ | ⟨a0, _ | ⟨a1, _ | ⟨a2, _ | ⟨a3, _ | ⟨a4, _ | ⟨a5, _ | ⟨a6, vs⟩⟩⟩⟩⟩⟩⟩ <;> first | (simp at hv; done) | rfl))
  case h =>
    intro ε env hE
    simp only [initVals, List.map_cons, List.map_nil, List.replicate, List.nil_append, List.cons_append]
    refine Ex.cons (St.tupSwap (names := ["way", "seed", "found"]) (xs := ["found", "seed", "way"]) (EvS.tuple (EvsS.cons (EvS.callM G (by k_is) (by wtm_at "ev") (by wtm_at "evl") (by wtm_at "at") (draw_spec G a mo k 4 h (by (first | lia | omega)) (by decide)) (by decide) (fun res mo1 hr => ⟨_, by wtm_at "set", ?_⟩)) (fun _ => rfl))) (by (first | rfl | ((refine EnvOk.open (P := fun e => swappedStores _ _ e = _) (by (with_reducible assumption)) ?_); intros; rfl))) rfl)
    obtain ⟨way, hs, rfl, h3⟩ := hr
    refine EvsS.cons (EvS.callM G (by k_is) (by wtm_at "ev") (by wtm_at "evl") (by wtm_at "at") (draw_spec G a mo1 (k + 1) 65536 h3 (by (first | lia | omega)) (by decide)) (by decide) (fun res mo2 hr => ⟨_, by wtm_at "set", ?_⟩)) (fun _ => rfl)
    obtain ⟨seed, hs2, rfl, h2⟩ := hr
    refine EvsS.cons (EvS.ofEvN (by wtm_at "evn") fun fo => EvsS.nil ⟨by wtm_at "size", _, [_, _, _], _, rfl, rfl, rfl, by wtm_at "sts", Then.next ?_⟩) (fun _ => rfl)
    have hp : 1 ≤ 2 ^ w' := Nat.two_pow_pos w'
    refine Ex.cons (St.if (by wtm_at "evt") (fun hb => ?_) (fun hb => Ex.nil (Then.next ?_)))
    · refine Ex.cons (St.assignN (EvN.bin (EvN.toEv (EvN.list (EvL.cons (Ev.ite (av := .int (((if way = 1 then 2 ^ w' - 1 else 0) : Nat) : Int)) (by wtm_at "evt") (fun hb => ?_) (fun hb => ?_)) EvL.nil (by rfl)) (by wtm_at "size"))) (by wtm_at "ev") (np_mulList (by simp) (by decide))) (by wtm_at "at") (by wtm_at "lc") (fun _ => by wtm_at "set") (fun f2 => Then.next ?_) (by (first | rfl | ((refine EnvOk.open (P := fun e => swapsWith _ _ _ e = _) (by (with_reducible assumption)) ?_); intros; rfl))))
      · rw [if_pos (by simpa using hb)]
        wtm_at "ev"
      · rw [if_neg (by simpa using hb)]
        wtm_at "ev"
      · rw [IL_rep]
        have hx : (if way = 1 then 2 ^ w' - 1 else 0) < 2 ^ w' := by split <;> (first | lia | omega)
        have hr := LOk_rep hx
        generalize List.replicate 25 (if way = 1 then 2 ^ w' - 1 else 0) = l at hr
        have hl := hr.len
        refine Ex.cons (St.if (by wtm_at "evt") (fun hb => ?_) (fun hb => Ex.nil (Then.next ?_)))
        · have hm : seed / 25 % w' < w' := Nat.mod_lt _ h0
          refine Ex.cons (St.setItem (Ev.powN (by wtm_at "ev") (Ev.modN (by wtm_at "ev") (by wtm_at "ev") h0) (by (first | lia | omega)) (by decide)) (by wtm_at "ev") (by wtm_at "ev") (by wtm_at "at") (sg_IL (by (first | lia | omega)) (by (first | lia | omega))) (by wtm_at "set") (Then.next (Ex.nil (Then.next ?_))) (by (first | rfl | ((refine EnvOk.open (P := fun e => swapsWith _ _ _ e = _) (by (with_reducible assumption)) ?_); intros; rfl))))
          exact Ex.cons (St.ret (by wtm_at "ev") ⟨2, mo2, _, .tail (.tail .head), .own .head (by decide), _, rfl, LOk_set (Nat.pow_lt_pow_right (by decide) hm) hr, h2⟩)
        · exact Ex.cons (St.ret (by wtm_at "ev") ⟨2, mo2, _, .tail (.tail .head), .own .head (by decide), _, rfl, hr, h2⟩)
    · have hw64 : (2 ^ (64 - w')).log2 < 9000 := by rw [Nat.log2_two_pow]; (first | lia | omega)
      refine Ex.cons (St.forR (fun i v o => ∃ l : List Nat, l.length = i ∧ (∀ x ∈ l, x < 2 ^ w') ∧ o = [(fo, .lst (IL l)), (a, mo2)] ∧ ∃ sd : Nat, sd < 2 ^ 64 ∧ ∃ t, v = [some (.ref a), some (.int (w' : Int)), some (.int (way : Int)), some (.int (sd : Int)), some (.ref fo), t, none, none]) (by wtm_at "it") (by wtm_at "at") (by wtm_at "lc") ⟨[], rfl, by simp, rfl, seed, by (first | lia | omega), _, rfl⟩ (fun i v o h => by obtain ⟨_, _, _, _, _, _, _, rfl⟩ := h; ((simp only [List.length_cons, List.length_nil]; (first | lia | omega)))) ?_ ?_)
      · rintro i v o rw hi ⟨l, hl, hlx, rfl, sd, hsd, t, rfl⟩
        (simp only [List.set_cons_succ, List.set_cons_zero, List.cons_append, List.nil_append])
        (((with_reducible apply Ex.cons); (with_reducible apply St.assign); (case h => wtm_at "ev"); (case hx => wtm_at "at"); (case hk => wtm_at "lc"); (case hs => wtm_at "set"); (case hsw => (first | rfl | ((refine EnvOk.open (P := fun e => swapsWith _ _ _ e = _) (by (with_reducible assumption)) ?_); intros; rfl))); (with_reducible apply Then.next)))
        have hsd2 : (sd * 6364136223846793005 + 1442695040888963407) % 2 ^ 64 < 2 ^ 64 := Nat.mod_lt _ (by decide)
        generalize (sd * 6364136223846793005 + 1442695040888963407) % 2 ^ 64 = sd2 at *
        refine Ex.cons (St.meth (by wtm_at "ev") (by wtm_at "at") (by (first | exact ng_list PySem.F.slot_list_append (by kernel_rfl) | exact ng_list PySem.F.slot_list_extend (by kernel_rfl))) (EvL.cons (Ev.divN (by wtm_at "ev") (by wtm_at "ev") (Nat.two_pow_pos _) hw64) EvL.nil (by rfl)) (mg_append (by rw [IL_length, sizeLine_eq]; (first | lia | omega))) (by wtm_at "set") (Then.next ?_) (interactive_ok hE) (by rfl) (by rfl))
        refine Ex.nil ⟨[_, _], rfl, l ++ [sd2 / 2 ^ (64 - w')], by simp [hl], fun x hx => ?_, ?_, sd2, hsd2, _, rfl⟩
        · rcases List.mem_append.mp hx with hx | hx
          · exact hlx x hx
          · rw [List.mem_singleton.mp hx]
            refine (Nat.div_lt_iff_lt_mul (Nat.two_pow_pos _)).mpr ?_
            rw [← Nat.pow_add, show w' + (64 - w') = 64 by (first | lia | omega)]; exact hsd2
        · rw [IL_one, IL_append]
      · rintro v o ⟨l, hl, hlx, rfl, sd, hsd, t, rfl⟩
        refine Then.next (Ex.cons (St.ret (by wtm_at "ev") ⟨1, mo2, _, .tail .head, .own .head (by decide), _, rfl, ⟨hl, getD_lt hlx⟩, h2⟩))
end
end

section
section
variable {prog : Program} {w : World} {hB : Heap} {D : Nat} {P : Params}
noncomputable def laneF (q : Nat) (held : List Nat) (i : Nat) : Nat := leV ((List.range q).map fun k => held.getD (i * q + k) 0)
theorem laneF_eq {q i : Nat} {held : List Nat} : ((List.range q).map fun k => held.getD (0 + i * q + k) 0 * 256 ^ k).sum = laneF q held i := by
  unfold laneF
  rw [← leV_sum, List.length_map, List.length_range]
  congr 1
  refine List.map_congr_left fun k hk => ?_
  rw [Nat.zero_add, getD_map_range, if_pos (List.mem_range.mp hk)]
theorem laneF_lt {q i : Nat} {held : List Nat} (h : ∀ i, held.getD i 0 < 256) : laneF q held i < 2 ^ (8 * q) := by
  have := leV_lt (l := (List.range q).map fun k => held.getD (i * q + k) 0) fun x hx => by
    obtain ⟨k, _, rfl⟩ := List.mem_map.mp hx; exact h _
  rw [List.length_map, List.length_range] at this
  rw [Nat.pow_mul]; exact this
theorem lanesL_ok {w' q : Nat} {held : List Nat} (hq : w' = 8 * q) (h : ∀ i, held.getD i 0 < 256) : LOk w' (lanesL q held) := ⟨by simp [lanesL], fun i => by
  unfold lanesL
  rw [getD_map_range, hq]
  split
  · exact laneF_lt h
  · exact Nat.two_pow_pos _⟩
theorem leB_flat {q i : Nat} {a : List Nat} : (((List.range i).map fun i => leB q (a.getD i 0)).flatten).length = i * q := by
  rw [List.length_flatten, List.map_map]
  have : ((List.length ∘ fun i => leB q (a.getD i 0)) : Nat → Nat) = fun _ => q := by funext i; simp [leB]
  rw [this, List.map_const', List.sum_replicate_nat, List.length_range]
theorem lg256 {k : Nat} (h : k ≤ 8) : (256 ^ k).log2 < 9000 := by
  rw [show (256 : Nat) = 2 ^ 8 from rfl, ← Nat.pow_mul, Nat.log2_two_pow]; (first | lia | omega)
theorem lawPerm_spec (G : GH (heapK P) hB) (l w' q : Nat) (held : List Nat) (hl : l < 7) (hw : w' = 1 <<< l) (hq : w' = 8 * q) (hlen : held.length = 25 * q) (h : ∀ x ∈ held, x < 256) : FnN prog w hB 8 208 [spg w' (tuF w') (woF l), .int (q : Int), .lst (IL held)] (.lst (IL (lawPerm q (permF w' (tuF w') (woF l)) held))) := by
  refine' FnN.flatE (nz := 7) G ?ho ?hcd ?hok ?hl ?hb ?ha ?h
  case ho => k_is
  case hcd => k_is
  case hok => decide +kernel
  case hl => rfl
  case hb => ((intro vs hv; rcases vs with _ | ⟨a0, _ | ⟨a1, _ | ⟨a2, _ | ⟨a3, _ | ⟨a4, _ | ⟨a5, _ | ⟨a6, vs⟩⟩⟩⟩⟩⟩⟩ <;> first | (simp at hv; done) | rfl))
  case ha => exact IL_scal
  case h =>
    intro ε env hE
    simp only [initVals, List.map_cons, List.map_nil, List.replicate, List.nil_append, List.cons_append]
    have hS := spongeOk (P := P)
    have hA : ∀ i, held.getD i 0 < 256 := getD_lt (n := 8) h
    have hA2 : ∀ i, held.getD i 0 < 2 ^ 64 := fun i => Nat.lt_trans (hA i) (by decide)
    obtain ⟨k1, k2⟩ := lane_pos l hl
    have hn : (held.length - 0 + q - 1) / q = 25 := by
      rw [hlen, Nat.div_eq_of_lt_le] <;> (first | lia | omega)
    (((with_reducible apply Ex.cons); (with_reducible apply St.assignN); (case h => wtm_at "evn"); (case hx => wtm_at "at"); (case hk => wtm_at "lc"); (case hs => (intro _; wtm_at "set")); (case hsw => (first | rfl | ((refine EnvOk.open (P := fun e => swapsWith _ _ _ e = _) (by (with_reducible assumption)) ?_); intros; rfl))); intro _; (with_reducible apply Then.next)))
    rename_i lo
    refine Ex.cons (St.forM [true, true, true, true, false, false, false, false, false, false] (fun i v o => o = [(lo, .lst (IL ((List.range i).map (laneF q held))))] ∧ v = [some (spg w' (tuF w') (woF l)), some (.int (q : Int)), some (.lst (IL held)), some (.ref lo), none, none, none, none, none, none]) (EvIt.range3 (by wtm_at "ev") (by wtm_at "ev") (Ev.callBl (by wtm_at "ev") (by wtm_at "evl") (bl_lenI (by (first | lia | omega)))) (by wtm_at "ev") (by (first | lia | omega)) (by (first | lia | omega)) (by (first | lia | omega)) (by (first | lia | omega))) (by wtm_at "at") (by wtm_at "lc") ⟨rfl, rfl⟩ (fun i v o h => by obtain ⟨_, rfl⟩ := h; ((simp only [List.length_cons, List.length_nil]; (first | lia | omega)))) ?_ ?_)
    · rintro i v o rw hi ⟨rfl, rfl⟩
      rw [hn] at hi
      (simp only [List.set_cons_succ, List.set_cons_zero, List.cons_append, List.nil_append])
      refine Ex.cons (St.meth (by wtm_at "ev") (by wtm_at "at") (by (first | exact ng_list PySem.F.slot_list_append (by kernel_rfl) | exact ng_list PySem.F.slot_list_extend (by kernel_rfl))) (EvL.cons (Ev.callBl (by wtm_at "ev") (EvL.cons (EvN.toEv (EvN.compN (f := fun k => held.getD (0 + i * q + k) 0 * 256 ^ k) (by wtm_at "it") (by wtm_at "cap") (by wtm_at "at") (.inl rfl) (by (first | lia | omega)) ?_ (by decide +kernel) rfl (by decide +kernel) (by intro _; rfl))) EvL.nil (by rfl)) bl_sum) EvL.nil (by rfl)) (mg_append (by rw [IL_length, sizeLine_eq]; simp; (first | lia | omega))) (by wtm_at "set") (Then.next ?_) (interactive_ok hE) (by rfl) (by rfl))
      · intro k C hk
        have hx : i * q + k < 25 * q := by
          have : (i + 1) * q ≤ 25 * q := Nat.mul_le_mul_right q hi
          rw [Nat.succ_mul] at this; (first | lia | omega)
        (simp only [List.set_cons_succ, List.set_cons_zero, List.cons_append, List.nil_append])
        refine Ev.mulN (by wtm_at "ev") (by wtm_at "ev") (mulL (hA2 _))
      · refine Ex.nil ⟨[_], rfl, ?_, rfl⟩
        rw [IL_one, IL_append, List.range_succ, List.map_append, List.map_singleton, laneF_eq]
    · rintro v o ⟨rfl, hv⟩
      refine Then.next (Ex.masked hv ?_)
      rw [hn]
      have e : (List.range 25).map (laneF q held) = lanesL q held := rfl
      rw [e]
      have hL := lanesL_ok (w' := w') hq hA
      have F := permuted_w (prog := prog) (w := w) G l w' (lanesL q held) hl hw hL
      have hF := permS_ok (turns := tuF w') (words := woF l) hL (woF_ok hl hw) (woF l).length
      have e2 : permS w' (tuF w') (woF l) (lanesL q held) (woF l).length = permF w' (tuF w') (woF l) (lanesL q held) := rfl
      rw [e2] at hF
      unfold lawPerm
      generalize permF w' (tuF w') (woF l) (lanesL q held) = a at *
      have ha := hF.len
      (((with_reducible apply Ex.cons); (with_reducible apply St.assignN); (case h => wtm_at "evn"); (case hx => wtm_at "at"); (case hk => wtm_at "lc"); (case hs => (intro _; wtm_at "set")); (case hsw => (first | rfl | ((refine EnvOk.open (P := fun e => swapsWith _ _ _ e = _) (by (with_reducible assumption)) ?_); intros; rfl))); intro _; (with_reducible apply Then.next)))
      rename_i fo
      refine Ex.cons (St.forM [true, true, true, true, false, true, false, false, false, false] (fun i v o => o = [(fo, .lst (IL ((List.range i).map fun i => leB q (a.getD i 0)).flatten)), (lo, .lst (IL (lanesL q held)))] ∧ v = [some (spg w' (tuF w') (woF l)), some (.int (q : Int)), some (.lst (IL held)), some (.ref lo), none, some (.ref fo), none, none, none, none]) (EvIt.IL (EvN.toEv (by (((with_reducible apply EvN.meth); (case G => (with_reducible assumption)); (case ho => wtm_at "ev"); (case hc => (with_reducible assumption)); (case hm => k_is); (case hk => k_is); (case ht => k_is); (case hn => decide +kernel); (case hes => wtm_at "evl"); (case ha => wtm_at "hnds"); (case F => wtm_at "fn"); (case hd => decide); (case he => rfl)))))) (by wtm_at "at") (by wtm_at "lc") ⟨rfl, rfl⟩ (fun i v o h => by obtain ⟨_, rfl⟩ := h; ((simp only [List.length_cons, List.length_nil]; (first | lia | omega)))) ?_ ?_)
      · rintro i v o rw hi ⟨rfl, rfl⟩
        (simp only [List.set_cons_succ, List.set_cons_zero, List.cons_append, List.nil_append])
        have hlf : (((List.range i).map fun i => leB q (a.getD i 0)).flatten).length = i * q := leB_flat
        refine Ex.cons (St.meth (by wtm_at "ev") (by wtm_at "at") (by (first | exact ng_list PySem.F.slot_list_append (by kernel_rfl) | exact ng_list PySem.F.slot_list_extend (by kernel_rfl))) (EvL.cons (EvN.toEv (EvN.compN (f := fun k => a.getD i 0 / 256 ^ k % 256) (by wtm_at "it") (by wtm_at "cap") (by wtm_at "at") (.inl rfl) (by (first | lia | omega)) ?_ (by decide +kernel) rfl (by decide +kernel) (by intro _; rfl))) EvL.nil (by rfl)) (mg_extend ?_) (by wtm_at "set") (Then.next ?_) (interactive_ok hE) (by rfl) (by rfl))
        · intro k C hk
          (simp only [List.set_cons_succ, List.set_cons_zero, List.cons_append, List.nil_append])
          exact Ev.modN (Ev.divN (by wtm_at "ev") (by wtm_at "ev") (Nat.pow_pos (by decide)) (lg256 (by (first | lia | omega)))) (by wtm_at "ev") (by decide)
        · have : i * q ≤ 25 * q := Nat.mul_le_mul_right q (by (first | lia | omega))
          rw [IL_length, IL_length, sizeLine_eq, hlf]; simp; (first | lia | omega)
        · refine Ex.nil ⟨[_, _], rfl, ?_, rfl⟩
          rw [IL_append, List.range_succ, List.map_append, List.map_singleton, List.flatten_append, List.flatten_singleton]
          rfl
      · rintro v o ⟨rfl, hv⟩
        refine Then.next (Ex.masked hv (Ex.cons (St.ret (by wtm_at "ev") ⟨fo, rfl, .head _⟩)))
end
end

section
section
variable {prog : Program} {w : World} {hB : Heap} {D : Nat} {P : Params}
theorem lawAbs_spec (G : GH (heapK P) hB) (l w' q : Nat) (o : List Nat) (rate many first : Nat) (hl : l < 7) (hw : w' = 1 <<< l) (hq : w' = 8 * q) (h : ∀ x ∈ o, x < 256) (hr : 0 < rate) (hr2 : rate ≤ 25 * q) (hp : first < 128) (hz : o.length ≤ 10000) (hs : many ≤ 10000) :
    FnP prog w hB 10 215 [spg w' (tuF w') (woF l), .int (q : Int), .bytes (BY o), .int (rate : Int), .int (many : Int), .int (first : Int)] (.bytes (BY (lawAbs q rate (permF w' (tuF w') (woF l)) (padF o rate first) many))) := by
  refine' FnP.scalE (nz := 12) G ?ho ?hcd ?hok ?hl ?hb rfl ?h
  case ho => k_is
  case hcd => k_is
  case hok => decide +kernel
  case hl => rfl
  case hb => ((intro vs hv; rcases vs with _ | ⟨a0, _ | ⟨a1, _ | ⟨a2, _ | ⟨a3, _ | ⟨a4, _ | ⟨a5, _ | ⟨a6, vs⟩⟩⟩⟩⟩⟩⟩ <;> first | (simp at hv; done) | rfl))
  case h =>
    intro ε env hE
    simp only [initVals, List.map_cons, List.map_nil, List.replicate, List.nil_append, List.cons_append]
    have hS := spongeOk (P := P)
    have hsz := sizeLine_eq
    obtain ⟨k1, k2⟩ := lane_pos l hl
    have hpm := padF_mem (rate := rate) h hp
    have hpl := padF_len (l := o) (rate := rate) (pad := first)
    have hml := padM_len (l := o) (rate := rate) (pad := first)
    have hr1 := Nat.mod_lt o.length hr
    have hF : ∀ held, (∀ x ∈ held, x < 256) → (permF w' (tuF w') (woF l) (lanesL q held)).length = 25 := fun held hh => (permS_ok (turns := tuF w') (words := woF l) (lanesL_ok (w' := w') hq (lt256 hh)) (woF_ok hl hw) (woF l).length).len
    have hG : ∀ held, HOk q held → FnN prog w hB 8 208 [spg w' (tuF w') (woF l), .int (q : Int), .lst (IL held)] (.lst (IL (lawPerm q (permF w' (tuF w') (woF l)) held))) := fun held hh => lawPerm_spec G l w' q held hl hw hq hh.len hh.lt
    generalize permF w' (tuF w') (woF l) = perm at *
    refine Ex.cons (St.assignN (EvN.bin (EvN.toEv (EvN.callTy (by wtm_at "ev") (by wtm_at "evl") (ty_listY h (by (first | lia | omega))))) (EvN.toEv (by wtm_at "evn")) (np_addList (by rw [IL_length, sizeLine_eq]; simp; (first | lia | omega)))) (by wtm_at "at") (by wtm_at "lc") (fun _ => by wtm_at "set") (fun oi => Then.next ?_) (by (first | rfl | ((refine EnvOk.open (P := fun e => swapsWith _ _ _ e = _) (by (with_reducible assumption)) ?_); intros; rfl))))
    rw [IL_one, IL_append]
    refine Ex.freezeAt (by wtm_at "at") .head (by wtm_at "set") ?_
    have hl1 : (o ++ [first]).length = o.length + 1 := by simp
    refine Ex.cons (St.assignN (EvN.bin (by wtm_at "ev") (EvN.toEv (EvN.bin (EvN.toEv (by wtm_at "evn")) (Ev.subN (by wtm_at "ev") (Ev.modN (Ev.subN (Ev.callBl (by wtm_at "ev") (by wtm_at "evl") (bl_lenI (by (first | lia | omega)))) (by wtm_at "ev") (by (first | lia | omega))) (by wtm_at "ev") hr) ?hsub) (np_mulList (by simp; (first | lia | omega)) (by (first | lia | omega))))) (np_addList ?hadd)) (by wtm_at "at") (by wtm_at "lc") (fun _ => by wtm_at "set") (fun oi => Then.next ?_) (by (first | rfl | ((refine EnvOk.open (P := fun e => swapsWith _ _ _ e = _) (by (with_reducible assumption)) ?_); intros; rfl))))
    case hsub => rw [hl1, Nat.add_sub_cancel]; (first | lia | omega)
    case hadd =>
      rw [IL_rep, IL_length, IL_length, hl1, sizeLine_eq, List.length_replicate]; (first | lia | omega)
    rw [IL_rep, IL_append, hl1, Nat.add_sub_cancel]
    have e : o ++ [first] ++ List.replicate (rate - 1 - o.length % rate) 0 = padM o rate first := rfl
    rw [e]
    have e3 : ((-((1 : Nat) : Int)) + ((IL (padM o rate first)).length : Int)).toNat = (padM o rate first).length - 1 := by rw [IL_length]; (first | lia | omega)
    refine Ex.cons (St.setItem (Ev.addN (a := (padM o rate first).getD ((padM o rate first).length - 1) 0) (Ev.itemNeg (by wtm_at "ev") (by wtm_at "lv") (Ev.neg (by wtm_at "ev")) (by (first | lia | omega)) (by rw [IL_length]; (first | lia | omega)) (by (first | lia | omega)) (by rw [e3]; exact IL_get (by (first | lia | omega))) (by intro _ _; rfl)) (by wtm_at "ev")) (by wtm_at "ev") (Ev.neg (by wtm_at "ev")) (by wtm_at "at") (sg_listNeg (by (first | lia | omega)) (by rw [IL_length]; (first | lia | omega)) (by (first | lia | omega))) (by wtm_at "set") (Then.next ?_) (by (first | rfl | ((refine EnvOk.open (P := fun e => swapsWith _ _ _ e = _) (by (with_reducible assumption)) ?_); intros; rfl))))
    rw [e3, IL_set]
    have e2 : (padM o rate first).set ((padM o rate first).length - 1) ((padM o rate first).getD ((padM o rate first).length - 1) 0 + 128) = padF o rate first := rfl
    rw [e2]
    generalize padF o rate first = pd at *
    refine Ex.freezeAt (by wtm_at "at") .head (by wtm_at "set") ?_
    refine Ex.cons (St.tupSwap (names := ["held", "told_octets"]) (xs := ["told_octets", "held"]) (EvS.tuple (EvsS.cons (EvS.ofEvN (EvN.bin (EvN.toEv (by wtm_at "evn")) (by wtm_at "ev") (np_mulList (by simp; (first | lia | omega)) (by (first | lia | omega)))) (fun ho => EvsS.cons (EvS.ofEv (EvN.toEv (EvN.list EvL.nil (by simp))) (EvsS.nil ⟨by wtm_at "size", _, [_, _], _, rfl, rfl, rfl, by wtm_at "sts", Then.next ?_⟩)) (fun _ => rfl))) (fun _ => rfl))) (by (first | rfl | ((refine EnvOk.open (P := fun e => swappedStores _ _ e = _) (by (with_reducible assumption)) ?_); intros; rfl))) rfl)
    have hSo := lawS_ok (rate := rate) hF hpm
    refine Ex.cons (St.enum (fun i v own => ∃ ho, own = [(ho, .lst (IL (lawS q rate perm pd i)))] ∧ ∃ p oc, v = [some (spg w' (tuF w') (woF l)), some (.int (q : Int)), some (.bytes (BY o)), some (.int (rate : Int)), some (.int (many : Int)), some (.int (first : Int)), some (.lst (IL pd)), some (.ref ho), some (.lst []), p, oc, none, none, none, none, none, none, none]) (by wtm_at "nms") (by wtm_at "ev") (by wtm_at "ev") ⟨ho, by rw [IL_rep]; rfl, _, _, rfl⟩ ?_ ?_ (by rfl))
    · rintro i v own rw hi ⟨ho, rfl, p, oc, rfl⟩
      refine ⟨_, by wtm_at "sts", ?_⟩
      have hS1 := hSo i
      have hl2 := hS1.len
      have hm : i % rate < rate := Nat.mod_lt _ hr
      simp only [List.cons_append, List.nil_append]
      (((with_reducible apply Ex.cons); (with_reducible apply St.setItem); (case hv => wtm_at "ev"); (case ho => wtm_at "ev"); (case hi => wtm_at "ev"); (case hj => wtm_at "at"); (case hs => (first | ((with_reducible apply sg_IL) <;> wtm_at "num") | ((with_reducible apply sg_listN) <;> wtm_at "num"))); (case hset => wtm_at "set"); (case hsw => (first | rfl | ((refine EnvOk.open (P := fun e => swapsWith _ _ _ e = _) (by (with_reducible assumption)) ?_); intros; rfl))); (with_reducible apply Then.next)))
      have hx : (lawS q rate perm pd i).getD (i % rate) 0 ^^^ pd.getD i 0 < 256 := Nat.xor_lt_two_pow (n := 8) (lt256 hS1.lt _) (lt256 hpm _)
      have hS2 := HOk_set (i := i % rate) hS1 hx
      have F := hG _ hS2
      refine Ex.cons (St.if (by wtm_at "evt") (fun hb => ?_) (fun hb => Ex.nil (Then.next ?_)))
      · (((with_reducible apply Ex.cons); (with_reducible apply St.assignN); (case h => wtm_at "evn"); (case hx => wtm_at "at"); (case hk => wtm_at "lc"); (case hs => (intro _; wtm_at "set")); (case hsw => (first | rfl | ((refine EnvOk.open (P := fun e => swapsWith _ _ _ e = _) (by (with_reducible assumption)) ?_); intros; rfl))); intro _; (with_reducible apply Then.next)))
        refine Ex.drop (.tail .head) ?_
        have e : lawS q rate perm pd (i + 1) = lawPerm q perm ((lawS q rate perm pd i).set (i % rate) ((lawS q rate perm pd i).getD (i % rate) 0 ^^^ pd.getD i 0)) := by rw [lawS, if_pos hb]
        exact Ex.nil (Then.next (Ex.nil ⟨[_], rfl, _, by rw [e], _, _, rfl⟩))
      · have e : lawS q rate perm pd (i + 1) = (lawS q rate perm pd i).set (i % rate) ((lawS q rate perm pd i).getD (i % rate) 0 ^^^ pd.getD i 0) := by rw [lawS, if_neg (by rw [hb]; decide)]
        exact Ex.nil ⟨[_], rfl, _, by rw [e], _, _, rfl⟩
    · rintro v own ⟨ho, rfl, p, oc, rfl⟩
      refine Then.next ?_
      have hS1 := hSo pd.length
      unfold lawAbs
      generalize lawS q rate perm pd pd.length = h0 at hS1
      refine Ex.freezeAt (by wtm_at "at") .head (by wtm_at "set") ?_
      have hP := lawP_ok hF hS1
      have hT := lawTo_ok (rate := rate) hF hS1
      have hN : ((many - 0 + rate - 1) / rate) * rate ≤ many + rate := by have := Nat.div_mul_le_self (many - 0 + rate - 1) rate; (first | lia | omega)
      refine Ex.cons (St.forM [true, true, true, true, true, true, true, true, true, true, true, false, false, false, false, false, false, false] (fun k v own => own = [] ∧ v = [some (spg w' (tuF w') (woF l)), some (.int (q : Int)), some (.bytes (BY o)), some (.int (rate : Int)), some (.int (many : Int)), some (.int (first : Int)), some (.lst (IL pd)), some (.lst (IL (lawP q perm h0 (k - 1)))), some (.lst (IL (lawTo q rate perm h0 k))), p, oc, none, none, none, none, none, none, none]) (by wtm_at "it") (by wtm_at "at") (by wtm_at "lc") ⟨rfl, rfl⟩ (fun i v o h => by obtain ⟨_, rfl⟩ := h; ((simp only [List.length_cons, List.length_nil]; (first | lia | omega)))) ?_ ?_)
      · rintro k v own rw hi ⟨rfl, rfl⟩
        have F := hG _ (hP (k - 1))
        have hP1 := (hP k).len
        have hT1 := (hT k).2
        have hkr : k * rate ≤ many + rate := Nat.le_trans (Nat.mul_le_mul_right rate (Nat.le_of_lt hi)) hN
        (simp only [List.set_cons_succ, List.set_cons_zero, List.cons_append, List.nil_append])
        refine Ex.consV [some (spg w' (tuF w') (woF l)), some (.int (q : Int)), some (.bytes (BY o)), some (.int (rate : Int)), some (.int (many : Int)), some (.int (first : Int)), some (.lst (IL pd)), some (.lst (IL (lawP q perm h0 k))), some (.lst (IL (lawTo q rate perm h0 k))), p, oc, some (.int ((0 + k * rate : Nat) : Int)), none, none, none, none, none, none] rw (St.if (by wtm_at "evt") (fun hb => ?_) (fun hb => Ex.nil ⟨rfl, ?_, rfl⟩)) ?_
        · obtain ⟨k, rfl⟩ : ∃ k', k = k' + 1 := by
            rcases Nat.eq_zero_or_pos k with rfl | hp
            · simp at hb
            · exact ⟨k - 1, by (first | lia | omega)⟩
          rw [Nat.add_sub_cancel] at F ⊢
          have e : lawP q perm h0 (k + 1) = lawPerm q perm (lawP q perm h0 k) := rfl
          rw [e]
          (((with_reducible apply Ex.cons); (with_reducible apply St.assign); (case h => ((with_reducible apply EvN.toEv); wtm_at "evn")); (case hx => wtm_at "at"); (case hk => wtm_at "lc"); (case hs => wtm_at "set"); (case hsw => (first | rfl | ((refine EnvOk.open (P := fun e => swapsWith _ _ _ e = _) (by (with_reducible assumption)) ?_); intros; rfl))); (with_reducible apply Then.next)))
          exact Ex.nil ⟨rfl, rfl, rfl⟩
        · rcases Nat.eq_zero_or_pos k with rfl | hp
          · rfl
          · exact absurd hb (by rw [Nat.zero_add, decide_eq_true (Nat.mul_pos hp hr)]; decide)
        · refine Ex.cons (St.assign (EvN.toEv (EvN.bin (by wtm_at "ev") (EvN.toEv (EvN.slice (by wtm_at "ev") (by wtm_at "lv") .none (.some (by wtm_at "ev")) (by rw [IL_length]; (first | lia | omega)))) (np_addList ?_))) (by wtm_at "at") (by wtm_at "lc") (by wtm_at "set") (Then.next ?_) (by (first | rfl | ((refine EnvOk.open (P := fun e => swapsWith _ _ _ e = _) (by (with_reducible assumption)) ?_); intros; rfl))))
          · have := cut_length_le (lawP q perm h0 k) none (some rate)
            rw [IL_cut, IL_length, IL_length]; (first | lia | omega)
          · rw [IL_cut, IL_append]
            exact Ex.nil ⟨[], rfl, rfl, rfl⟩
      · rintro v own ⟨rfl, hv⟩
        refine Then.next (Ex.masked hv ?_)
        have hT1 := hT ((many - 0 + rate - 1) / rate)
        generalize lawTo q rate perm h0 ((many - 0 + rate - 1) / rate) = tt at hT1
        refine Ex.cons (St.ret (Ev.callTy (by wtm_at "ev") (EvL.cons (IL_cut ▸ EvN.toEv (EvN.slice (by wtm_at "ev") (by wtm_at "lv") .none (.some (by wtm_at "ev")) (by rw [IL_length]; (first | lia | omega)))) EvL.nil (by rfl)) (ty_bytes (fun x hx => hT1.1 x (cut_mem hx)) (by have := cut_length_le tt none (some many); (first | lia | omega)))) rfl)
end
end

section
section
variable {prog : Program} {w : World} {hB : Heap} {D : Nat} {P : Params}
theorem Ev.turnsG (G : GH (heapK P) hB) {env : Env} {ns : List (Str × NameKind)} {vals : List (Option AV)} {own : List (Addr × MO)} {p : Pos} {i : Nat} (hx : At ns i ("_law_turns", .globalImplicit)) : Ev prog w hB D env ns vals own (.Name "_law_turns" p) (.lst (turnT.map fun r => AV.lst (IL r))) := by
  have h0 : ∃ n0, hB.get? 143 = some (listOf [.int 0 390, .int 36 391, .int 3 392, .int 41 393, .int 18 394].toArray n0) := ⟨_, G.kin _ _ (by k_is)⟩
  have h1 : ∃ n0, hB.get? 144 = some (listOf [.int 1 395, .int 44 396, .int 10 397, .int 45 398, .int 2 399].toArray n0) := ⟨_, G.kin _ _ (by k_is)⟩
  have h2 : ∃ n0, hB.get? 145 = some (listOf [.int 62 400, .int 6 401, .int 43 402, .int 15 403, .int 61 404].toArray n0) := ⟨_, G.kin _ _ (by k_is)⟩
  have h3 : ∃ n0, hB.get? 146 = some (listOf [.int 28 405, .int 55 406, .int 25 407, .int 21 408, .int 56 409].toArray n0) := ⟨_, G.kin _ _ (by k_is)⟩
  have h4 : ∃ n0, hB.get? 147 = some (listOf [.int 27 410, .int 20 411, .int 39 412, .int 8 413, .int 14 414].toArray n0) := ⟨_, G.kin _ _ (by k_is)⟩
  have h5 : ∃ n0, hB.get? 148 = some (listOf [.ref 143, .ref 144, .ref 145, .ref 146, .ref 147].toArray n0) := ⟨_, G.kin _ _ (by k_is)⟩
  obtain ⟨n0, h0⟩ := h0
  obtain ⟨n1, h1⟩ := h1
  obtain ⟨n2, h2⟩ := h2
  obtain ⟨n3, h3⟩ := h3
  obtain ⟨n4, h4⟩ := h4
  obtain ⟨n5, h5⟩ := h5
  refine Ev.glob (v := .ref 148) G hx (by k_is) (fun Φ b => ⟨148, _, n5, rfl, b _ _ h5, ⟨143, _, n0, rfl, b _ _ h0, ⟨⟨_, rfl⟩, ⟨_, rfl⟩, ⟨_, rfl⟩, ⟨_, rfl⟩, ⟨_, rfl⟩, trivial⟩⟩, ⟨144, _, n1, rfl, b _ _ h1, ⟨⟨_, rfl⟩, ⟨_, rfl⟩, ⟨_, rfl⟩, ⟨_, rfl⟩, ⟨_, rfl⟩, trivial⟩⟩, ⟨145, _, n2, rfl, b _ _ h2, ⟨⟨_, rfl⟩, ⟨_, rfl⟩, ⟨_, rfl⟩, ⟨_, rfl⟩, ⟨_, rfl⟩, trivial⟩⟩, ⟨146, _, n3, rfl, b _ _ h3, ⟨⟨_, rfl⟩, ⟨_, rfl⟩, ⟨_, rfl⟩, ⟨_, rfl⟩, ⟨_, rfl⟩, trivial⟩⟩, ⟨147, _, n4, rfl, b _ _ h4, ⟨⟨_, rfl⟩, ⟨_, rfl⟩, ⟨_, rfl⟩, ⟨_, rfl⟩, ⟨_, rfl⟩, trivial⟩⟩, trivial⟩) (by rfl)
noncomputable def lawL (w : Nat) (ws a : List Nat) : Nat → List Nat
  | 0 => a
  | i + 1 => lawR w (colsF (lawL w ws a i)) (lawL w ws a i) (ws.getD i 0)
theorem lawL_len {w : Nat} {ws a : List Nat} (ha : a.length = 25) : ∀ i, (lawL w ws a i).length = 25
  | 0 => ha
  | i + 1 => by rw [lawL, lawR, List.length_set, nowS_len]
theorem rounds_all : ∀ l, l < 7 → ∃ t, findBy Value.isInt #[{ hash := 1, key := Value.int 1 422, val := Value.int 12 423 }, { hash := 2, key := Value.int 2 424, val := Value.int 14 425 }, { hash := 4, key := Value.int 4 426, val := Value.int 16 427 }, { hash := 8, key := Value.int 8 428, val := Value.int 18 429 }, { hash := 16, key := Value.int 16 430, val := Value.int 20 431 }, { hash := 32, key := Value.int 32 432, val := Value.int 22 433 }, { hash := 64, key := Value.int 64 434, val := Value.int 24 435 }] ((1 <<< l : Nat) : Int) = some (Value.int ((12 + 2 * l : Nat) : Int) t)
  | 0, _ => ⟨_, rfl⟩ | 1, _ => ⟨_, rfl⟩ | 2, _ => ⟨_, rfl⟩ | 3, _ => ⟨_, rfl⟩ | 4, _ => ⟨_, rfl⟩ | 5, _ => ⟨_, rfl⟩ | 6, _ => ⟨_, rfl⟩
  | n + 7, h => absurd h (by (first | lia | omega))
theorem Ev.rounds (G : GH (heapK P) hB) {env : Env} {ns : List (Str × NameKind)} {vals : List (Option AV)} {own : List (Addr × MO)} {p pos : Pos} {i l : Nat} {e : Expr} (hx : At ns i ("_law_rounds", .globalImplicit)) {w' : Nat} (hl : l < 7) (hw : w' = 1 <<< l) (he : Ev prog w hB D env ns vals own e (.int (w' : Int)))
    (hs : ∀ o i, subscripted e false o i = operate [o, i] (getItem o i) := by intro _ _; rfl) : Ev prog w hB D env ns vals own (.Subscript (.Name "_law_rounds" p) e pos) (.int ((12 + 2 * l : Nat) : Int)) := by
  subst hw
  obtain ⟨t, ht⟩ := rounds_all l hl
  exact Ev.kDict G (Ev.globR G hx (by k_is) (by rfl)) (by k_is) (by decide +kernel) he ht hs
theorem byLanes_spec (G : GH (heapK P) hB) (l w' : Nat) (a : List Nat) (hl : l < 7) (hw : w' = 1 <<< l) (h0 : 1 ≤ w') (h1 : w' ≤ 64) (ha : a.length = 25) : FnN prog w hB 4 203 [.int (w' : Int), .lst (IL a)] (.lst (IL (lawL w' (cut laidL none (some (12 + 2 * l))) a (cut laidL none (some (12 + 2 * l))).length))) := by
  refine' FnN.flatE (nz := 16) G ?ho ?hcd ?hok ?hl ?hb ?ha ?h
  case ho => k_is
  case hcd => k_is
  case hok => decide +kernel
  case hl => rfl
  case hb => ((intro vs hv; rcases vs with _ | ⟨a0, _ | ⟨a1, _ | ⟨a2, _ | ⟨a3, _ | ⟨a4, _ | ⟨a5, _ | ⟨a6, vs⟩⟩⟩⟩⟩⟩⟩ <;> first | (simp at hv; done) | rfl))
  case ha => exact IL_scal
  case h =>
    intro ε env hE
    simp only [initVals, List.map_cons, List.map_nil, List.replicate, List.nil_append, List.cons_append]
    have hsz := sizeLine_eq
    have hlg : (2 ^ w').log2 < 9000 := by rw [Nat.log2_two_pow]; (first | lia | omega)
    have hp : 0 < 2 ^ w' := Nat.two_pow_pos _
    have F := laid_spec (prog := prog) (w := w) G
    refine Ex.cons (St.tupSwap (names := ["size", "now"]) (xs := ["now", "size"]) (EvS.tuple (EvsS.cons (EvS.ofEv (by wtm_at "ev") (EvsS.cons (EvS.ofEvN (by wtm_at "evn") (fun na => EvsS.nil ⟨by wtm_at "size", _, [_, _], _, rfl, rfl, rfl, by wtm_at "sts", Then.next ?_⟩)) (fun _ => rfl))) (fun _ => rfl))) (by (first | rfl | ((refine EnvOk.open (P := fun e => swappedStores _ _ e = _) (by (with_reducible assumption)) ?_); intros; rfl))) rfl)
    have hla : laidL.length ≤ sizeLine := by rw [hsz]; decide
    have hwl : (cut laidL none (some (12 + 2 * l))).length ≤ 24 := cut_length_le _ _ _
    generalize hws : cut laidL none (some (12 + 2 * l)) = ws at *
    refine Ex.cons (St.forM [true, true, true, true, false, false, false, false, false, false, false, false, false, false, false, false, false, false] (fun i v o => ∃ na, o = [(na, .lst (IL (lawL w' ws a i)))] ∧ v = [some (.int (w' : Int)), some (.lst (IL a)), some (.int ((2 ^ w' : Nat) : Int)), some (.ref na), none, none, none, none, none, none, none, none, none, none, none, none, none, none]) (EvIt.IL (EvN.toEv ((EvN.sliceI (EvN.toEv (EvN.call G (by k_is) (by wtm_at "ev") EvL.nil .nil F (by decide))) .frz .none (.some (Ev.rounds G (by wtm_at "at") hl hw (by wtm_at "ev") (by intro _ _; rfl))) hla).eq (by rw [hws])))) (by wtm_at "at") (by wtm_at "lc") ⟨na, rfl, rfl⟩ (fun i v o h => by obtain ⟨_, _, rfl⟩ := h; ((simp only [List.length_cons, List.length_nil]; (first | lia | omega)))) ?_ ?_)
    · rintro i v o rw hi ⟨na, rfl, rfl⟩
      have hlen : (lawL w' ws a i).length = 25 := lawL_len ha i
      generalize hb : lawL w' ws a i = b at hlen
      have e : lawL w' ws a (i + 1) = lawR w' (colsF b) b (ws.getD i 0) := by rw [← hb]; rfl
      (simp only [List.set_cons_succ, List.set_cons_zero, List.cons_append, List.nil_append])
      refine Ex.cons (St.tupSwap (names := ["columns", "later"]) (xs := ["later", "columns"]) (EvS.tuple (EvsS.cons (EvS.ofEvN (by wtm_at "evn") (fun co => EvsS.cons (EvS.ofEvN (by wtm_at "evn") (fun la => EvsS.nil ⟨by wtm_at "size", _, [_, _], _, rfl, rfl, rfl, by wtm_at "sts", Then.next ?_⟩)) (fun _ => rfl))) (fun _ => rfl))) (by (first | rfl | ((refine EnvOk.open (P := fun e => swappedStores _ _ e = _) (by (with_reducible assumption)) ?_); intros; rfl))) rfl)
      have hcl : (colsF b).length = 5 := by simp [colsF]
      refine Ex.cons (St.forM [true, true, true, true, true, true, true, false, false, false, false, false, false, false, false, false, false, false] (fun j v o => o = (la, .dct [] []) :: (co, .lst (IL ((List.range j).map fun x => b.getD x 0 ^^^ b.getD (x + 5) 0 ^^^ b.getD (x + 10) 0 ^^^ b.getD (x + 15) 0 ^^^ b.getD (x + 20) 0))) :: (na, .lst (IL b)) :: rw ∧ v = [some (.int (w' : Int)), some (.lst (IL a)), some (.int ((2 ^ w' : Nat) : Int)), some (.ref na), some (.int ((ws.getD i 0 : Nat) : Int)), some (.ref co), some (.ref la), none, none, none, none, none, none, none, none, none, none, none]) (by wtm_at "it") (by wtm_at "at") (by wtm_at "lc") ⟨rfl, rfl⟩ (fun i v o h => by obtain ⟨_, rfl⟩ := h; ((simp only [List.length_cons, List.length_nil]; (first | lia | omega)))) ?_ ?_)
      · rintro j v o rw' hj ⟨rfl, rfl⟩
        (simp only [List.set_cons_succ, List.set_cons_zero, List.cons_append, List.nil_append])
        refine Ex.cons (St.meth (by wtm_at "ev") (by wtm_at "at") (by (first | exact ng_list PySem.F.slot_list_append (by kernel_rfl) | exact ng_list PySem.F.slot_list_extend (by kernel_rfl))) (by wtm_at "evl") (mg_append (by rw [IL_length, hsz]; simp; (first | lia | omega))) (by wtm_at "set") (Then.next ?_) (interactive_ok hE) (by rfl) (by rfl))
        refine Ex.nil ⟨_ :: _ :: _ :: _, rfl, ?_, rfl⟩
        rw [IL_one, IL_append, List.range_succ (n := j), List.map_append, List.map_singleton]
      · rintro v o ⟨rfl, hv⟩
        refine Then.next (Ex.masked hv ?_)
        have ec : (List.range 5).map (fun x => b.getD x 0 ^^^ b.getD (x + 5) 0 ^^^ b.getD (x + 10) 0 ^^^ b.getD (x + 15) 0 ^^^ b.getD (x + 20) 0) = colsF b := rfl
        rw [ec]
        generalize hc : colsF b = c at hcl e
        refine Ex.cons (St.forM [true, true, true, true, true, true, true, false, false, false, false, false, false, false, false, false, false, false] (fun y v o => o = (la, dctN (keysS y 0) (latG w' b c)) :: (co, .lst (IL c)) :: (na, .lst (IL b)) :: rw ∧ v = [some (.int (w' : Int)), some (.lst (IL a)), some (.int ((2 ^ w' : Nat) : Int)), some (.ref na), some (.int ((ws.getD i 0 : Nat) : Int)), some (.ref co), some (.ref la), none, none, none, none, none, none, none, none, none, none, none]) (by wtm_at "it") (by wtm_at "at") (by wtm_at "lc") ⟨rfl, rfl⟩ (fun i v o h => by obtain ⟨_, rfl⟩ := h; ((simp only [List.length_cons, List.length_nil]; (first | lia | omega)))) ?_ ?_)
        · rintro y v o rw1 hy ⟨rfl, rfl⟩
          (simp only [List.set_cons_succ, List.set_cons_zero, List.cons_append, List.nil_append])
          refine Ex.cons (St.forM [true, true, true, true, true, true, true, false, true, false, false, false, false, false, false, false, false, false] (fun x v o => o = (la, dctN (keysS y x) (latG w' b c)) :: (co, .lst (IL c)) :: (na, .lst (IL b)) :: (rw ++ rw1) ∧ v = [some (.int (w' : Int)), some (.lst (IL a)), some (.int ((2 ^ w' : Nat) : Int)), some (.ref na), some (.int ((ws.getD i 0 : Nat) : Int)), some (.ref co), some (.ref la), none, some (.int (y : Int)), none, none, none, none, none, none, none, none, none]) (by wtm_at "it") (by wtm_at "at") (by wtm_at "lc") ⟨rfl, rfl⟩ (fun i v o h => by obtain ⟨_, rfl⟩ := h; ((simp only [List.length_cons, List.length_nil]; (first | lia | omega)))) ?_ ?_)
          · rintro x v o rw2 hx ⟨rfl, rfl⟩
            have htl := turnT_len x hx
            have hby : turnN x y % w' < w' := Nat.mod_lt _ h0
            have hpb : 2 ^ (turnN x y % w') < 2 ^ 64 := Nat.pow_lt_pow_right (by decide) (by (first | lia | omega))
            (simp only [List.set_cons_succ, List.set_cons_zero, List.cons_append, List.nil_append])
            refine Ex.cons (St.tupSwap (names := ["other", "by"]) (xs := ["by", "other"]) (EvS.tuple (EvsS.cons (EvS.ofEv (by wtm_at "ev") (EvsS.cons (EvS.ofEv (Ev.modN (a := turnN x y) (Ev.itemN (Ev.itemK (Ev.turnsG G (by wtm_at "at")) .frz (by wtm_at "ev") (by (first | lia | omega)) (turnT_row x hx) (by intro _ _; rfl)) .frz (by wtm_at "ev") (by (first | lia | omega)) (by (first | lia | omega)) (by intro _ _; rfl)) (by wtm_at "ev") h0) (EvsS.nil ⟨by wtm_at "size", _, [_, _], _, rfl, rfl, rfl, by wtm_at "sts", Then.next ?_⟩)) (fun _ => rfl))) (fun _ => rfl))) (by (first | rfl | ((refine EnvOk.open (P := fun e => swappedStores _ _ e = _) (by (with_reducible assumption)) ?_); intros; rfl))) rfl)
            (((with_reducible apply Ex.cons); (with_reducible apply St.assign); (case h => wtm_at "ev"); (case hx => wtm_at "at"); (case hk => wtm_at "lc"); (case hs => wtm_at "set"); (case hsw => (first | rfl | ((refine EnvOk.open (P := fun e => swapsWith _ _ _ e = _) (by (with_reducible assumption)) ?_); intros; rfl))); (with_reducible apply Then.next)))
            have ho : b.getD (x + 5 * y) 0 ^^^ c.getD ((x + 4) % 5) 0 ^^^ 2 * c.getD ((x + 1) % 5) 0 % 2 ^ w' + 2 * c.getD ((x + 1) % 5) 0 / 2 ^ w' = oneL w' b c x y := rfl
            rw [ho]
            refine Ex.cons (St.dctN (Ev.addN (Ev.modN (Ev.mulN (by wtm_at "ev") (Ev.powN (by wtm_at "ev") (by wtm_at "ev") (by (first | lia | omega)) (by decide)) (mulR hpb)) (by wtm_at "ev") hp) (Ev.divN (Ev.mulN (by wtm_at "ev") (Ev.powN (by wtm_at "ev") (by wtm_at "ev") (by (first | lia | omega)) (by decide)) (mulR hpb)) (by wtm_at "ev") hp hlg)) (by wtm_at "ev") (by wtm_at "ev") (by wtm_at "ev") (by wtm_at "at") ?hn (keysS_new y hy x hx) (keysS_len y hy x hx) (by wtm_at "set") (Then.next ?_) (by rfl) (by rfl) (by (first | rfl | ((refine EnvOk.open (P := fun e => swapsWith _ _ _ e = _) (by (with_reducible assumption)) ?_); intros; rfl))))
            case hn => rw [latG_at hx hy]; rfl
            rw [keysS_one]
            exact Ex.nil ⟨_ :: _ :: _ :: _, rfl, rfl, rfl⟩
          · rintro v o ⟨rfl, hv⟩
            refine Then.next (Ex.masked hv (Ex.nil ⟨_ :: _ :: _ :: _, rfl, ?_, rfl⟩))
            rw [keysS_row]
        · rintro v o ⟨rfl, hv⟩
          refine Then.next (Ex.masked hv ?_)
          (((with_reducible apply Ex.cons); (with_reducible apply St.assignN); (case h => wtm_at "evn"); (case hx => wtm_at "at"); (case hk => wtm_at "lc"); (case hs => (intro _; wtm_at "set")); (case hsw => (first | rfl | ((refine EnvOk.open (P := fun e => swapsWith _ _ _ e = _) (by (with_reducible assumption)) ?_); intros; rfl))); intro _; (with_reducible apply Then.next)))
          rename_i nn
          have hK := keysS_all
          refine Ex.cons (St.forM [true, true, true, true, true, true, true, false, false, false, false, false, false, false, false, false, false, false] (fun y v o => o = (nn, .lst (IL (nowS (latG w' b c) y 0))) :: (la, dctN (keysS 5 0) (latG w' b c)) :: (co, .lst (IL c)) :: (na, .lst (IL b)) :: rw ∧ v = [some (.int (w' : Int)), some (.lst (IL a)), some (.int ((2 ^ w' : Nat) : Int)), some (.ref nn), some (.int ((ws.getD i 0 : Nat) : Int)), some (.ref co), some (.ref la), none, none, none, none, none, none, none, none, none, none, none]) (by wtm_at "it") (by wtm_at "at") (by wtm_at "lc") ⟨rfl, rfl⟩ (fun i v o h => by obtain ⟨_, rfl⟩ := h; ((simp only [List.length_cons, List.length_nil]; (first | lia | omega)))) ?_ ?_)
          · rintro y v o rw1 hy ⟨rfl, rfl⟩
            (simp only [List.set_cons_succ, List.set_cons_zero, List.cons_append, List.nil_append])
            refine Ex.cons (St.forM [true, true, true, true, true, true, true, false, true, false, false, false, false, false, false, false, false, false] (fun x v o => o = (nn, .lst (IL (nowS (latG w' b c) y x))) :: (la, dctN (keysS 5 0) (latG w' b c)) :: (co, .lst (IL c)) :: (na, .lst (IL b)) :: (rw ++ rw1) ∧ v = [some (.int (w' : Int)), some (.lst (IL a)), some (.int ((2 ^ w' : Nat) : Int)), some (.ref nn), some (.int ((ws.getD i 0 : Nat) : Int)), some (.ref co), some (.ref la), none, some (.int (y : Int)), none, none, none, none, none, none, none, none, none]) (by wtm_at "it") (by wtm_at "at") (by wtm_at "lc") ⟨rfl, rfl⟩ (fun i v o h => by obtain ⟨_, rfl⟩ := h; ((simp only [List.length_cons, List.length_nil]; (first | lia | omega)))) ?_ ?_)
            · rintro x v o rw2 hx ⟨rfl, rfl⟩
              have hnl := nowS_len (g := latG w' b c) (i := y) (j := x)
              have hk1 := hK x hx y hy
              have hk2 := hK ((x + 2) % 5) (Nat.mod_lt _ (by decide)) y hy
              have hk3 := hK ((x + 1) % 5) (Nat.mod_lt _ (by decide)) y hy
              (simp only [List.set_cons_succ, List.set_cons_zero, List.cons_append, List.nil_append])
              refine Ex.cons (St.assign (Ev.dctN (by wtm_at "ev") (by wtm_at "at") (by wtm_at "ev") (by wtm_at "ev") hk2 (by rfl) (by rfl) (by intro _ _; rfl)) (by wtm_at "at") (by wtm_at "lc") (by wtm_at "set") (Then.next ?_) (by (first | rfl | ((refine EnvOk.open (P := fun e => swapsWith _ _ _ e = _) (by (with_reducible assumption)) ?_); intros; rfl))))
              refine Ex.cons (St.meth (by wtm_at "ev") (by wtm_at "at") (by (first | exact ng_list PySem.F.slot_list_append (by kernel_rfl) | exact ng_list PySem.F.slot_list_extend (by kernel_rfl))) (EvL.cons (Ev.xorN (Ev.dctN (by wtm_at "ev") (by wtm_at "at") (by wtm_at "ev") (by wtm_at "ev") hk1 (by rfl) (by rfl) (by intro _ _; rfl)) (Ev.subN (by wtm_at "ev") (Ev.andN (by wtm_at "ev") (Ev.dctN (by wtm_at "ev") (by wtm_at "at") (by wtm_at "ev") (by wtm_at "ev") hk3 (by rfl) (by rfl) (by intro _ _; rfl))) Nat.and_le_left)) EvL.nil (by rfl)) (mg_append (by rw [IL_length, hsz]; (first | lia | omega))) (by wtm_at "set") (Then.next ?_) (interactive_ok hE) (by rfl) (by rfl))
              refine Ex.nil ⟨_ :: _ :: _ :: _ :: _, rfl, ?_, rfl⟩
              rw [IL_one, IL_append, ← nowS_one]
              rfl
            · rintro v o ⟨rfl, hv⟩
              refine Then.next (Ex.masked hv (Ex.nil ⟨_ :: _ :: _ :: _ :: _, rfl, ?_, rfl⟩))
              rw [nowS_row]
          · rintro v o ⟨rfl, hv⟩
            refine Then.next (Ex.masked hv ?_)
            have hnl := nowS_len (g := latG w' b c) (i := 5) (j := 0)
            (((with_reducible apply Ex.cons); (with_reducible apply St.setItem); (case hv => wtm_at "ev"); (case ho => wtm_at "ev"); (case hi => wtm_at "ev"); (case hj => wtm_at "at"); (case hs => (first | ((with_reducible apply sg_IL) <;> wtm_at "num") | ((with_reducible apply sg_listN) <;> wtm_at "num"))); (case hset => wtm_at "set"); (case hsw => (first | rfl | ((refine EnvOk.open (P := fun e => swapsWith _ _ _ e = _) (by (with_reducible assumption)) ?_); intros; rfl))); (with_reducible apply Then.next)))
            refine Ex.drop (.tail .head) (Ex.drop (.tail .head) (Ex.drop (.tail .head) ?_))
            refine Ex.nil ⟨[_], rfl, nn, ?_, rfl⟩
            rw [e]; rfl
    · rintro v o ⟨na, rfl, hv⟩
      refine Then.next (Ex.masked hv (Ex.cons (St.ret (by wtm_at "ev") ⟨na, rfl, .head _⟩)))
end
end

section
section
variable {prog : Program} {w : World} {hB : Heap} {D : Nat} {P : Params}
theorem byBits_spec (G : GH (heapK P) hB) (l w' : Nat) (a : List Nat) (hl : l < 7) (hw : w' = 1 <<< l) (h0 : 1 ≤ w') (h1 : w' ≤ 64) (ha : a.length = 25) : FnN prog w hB 4 196 [.int (w' : Int), .lst (IL a)] (.lst (IL (backF w' (lawBS w' (cut laidL none (some (12 + 2 * l))) (bitsF w' a) (cut laidL none (some (12 + 2 * l))).length)))) := by
  refine' FnN.flatE (nz := 15) G ?ho ?hcd ?hok ?hl ?hb ?ha ?h
  case ho => k_is
  case hcd => k_is
  case hok => decide +kernel
  case hl => rfl
  case hb => ((intro vs hv; rcases vs with _ | ⟨a0, _ | ⟨a1, _ | ⟨a2, _ | ⟨a3, _ | ⟨a4, _ | ⟨a5, _ | ⟨a6, vs⟩⟩⟩⟩⟩⟩⟩ <;> first | (simp at hv; done) | rfl))
  case ha => exact IL_scal
  case h =>
    intro ε env hE
    simp only [initVals, List.map_cons, List.map_nil, List.replicate, List.nil_append, List.cons_append]
    have hsz := sizeLine_eq
    have F := laid_spec (prog := prog) (w := w) G
    have hlg : ∀ z, z < w' → (2 ^ z).log2 < 9000 := fun z hz => by rw [Nat.log2_two_pow]; (first | lia | omega)
    have hp : ∀ z : Nat, 0 < 2 ^ z := fun z => Nat.two_pow_pos _
    refine Ex.cons (St.assignN (EvN.compR (f := fun i => .lst (IL (bitsOf w' (a.getD i 0)))) (EvIt.IL (by wtm_at "ev")) (by wtm_at "cap") (by wtm_at "at") (.inr ⟨rfl, by decide +kernel⟩) (by (first | lia | omega)) (fun i C hi => ?_) (by decide +kernel) rfl (by decide +kernel) (by intro _; rfl)) (by wtm_at "at") (by wtm_at "lc") (fun _ => by wtm_at "set") (fun b0 => Then.next ?_) (by (first | rfl | ((refine EnvOk.open (P := fun e => swapsWith _ _ _ e = _) (by (with_reducible assumption)) ?_); intros; rfl))))
    · (simp only [List.set_cons_succ, List.set_cons_zero, List.cons_append, List.nil_append])
      refine EvN.toEv (EvN.compN (f := fun z => a.getD i 0 / 2 ^ z % 2) (by wtm_at "it") (by wtm_at "cap") (by wtm_at "at") (.inl rfl) (by (first | lia | omega)) (fun z C hz => ?_) (by decide +kernel) rfl (by decide +kernel) (by intro _; rfl))
      (simp only [List.set_cons_succ, List.set_cons_zero, List.cons_append, List.nil_append])
      exact Ev.modN (Ev.divN (by wtm_at "ev") (by wtm_at "ev") (hp z) (hlg z hz)) (by wtm_at "ev") (by decide)
    · have e0 : (List.range a.length).map (fun i => AV.lst (IL (bitsOf w' (a.getD i 0)))) = LL (bitsF w' a) := by unfold LL bitsF; rw [List.map_map]; rfl
      rw [e0]
      have hB0 : BOk w' 25 (bitsF w' a) := by have := bitsF_ok (w := w') (a := a); rwa [ha] at this
      generalize bitsF w' a = B0 at hB0
      have hla : laidL.length ≤ sizeLine := by rw [hsz]; decide
      have hwl : (cut laidL none (some (12 + 2 * l))).length ≤ 24 := cut_length_le _ _ _
      generalize hws : cut laidL none (some (12 + 2 * l)) = ws at *
      refine Ex.cons (St.forM [true, true, true, false, false, false, false, false, false, false, false, false, false, false, false, false, false] (fun i v o => ∃ bo, o = [(bo, .lst (LL (lawBS w' ws B0 i)))] ∧ v = [some (.int (w' : Int)), some (.lst (IL a)), some (.ref bo), none, none, none, none, none, none, none, none, none, none, none, none, none, none]) (EvIt.IL (EvN.toEv ((EvN.sliceI (EvN.toEv (EvN.call G (by k_is) (by wtm_at "ev") EvL.nil .nil F (by decide))) .frz .none (.some (Ev.rounds G (by wtm_at "at") hl hw (by wtm_at "ev") (by intro _ _; rfl))) hla).eq (by rw [hws])))) (by wtm_at "at") (by wtm_at "lc") ⟨b0, rfl, rfl⟩ (fun i v o h => by obtain ⟨_, _, rfl⟩ := h; ((simp only [List.length_cons, List.length_nil]; (first | lia | omega)))) ?_ ?_)
      · rintro i v o rw hi ⟨bo, rfl, rfl⟩
        have hB := lawBS_ok (ws := ws) hB0 i
        generalize hb : lawBS w' ws B0 i = B at hB
        have e : lawBS w' ws B0 (i + 1) = lawB w' B (colsB w' B) (ws.getD i 0) := by rw [← hb]; rfl
        have hBl := hB.len
        have hBr := hB.row
        (simp only [List.set_cons_succ, List.set_cons_zero, List.cons_append, List.nil_append])
        (((with_reducible apply Ex.cons); (with_reducible apply St.assignN); (case h => wtm_at "evn"); (case hx => wtm_at "at"); (case hk => wtm_at "lc"); (case hs => (intro _; wtm_at "set")); (case hsw => (first | rfl | ((refine EnvOk.open (P := fun e => swapsWith _ _ _ e = _) (by (with_reducible assumption)) ?_); intros; rfl))); intro _; (with_reducible apply Then.next)))
        rename_i co
        refine Ex.cons (St.forM [true, true, true, true, true, false, false, false, false, false, false, false, false, false, false, false, false] (fun x v o => o = (co, .lst (LL ((List.range x).map (colB w' B)))) :: (bo, .lst (LL B)) :: rw ∧ v = [some (.int (w' : Int)), some (.lst (IL a)), some (.ref bo), some (.int ((ws.getD i 0 : Nat) : Int)), some (.ref co), none, none, none, none, none, none, none, none, none, none, none, none]) (by wtm_at "it") (by wtm_at "at") (by wtm_at "lc") ⟨rfl, rfl⟩ (fun i v o h => by obtain ⟨_, rfl⟩ := h; ((simp only [List.length_cons, List.length_nil]; (first | lia | omega)))) ?_ ?_)
        · rintro x v o rw1 hx ⟨rfl, rfl⟩
          (simp only [List.set_cons_succ, List.set_cons_zero, List.cons_append, List.nil_append])
          refine Ex.cons (St.meth (by wtm_at "ev") (by wtm_at "at") (by (first | exact ng_list PySem.F.slot_list_append (by kernel_rfl) | exact ng_list PySem.F.slot_list_extend (by kernel_rfl))) (EvL.cons (EvN.toEv (EvN.compN (f := fun z => ((List.range 5).map fun y => (B.getD (x + 5 * y) []).getD z 0).sum % 2) (by wtm_at "it") (by wtm_at "cap") (by wtm_at "at") (.inr ⟨rfl, by decide +kernel⟩) (by (first | lia | omega)) (fun z C hz => ?_) (by decide +kernel) rfl (by decide +kernel) (by intro _; rfl))) EvL.nil (by rfl)) (mg_append (by rw [LL_length, hsz]; simp; (first | lia | omega))) (by wtm_at "set") (Then.next ?_) (interactive_ok hE) (by rfl) (by rfl))
          · (simp only [List.set_cons_succ, List.set_cons_zero, List.cons_append, List.nil_append])
            refine Ev.modN (Ev.callBl (by wtm_at "ev") (EvL.cons (EvN.toEv (EvN.compN (f := fun y => (B.getD (x + 5 * y) []).getD z 0) (by wtm_at "it") (by wtm_at "cap") (by wtm_at "at") (.inl rfl) (by (first | lia | omega)) (fun y C hy => ?_) (by decide +kernel) rfl (by decide +kernel) (by intro _; rfl))) EvL.nil (by rfl)) bl_sum) (by wtm_at "ev") (by decide)
            have hr := hBr (x + 5 * y) (by (first | lia | omega))
            (simp only [List.set_cons_succ, List.set_cons_zero, List.cons_append, List.nil_append])
            exact Ev.item2 (by wtm_at "ev") (by wtm_at "lv") (by wtm_at "ev") (by wtm_at "ev") (by (first | lia | omega)) (by (first | lia | omega)) (by (first | lia | omega)) (by (first | lia | omega)) (by intro _ _; rfl) (by intro _ _; rfl)
          · refine Ex.nil ⟨_ :: _ :: _, rfl, ?_, rfl⟩
            rw [LL_one, LL_app, List.range_succ (n := x), List.map_append, List.map_singleton]
            rfl
        · rintro v o ⟨rfl, hv⟩
          refine Then.next (Ex.masked hv ?_)
          have ec : (List.range 5).map (colB w' B) = colsB w' B := rfl
          rw [ec]
          have hC := colsB_ok (w := w') (B := B)
          generalize hc : colsB w' B = c at hC e
          have hCl := hC.len
          have hCr := hC.row
          (((with_reducible apply Ex.cons); (with_reducible apply St.assignN); (case h => wtm_at "evn"); (case hx => wtm_at "at"); (case hk => wtm_at "lc"); (case hs => (intro _; wtm_at "set")); (case hsw => (first | rfl | ((refine EnvOk.open (P := fun e => swapsWith _ _ _ e = _) (by (with_reducible assumption)) ?_); intros; rfl))); intro _; (with_reducible apply Then.next)))
          rename_i la
          refine Ex.cons (St.forM [true, true, true, true, true, false, false, true, false, false, false, false, false, false, false, false, false] (fun y v o => o = (la, dctL (keysS y 0) (latB w' B c)) :: (co, .lst (LL c)) :: (bo, .lst (LL B)) :: rw ∧ v = [some (.int (w' : Int)), some (.lst (IL a)), some (.ref bo), some (.int ((ws.getD i 0 : Nat) : Int)), some (.ref co), none, none, some (.ref la), none, none, none, none, none, none, none, none, none]) (by wtm_at "it") (by wtm_at "at") (by wtm_at "lc") ⟨rfl, rfl⟩ (fun i v o h => by obtain ⟨_, rfl⟩ := h; ((simp only [List.length_cons, List.length_nil]; (first | lia | omega)))) ?_ ?_)
          · rintro y v o rw1 hy ⟨rfl, rfl⟩
            (simp only [List.set_cons_succ, List.set_cons_zero, List.cons_append, List.nil_append])
            refine Ex.cons (St.forM [true, true, true, true, true, false, true, true, false, false, false, false, false, false, false, false, false] (fun x v o => o = (la, dctL (keysS y x) (latB w' B c)) :: (co, .lst (LL c)) :: (bo, .lst (LL B)) :: (rw ++ rw1) ∧ v = [some (.int (w' : Int)), some (.lst (IL a)), some (.ref bo), some (.int ((ws.getD i 0 : Nat) : Int)), some (.ref co), none, some (.int (y : Int)), some (.ref la), none, none, none, none, none, none, none, none, none]) (by wtm_at "it") (by wtm_at "at") (by wtm_at "lc") ⟨rfl, rfl⟩ (fun i v o h => by obtain ⟨_, rfl⟩ := h; ((simp only [List.length_cons, List.length_nil]; (first | lia | omega)))) ?_ ?_)
            · rintro x v o rw2 hx ⟨rfl, rfl⟩
              have htl := turnT_len x hx
              have hr := hBr (x + 5 * y) (by (first | lia | omega))
              have hr4 := hCr ((x + 4) % 5) (Nat.mod_lt _ (by decide))
              have hr1 := hCr ((x + 1) % 5) (Nat.mod_lt _ (by decide))
              (simp only [List.set_cons_succ, List.set_cons_zero, List.cons_append, List.nil_append])
              refine Ex.cons (St.tup (by wtm_at "nms") (EvS.ofEv (Ev.tuple (EvL.cons (Ev.itemL (by wtm_at "ev") (by wtm_at "lv") (by wtm_at "ev") (by (first | lia | omega)) (by (first | lia | omega)) (by intro _ _; rfl)) (EvL.cons (Ev.itemL (by wtm_at "ev") (by wtm_at "lv") (by wtm_at "ev") (by (first | lia | omega)) (by (first | lia | omega)) (by intro _ _; rfl)) EvL.nil (by rfl)) (by rfl)) (by wtm_at "size")) ⟨_, _, rfl, rfl, by wtm_at "sts", Then.next ?_⟩) (by rfl) (by (first | rfl | ((refine EnvOk.open (P := fun e => swappedStores _ _ e = _) (by (with_reducible assumption)) ?_); intros; rfl))))
              refine Ex.cons (St.assign (EvN.toEv (EvN.compN (f := fun z => ((B.getD (x + 5 * y) []).getD z 0 + (c.getD ((x + 4) % 5) []).getD z 0 + (c.getD ((x + 1) % 5) []).getD ((z + (c.getD ((x + 1) % 5) []).length - 1) % (c.getD ((x + 1) % 5) []).length) 0) % 2) (by wtm_at "it") (by wtm_at "cap") (by wtm_at "at") (.inl rfl) (by (first | lia | omega)) (fun z C hz => ?hm) (by decide +kernel) rfl (by decide +kernel) (by intro _; rfl))) (by wtm_at "at") (by wtm_at "lc") (by wtm_at "set") (Then.next ?_) (by (first | rfl | ((refine EnvOk.open (P := fun e => swapsWith _ _ _ e = _) (by (with_reducible assumption)) ?_); intros; rfl))))
              case hm =>
                (simp only [List.set_cons_succ, List.set_cons_zero, List.cons_append, List.nil_append])
                exact Ev.modN (Ev.addN (Ev.addN (Ev.item2 (by wtm_at "ev") (by wtm_at "lv") (by wtm_at "ev") (by wtm_at "ev") (by (first | lia | omega)) (by (first | lia | omega)) (by (first | lia | omega)) (by (first | lia | omega)) (by intro _ _; rfl) (by intro _ _; rfl)) (by wtm_at "ev")) (by wtm_at "ev")) (by wtm_at "ev") (by decide)
              have em : (List.range w').map (fun z => ((B.getD (x + 5 * y) []).getD z 0 + (c.getD ((x + 4) % 5) []).getD z 0 + (c.getD ((x + 1) % 5) []).getD ((z + (c.getD ((x + 1) % 5) []).length - 1) % (c.getD ((x + 1) % 5) []).length) 0) % 2) = mixB w' B c x y := rfl
              have hml : (mixB w' B c x y).length = w' := row_len
              rw [em]
              refine Ex.cons (St.assign (Ev.itemN (k := y) (l := turnT.getD x []) (Ev.itemK (Ev.turnsG G (by wtm_at "at")) .frz (by wtm_at "ev") (by (first | lia | omega)) (turnT_row x hx) (by intro _ _; rfl)) .frz (by wtm_at "ev") (by (first | lia | omega)) (by (first | lia | omega)) (by intro _ _; rfl)) (by wtm_at "at") (by wtm_at "lc") (by wtm_at "set") (Then.next ?_) (by (first | rfl | ((refine EnvOk.open (P := fun e => swapsWith _ _ _ e = _) (by (with_reducible assumption)) ?_); intros; rfl))))
              have et : (turnT.getD x []).getD y 0 = turnN x y := rfl
              rw [et]
              refine Ex.cons (St.dctL (EvN.toEv (EvN.compN (f := fun z => (mixB w' B c x y).getD ((z + (w' - turnN x y % w')) % w') 0) (by wtm_at "it") (by wtm_at "cap") (by wtm_at "at") (.inl rfl) (by (first | lia | omega)) (fun z C hz => ?hl) (by decide +kernel) rfl (by decide +kernel) (by intro _; rfl))) (by wtm_at "ev") (by wtm_at "ev") (by wtm_at "ev") (by wtm_at "at") ?hn (keysS_new y hy x hx) (keysS_len y hy x hx) (by wtm_at "set") (Then.next ?_) (by rfl) (by rfl) (by (first | rfl | ((refine EnvOk.open (P := fun e => swapsWith _ _ _ e = _) (by (with_reducible assumption)) ?_); intros; rfl))))
              case hl =>
                have hm := Nat.mod_lt (z + (w' - turnN x y % w')) h0
                (simp only [List.set_cons_succ, List.set_cons_zero, List.cons_append, List.nil_append])
                exact Ev.itemN (by wtm_at "ev") .frz (Ev.backN (t := turnN x y) (by wtm_at "ev") (by wtm_at "ev") (by wtm_at "ev") h0) (by (first | lia | omega)) (by (first | lia | omega)) (by intro _ _; rfl)
              case hn => rw [latB_at hx hy]; rfl
              rw [keysS_one]
              exact Ex.nil ⟨_ :: _ :: _ :: _, rfl, rfl, rfl⟩
            · rintro v o ⟨rfl, hv⟩
              refine Then.next (Ex.masked hv (Ex.nil ⟨_ :: _ :: _ :: _, rfl, ?_, rfl⟩))
              rw [keysS_row]
          · rintro v o ⟨rfl, hv⟩
            refine Then.next (Ex.masked hv ?_)
            (((with_reducible apply Ex.cons); (with_reducible apply St.assignN); (case h => wtm_at "evn"); (case hx => wtm_at "at"); (case hk => wtm_at "lc"); (case hs => (intro _; wtm_at "set")); (case hsw => (first | rfl | ((refine EnvOk.open (P := fun e => swapsWith _ _ _ e = _) (by (with_reducible assumption)) ?_); intros; rfl))); intro _; (with_reducible apply Then.next)))
            rename_i bn
            have hK := keysS_all
            have hG : ∀ k, (latB w' B c k).length = w' ∧ ∀ z, (latB w' B c k).getD z 0 < 2 := latB_ok
            unfold lawB at e
            generalize latB w' B c = g at *
            refine Ex.cons (St.forM [true, true, true, true, true, false, false, true, false, false, false, false, false, false, false, false, false] (fun y v o => o = (bn, .lst (LL (rowS (chiB w' g) y 0))) :: (la, dctL (keysS 5 0) g) :: (co, .lst (LL c)) :: (bo, .lst (LL B)) :: rw ∧ v = [some (.int (w' : Int)), some (.lst (IL a)), some (.ref bn), some (.int ((ws.getD i 0 : Nat) : Int)), some (.ref co), none, none, some (.ref la), none, none, none, none, none, none, none, none, none]) (by wtm_at "it") (by wtm_at "at") (by wtm_at "lc") ⟨rfl, rfl⟩ (fun i v o h => by obtain ⟨_, rfl⟩ := h; ((simp only [List.length_cons, List.length_nil]; (first | lia | omega)))) ?_ ?_)
            · rintro y v o rw1 hy ⟨rfl, rfl⟩
              (simp only [List.set_cons_succ, List.set_cons_zero, List.cons_append, List.nil_append])
              refine Ex.cons (St.forM [true, true, true, true, true, false, true, true, false, false, false, false, false, false, false, false, false] (fun x v o => o = (bn, .lst (LL (rowS (chiB w' g) y x))) :: (la, dctL (keysS 5 0) g) :: (co, .lst (LL c)) :: (bo, .lst (LL B)) :: (rw ++ rw1) ∧ v = [some (.int (w' : Int)), some (.lst (IL a)), some (.ref bn), some (.int ((ws.getD i 0 : Nat) : Int)), some (.ref co), none, some (.int (y : Int)), some (.ref la), none, none, none, none, none, none, none, none, none]) (by wtm_at "it") (by wtm_at "at") (by wtm_at "lc") ⟨rfl, rfl⟩ (fun i v o h => by obtain ⟨_, rfl⟩ := h; ((simp only [List.length_cons, List.length_nil]; (first | lia | omega)))) ?_ ?_)
              · rintro x v o rw2 hx ⟨rfl, rfl⟩
                have hrl := rowS_len (f := chiB w' g) (i := y) (j := x)
                have hk1 := hK x hx y hy
                have hk2 := hK ((x + 1) % 5) (Nat.mod_lt _ (by decide)) y hy
                have hk3 := hK ((x + 2) % 5) (Nat.mod_lt _ (by decide)) y hy
                have g1 := (hG (x, y)).1
                have g2 := (hG ((x + 1) % 5, y)).1
                have g3 := (hG ((x + 2) % 5, y)).1
                have g4 := (hG ((x + 1) % 5, y)).2
                (simp only [List.set_cons_succ, List.set_cons_zero, List.cons_append, List.nil_append])
                refine Ex.cons (St.tup (by wtm_at "nms") (EvS.ofEv (Ev.tuple (EvL.cons (Ev.dctL (by wtm_at "ev") (by wtm_at "at") (by wtm_at "ev") (by wtm_at "ev") hk1 (by rfl) (by rfl) (by intro _ _; rfl)) (EvL.cons (Ev.dctL (by wtm_at "ev") (by wtm_at "at") (by wtm_at "ev") (by wtm_at "ev") hk2 (by rfl) (by rfl) (by intro _ _; rfl)) (EvL.cons (Ev.dctL (by wtm_at "ev") (by wtm_at "at") (by wtm_at "ev") (by wtm_at "ev") hk3 (by rfl) (by rfl) (by intro _ _; rfl)) EvL.nil (by rfl)) (by rfl)) (by rfl)) (by wtm_at "size")) ⟨_, _, rfl, rfl, by wtm_at "sts", Then.next ?_⟩) (by rfl) (by (first | rfl | ((refine EnvOk.open (P := fun e => swappedStores _ _ e = _) (by (with_reducible assumption)) ?_); intros; rfl))))
                refine Ex.cons (St.meth (by wtm_at "ev") (by wtm_at "at") (by (first | exact ng_list PySem.F.slot_list_append (by kernel_rfl) | exact ng_list PySem.F.slot_list_extend (by kernel_rfl))) (EvL.cons (EvN.toEv (EvN.compN (f := fun z => ((g (x, y)).getD z 0 + (1 - (g ((x + 1) % 5, y)).getD z 0) * (g ((x + 2) % 5, y)).getD z 0) % 2) (by wtm_at "it") (by wtm_at "cap") (by wtm_at "at") (.inl rfl) (by (first | lia | omega)) (fun z C hz => ?hm) (by decide +kernel) rfl (by decide +kernel) (by intro _; rfl))) EvL.nil (by rfl)) (mg_append (by rw [LL_length, hsz]; (first | lia | omega))) (by wtm_at "set") (Then.next ?_) (interactive_ok hE) (by rfl) (by rfl))
                case hm =>
                  have g5 := g4 z
                  (simp only [List.set_cons_succ, List.set_cons_zero, List.cons_append, List.nil_append])
                  exact Ev.modN (Ev.addN (by wtm_at "ev") (Ev.mulN (Ev.subN (by wtm_at "ev") (by wtm_at "ev") (by (first | lia | omega))) (by wtm_at "ev") (mulL (by (first | lia | omega))))) (by wtm_at "ev") (by decide)
                refine Ex.nil ⟨_ :: _ :: _ :: _ :: _, rfl, ?_, rfl⟩
                rw [LL_one, LL_app, ← rowS_one]
                rfl
              · rintro v o ⟨rfl, hv⟩
                refine Then.next (Ex.masked hv (Ex.nil ⟨_ :: _ :: _ :: _ :: _, rfl, ?_, rfl⟩))
                rw [rowS_row]
            · rintro v o ⟨rfl, hv⟩
              refine Then.next (Ex.masked hv ?_)
              have hR := chiS_ok (w := w') (g := g)
              generalize rowS (chiB w' g) 5 0 = r at hR e
              have hRl := hR.len
              have hRr := hR.row 0 (by decide)
              refine Ex.cons (St.setItem (EvN.toEv (EvN.compN (f := fun z => ((r.getD 0 []).getD z 0 + ws.getD i 0 / 2 ^ z) % 2) (by wtm_at "it") (by wtm_at "cap") (by wtm_at "at") (.inl rfl) (by (first | lia | omega)) (fun z C hz => ?hm) (by decide +kernel) rfl (by decide +kernel) (by intro _; rfl))) (by wtm_at "ev") (by wtm_at "ev") (by wtm_at "at") (sg_K (by rw [LL_length]; (first | lia | omega)) (by rw [LL_length]; (first | lia | omega))) (by wtm_at "set") (Then.next ?_) (by (first | rfl | ((refine EnvOk.open (P := fun e => swapsWith _ _ _ e = _) (by (with_reducible assumption)) ?_); intros; rfl))))
              case hm =>
                (simp only [List.set_cons_succ, List.set_cons_zero, List.cons_append, List.nil_append])
                exact Ev.modN (Ev.addN (Ev.item2 (by wtm_at "ev") (by wtm_at "lv") (by wtm_at "ev") (by wtm_at "ev") (by (first | lia | omega)) (by (first | lia | omega)) (by (first | lia | omega)) (by (first | lia | omega)) (by intro _ _; rfl) (by intro _ _; rfl)) (Ev.divN (by wtm_at "ev") (by wtm_at "ev") (hp z) (hlg z hz))) (by wtm_at "ev") (by decide)
              rw [LL_set]
              refine Ex.drop (.tail .head) (Ex.drop (.tail .head) (Ex.drop (.tail .head) ?_))
              refine Ex.nil ⟨[_], rfl, bn, ?_, rfl⟩
              rw [e]
      · rintro v o ⟨bo, rfl, hv⟩
        refine Then.next (Ex.masked hv ?_)
        have hB := lawBS_ok (ws := ws) hB0 ws.length
        generalize lawBS w' ws B0 ws.length = B at hB
        have hBl := hB.len
        have hBr := hB.row
        have hBt := hB.lt
        have eL : LL B = (List.range B.length).map fun i => AV.lst (IL (B.getD i [])) := by
          apply List.ext_getElem?
          intro i
          by_cases hi : i < B.length
          · rw [LL_get hi, List.getElem?_map, List.getElem?_range hi]; rfl
          · rw [List.getElem?_eq_none (by rw [LL_length]; (first | lia | omega)), List.getElem?_eq_none (by simp; (first | lia | omega))]
        refine Ex.freezeAt (by wtm_at "at") .head (by wtm_at "set") ?_
        refine Ex.cons (St.retN (EvN.compN (f := fun i => ((List.range w').map fun z => (B.getD i []).getD z 0 * 2 ^ z).sum) ((EvIt.list (by wtm_at "ev")).eq eL) (by wtm_at "cap") (by wtm_at "at") (.inr ⟨rfl, by decide +kernel⟩) (by (first | lia | omega)) (fun i C hi => ?_) (by decide +kernel) rfl (by decide +kernel) (by intro _; rfl)) fun b => ⟨b, rfl, .head _⟩)
        have hr := hBr i (by (first | lia | omega))
        (simp only [List.set_cons_succ, List.set_cons_zero, List.cons_append, List.nil_append])
        refine Ev.callBl (by wtm_at "ev") (EvL.cons (EvN.toEv (EvN.compN (f := fun z => (B.getD i []).getD z 0 * 2 ^ z) (by wtm_at "it") (by wtm_at "cap") (by wtm_at "at") (.inl rfl) (by (first | lia | omega)) (fun z C hz => ?_) (by decide +kernel) rfl (by decide +kernel) (by intro _; rfl))) EvL.nil (by rfl)) bl_sum
        have hb := hBt i z
        (simp only [List.set_cons_succ, List.set_cons_zero, List.cons_append, List.nil_append])
        exact Ev.mulN (by wtm_at "ev") (by wtm_at "ev") (mulL (by (first | lia | omega)))
end
end

section -- L1
open PySem PySem.W PyProof.Rows
set_option Elab.async false
set_option maxRecDepth 100000
set_option linter.unusedVariables false
set_option maxHeartbeats 1000000
theorem mod_pow_mul {x t w : Nat} (h : t ≤ w) : x * 2 ^ t % 2 ^ w = (x % 2 ^ (w - t)) * 2 ^ t := by
  have e : 2 ^ w = 2 ^ (w - t) * 2 ^ t := by rw [← Nat.pow_add]; congr 1; (first | lia | omega)
  rw [e, Nat.mul_mod_mul_right]
theorem rot_eq {w x t : Nat} (ht : t ≤ w) (hx : x < 2 ^ w) : rotF w x t = x * 2 ^ t % 2 ^ w + x * 2 ^ t / 2 ^ w := by
  have e : 2 ^ w = 2 ^ (w - t) * 2 ^ t := by rw [← Nat.pow_add]; congr 1; (first | lia | omega)
  have hd : x * 2 ^ t / 2 ^ w = x / 2 ^ (w - t) := by rw [e, Nat.mul_div_mul_right _ _ (Nat.two_pow_pos t)]
  have hr : x / 2 ^ (w - t) < 2 ^ t := (Nat.div_lt_iff_lt_mul (Nat.two_pow_pos _)).mpr (by rw [Nat.mul_comm, ← e]; exact hx)
  unfold rotF
  rw [hd, Nat.shiftLeft_eq 1 w, Nat.one_mul, Nat.and_two_pow_sub_one_eq_mod, Nat.shiftRight_eq_div_pow, ← Nat.shiftLeft_add_eq_or_of_lt hr, Nat.shiftLeft_eq, mod_pow_mul ht]
  generalize x / 2 ^ (w - t) = r at hr
  have h1 : x % 2 ^ (w - t) < 2 ^ (w - t) := Nat.mod_lt _ (Nat.two_pow_pos _)
  have h2 : x * 2 ^ t + r = (x % 2 ^ (w - t)) * 2 ^ t + r + 2 ^ w * (x / 2 ^ (w - t)) := by
    have := Nat.mod_add_div x (2 ^ (w - t))
    calc x * 2 ^ t + r = (x % 2 ^ (w - t) + 2 ^ (w - t) * (x / 2 ^ (w - t))) * 2 ^ t + r := by rw [this]
      _ = _ := by rw [Nat.add_mul, e]; simp only [Nat.mul_comm, Nat.mul_left_comm, Nat.mul_assoc]; (first | lia | omega)
  rw [h2, Nat.add_mul_mod_self_left]
  refine Nat.mod_eq_of_lt ?_
  have h3 : (x % 2 ^ (w - t) + 1) * 2 ^ t ≤ 2 ^ (w - t) * 2 ^ t := Nat.mul_le_mul_right _ h1
  rw [← e, Nat.succ_mul] at h3
  (first | lia | omega)
theorem add_or : ∀ (n a b : Nat), a < 2 ^ n → b < 2 ^ n → a &&& b = 0 → a + b = a ||| b
  | 0, a, b, ha, hb, _ => by
    have : a = 0 := by (first | lia | omega)
    have : b = 0 := by (first | lia | omega)
    subst a b; rfl
  | n + 1, a, b, ha, hb, h => by
    have e : ∀ x : Nat, x = 2 * (x / 2) + x % 2 := fun x => by (first | lia | omega)
    have hd : (a / 2) &&& (b / 2) = 0 := by rw [← Nat.and_div_two, h]
    have ih := add_or n (a / 2) (b / 2) (by (first | lia | omega)) (by (first | lia | omega)) hd
    have hm : (a &&& b) % 2 = 0 := by rw [h]
    have h2 := Nat.or_div_two (a := a) (b := b)
    have h3 : (a ||| b) % 2 = a % 2 + b % 2 := by
      have t1 : (a ||| b) % 2 = (a % 2) ||| (b % 2) := Nat.or_mod_two_pow (n := 1)
      have t2 : (a &&& b) % 2 = (a % 2) &&& (b % 2) := Nat.and_mod_two_pow (n := 1)
      rw [hm] at t2
      rw [t1]
      rcases Nat.mod_two_eq_zero_or_one a with ha2 | ha2 <;> rcases Nat.mod_two_eq_zero_or_one b with hb2 | hb2 <;> rw [ha2, hb2] at t2 ⊢ <;> first | rfl | cases t2
    have := e (a ||| b)
    rw [h2, ← ih, h3] at this
    (first | lia | omega)
theorem and_not {w t u : Nat} (ht : t < 2 ^ w) (hu : u < 2 ^ w) : t &&& (u ^^^ (1 <<< w - 1)) = t - (t &&& u) := by
  rw [Nat.shiftLeft_eq, Nat.one_mul]
  have hz : (t &&& u) &&& (t &&& (u ^^^ (2 ^ w - 1))) = 0 := by
    apply Nat.eq_of_testBit_eq
    intro i
    simp only [Nat.testBit_and, Nat.testBit_xor, Nat.zero_testBit, Nat.testBit_two_pow_sub_one]
    by_cases hi : i < w
    · simp [hi]; intro a b; simp [b]
    · have : t.testBit i = false := Nat.testBit_lt_two_pow (Nat.lt_of_lt_of_le ht (Nat.pow_le_pow_right (by decide) (by (first | lia | omega))))
      simp [this]
  have ho : (t &&& u) ||| (t &&& (u ^^^ (2 ^ w - 1))) = t := by
    apply Nat.eq_of_testBit_eq
    intro i
    simp only [Nat.testBit_or, Nat.testBit_and, Nat.testBit_xor, Nat.testBit_two_pow_sub_one]
    by_cases hi : i < w
    · simp [hi]; cases t.testBit i <;> cases u.testBit i <;> rfl
    · have : t.testBit i = false := Nat.testBit_lt_two_pow (Nat.lt_of_lt_of_le ht (Nat.pow_le_pow_right (by decide) (by (first | lia | omega))))
      simp [this]
  have h := add_or w _ _ (Nat.lt_of_le_of_lt Nat.and_le_left ht) (Nat.lt_of_le_of_lt Nat.and_le_left ht) hz
  rw [ho] at h
  (first | lia | omega)
end

section -- L2
open PySem PySem.W PyProof.Rows
set_option Elab.async false
set_option maxRecDepth 100000
set_option linter.unusedVariables false
set_option maxHeartbeats 1000000
theorem tu_goals : ∀ l, l < 7 → ∀ p, p < 25 → ∀ q, q < 25 → ((tuF (1 <<< l)).getD p (0, 0)).2 = ((tuF (1 <<< l)).getD q (0, 0)).2 → p = q := by decide +kernel
theorem tu_at : ∀ l, l < 7 → ∀ X, X < 5 → ∀ Y, Y < 5 → (tuF (1 <<< l)).getD ((3 * Y + X) % 5 + 5 * X) (0, 0) = (turnN ((3 * Y + X) % 5) X % (1 <<< l), Y * 5 + X) := by decide +kernel
theorem wo_at : ∀ l, l < 7 → ∀ i, i < 12 + 2 * l → (woF l).getD i 0 = laidL.getD i 0 % 2 ^ (1 <<< l) := by decide +kernel
theorem movS_at {w : Nat} {tu : List (Nat × Nat)} {a s : List Nat} (hg : ∀ p, p < 25 → ∀ q, q < 25 → (tu.getD p (0, 0)).2 = (tu.getD q (0, 0)).2 → p = q) (hb : ∀ p, (tu.getD p (0, 0)).2 < 25) : ∀ n, n ≤ 25 → ∀ p, p < n → (movS w tu a s n).getD (tu.getD p (0, 0)).2 0 = rotF w (a.getD p 0 ^^^ s.getD (p % 5) 0) (tu.getD p (0, 0)).1
  | 0, _, p, h => absurd h (Nat.not_lt_zero _)
  | n + 1, hn, p, hp => by
    rw [movS, getD_set, movS_len]
    by_cases e : p = n
    · subst e; rw [if_pos ⟨rfl, hb p⟩]
    · rw [if_neg (fun x => e (hg n (by (first | lia | omega)) p (by (first | lia | omega)) x.1).symm)]
      exact movS_at hg hb n (by (first | lia | omega)) p (by (first | lia | omega))
theorem rol1 {w x : Nat} (h0 : 1 ≤ w) (hx : x < 2 ^ w) : rotF w x (1 % w) = 2 * x % 2 ^ w + 2 * x / 2 ^ w := by
  rcases Nat.lt_or_ge 1 w with h | h
  · rw [Nat.mod_eq_of_lt h, rot_eq (by (first | lia | omega)) hx, Nat.pow_one, Nat.mul_comm x 2]
  · obtain rfl : w = 1 := by (first | lia | omega)
    rw [show (1 % 1 : Nat) = 0 from rfl, rot_eq (by decide) hx]
    simp only [Nat.pow_zero, Nat.mul_one, Nat.pow_one] at hx ⊢
    (first | lia | omega)
theorem sides_at {w : Nat} {c : List Nat} (h0 : 1 ≤ w) (hc : c.length = 5) (hl : ∀ i, c.getD i 0 < 2 ^ w) {x : Nat} (hx : x < 5) : (sidesF w c).getD x 0 = c.getD ((x + 4) % 5) 0 ^^^ (2 * c.getD ((x + 1) % 5) 0 % 2 ^ w + 2 * c.getD ((x + 1) % 5) 0 / 2 ^ w) := by
  unfold sidesF
  rw [getD_map_range, if_pos hx, hc, rol1 h0 (hl _)]
  congr 2
theorem mix_at {l w : Nat} {b : List Nat} (hl : l < 7) (hw : w = 1 <<< l) (hb : LOk w b) {X Y : Nat} (hX : X < 5) (hY : Y < 5) : (movS w (tuF w) b (sidesF w (colsF b)) 25).getD (Y * 5 + X) 0 = latG w b (colsF b) (X, Y) := by
  have hT := tuF_ok hl hw
  have h0 : 1 ≤ w := by rw [hw]; exact (lane_pos l hl).1
  subst hw
  have hx5 : (3 * Y + X) % 5 < 5 := Nat.mod_lt _ (by decide)
  have ht := tu_at l hl X hX Y hY
  have hm := movS_at (w := 1 <<< l) (a := b) (s := sidesF (1 <<< l) (colsF b)) (tu_goals l hl) hT.goal 25 (Nat.le_refl _) ((3 * Y + X) % 5 + 5 * X) (by (first | lia | omega))
  rw [ht] at hm
  have hmod : ((3 * Y + X) % 5 + 5 * X) % 5 = (3 * Y + X) % 5 := by (first | lia | omega)
  have hcl : (colsF b).length = 5 := by simp [colsF]
  have hc := cols_lt hb
  have hs := sides_at h0 hcl hc hx5
  rw [hm, hmod, rot_eq (Nat.le_of_lt (Nat.mod_lt _ h0)) (Nat.xor_lt_two_pow (hb.lt _) (sides_lt hc _)), hs, ← Nat.xor_assoc]
  rfl
theorem latG_lt {l w : Nat} {b : List Nat} (hl : l < 7) (hw : w = 1 <<< l) (hb : LOk w b) {X Y : Nat} (hX : X < 5) (hY : Y < 5) : latG w b (colsF b) (X, Y) < 2 ^ w := by
  rw [← mix_at hl hw hb hX hY]; exact movS_lt _ _
theorem chiS5 {w : Nat} {m : List Nat} {n : Nat} : chiS w m n 0 = (List.range n).flatMap fun y => (List.range 5).map (chiF w m (y * 5)) := by unfold chiS; rw [List.range_zero, List.map_nil, List.append_nil]
theorem nowS5 {g : Nat × Nat → Nat} {n : Nat} : nowS g n 0 = (List.range n).flatMap fun y => (List.range 5).map fun x => chiL g x y := by unfold nowS; rw [List.range_zero, List.map_nil, List.append_nil]
theorem flat_congr {f g : Nat → List Nat} {n : Nat} (h : ∀ y, y < n → f y = g y) : (List.range n).flatMap f = (List.range n).flatMap g := by
  rw [List.flatMap_def, List.flatMap_def]
  congr 1
  exact List.map_congr_left fun y hy => h y (List.mem_range.mp hy)
theorem mix_eq {l w : Nat} {b : List Nat} (hl : l < 7) (hw : w = 1 <<< l) (hb : LOk w b) : mixF w (tuF w) b = nowS (latG w b (colsF b)) 5 0 := by
  have hm := fun {X Y : Nat} => mix_at (X := X) (Y := Y) hl hw hb
  have hg := fun {X Y : Nat} => latG_lt (X := X) (Y := Y) hl hw hb
  unfold mixF
  generalize movS w (tuF w) b (sidesF w (colsF b)) 25 = m at hm
  generalize latG w b (colsF b) = g at hm hg
  rw [chiS5, nowS5]
  refine flat_congr fun y hy => List.map_congr_left fun x hx => ?_
  have hx := List.mem_range.mp hx
  have m2 : (x + 2) % 5 < 5 := Nat.mod_lt _ (by decide)
  have m1 : (x + 1) % 5 < 5 := Nat.mod_lt _ (by decide)
  unfold chiF chiL
  rw [hm hx hy, hm m2 hy, hm m1 hy, and_not (hg m2 hy) (hg m1 hy)]
theorem cut_getD {l : List Nat} {n i : Nat} (h : i < n) : (cut l none (some n)).getD i 0 = l.getD i 0 := by
  unfold cut
  rw [List.getD_eq_getElem?_getD, List.getD_eq_getElem?_getD]
  simp [List.getElem?_take, h]
theorem lawL_eq {l w : Nat} {a : List Nat} (hl : l < 7) (hw : w = 1 <<< l) (ha : LOk w a) : ∀ i, i ≤ 12 + 2 * l → lawL w (cut laidL none (some (12 + 2 * l))) a i = permS w (tuF w) (woF l) a i
  | 0, _ => rfl
  | i + 1, hi => by
    rw [lawL, permS, lawL_eq hl hw ha i (by (first | lia | omega))]
    have hb := permS_ok (turns := tuF w) (words := woF l) ha (woF_ok hl hw) i
    unfold lawR
    rw [mix_eq hl hw hb, cut_getD (by (first | lia | omega)), wo_at l hl i (by (first | lia | omega)), hw]
theorem ws_len {l : Nat} (hl : l < 7) : (cut laidL none (some (12 + 2 * l))).length = 12 + 2 * l := by
  unfold cut
  rw [List.length_take]
  have : laidL.length = 24 := rfl
  simp [this]; (first | lia | omega)
theorem lanes_law {l w : Nat} {a : List Nat} (hl : l < 7) (hw : w = 1 <<< l) (ha : LOk w a) : lawL w (cut laidL none (some (12 + 2 * l))) a (cut laidL none (some (12 + 2 * l))).length = permF w (tuF w) (woF l) a := by
  rw [ws_len hl, lawL_eq hl hw ha _ (Nat.le_refl _)]
  unfold permF
  rw [(woF_all l hl).1]
end

section -- L3
open PySem PySem.W PyProof.Rows
set_option Elab.async false
set_option maxRecDepth 100000
set_option linter.unusedVariables false
set_option maxHeartbeats 1000000
theorem bit_eq {x z : Nat} : x / 2 ^ z % 2 = (x.testBit z).toNat := (Nat.toNat_testBit x z).symm
theorem bitsF_map {w : Nat} {b : List Nat} : bitsF w b = b.map (bitsOf w) := by
  unfold bitsF
  apply List.ext_getElem?
  intro i
  rw [List.getElem?_map, List.getElem?_map]
  by_cases h : i < b.length
  · rw [List.getElem?_range h, List.getElem?_eq_getElem h, Option.map_some, Option.map_some, List.getD_eq_getElem?_getD, List.getElem?_eq_getElem h]; rfl
  · rw [List.getElem?_eq_none (by simpa using h), List.getElem?_eq_none (by simpa using h)]; rfl
theorem bits_get {w i : Nat} {b : List Nat} (h : i < b.length) : (bitsF w b).getD i [] = bitsOf w (b.getD i 0) := by
  rw [bitsF_map, List.getD_eq_getElem?_getD, List.getElem?_map, List.getElem?_eq_getElem h, List.getD_eq_getElem?_getD, List.getElem?_eq_getElem h]; rfl
theorem bit_get {w x z : Nat} (h : z < w) : (bitsOf w x).getD z 0 = (x.testBit z).toNat := by
  unfold bitsOf; rw [getD_map_range, if_pos h, bit_eq]
theorem bits_congr {w : Nat} {f g : Nat → Nat} (h : ∀ z, z < w → f z = g z) : (List.range w).map f = (List.range w).map g := List.map_congr_left fun z hz => h z (List.mem_range.mp hz)
theorem bitsOf_eq {w x : Nat} : bitsOf w x = (List.range w).map fun z => (x.testBit z).toNat := bits_congr fun z _ => bit_eq
theorem colB_eq {w x : Nat} {b : List Nat} (hb : b.length = 25) (hx : x < 5) : colB w (bitsF w b) x = bitsOf w ((colsF b).getD x 0) := by
  unfold colB
  rw [bitsOf_eq]
  refine bits_congr fun z hz => ?_
  have hc : (colsF b).getD x 0 = b.getD x 0 ^^^ b.getD (x + 5) 0 ^^^ b.getD (x + 10) 0 ^^^ b.getD (x + 15) 0 ^^^ b.getD (x + 20) 0 := by unfold colsF; rw [getD_map_range, if_pos hx]
  have e : ∀ y, y < 5 → ((bitsF w b).getD (x + 5 * y) []).getD z 0 = ((b.getD (x + 5 * y) 0).testBit z).toNat := fun y hy => by rw [bits_get (by (first | lia | omega)), bit_get hz]
  have hr : List.range 5 = [0, 1, 2, 3, 4] := rfl
  rw [hr, hc]
  simp only [List.map_cons, List.map_nil, List.sum_cons, List.sum_nil, e 0 (by decide), e 1 (by decide), e 2 (by decide), e 3 (by decide), e 4 (by decide), Nat.testBit_xor]
  rw [show x + 5 * 0 = x from rfl, show x + 5 * 1 = x + 5 from rfl, show x + 5 * 2 = x + 10 from rfl, show x + 5 * 3 = x + 15 from rfl, show x + 5 * 4 = x + 20 from rfl]
  generalize (b.getD x 0).testBit z = t0
  generalize (b.getD (x + 5) 0).testBit z = t1
  generalize (b.getD (x + 10) 0).testBit z = t2
  generalize (b.getD (x + 15) 0).testBit z = t3
  generalize (b.getD (x + 20) 0).testBit z = t4
  cases t0 <;> cases t1 <;> cases t2 <;> cases t3 <;> cases t4 <;> rfl
theorem colsB_eq {w : Nat} {b : List Nat} (hb : b.length = 25) : colsB w (bitsF w b) = bitsF w (colsF b) := by
  have hl : (colsF b).length = 5 := by simp [colsF]
  unfold colsB
  have : bitsF w (colsF b) = (List.range 5).map fun i => bitsOf w ((colsF b).getD i 0) := by unfold bitsF; rw [hl]
  rw [this]
  exact List.map_congr_left fun x hx => colB_eq hb (List.mem_range.mp hx)
theorem rot_bit {w x t z : Nat} (ht : t ≤ w) (hx : x < 2 ^ w) (hz : z < w) : (rotF w x t).testBit z = x.testBit ((z + (w - t)) % w) := by
  unfold rotF
  rw [Nat.shiftLeft_eq 1 w, Nat.one_mul, Nat.testBit_and, Nat.testBit_two_pow_sub_one, decide_eq_true hz, Bool.and_true, Nat.testBit_or, Nat.testBit_shiftLeft, Nat.testBit_shiftRight]
  rcases Nat.lt_or_ge z t with h | h
  · have e : (z + (w - t)) % w = w - t + z := by rw [Nat.mod_eq_of_lt (by (first | lia | omega)), Nat.add_comm]
    rw [e]; simp; (first | lia | omega)
  · have e : (z + (w - t)) % w = z - t := by
      rw [show z + (w - t) = (z - t) + w by (first | lia | omega), Nat.add_mod_right, Nat.mod_eq_of_lt (by (first | lia | omega))]
    have e2 : x.testBit (w - t + z) = false := Nat.testBit_lt_two_pow (Nat.lt_of_lt_of_le hx (Nat.pow_le_pow_right (by decide) (by (first | lia | omega))))
    rw [e, e2]; simp [h]
theorem bsum {a b : Bool} : (a.toNat + b.toNat) % 2 = (a ^^ b).toNat := by cases a <;> cases b <;> rfl
theorem mixB_eq {w x y : Nat} {b c : List Nat} (h0 : 1 ≤ w) (hb : b.length = 25) (hc : c.length = 5) (hcl : ∀ i, c.getD i 0 < 2 ^ w) (hx : x < 5) (hy : y < 5) : mixB w (bitsF w b) (bitsF w c) x y = bitsOf w (oneL w b c x y) := by
  have m4 : (x + 4) % 5 < c.length := by rw [hc]; exact Nat.mod_lt _ (by decide)
  have m1 : (x + 1) % 5 < c.length := by rw [hc]; exact Nat.mod_lt _ (by decide)
  unfold mixB
  rw [bitsOf_eq]
  refine bits_congr fun z hz => ?_
  have hl : (bitsOf w (c.getD ((x + 1) % 5) 0)).length = w := row_len
  have hm : (z + w - 1) % w < w := Nat.mod_lt _ h0
  rw [bits_get (by (first | lia | omega)), bits_get m4, bits_get m1, hl, bit_get hz, bit_get hz, bit_get hm]
  have hr := rot_bit (x := c.getD ((x + 1) % 5) 0) h0 (hcl _) hz
  rw [rot_eq h0 (hcl _), Nat.pow_one, Nat.mul_comm _ 2, show z + (w - 1) = z + w - 1 by (first | lia | omega)] at hr
  unfold oneL
  rw [Nat.testBit_xor, Nat.testBit_xor, hr]
  generalize (b.getD (x + 5 * y) 0).testBit z = t0
  generalize (c.getD ((x + 4) % 5) 0).testBit z = t1
  generalize (c.getD ((x + 1) % 5) 0).testBit ((z + w - 1) % w) = t2
  cases t0 <;> cases t1 <;> cases t2 <;> rfl
theorem one_lt {w x y : Nat} {b c : List Nat} (h0 : 1 ≤ w) (hb : ∀ i, b.getD i 0 < 2 ^ w) (hc : ∀ i, c.getD i 0 < 2 ^ w) : oneL w b c x y < 2 ^ w := by
  unfold oneL
  refine Nat.xor_lt_two_pow (Nat.xor_lt_two_pow (hb _) (hc _)) ?_
  have := rot_eq (x := c.getD ((x + 1) % 5) 0) h0 (hc _)
  rw [Nat.pow_one, Nat.mul_comm _ 2] at this
  rw [← this]; exact rotF_lt
theorem latBv_eq {w x y : Nat} {b c : List Nat} (h0 : 1 ≤ w) (hb : LOk w b) (hc : c.length = 5) (hcl : ∀ i, c.getD i 0 < 2 ^ w) (hx : x < 5) (hy : y < 5) : latBv w (bitsF w b) (bitsF w c) x y = bitsOf w (latV w b c x y) := by
  unfold latBv
  rw [mixB_eq h0 hb.len hc hcl hx hy, bitsOf_eq (x := latV w b c x y)]
  refine bits_congr fun z hz => ?_
  have ht : turnN x y % w < w := Nat.mod_lt _ h0
  have ho := one_lt (x := x) (y := y) h0 hb.lt hcl
  rw [bit_get (Nat.mod_lt _ h0)]
  unfold latV
  rw [← rot_eq (Nat.le_of_lt ht) ho, rot_bit (Nat.le_of_lt ht) ho hz]
theorem latB_eq {w X Y : Nat} {b c : List Nat} (h0 : 1 ≤ w) (hb : LOk w b) (hc : c.length = 5) (hcl : ∀ i, c.getD i 0 < 2 ^ w) (hX : X < 5) : latB w (bitsF w b) (bitsF w c) (X, Y) = bitsOf w (latG w b c (X, Y)) := by
  unfold latB latG
  exact latBv_eq h0 hb hc hcl (Nat.mod_lt _ (by decide)) hX
theorem chiB_eq {w x y : Nat} {g : Nat × Nat → Nat} {g' : Nat × Nat → List Nat} (h : ∀ X, X < 5 → ∀ Y, g' (X, Y) = bitsOf w (g (X, Y))) (hl : ∀ X, X < 5 → g (X, y) < 2 ^ w) (hx : x < 5) : chiB w g' x y = bitsOf w (chiL g x y) := by
  have m2 : (x + 2) % 5 < 5 := Nat.mod_lt _ (by decide)
  have m1 : (x + 1) % 5 < 5 := Nat.mod_lt _ (by decide)
  unfold chiB
  rw [bitsOf_eq, h x hx, h _ m1, h _ m2]
  refine bits_congr fun z hz => ?_
  rw [bit_get hz, bit_get hz, bit_get hz]
  unfold chiL
  rw [← and_not (hl _ m2) (hl _ m1), Nat.shiftLeft_eq, Nat.one_mul, Nat.testBit_xor, Nat.testBit_and, Nat.testBit_xor, Nat.testBit_two_pow_sub_one, decide_eq_true hz]
  generalize (g (x, y)).testBit z = t0
  generalize (g ((x + 1) % 5, y)).testBit z = t1
  generalize (g ((x + 2) % 5, y)).testBit z = t2
  cases t0 <;> cases t1 <;> cases t2 <;> rfl
theorem rowS5 {f : Nat → Nat → List Nat} {n : Nat} : rowS f n 0 = (List.range n).flatMap fun y => (List.range 5).map fun x => f x y := by unfold rowS; rw [List.range_zero, List.map_nil, List.append_nil]
theorem rowS_eq {w : Nat} {g : Nat × Nat → Nat} {g' : Nat × Nat → List Nat} (h : ∀ X, X < 5 → ∀ Y, g' (X, Y) = bitsOf w (g (X, Y))) (hl : ∀ X, X < 5 → ∀ Y, Y < 5 → g (X, Y) < 2 ^ w) : rowS (chiB w g') 5 0 = bitsF w (nowS g 5 0) := by
  rw [rowS5, nowS5, bitsF_map, List.map_flatMap]
  rw [List.flatMap_def, List.flatMap_def]
  congr 1
  refine List.map_congr_left fun y hy => ?_
  rw [List.map_map]
  exact List.map_congr_left fun x hx => chiB_eq h (fun X hX => hl X hX y (List.mem_range.mp hy)) (List.mem_range.mp hx)
theorem lawB_eq {l w r : Nat} {b : List Nat} (hl : l < 7) (hw : w = 1 <<< l) (hb : LOk w b) : lawB w (bitsF w b) (colsB w (bitsF w b)) r = bitsF w (lawR w (colsF b) b r) := by
  have h0 : 1 ≤ w := by rw [hw]; exact (lane_pos l hl).1
  have hcl : (colsF b).length = 5 := by simp [colsF]
  have hR := rowS_eq (w := w) (g := latG w b (colsF b)) (g' := latB w (bitsF w b) (bitsF w (colsF b))) (fun X hX Y => latB_eq h0 hb hcl (cols_lt hb) hX) (fun X hX Y hY => latG_lt hl hw hb hX hY)
  unfold lawB lawR
  rw [colsB_eq hb.len, hR]
  have hn : (nowS (latG w b (colsF b)) 5 0).length = 25 := nowS_len
  generalize nowS (latG w b (colsF b)) 5 0 = n at hn
  rw [bits_get (by (first | lia | omega)), bitsF_map, bitsF_map, List.map_set, bitsOf_eq (x := _ ^^^ _)]
  congr 1
  refine bits_congr fun z hz => ?_
  rw [bit_get hz, Nat.testBit_xor, Nat.testBit_mod_two_pow, decide_eq_true hz, Bool.true_and, ← bsum, ← bit_eq (x := r), Nat.add_mod_mod]
theorem lawBS_eq {l w : Nat} {a : List Nat} (hl : l < 7) (hw : w = 1 <<< l) (ha : LOk w a) : ∀ i, i ≤ 12 + 2 * l → lawBS w (cut laidL none (some (12 + 2 * l))) (bitsF w a) i = bitsF w (lawL w (cut laidL none (some (12 + 2 * l))) a i)
  | 0, _ => rfl
  | i + 1, hi => by
    have hb : LOk w (lawL w (cut laidL none (some (12 + 2 * l))) a i) := by rw [lawL_eq hl hw ha i (by (first | lia | omega))]; exact permS_ok ha (woF_ok hl hw) i
    rw [lawBS, lawL, lawBS_eq hl hw ha i (by (first | lia | omega)), lawB_eq hl hw hb]
theorem sum_bits {x : Nat} : ∀ n, ((List.range n).map fun z => x / 2 ^ z % 2 * 2 ^ z).sum = x % 2 ^ n
  | 0 => by simp [Nat.mod_one]
  | n + 1 => by
    rw [List.range_succ, List.map_append, List.sum_append, sum_bits n, List.map_singleton, List.sum_singleton, Nat.pow_succ, Nat.mod_mul]
    rw [Nat.mul_comm (2 ^ n) (x / 2 ^ n % 2)]
theorem back_eq {w : Nat} {a : List Nat} (ha : ∀ i, a.getD i 0 < 2 ^ w) : backF w (bitsF w a) = a := by
  unfold backF
  have hl : (bitsF w a).length = a.length := by simp [bitsF]
  rw [hl]
  apply List.ext_getElem?
  intro i
  rw [List.getElem?_map]
  by_cases h : i < a.length
  · rw [List.getElem?_range h, Option.map_some, bits_get h, List.getElem?_eq_getElem h]
    congr 1
    have e : (List.range w).map (fun z => (bitsOf w (a.getD i 0)).getD z 0 * 2 ^ z) = (List.range w).map fun z => a.getD i 0 / 2 ^ z % 2 * 2 ^ z := bits_congr fun z hz => by rw [bit_get hz, bit_eq]
    rw [e, sum_bits, Nat.mod_eq_of_lt (ha i), List.getD_eq_getElem?_getD, List.getElem?_eq_getElem h]; rfl
  · rw [List.getElem?_eq_none (by simpa using h), List.getElem?_eq_none (by (first | lia | omega))]; rfl
theorem bits_law {l w : Nat} {a : List Nat} (hl : l < 7) (hw : w = 1 <<< l) (ha : LOk w a) : backF w (lawBS w (cut laidL none (some (12 + 2 * l))) (bitsF w a) (cut laidL none (some (12 + 2 * l))).length) = permF w (tuF w) (woF l) a := by
  rw [ws_len hl, lawBS_eq hl hw ha _ (Nat.le_refl _), ← lanes_law hl hw ha, ws_len hl]
  refine back_eq fun i => ?_
  rw [lawL_eq hl hw ha _ (Nat.le_refl _)]
  exact (permS_ok ha (woF_ok hl hw) _).lt i
end

section -- L4
open PySem PySem.W PyProof.Rows
set_option Elab.async false
set_option maxRecDepth 100000
set_option linter.unusedVariables false
set_option maxHeartbeats 1000000
theorem ext_getD {l m : List Nat} (hl : l.length = m.length) (h : ∀ i, i < l.length → l.getD i 0 = m.getD i 0) : l = m := by
  apply List.ext_getElem hl
  intro i h1 h2
  have := h i h1
  rw [List.getD_eq_getElem?_getD, List.getD_eq_getElem?_getD, List.getElem?_eq_getElem h1, List.getElem?_eq_getElem h2] at this
  exact this
theorem leB_len {q n : Nat} : (leB q n).length = q := by simp [leB]
theorem leB_get {q n k : Nat} (h : k < q) : (leB q n).getD k 0 = n / 256 ^ k % 256 := by unfold leB; rw [getD_map_range, if_pos h]
theorem octs_get {q : Nat} {a : List Nat} : ∀ {j k : Nat}, j < a.length → k < q → (octsL q a).getD (j * q + k) 0 = a.getD j 0 / 256 ^ k % 256 := by
  have gen : ∀ (L : List (List Nat)), (∀ l ∈ L, l.length = q) → ∀ j k, j < L.length → k < q → L.flatten.getD (j * q + k) 0 = (L.getD j []).getD k 0 := by
    intro L
    induction L with
    | nil => intro _ j k h; simp at h
    | cons l L ih =>
      intro hL j k hj hk
      have hl := hL l (.head _)
      rw [List.flatten_cons, List.getD_eq_getElem?_getD]
      cases j with
      | zero =>
        rw [Nat.zero_mul, Nat.zero_add, List.getElem?_append_left (by (first | lia | omega))]
        rfl
      | succ j =>
        have := ih (fun l h => hL l (.tail _ h)) j k (by simpa using hj) hk
        rw [List.getElem?_append_right (by rw [hl, Nat.succ_mul]; (first | lia | omega)), hl, show (j + 1) * q + k - q = j * q + k by rw [Nat.succ_mul]; (first | lia | omega), ← List.getD_eq_getElem?_getD, this]
        rfl
  intro j k hj hk
  unfold octsL
  rw [gen _ (fun l hl => by obtain ⟨i, _, rfl⟩ := List.mem_map.mp hl; exact leB_len) j k (by simpa using hj) hk]
  have : ((List.range a.length).map fun i => leB q (a.getD i 0)).getD j [] = leB q (a.getD j 0) := by
    rw [List.getD_eq_getElem?_getD, List.getElem?_map, List.getElem?_range hj]; rfl
  rw [this, leB_get hk]
theorem leV_map {f : Nat → Nat} : ∀ (q : Nat), leV ((List.range q).map f) = ((List.range q).map fun k => f k * 256 ^ k).sum := fun q => by
  rw [← leV_sum]
  simp only [List.length_map, List.length_range]
  congr 1
  refine List.map_congr_left fun k hk => ?_
  rw [getD_map_range, if_pos (List.mem_range.mp hk)]
theorem leV_bytes {n : Nat} : ∀ q, leV ((List.range q).map fun k => n / 256 ^ k % 256) = n % 256 ^ q := fun q => by
  rw [leV_map]
  induction q with
  | zero => simp [Nat.mod_one]
  | succ q ih =>
    rw [List.range_succ, List.map_append, List.sum_append, ih, List.map_singleton, List.sum_singleton, Nat.pow_succ, Nat.mod_mul, Nat.mul_comm (256 ^ q)]
theorem lanes_octs {w q : Nat} {a : List Nat} (hq : w = 8 * q) (ha : LOk w a) : lanesL q (octsL q a) = a := by
  refine ext_getD (by rw [ha.len]; simp [lanesL]) fun j hj => ?_
  have hj' : j < 25 := by simpa [lanesL] using hj
  unfold lanesL
  rw [getD_map_range, if_pos hj']
  have e : (List.range q).map (fun k => (octsL q a).getD (j * q + k) 0) = (List.range q).map fun k => a.getD j 0 / 256 ^ k % 256 := bits_congr fun k hk => octs_get (by rw [ha.len]; exact hj') hk
  rw [e, leV_bytes]
  refine Nat.mod_eq_of_lt ?_
  have := ha.lt j
  rwa [hq, Nat.pow_mul] at this
theorem octs_rep {q : Nat} : octsL q (List.replicate 25 0) = List.replicate (25 * q) 0 := by
  refine ext_getD (by rw [octsL_len, List.length_replicate, List.length_replicate]) fun i hi => ?_
  rw [octsL_len, List.length_replicate] at hi
  have hq : 0 < q := by rcases Nat.eq_zero_or_pos q with rfl | h <;> (first | lia | omega)
  have h1 : i / q < 25 := (Nat.div_lt_iff_lt_mul hq).mpr hi
  have h2 : i % q < q := Nat.mod_lt _ hq
  have := octs_get (q := q) (a := List.replicate 25 0) (j := i / q) (k := i % q) (by simpa using h1) h2
  rw [Nat.mul_comm, Nat.div_add_mod] at this
  rw [this]
  have z : ∀ n i, (List.replicate n 0).getD i 0 = 0 := fun n i => by rw [List.getD_eq_getElem?_getD, List.getElem?_replicate]; split <;> rfl
  rw [z, z]; simp
theorem leV_xor : ∀ (q : Nat) (f g : Nat → Nat), (∀ k, f k < 256) → (∀ k, g k < 256) → leV ((List.range q).map fun k => f k ^^^ g k) = leV ((List.range q).map f) ^^^ leV ((List.range q).map g)
  | 0, _, _, _, _ => by simp [leV]
  | q + 1, f, g, hf, hg => by
    have sh : ∀ h : Nat → Nat, (List.range (q + 1)).map h = h 0 :: (List.range q).map fun k => h (k + 1) := fun h => by
      rw [List.range_succ_eq_map, List.map_cons, List.map_map]; rfl
    rw [sh, sh, sh, leV, leV, leV, leV_xor q (fun k => f (k + 1)) (fun k => g (k + 1)) (fun k => hf _) (fun k => hg _)]
    generalize leV ((List.range q).map fun k => f (k + 1)) = F
    generalize leV ((List.range q).map fun k => g (k + 1)) = G
    have key : ∀ (x X : Nat), x < 256 → x + 256 * X = X <<< 8 ||| x := fun x X hx => by
      rw [← Nat.shiftLeft_add_eq_or_of_lt (i := 8) hx, Nat.shiftLeft_eq]; (first | lia | omega)
    have hxy : f 0 ^^^ g 0 < 256 := Nat.xor_lt_two_pow (n := 8) (hf 0) (hg 0)
    rw [key _ _ hxy, key _ _ (hf 0), key _ _ (hg 0)]
    apply Nat.eq_of_testBit_eq
    intro i
    simp only [Nat.testBit_or, Nat.testBit_xor, Nat.testBit_shiftLeft]
    rcases Nat.lt_or_ge i 8 with h | h
    · have : decide (i ≥ 8) = false := by simp; (first | lia | omega)
      simp [this]
    · have e : ∀ x, x < 256 → x.testBit i = false := fun x hx => Nat.testBit_lt_two_pow (Nat.lt_of_lt_of_le hx (Nat.pow_le_pow_right (n := 2) (i := 8) (by decide) h))
      simp [e _ (hf 0), e _ (hg 0), h]
theorem leV_zeros : ∀ (q m : Nat) (f : Nat → Nat), m ≤ q → leV ((List.range q).map fun k => if k < m then f k else 0) = leV ((List.range m).map f)
  | q, m, f, h => by
    rw [leV_map, leV_map]
    obtain ⟨d, rfl⟩ := Nat.exists_eq_add_of_le h
    induction d with
    | zero =>
      congr 1
      refine List.map_congr_left fun k hk => ?_
      have hk' : k < m := List.mem_range.mp hk
      simp only [hk', if_true]
    | succ d ih =>
      rw [← Nat.add_assoc, List.range_succ, List.map_append, List.sum_append, ih (Nat.le_add_right _ _), List.map_singleton, List.sum_singleton, if_neg (by (first | lia | omega))]
      simp
end

section -- L5
open PySem PySem.W PyProof.Rows
set_option Elab.async false
set_option maxRecDepth 100000
set_option linter.unusedVariables false
set_option maxHeartbeats 1000000
noncomputable def layH (rate : Nat) (pd : List Nat) (i : Nat) (h : List Nat) : Nat → List Nat
  | 0 => h
  | j + 1 => (layH rate pd i h j).set j ((layH rate pd i h j).getD j 0 ^^^ pd.getD (i * rate + j) 0)
theorem layH_len {rate : Nat} {pd : List Nat} {i : Nat} {h : List Nat} : ∀ j, (layH rate pd i h j).length = h.length
  | 0 => rfl
  | j + 1 => by rw [layH, List.length_set, layH_len j]
theorem layH_get {rate : Nat} {pd : List Nat} {i : Nat} {h : List Nat} : ∀ j, j ≤ h.length → ∀ p, (layH rate pd i h j).getD p 0 = h.getD p 0 ^^^ (if p < j then pd.getD (i * rate + p) 0 else 0)
  | 0, _, p => by simp [layH]
  | j + 1, hj, p => by
    rw [layH, getD_set, layH_len, layH_get j (by (first | lia | omega)) p, layH_get j (by (first | lia | omega)) j]
    by_cases e : j = p
    · subst e
      rw [if_pos ⟨rfl, by (first | lia | omega)⟩, if_neg (by (first | lia | omega)), if_pos (by (first | lia | omega))]; simp
    · rw [if_neg (fun x => e x.1)]
      by_cases h1 : p < j
      · rw [if_pos h1, if_pos (by (first | lia | omega))]
      · rw [if_neg h1, if_neg (by (first | lia | omega))]
theorem lawS_in {q rate : Nat} {perm : List Nat → List Nat} {pd : List Nat} (hr : 0 < rate) (i : Nat) : ∀ j, j < rate → lawS q rate perm pd (i * rate + j) = layH rate pd i (lawS q rate perm pd (i * rate)) j
  | 0, _ => rfl
  | j + 1, hj => by
    have hm : (i * rate + j) % rate = j := by rw [Nat.mul_comm, Nat.mul_add_mod, Nat.mod_eq_of_lt (by (first | lia | omega))]
    rw [← Nat.add_assoc, lawS, hm, if_neg (by simp; (first | lia | omega)), lawS_in hr i j (by (first | lia | omega)), layH]
theorem lawS_block {q rate : Nat} {perm : List Nat → List Nat} {pd : List Nat} (hr : 0 < rate) (i : Nat) : lawS q rate perm pd ((i + 1) * rate) = lawPerm q perm (layH rate pd i (lawS q rate perm pd (i * rate)) rate) := by
  obtain ⟨k, rfl⟩ : ∃ k, rate = k + 1 := ⟨rate - 1, by (first | lia | omega)⟩
  have hm : (i * (k + 1) + k) % (k + 1) = k := by rw [Nat.mul_comm, Nat.mul_add_mod, Nat.mod_eq_of_lt (by (first | lia | omega))]
  rw [show (i + 1) * (k + 1) = i * (k + 1) + k + 1 by rw [Nat.succ_mul]; (first | lia | omega), lawS, hm, if_pos (by simp), lawS_in hr i k (by (first | lia | omega)), layH]
theorem drop_take {l : List Nat} {a m : Nat} (h : a + m ≤ l.length) : (l.drop a).take m = (List.range m).map fun k => l.getD (a + k) 0 := by
  refine ext_getD (by simp; (first | lia | omega)) fun i hi => ?_
  have hi' : i < m := by simp at hi; (first | lia | omega)
  rw [getD_map_range, if_pos hi', List.getD_eq_getElem?_getD, List.getElem?_take, if_pos hi', List.getElem?_drop, ← List.getD_eq_getElem?_getD]
theorem absI_get {q rate : Nat} {pd a : List Nat} {i : Nat} : ∀ n, n ≤ a.length → ∀ j, (absI q rate pd i a n).getD j 0 = a.getD j 0 ^^^ (if j < n then leV (pieceL q rate pd i j) else 0)
  | 0, _, j => by simp [absI]
  | n + 1, hn, j => by
    have hl : ∀ n, (absI q rate pd i a n).length = a.length := fun n => by
      induction n with
      | zero => rfl
      | succ n ih => rw [absI, List.length_set, ih]
    rw [absI, getD_set, hl, absI_get n (by (first | lia | omega)) j, absI_get n (by (first | lia | omega)) n]
    by_cases e : n = j
    · subst e
      rw [if_pos ⟨rfl, by (first | lia | omega)⟩, if_neg (by (first | lia | omega)), if_pos (by (first | lia | omega))]; simp
    · rw [if_neg (fun x => e x.1)]
      by_cases h1 : j < n
      · rw [if_pos h1, if_pos (by (first | lia | omega))]
      · rw [if_neg h1, if_neg (by (first | lia | omega))]
theorem block_lanes {w q rate : Nat} {pd a : List Nat} {i : Nat} (hq0 : 0 < q) (hq : w = 8 * q) (hr2 : rate ≤ 25 * q) (ha : LOk w a) (hp : ∀ x ∈ pd, x < 256) (hl : i * rate + rate ≤ pd.length) :
    lanesL q (layH rate pd i (octsL q a) rate) = absI q rate pd i a ((rate - 0 + q - 1) / q) := by
  have hal := ha.len
  have hol : (octsL q a).length = 25 * q := by rw [octsL_len, hal]
  have hN : ∀ j, j < (rate - 0 + q - 1) / q ↔ j * q < rate := fun j => by
    rw [Nat.lt_iff_add_one_le, Nat.le_div_iff_mul_le hq0, Nat.succ_mul]; (first | lia | omega)
  have hN25 : (rate - 0 + q - 1) / q ≤ 25 := by
    have : (rate - 0 + q - 1) / q < 26 := (Nat.div_lt_iff_lt_mul hq0).mpr (by (first | lia | omega))
    (first | lia | omega)
  refine ext_getD (by rw [(absI_ok hq hp ha _).len]; simp [lanesL]) fun j hj => ?_
  have hj' : j < 25 := by simpa [lanesL] using hj
  unfold lanesL
  rw [getD_map_range, if_pos hj', absI_get _ (by (first | lia | omega))]
  have e : (List.range q).map (fun k => (layH rate pd i (octsL q a) rate).getD (j * q + k) 0) = (List.range q).map fun k => (a.getD j 0 / 256 ^ k % 256) ^^^ (if j * q + k < rate then pd.getD (i * rate + (j * q + k)) 0 else 0) := bits_congr fun k hk => by
    rw [layH_get rate (by (first | lia | omega)), octs_get (by (first | lia | omega)) hk]
  have hpd : ∀ n, pd.getD n 0 < 256 := lt256 hp
  rw [e, leV_xor q (fun k => a.getD j 0 / 256 ^ k % 256) (fun k => if j * q + k < rate then pd.getD (i * rate + (j * q + k)) 0 else 0) (fun k => Nat.mod_lt _ (by decide)) (fun k => by
    show (if _ then _ else _) < 256
    split
    · exact hpd _
    · decide), leV_bytes]
  have hal2 := ha.lt j
  rw [hq, Nat.pow_mul] at hal2
  rw [Nat.mod_eq_of_lt hal2]
  congr 1
  by_cases hjN : j < (rate - 0 + q - 1) / q
  · rw [if_pos hjN]
    have hjr := (hN j).mp hjN
    have e2 : (List.range q).map (fun k => if j * q + k < rate then pd.getD (i * rate + (j * q + k)) 0 else 0) = (List.range q).map fun k => if k < min q (rate - j * q) then pd.getD (i * rate + j * q + k) 0 else 0 := bits_congr fun k hk => by
      by_cases h : j * q + k < rate
      · rw [if_pos h, if_pos (by (first | lia | omega)), Nat.add_assoc]
      · rw [if_neg h, if_neg (by (first | lia | omega))]
    rw [e2, leV_zeros q _ (fun k => pd.getD (i * rate + j * q + k) 0) (Nat.min_le_left _ _), ← drop_take (by (first | lia | omega))]
    unfold pieceL cut
    simp only [Option.getD_some]
    congr 2
    · (first | lia | omega)
    · congr 1; (first | lia | omega)
  · rw [if_neg hjN]
    have hjr : ¬ j * q < rate := fun h => hjN ((hN j).mpr h)
    have e2 : (List.range q).map (fun k => if j * q + k < rate then pd.getD (i * rate + (j * q + k)) 0 else 0) = (List.range q).map fun k => if k < 0 then 0 else 0 := bits_congr fun k hk => by
      rw [if_neg (by (first | lia | omega)), if_neg (by (first | lia | omega))]
    rw [e2, leV_zeros q 0 (fun _ => 0) (Nat.zero_le _)]; rfl
theorem lawS_eq {w q rate : Nat} {perm : List Nat → List Nat} {pd : List Nat} (hq0 : 0 < q) (hq : w = 8 * q) (hr : 0 < rate) (hr2 : rate ≤ 25 * q) (hperm : ∀ a, LOk w a → LOk w (perm a)) (hp : ∀ x ∈ pd, x < 256) : ∀ i, i * rate ≤ pd.length → lawS q rate perm pd (i * rate) = octsL q (absO q rate perm pd i)
  | 0, _ => by rw [Nat.zero_mul]; exact octs_rep.symm
  | i + 1, h => by
    have h' : i * rate + rate ≤ pd.length := by rw [Nat.succ_mul] at h; exact h
    have hO := absO_ok (rate := rate) (pd := pd) (perm := perm) (X := fun _ => True) hq hp (fun a ha => ⟨trivial, hperm a ha⟩) i
    rw [lawS_block hr, lawS_eq hq0 hq hr hr2 hperm hp i (by (first | lia | omega))]
    unfold lawPerm
    rw [block_lanes hq0 hq hr2 hO hp h']
    rfl
theorem lawP_eq {w q : Nat} {perm : List Nat → List Nat} {a : List Nat} (hq : w = 8 * q) (hperm : ∀ a, LOk w a → LOk w (perm a)) (ha : LOk w a) : ∀ k, lawP q perm (octsL q a) k = octsL q (sqP perm a k)
  | 0 => rfl
  | k + 1 => by
    rw [lawP, lawP_eq hq hperm ha k]
    unfold lawPerm
    rw [lanes_octs hq (sqP_ok (X := fun _ => True) (fun a h => ⟨trivial, hperm a h⟩) ha k)]
    rfl
theorem lawTo_eq {w q rate : Nat} {perm : List Nat → List Nat} {a : List Nat} (hq : w = 8 * q) (hperm : ∀ a, LOk w a → LOk w (perm a)) (ha : LOk w a) : ∀ k, lawTo q rate perm (octsL q a) k = sqF q rate perm a k
  | 0 => rfl
  | k + 1 => by rw [lawTo, sqF, lawTo_eq hq hperm ha k, lawP_eq hq hperm ha k]
theorem abs_law {w q rate many first : Nat} {perm : List Nat → List Nat} {o : List Nat} (hq0 : 0 < q) (hq : w = 8 * q) (hr : 0 < rate) (hr2 : rate ≤ 25 * q) (hperm : ∀ a, LOk w a → LOk w (perm a)) (ho : ∀ x ∈ o, x < 256) (hf : first < 128) :
    lawAbs q rate perm (padF o rate first) many = absF q rate perm (padF o rate first) many := by
  have hp := padF_mem (rate := rate) ho hf
  have hl : (padF o rate first).length = (o.length / rate + 1) * rate := by
    rw [padF_len]
    have h1 := Nat.div_add_mod o.length rate
    have h2 := Nat.mod_lt o.length hr
    rw [Nat.succ_mul, Nat.mul_comm]; (first | lia | omega)
  generalize padF o rate first = pd at hp hl
  unfold lawAbs absF
  have hn : (pd.length - 0 + rate - 1) / rate = o.length / rate + 1 := by
    rw [hl, Nat.div_eq_of_lt_le] <;> rw [Nat.sub_zero]
    · (first | lia | omega)
    · rw [Nat.succ_mul (o.length / rate + 1)]; (first | lia | omega)
  rw [hn, hl, lawS_eq hq0 hq hr hr2 hperm hp _ (by (first | lia | omega)), lawTo_eq hq hperm (absO_ok (rate := rate) (pd := pd) (perm := perm) (X := fun _ => True) hq hp (fun a ha => ⟨trivial, hperm a ha⟩) _)]
  unfold cut
  simp
end

section
section
variable {prog : Program} {w : World} {hB : Heap} {D : Nat} {P : Params}
theorem faultInit_spec (G : GH (heapK P) hB) (wd : Str) (e t : Addr) : FnM prog w hB 3 28 [.ref e, .str wd] e (.raw (excObj 31 t none)) (fun res mo => res = .none ∧ ∃ t' dx, mo = .raw (excObj 31 t' (some dx))) := by
  refine' FnM.mk (nz := 1) G ?ho ?hcd ?hok ?hl ?hb ?h
  case ho => k_is
  case hcd => k_is
  case hok => decide +kernel
  case hl => rfl
  case hb => ((intro vs hv; rcases vs with _ | ⟨a0, _ | ⟨a1, _ | ⟨a2, _ | ⟨a3, _ | ⟨a4, _ | ⟨a5, _ | ⟨a6, vs⟩⟩⟩⟩⟩⟩⟩ <;> first | (simp at hv; done) | rfl))
  case h =>
    intro ε env hE
    simp only [initVals, List.map_cons, List.map_nil, List.replicate, List.nil_append, List.cons_append]
    refine Ex.cons (St.excInit (avs := [.str wd]) G (by k_is) (by wtm_at "ev") (by wtm_at "evl") (by simp) .head (fun t' own' hs => Then.next ?_) (interactive_ok hE) (by rfl) (by rfl))
    cases hs
    refine Ex.cons (St.excSet G (by k_is) (by k_is) (by k_is) (by wtm_at "ev") (by wtm_at "ev") .head (fun dx own' hs => Then.next ?_) (by (first | rfl | ((refine EnvOk.open (P := fun e => swapsWith _ _ _ e = _) (by (with_reducible assumption)) ?_); intros; rfl))))
    cases hs
    exact Ex.nil ⟨0, _, .none, .head, .next, rfl, t', dx, rfl⟩
theorem faultR (G : GH (heapK P) hB) {ε : Ent} {env : Env} {ns : List (Str × NameKind)} {vals : List (Option AV)} {own : List (Addr × MO)} {np cpos pos p2 : Pos} {kk i : Nat} {wd : Str} {rest : List Stmt} (hx : At ns i ("MachineFault", .globalImplicit))
    (he : starEach [.Constant (.str wd) kk p2] env = (false, eval (.Constant (.str wd) kk p2) env) :: starEach [] env := by rfl) : ExR prog w hB (D + 4) ε env ns 31 (.Raise (some (.Call (.Name "MachineFault" np) [.Constant (.str wd) kk p2] [] cpos)) none pos :: rest) vals own :=
  ExR.raise G (by k_is) (by k_is) (by k_is) (by k_is) (Ev.globR G hx (by k_is) (by rfl)) (faultInit_spec G wd) (by (first | lia | omega)) he
theorem logBad_spec (G : GH (heapK P) hB) (z : Int) (hz : ∀ i, i < 7 → ((1 <<< i : Nat) : Int) ≠ z) : FnX prog w hB 6 31 41 [.int z] := by
  refine' FnX.mk (nz := 3) G ?ho ?hcd ?hok ?hl ?hb ?h
  case ho => k_is
  case hcd => k_is
  case hok => decide +kernel
  case hl => rfl
  case hb => ((intro vs hv; rcases vs with _ | ⟨a0, _ | ⟨a1, _ | ⟨a2, _ | ⟨a3, _ | ⟨a4, _ | ⟨a5, _ | ⟨a6, vs⟩⟩⟩⟩⟩⟩⟩ <;> first | (simp at hv; done) | rfl))
  case h =>
    intro ε env hE
    simp only [initVals, List.map_cons, List.map_nil, List.replicate, List.nil_append, List.cons_append]
    refine ExR.cons (St.forR (fun i v o => o = [] ∧ ∃ n, v = [some (.int z), n, none, none]) (by wtm_at "it") (by wtm_at "at") (by wtm_at "lc") ⟨rfl, _, rfl⟩ (fun i v o h => by obtain ⟨_, n, rfl⟩ := h; ((simp only [List.length_cons, List.length_nil]; (first | lia | omega)))) ?_ ?_)
    · rintro i v o rw hi ⟨rfl, n, rfl⟩
      (simp only [List.set_cons_succ, List.set_cons_zero, List.cons_append, List.nil_append])
      refine Ex.cons (St.if (EvT.cmp (by wtm_at "ev") (by wtm_at "ev") cg_eq (by with_unfolding_all rfl)) (fun h => ?_) (fun h => Ex.nil (Ex.nil ⟨[], rfl, rfl, _, rfl⟩)))
      exact absurd (by simpa using h) (hz i hi)
    · rintro v o ⟨rfl, n, rfl⟩
      exact ⟨rfl, faultR G (by wtm_at "at") (by rfl)⟩
theorem initBad_spec (G : GH (heapK P) hB) (z : Int) (hz : ∀ i, i < 7 → ((1 <<< i : Nat) : Int) ≠ z) (dx : Addr) : FnX prog w hB 7 31 69 [.inst 96 dx, .int z] := by
  refine' FnX.assign (nz := 4) G ?ho ?hcd ?hok ?hl ?hb ?h
  case ho => k_is
  case hcd => k_is
  case hok => decide +kernel
  case hl => rfl
  case hb => ((intro vs hv; rcases vs with _ | ⟨a0, _ | ⟨a1, _ | ⟨a2, _ | ⟨a3, _ | ⟨a4, _ | ⟨a5, _ | ⟨a6, vs⟩⟩⟩⟩⟩⟩⟩ <;> first | (simp at hv; done) | rfl))
  case h =>
    intro ε env hE
    simp only [initVals, List.map_cons, List.map_nil, List.replicate, List.nil_append, List.cons_append]
    exact ⟨EvX.call G (by k_is) (by wtm_at "ev") (by wtm_at "evl") (by wtm_at "hnds") (logBad_spec G z hz) (by decide), by (first | rfl | ((refine EnvOk.open (P := fun e => swapsWith _ _ _ e = _) (by (with_reducible assumption)) ?_); intros; rfl))⟩
theorem spongeBad_spec (G : GH (heapK P) hB) (z : Int) (hz : ∀ i, i < 7 → ((1 <<< i : Nat) : Int) ≠ z) : FnV prog w hB 9 227 [.int z] .none := by
  refine' FnV.tryRet (nz := 2) (C := 31) G ?hC ?ho ?hcd ?hok ?hl ?hb ?hx ?hm ?h ?hdb
  case ho => k_is
  case hcd => k_is
  case hC => k_is
  case hok => decide +kernel
  case hl => rfl
  case hb => ((intro vs hv; rcases vs with _ | ⟨a0, _ | ⟨a1, _ | ⟨a2, _ | ⟨a3, _ | ⟨a4, _ | ⟨a5, _ | ⟨a6, vs⟩⟩⟩⟩⟩⟩⟩ <;> first | (simp at hv; done) | rfl))
  case hx => wtm_at "at"
  case hm => k_is
  case hdb => rfl
  case h =>
    intro ε env hE
    simp only [initVals, List.map_cons, List.map_nil, List.replicate, List.nil_append, List.cons_append]
    exact EvX.cls G (by k_is) (by k_is) (by k_is) (by k_is) (by wtm_at "ev") (by wtm_at "evl") (by wtm_at "scal") (initBad_spec G z hz) (by decide)
theorem spongeOk_spec (G : GH (heapK P) hB) (l w' : Nat) (hl : l < 7) (hw : w' = 1 <<< l) : FnP prog w hB 6 227 [.int (w' : Int)] (spg w' (tuF w') (woF l)) := by
  have hI := init_w (prog := prog) (w := w) G l w' hl hw
  refine' FnP.deepE (nz := 2) G ?ho ?hcd ?hok ?hl ?hb ?ha ?h
  case ho => k_is
  case hcd => k_is
  case hok => decide +kernel
  case hl => rfl
  case hb => ((intro vs hv; rcases vs with _ | ⟨a0, _ | ⟨a1, _ | ⟨a2, _ | ⟨a3, _ | ⟨a4, _ | ⟨a5, _ | ⟨a6, vs⟩⟩⟩⟩⟩⟩⟩ <;> first | (simp at hv; done) | rfl))
  case ha => wtm_at "scal"
  case h =>
    intro ε env hE
    simp only [initVals, List.map_cons, List.map_nil, List.replicate, List.nil_append, List.cons_append]
    exact Ex.cons (St.tryRet (Ex.cons (St.ret (by wtm_at "ev") ⟨_, rfl, rfl⟩)))
theorem absBad_spec (G : GH (heapK P) hB) (l w' : Nat) (o : Array UInt8) (rate size pad : Nat) (hr : w' / 8 = 0 ∨ rate = 0 ∨ 25 * (w' / 8) < rate) : FnX prog w hB 6 31 93 [spg w' (tuF w') (woF l), .bytes o, .int (rate : Int), .int (size : Int), .int (pad : Int)] := by
  refine' FnX.mk (nz := 16) G ?ho ?hcd ?hok ?hl ?hb ?h
  case ho => k_is
  case hcd => k_is
  case hok => decide +kernel
  case hl => rfl
  case hb => ((intro vs hv; rcases vs with _ | ⟨a0, _ | ⟨a1, _ | ⟨a2, _ | ⟨a3, _ | ⟨a4, _ | ⟨a5, _ | ⟨a6, vs⟩⟩⟩⟩⟩⟩⟩ <;> first | (simp at hv; done) | rfl))
  case h =>
    intro ε env hE
    simp only [initVals, List.map_cons, List.map_nil, List.replicate, List.nil_append, List.cons_append]
    have hS := spongeOk (P := P)
    refine ExR.cons (St.assign (Ev.divN (by wtm_at "ev") (by wtm_at "ev") (by decide) (by decide +kernel)) (by wtm_at "at") (by wtm_at "lc") (by wtm_at "set") ⟨rfl, ?_⟩ (by (first | rfl | ((refine EnvOk.open (P := fun e => swapsWith _ _ _ e = _) (by (with_reducible assumption)) ?_); intros; rfl))))
    generalize w' / 8 = q at hr
    refine ExR.ifT ((EvT.or2 (EvT.cmp (by wtm_at "ev") (by wtm_at "ev") cg_eqN (by with_unfolding_all rfl)) (fun _ => EvT.not (EvT.cmp2 (by wtm_at "ev") (by wtm_at "ev") cg_leN (by wtm_at "ev") cg_leN (by with_unfolding_all rfl)))).eq ?_) (faultR G (by wtm_at "at") (by rfl))
    rcases hr with h | h | h
    · simp [h]
    · simp [h]
    · have : ¬ rate ≤ 25 * q := by (first | lia | omega)
      simp [this]
end
end

section
section
variable {prog : Program} {w : World} {hB : Heap} {D : Nat} {P : Params}
theorem widths_at0 : ∀ r, r < 9 → (([2, 4, 1, 8, 16, 32, 64, 1, 0] : List Nat).getD r 0 = 0 ∨ (([1, 2, 0, 3, 4, 5, 6, 0, 0] : List Nat).getD r 0 < 7 ∧ ([2, 4, 1, 8, 16, 32, 64, 1, 0] : List Nat).getD r 0 = 1 <<< ([1, 2, 0, 3, 4, 5, 6, 0, 0] : List Nat).getD r 0)) := by decide +kernel
theorem widths_at {r : Nat} (h : r < 9) : ([2, 4, 1, 8, 16, 32, 64, 1, 0] : List Nat).getD r 0 = 0 ∨ ∃ l, l < 7 ∧ ([2, 4, 1, 8, 16, 32, 64, 1, 0] : List Nat).getD r 0 = 1 <<< l := (widths_at0 r h).imp id fun x => ⟨_, x⟩
theorem noWidths_at0 : ∀ r, r < 8 → ∀ i, i < 7 → ((1 <<< i : Nat) : Int) ≠ ([0, 3, 5, 24, 63, 65, 128, -8] : List Int).getD r 0 := by decide +kernel
theorem noWidths_at {r : Nat} (h : r < 8) : ∃ z : Int, (IL [0, 3, 5, 24, 63, 65, 128] ++ [.int (-8)])[r]? = some (.int z) ∧ ∀ i, i < 7 → ((1 <<< i : Nat) : Int) ≠ z := by
  refine ⟨([0, 3, 5, 24, 63, 65, 128, -8] : List Int).getD r 0, ?_, noWidths_at0 r h⟩
  have e : (IL [0, 3, 5, 24, 63, 65, 128] ++ [.int (-8)]) = ([0, 3, 5, 24, 63, 65, 128, -8] : List Int).map AV.int := rfl
  have hr : r < ([0, 3, 5, 24, 63, 65, 128, -8] : List Int).length := h
  rw [e, List.getElem?_map, List.getElem?_eq_getElem hr, List.getD_eq_getElem?_getD, List.getElem?_eq_getElem hr]
  rfl
theorem permRight (G : GH (heapK P) hB) : RightD prog w hB 12 234 (Wl 1) := by
  refine' RightD.mk (nz := 13) G ?ho ?hcd ?hok ?hl ?hb ?h
  case ho => k_is
  case hcd => k_is
  case hok => decide +kernel
  case hl => rfl
  case hb => ((intro vs hv; rcases vs with _ | ⟨a0, _ | ⟨a1, _ | ⟨a2, _ | ⟨a3, _ | ⟨a4, _ | ⟨a5, _ | ⟨a6, vs⟩⟩⟩⟩⟩⟩⟩ <;> first | (simp at hv; done) | rfl))
  case h =>
    intro ε env a mo hE hW
    simp only [initVals, List.map_cons, List.map_nil, List.replicate, List.nil_append, List.cons_append]
    have hWi := widths_spec (prog := prog) (w := w) G
    have hNo := noWidths_spec (prog := prog) (w := w) G
    refine ExT.st (St.assignS (by wtm_at "at") (by wtm_at "lc") (EvS.itemS (P' := fun av o => ∃ mo1, Drawn 1 9 av mo1 ∧ o = [(a, mo1)]) (EvN.toEv (by wtm_at "evn")) (EvS.callM G (by k_is) (by wtm_at "ev") (by wtm_at "evl") (by wtm_at "at") (draw_spec G a mo 1 9 hW (by (first | lia | omega)) (by decide)) (by decide) (fun res mo1 hr => ⟨_, by wtm_at "set", mo1, hr, rfl⟩)) ?_) (by (first | rfl | ((refine EnvOk.open (P := fun e => swapsWith _ _ _ e = _) (by (with_reducible assumption)) ?_); intros; rfl))))
    rintro av o ⟨mo1, ⟨r, hr, rfl, h1⟩, rfl⟩
    refine ⟨_, _, rfl, by (first | lia | omega), by (first | lia | omega), IL_get' hr, _, by wtm_at "set", ?_⟩
    have hw := widths_at hr
    generalize ([2, 4, 1, 8, 16, 32, 64, 1, 0] : List Nat).getD r 0 = w' at hw ⊢
    refine ExT.if (by wtm_at "evt") (fun hb => ?_) (fun hb => ?_)
    · refine ExT.isNone (D' := 9) (f := 227) G (by k_is) (by wtm_at "ev") (EvS.itemS (P' := fun av o => ∃ mo2, Drawn 2 8 av mo2) (EvN.toEv (by wtm_at "evn")) (EvS.callM G (by k_is) (by wtm_at "ev") (by wtm_at "evl") (by wtm_at "at") (draw_spec G a mo1 2 8 h1 (by (first | lia | omega)) (by decide)) (by decide) (fun res mo2 hr => ⟨_, by wtm_at "set", mo2, hr⟩)) ?_) (by decide)
      rintro av o ⟨mo2, r2, hr2, rfl, h2⟩
      obtain ⟨z, hz, hz2⟩ := noWidths_at hr2
      exact ⟨_, _, rfl, by (first | lia | omega), by (first | lia | omega), hz, spongeBad_spec G z hz2, rfl⟩
    · have hb' : w' ≠ 0 := by simpa using hb
      obtain ⟨l, hl, hw⟩ := hw.resolve_left hb'
      obtain ⟨k1, k2⟩ := lane_pos l hl
      rw [← hw] at k1 k2
      have hSp := spongeOk_spec (prog := prog) (w := w) G l w' hl hw
      refine ExT.st (St.tupSwap (names := ["sponge", "lanes"]) (xs := ["lanes", "sponge"]) (EvS.tuple (EvsS.cons (EvS.ofEv (by wtm_at "ev") ?_) (fun _ => rfl))) (by (first | rfl | ((refine EnvOk.open (P := fun e => swappedStores _ _ e = _) (by (with_reducible assumption)) ?_); intros; rfl))) rfl)
      refine EvsS.cons (EvS.callM G (by k_is) (by wtm_at "ev") (by wtm_at "evl") (by wtm_at "at") (lanes_spec G a mo1 2 w' h1 (by (first | lia | omega)) k1 k2) (by decide) (fun res mo2 hr => ⟨_, by wtm_at "set", ?_⟩)) (fun _ => rfl)
      obtain ⟨lanes, rfl, hL, h2⟩ := hr
      refine EvsS.nil ⟨by wtm_at "size", _, [_, _], _, rfl, rfl, rfl, by wtm_at "sts", ?_⟩
      refine ExT.if ((EvT.cmp (by wtm_at "ev") Ev.cNone (cg_isNone (.inl ⟨_, _, _, rfl⟩)) (by with_unfolding_all rfl)).eq rfl) (fun hb => nomatch hb) (fun _ => ?_)
      have hLl := hL.len
      refine ExT.st (St.assign (EvN.toEv (by wtm_at "evn")) (by wtm_at "at") (by wtm_at "lc") (by wtm_at "set") ?_ (by (first | rfl | ((refine EnvOk.open (P := fun e => swapsWith _ _ _ e = _) (by (with_reducible assumption)) ?_); intros; rfl))))
      have e1 := bits_law hl hw hL
      have e2 := lanes_law hl hw hL
      have hB1 := byBits_spec (prog := prog) (w := w) G l w' lanes hl hw k1 k2 hL.len
      have hB2 := byLanes_spec (prog := prog) (w := w) G l w' lanes hl hw k1 k2 hL.len
      rw [e1] at hB1
      rw [e2] at hB2
      have hPm := permuted_w (prog := prog) (w := w) G l w' lanes hl hw hL
      have hS := spongeOk (P := P)
      generalize permF w' (tuF w') (woF l) lanes = due at *
      refine ExT.st (St.assign (Ev.ite (av := .lst (IL due)) (by wtm_at "evt") (fun _ => EvN.toEv (by wtm_at "evn")) (fun _ => EvN.toEv (by wtm_at "evn"))) (by wtm_at "at") (by wtm_at "lc") (by wtm_at "set") ?_ (by (first | rfl | ((refine EnvOk.open (P := fun e => swapsWith _ _ _ e = _) (by (with_reducible assumption)) ?_); intros; rfl))))
      exact ExT.st (St.ret (Ev.and2 (Ev.cmp (EvN.toEv (by (((with_reducible apply EvN.meth); (case G => (with_reducible assumption)); (case ho => wtm_at "ev"); (case hc => (with_reducible assumption)); (case hm => k_is); (case hk => k_is); (case ht => k_is); (case hn => decide +kernel); (case hes => wtm_at "evl"); (case ha => wtm_at "hnds"); (case F => wtm_at "fn"); (case hd => decide); (case he => rfl))))) (by wtm_at "ev") cg_eqIL (by with_unfolding_all rfl)) (fun _ => Ev.cmp (by wtm_at "ev") (by wtm_at "ev") cg_eqIL (by with_unfolding_all rfl))) rfl)
end
end

section
section
variable {prog : Program} {w : World} {hB : Heap} {D : Nat} {P : Params}
theorem lengths_at {r : Nat} (h : r < 9) : ([0, 1, 134, 135, 136, 137, 271, 272, 273] : List Nat).getD r 0 ≤ 273 := by
  rcases (by (first | lia | omega) : r = 0 ∨ r = 1 ∨ r = 2 ∨ r = 3 ∨ r = 4 ∨ r = 5 ∨ r = 6 ∨ r = 7 ∨ r = 8) with rfl | rfl | rfl | rfl | rfl | rfl | rfl | rfl | rfl <;> decide
theorem hashRight (G : GH (heapK P) hB) : RightD prog w hB 12 248 (Wl 1) := by
  refine' RightD.mk (nz := 12) G ?ho ?hcd ?hok ?hl ?hb ?h
  case ho => k_is
  case hcd => k_is
  case hok => decide +kernel
  case hl => rfl
  case hb => ((intro vs hv; rcases vs with _ | ⟨a0, _ | ⟨a1, _ | ⟨a2, _ | ⟨a3, _ | ⟨a4, _ | ⟨a5, _ | ⟨a6, vs⟩⟩⟩⟩⟩⟩⟩ <;> first | (simp at hv; done) | rfl))
  case h =>
    intro ε env a mo hE hW
    simp only [initVals, List.map_cons, List.map_nil, List.replicate, List.nil_append, List.cons_append]
    have hLe := lengths_spec (prog := prog) (w := w) G
    refine ExT.st (St.tupSwap (names := ["pick_here", "is_object"]) (xs := ["is_object", "pick_here"]) (EvS.tuple (EvsS.cons (EvS.callM G (by k_is) (by wtm_at "ev") (by wtm_at "evl") (by wtm_at "at") (draw_spec G a mo 1 18 hW (by (first | lia | omega)) (by decide)) (by decide) (fun res mo1 hr => ⟨_, by wtm_at "set", ?_⟩)) (fun _ => rfl))) (by (first | rfl | ((refine EnvOk.open (P := fun e => swappedStores _ _ e = _) (by (with_reducible assumption)) ?_); intros; rfl))) rfl)
    obtain ⟨pick, hp, rfl, h1⟩ := hr
    refine EvsS.cons (EvS.cmpK (P' := fun av o => ∃ mo2, Drawn 2 2 av mo2 ∧ o = [(a, mo2)]) (EvS.callM G (by k_is) (by wtm_at "ev") (by wtm_at "evl") (by wtm_at "at") (draw_spec G a mo1 2 2 h1 (by (first | lia | omega)) (by decide)) (by decide) (fun res mo2 hr => ⟨_, by wtm_at "set", mo2, hr, rfl⟩)) (fun _ => by wtm_at "ev") ?_ (by with_unfolding_all rfl)) (fun _ => rfl)
    rintro av o ⟨mo2, ⟨r2, hr2, rfl, h2⟩, rfl⟩
    refine ⟨_, cg_eqN, ?_⟩
    refine EvsS.nil ⟨by wtm_at "size", _, [_, _], _, rfl, rfl, rfl, by wtm_at "sts", ?_⟩
    refine ExT.st (St.assignS (by wtm_at "at") (by wtm_at "lc") (EvS.conseq (P := fun av o => ∃ many mo3, many ≤ 273 ∧ av = .int ((many : Nat) : Int) ∧ Wl 4 mo3 ∧ o = [(a, mo3)]) (EvS.ite (by wtm_at "evt") (fun hb => ?_) (fun hb => ?_)) ?_) (by (first | rfl | ((refine EnvOk.open (P := fun e => swapsWith _ _ _ e = _) (by (with_reducible assumption)) ?_); intros; rfl))))
    · have hp9 : pick < 9 := by simpa using hb
      refine EvS.ofEv (Ev.itemN (l := [0, 1, 134, 135, 136, 137, 271, 272, 273]) (EvN.toEv (by wtm_at "evn")) .frz (by wtm_at "ev") hp9 (by decide) (by intro _ _; rfl)) ⟨_, mo2, lengths_at hp9, rfl, ?_, rfl⟩
      obtain ⟨c, n, m, e, hc, hn, hm⟩ := h2
      exact ⟨c, n, m, e, hc, by (first | lia | omega), hm⟩
    · refine EvS.callM G (by k_is) (by wtm_at "ev") (by wtm_at "evl") (by wtm_at "at") (draw_spec G a mo2 3 274 h2 (by (first | lia | omega)) (by decide)) (by decide) (fun res mo3 hr => ⟨_, by wtm_at "set", ?_⟩)
      obtain ⟨many, hm, rfl, h3⟩ := hr
      exact ⟨many, mo3, by (first | lia | omega), rfl, h3, rfl⟩
    · rintro av o ⟨many, mo3, hm, rfl, h3, rfl⟩
      refine ⟨_, by wtm_at "set", ?_⟩
      refine ExT.st (St.assignS (by wtm_at "at") (by wtm_at "lc") (EvS.callM G (by k_is) (by wtm_at "ev") (by wtm_at "evl") (by wtm_at "at") (text_spec G a mo3 4 many h3 (by (first | lia | omega)) (by (first | lia | omega))) (by decide) (fun res mo4 hr => ⟨_, by wtm_at "set", ?_⟩)) (by (first | rfl | ((refine EnvOk.open (P := fun e => swapsWith _ _ _ e = _) (by (with_reducible assumption)) ?_); intros; rfl))))
      obtain ⟨o, rfl, hol, hox, h4⟩ := hr
      refine ⟨_, by wtm_at "set", ?_⟩
      have hK := keccak256_spec (prog := prog) (w := w) G o hox (by (first | lia | omega))
      have hO := of_spec (prog := prog) (w := w) G o hox (by (first | lia | omega))
      have hI := kInit_spec (prog := prog) (w := w) G
      have hk := keccakOk (P := P)
      refine ExT.stD (StD.assignS (by wtm_at "at") (by wtm_at "lc") (EvSD.ite (EvT.ofBool (by wtm_at "ev") (by intro _; rfl)) (fun hb => EvSD.meth G hk (by k_is) (by wtm_at "ev") (by k_is) (by k_is) (by decide +kernel) (by wtm_at "evl") (by wtm_at "hnds") hO (by decide) ⟨_, by wtm_at "set", ?_⟩ (by rfl)) (fun hb => EvSD.call G (by k_is) (by wtm_at "ev") (by wtm_at "evl") (by wtm_at "hnds") hK (by decide) ⟨_, by wtm_at "set", ?_⟩)) (by (first | rfl | ((refine EnvOk.open (P := fun e => swapsWith _ _ _ e = _) (by (with_reducible assumption)) ?_); intros; rfl))))
      all_goals
        have hA := lawAbs_spec (prog := prog) (w := w) G 6 64 8 o 136 32 1 (by decide) (by decide) (by decide) hox (by decide) (by decide) (by decide) (by (first | lia | omega)) (by decide)
        have hS6 := init_w (prog := prog) (w := w) G 6 64 (by decide) (by decide)
        have e := abs_law (w := 64) (q := 8) (rate := 136) (many := 32) (first := 1) (perm := permF 64 (tuF 64) (woF 6)) (o := o) (by decide) (by decide) (by decide) (by decide) (fun a ha => permS_ok ha (woF_ok (l := 6) (w' := 64) (by decide) (by decide)) _) hox (by decide)
        rw [e] at hA
        have e2 : absF 8 136 (permF 64 (tuF 64) (woF 6)) (padF o 136 1) 32 = hashF o := rfl
        rw [e2] at hA
        generalize hashF o = y at *
        refine ExT.st (St.ret (av := .bool true) ((Ev.cmp (by wtm_at "ev") (by wtm_at "ev") cg_eqB (by with_unfolding_all rfl)).eq ?_) rfl)
        simp
end
end

section
section
variable {prog : Program} {w : World} {hB : Heap} {D : Nat} {P : Params}
theorem absW_at {r : Nat} (h : r < 8) : ∃ l, l < 7 ∧ ([8, 16, 32, 64, 8, 16, 4, 1] : List Nat).getD r 0 = 1 <<< l := by
  rcases (by (first | lia | omega) : r = 0 ∨ r = 1 ∨ r = 2 ∨ r = 3 ∨ r = 4 ∨ r = 5 ∨ r = 6 ∨ r = 7) with rfl | rfl | rfl | rfl | rfl | rfl | rfl | rfl
  · exact ⟨3, by decide, rfl⟩
  · exact ⟨4, by decide, rfl⟩
  · exact ⟨5, by decide, rfl⟩
  · exact ⟨6, by decide, rfl⟩
  · exact ⟨3, by decide, rfl⟩
  · exact ⟨4, by decide, rfl⟩
  · exact ⟨2, by decide, rfl⟩
  · exact ⟨0, by decide, rfl⟩
theorem ExT.csS {x : Str} {np lp spos apos : Pos} {es : List Expr} {sl : Expr} {rest : List Stmt} {l : List Nat} {ε : Ent} {env : Env} {ns : List (Str × NameKind)} {vals : List (Option AV)} {own : List (Addr × MO)} {i : Nat} {P' : AV → List (Addr × MO) → Prop}
    (hs : Cs es (IL l)) (hx : At ns i (x, .local)) (hz : l.length ≤ 1000) (hi : EvS prog w hB D ε env ns vals own sl P')
    (h : ∀ av o, P' av o → ∃ r : Nat, av = .int (r : Int) ∧ r < l.length ∧ ∃ vals', SetAt vals i (some (.int ((l.getD r 0 : Nat) : Int))) vals' ∧ ExT prog w hB D ε env ns rest vals' o)
    (hss : ∀ o i, subscripted sl false o i = operate [o, i] (getItem o i) := by intro _ _; rfl)
    (hsw : swapsWith (.Subscript (.List es lp) sl spos) (some (.Name x np)) apos.line env = pure false) : ExT prog w hB D ε env ns (.Assign [.Name x np] (.Subscript (.List es lp) sl spos) apos :: rest) vals own :=
  ExT.st (St.assignS hx (.inl rfl) (EvS.itemS (xs := IL l) (EvN.toEv (EvN.cs hs (by rw [IL_length]; exact hz))) hi (fun av o hp => by
    obtain ⟨r, rfl, hr, vals', a, b⟩ := h av o hp
    exact ⟨_, _, rfl, by (first | lia | omega), by (first | lia | omega), IL_get' hr, vals', a, b⟩) hss) hsw)
theorem absRight (G : GH (heapK P) hB) : RightD prog w hB 12 241 (Wl 1) := by
  refine' RightD.mk (nz := 13) G ?ho ?hcd ?hok ?hl ?hb ?h
  case ho => k_is
  case hcd => k_is
  case hok => decide +kernel
  case hl => rfl
  case hb => ((intro vs hv; rcases vs with _ | ⟨a0, _ | ⟨a1, _ | ⟨a2, _ | ⟨a3, _ | ⟨a4, _ | ⟨a5, _ | ⟨a6, vs⟩⟩⟩⟩⟩⟩⟩ <;> first | (simp at hv; done) | rfl))
  case h =>
    intro ε env a mo hE hW
    simp only [initVals, List.map_cons, List.map_nil, List.replicate, List.nil_append, List.cons_append]
    refine' ExT.csS (l := [8, 16, 32, 64, 8, 16, 4, 1]) (P' := fun av o => ∃ mo1, Drawn 1 8 av mo1 ∧ o = [(a, mo1)]) ?c1 ?c2 ?c3 ?c4 ?c5 ?c6 ?c7
    case c1 => wtm_at "cs"
    case c2 => wtm_at "at"
    case c3 => decide
    case c4 => exact (EvS.callM G (by k_is) (by wtm_at "ev") (by wtm_at "evl") (by wtm_at "at") (draw_spec G a mo 1 8 hW (by (first | lia | omega)) (by decide)) (by decide) (fun res mo1 hr => ⟨_, by wtm_at "set", mo1, hr, rfl⟩))
    case c6 => intro _ _; rfl
    case c7 => (first | rfl | ((refine EnvOk.open (P := fun e => swapsWith _ _ _ e = _) (by (with_reducible assumption)) ?_); intros; rfl))
    case c5 =>
      rintro av o ⟨mo1, ⟨r, hr, rfl, h1⟩, rfl⟩
      refine ⟨r, rfl, hr, _, by wtm_at "set", ?_⟩
      obtain ⟨l, hl, hw⟩ := absW_at hr
      generalize ([8, 16, 32, 64, 8, 16, 4, 1] : List Nat).getD r 0 = w' at hw ⊢
      obtain ⟨k1, k2⟩ := lane_pos l hl
      rw [← hw] at k1 k2
      have hSp := spongeOk_spec (prog := prog) (w := w) G l w' hl hw
      refine ExT.st (St.tupSwap (names := ["sponge", "rate"]) (xs := ["rate", "sponge"]) (EvS.tuple (EvsS.cons (EvS.ofEv (by wtm_at "ev") ?_) (fun _ => rfl))) (by (first | rfl | ((refine EnvOk.open (P := fun e => swappedStores _ _ e = _) (by (with_reducible assumption)) ?_); intros; rfl))) rfl)
      refine EvsS.cons (EvS.callM G (by k_is) (by wtm_at "ev") (by wtm_at "evl") (by wtm_at "at") (draw_spec G a mo1 2 (25 * (w' / 8) + 3) h1 (by (first | lia | omega)) (by (first | lia | omega))) (by decide) (fun res mo2 hr => ⟨_, by wtm_at "set", ?_⟩)) (fun _ => rfl)
      obtain ⟨rate, hra, rfl, h2⟩ := hr
      refine EvsS.nil ⟨by wtm_at "size", _, [_, _], _, rfl, rfl, rfl, by wtm_at "sts", ?_⟩
      refine ExT.st (St.tupSwap (names := ["many", "first"]) (xs := ["first", "many"]) (EvS.tuple (EvsS.cons (EvS.callM G (by k_is) (by wtm_at "ev") (by wtm_at "evl") (by wtm_at "at") (draw_spec G a mo2 3 (rate + 2) h2 (by (first | lia | omega)) (by (first | lia | omega))) (by decide) (fun res mo3 hr => ⟨_, by wtm_at "set", ?_⟩)) (fun _ => rfl))) (by (first | rfl | ((refine EnvOk.open (P := fun e => swappedStores _ _ e = _) (by (with_reducible assumption)) ?_); intros; rfl))) rfl)
      obtain ⟨many, hma, rfl, h3⟩ := hr
      refine EvsS.cons (EvS.callM G (by k_is) (by wtm_at "ev") (by wtm_at "evl") (by wtm_at "at") (draw_spec G a mo3 4 128 h3 (by (first | lia | omega)) (by (first | lia | omega))) (by decide) (fun res mo4 hr => ⟨_, by wtm_at "set", ?_⟩)) (fun _ => rfl)
      obtain ⟨first, hfi, rfl, h4⟩ := hr
      refine EvsS.nil ⟨by wtm_at "size", _, [_, _], _, rfl, rfl, rfl, by wtm_at "sts", ?_⟩
      refine ExT.st (St.assignS (by wtm_at "at") (by wtm_at "lc") (EvS.callMS (f := 220) (a := a) (j := 0) G (by k_is) (by wtm_at "ev") (EvsS.cons (EvS.ofEv (by wtm_at "ev") ?_) (fun _ => rfl))) (by (first | rfl | ((refine EnvOk.open (P := fun e => swapsWith _ _ _ e = _) (by (with_reducible assumption)) ?_); intros; rfl))))
      refine EvsS.cons (EvS.callM G (by k_is) (by wtm_at "ev") (by wtm_at "evl") (by wtm_at "at") (draw_spec G a mo4 5 (rate + 2) h4 (by (first | lia | omega)) (by (first | lia | omega))) (by decide) (fun res mo5 hr => ⟨_, by wtm_at "set", ?_⟩)) (fun _ => rfl)
      obtain ⟨many2, hm2, rfl, h5⟩ := hr
      refine EvsS.nil ⟨mo5, TextP 6 many2, 4, by decide, by wtm_at "at", text_spec G a mo5 6 many2 h5 (by (first | lia | omega)) (by (first | lia | omega)), fun res mo6 hr => ⟨_, by wtm_at "set", ?_⟩⟩
      obtain ⟨o, rfl, hol, hox, h6⟩ := hr
      refine ⟨_, by wtm_at "set", ?_⟩
      refine ExT.if ((EvT.cmp (by wtm_at "ev") Ev.cNone (cg_isNone (.inl ⟨_, _, _, rfl⟩)) (by with_unfolding_all rfl)).eq rfl) (fun hb => nomatch hb) (fun _ => ?_)
      have hq : w' / 8 ≤ 8 := by (first | lia | omega)
      refine ExT.st (St.assign (av := .bool (decide (4 < w') && (decide (0 < rate) && decide (rate ≤ 25 * (w' / 8))))) (Ev.and2 (Ev.cmp (by wtm_at "ev") (by wtm_at "ev") cg_gtN (by with_unfolding_all rfl)) (fun _ => Ev.cmp2 (by wtm_at "ev") (by wtm_at "ev") cg_ltN (by wtm_at "ev") cg_leN (by with_unfolding_all rfl))) (by wtm_at "at") (by wtm_at "lc") (by wtm_at "set") ?_ (by (first | rfl | ((refine EnvOk.open (P := fun e => swapsWith _ _ _ e = _) (by (with_reducible assumption)) ?_); intros; rfl))))
      have hS := spongeOk (P := P)
      by_cases hlet : 4 < w' ∧ 0 < rate ∧ rate ≤ 25 * (w' / 8)
      · have e0 : (decide (4 < w') && (decide (0 < rate) && decide (rate ≤ 25 * (w' / 8)))) = true := by simp [hlet]
        rw [e0]
        obtain ⟨g1, g2, g3⟩ := hlet
        have hq8 : w' = 8 * (w' / 8) := by
          rcases (by (first | lia | omega) : l = 0 ∨ l = 1 ∨ l = 2 ∨ l = 3 ∨ l = 4 ∨ l = 5 ∨ l = 6) with rfl | rfl | rfl | rfl | rfl | rfl | rfl <;> subst hw <;> first | rfl | exact absurd g1 (by decide)
        have hAb := absorbed_w (prog := prog) (w := w) G l w' (w' / 8) o rate many first hl hw hq8 hox g2 g3 hfi (by (first | lia | omega)) (by (first | lia | omega))
        have hA := lawAbs_spec (prog := prog) (w := w) G l w' (w' / 8) o rate many first hl hw hq8 hox g2 g3 hfi (by (first | lia | omega)) (by (first | lia | omega))
        have e := abs_law (w := w') (q := w' / 8) (rate := rate) (many := many) (first := first) (perm := permF w' (tuF w') (woF l)) (o := o) (by (first | lia | omega)) hq8 g2 g3 (fun a ha => permS_ok ha (woF_ok hl hw) _) hox hfi
        rw [e] at hA
        generalize absF (w' / 8) rate (permF w' (tuF w') (woF l)) (padF o rate first) many = y at *
        refine ExT.stD (StD.tryOk (ExD.cons (StD.assignS (by wtm_at "at") (by wtm_at "lc") (EvSD.meth G hS (by k_is) (by wtm_at "ev") (by k_is) (by k_is) (by decide +kernel) (by wtm_at "evl") (by wtm_at "hnds") hAb (by decide) ⟨_, by wtm_at "set", ExD.of (Ex.nil ⟨rfl, ?_⟩)⟩ (by rfl)) (by (first | rfl | ((refine EnvOk.open (P := fun e => swapsWith _ _ _ e = _) (by (with_reducible assumption)) ?_); intros; rfl))))))
        refine ExT.st (St.ret (av := .bool true) ((Ev.and2 (c := true) (by wtm_at "ev") (fun _ => (Ev.cmp (by wtm_at "ev") (by wtm_at "ev") cg_eqB (by with_unfolding_all rfl)).eq ?_)).eq rfl) rfl)
        simp
      · have e0 : (decide (4 < w') && (decide (0 < rate) && decide (rate ≤ 25 * (w' / 8)))) = false := by
          rw [Bool.eq_false_iff]; intro h; simp only [Bool.and_eq_true, decide_eq_true_eq] at h; exact hlet h
        rw [e0]
        have hB := absBad_spec (prog := prog) (w := w) G l w' (BY o) rate many first (by (first | lia | omega))
        exact ExT.catch (C := 31) G (by k_is) (by wtm_at "at") (by k_is) (by wtm_at "at") (by wtm_at "at") (EvX.meth G hS (by k_is) (by wtm_at "ev") (by k_is) (by k_is) (by decide +kernel) (by wtm_at "evl") (by wtm_at "hnds") hB (by decide) (by rfl)) (by (first | rfl | ((refine EnvOk.open (P := fun e => swapsWith _ _ _ e = _) (by (with_reducible assumption)) ?_); intros; rfl)))
end
end

section
section
variable {prog : Program} {w : World} {hB : Heap} {D : Nat} {P : Params}
theorem law_spec (G : GH (heapK P) hB) (l : List Int) (hz : l.length ≤ 1000) : LawD prog w hB 14 253 [.lst (l.map AV.int)] := by
  have hP := permRight (prog := prog) (w := w) G
  have hA := absRight (prog := prog) (w := w) G
  have hH := hashRight (prog := prog) (w := w) G
  refine' LawD.mk (nz := 6) G ?ho ?hcd ?hok ?hl ?hb ?h
  case ho => k_is
  case hcd => k_is
  case hok => decide +kernel
  case hl => rfl
  case hb => ((intro vs hv; rcases vs with _ | ⟨a0, _ | ⟨a1, _ | ⟨a2, _ | ⟨a3, _ | ⟨a4, _ | ⟨a5, _ | ⟨a6, vs⟩⟩⟩⟩⟩⟩⟩ <;> first | (simp at hv; done) | rfl))
  case h =>
    intro ε env hE
    simp only [initVals, List.map_cons, List.map_nil, List.replicate, List.nil_append, List.cons_append]
    have ht : cut (l.map AV.int) none (some 24) = (List.range (l.take 24).length).map fun i : Nat => AV.int (l.getD i 0) := by
      have e : cut (l.map AV.int) none (some 24) = (l.take 24).map AV.int := by simp [cut, List.map_take]
      rw [e]
      refine List.ext_getElem (by simp) fun i h1 h2 => ?_
      have h3 : i < l.length := by simp at h1; (first | lia | omega)
      simp [List.getD_eq_getElem?_getD, List.getElem?_eq_getElem h3]
    refine ExT.st (St.assignN (mo := .lst [.lst (IL ((List.range (l.take 24).length).map fun i => cellN (l.getD i 0))), .int ((0 : Nat) : Int), .int ((0 : Nat) : Int)]) (EvN.list (EvL.cons (EvN.toEv (EvN.compN (g := fun i => AV.int (l.getD i 0)) (EvIt.eq (EvIt.list (EvN.toEv (EvN.slice (by wtm_at "ev") .frz EvP.none (EvP.some (by wtm_at "ev")) (by rw [sizeLine_eq]; simp; (first | lia | omega))))) ht) (by wtm_at "cap") (by wtm_at "at") (.inl rfl) (by simp; (first | lia | omega)) ?_ (by decide +kernel) rfl (by decide +kernel) (by intro _; rfl))) (EvL.cons (by wtm_at "ev") (EvL.cons (by wtm_at "ev") EvL.nil (by rfl)) (by rfl)) (by rfl)) (by wtm_at "size")) (by wtm_at "at") (by wtm_at "lc") (fun _ => by wtm_at "set") (fun a => ?_) (by (first | rfl | ((refine EnvOk.open (P := fun e => swapsWith _ _ _ e = _) (by (with_reducible assumption)) ?_); intros; rfl))))
    · intro i C hi
      (simp only [List.set_cons_succ, List.set_cons_zero, List.cons_append, List.nil_append])
      refine (Ev.bin (Ev.callTy (by wtm_at "ev") (EvL.cons (by wtm_at "ev") EvL.nil (by rfl)) ty_int) (by wtm_at "ev") (og_mod (by (first | lia | omega)))).eq ?_
      exact congrArg AV.int cellN_eq
    · have h0 : Wl 0 (.lst [.lst (IL ((List.range (l.take 24).length).map fun i => cellN (l.getD i 0))), .int ((0 : Nat) : Int), .int ((0 : Nat) : Int)]) := ⟨_, 0, 0, rfl, by simp; (first | lia | omega), by (first | lia | omega), by (first | lia | omega)⟩
      generalize (MO.lst [.lst (IL ((List.range (l.take 24).length).map fun i => cellN (l.getD i 0))), .int ((0 : Nat) : Int), .int ((0 : Nat) : Int)]) = mo at h0 ⊢
      refine ExT.st (St.assignS (by wtm_at "at") (by wtm_at "lc") (EvS.callM G (by k_is) (by wtm_at "ev") (by wtm_at "evl") (by wtm_at "at") (draw_spec G a mo 0 3 h0 (by (first | lia | omega)) (by decide)) (by decide) (fun res mo1 hr => ⟨_, by wtm_at "set", ?_⟩)) (by (first | rfl | ((refine EnvOk.open (P := fun e => swapsWith _ _ _ e = _) (by (with_reducible assumption)) ?_); intros; rfl))))
      obtain ⟨way, hw, rfl, h1⟩ := hr
      refine ⟨_, by wtm_at "set", ?_⟩
      refine ExT.if (by wtm_at "evt") (fun _ => ExT.ret (EvR.call G (by k_is) (by wtm_at "ev") (by wtm_at "evl") (by wtm_at "at") hP h1 (by decide))) (fun _ => ?_)
      exact ExT.ret (EvR.ite (by wtm_at "evt") (fun _ => EvR.call G (by k_is) (by wtm_at "ev") (by wtm_at "evl") (by wtm_at "at") hA h1 (by decide)) (fun _ => EvR.call G (by k_is) (by wtm_at "ev") (by wtm_at "evl") (by wtm_at "at") hH h1 (by decide)))
end
end

end
end Kx

namespace Kx
theorem rs_of_well {P : Params} {h : Heap} {Φ : FH} : ∀ {l : List Int} {vs : List Value}, WellAll P h vs (ofPys (l.map PyData.int)) → Rs Φ (l.map AV.int) vs
  | [], vs, x => by cases x; trivial
  | i :: l, vs, x => by
    cases x with
    | cons a b => cases a; exact ⟨⟨_, rfl⟩, rs_of_well b⟩
theorem law_at {P : Params} : nsIn (heapK P) mainGlobals (Str.ofString "law") = some (some (.ref 253)) := by kernel_rfl
theorem walk (d : DefRec) (kwd : List (Str × Expr)) (hn : d.name = ("law" : Str)) : WalkD lawView looseNames (XL lawView []) lawHook.says lawRow d kwd := by
  intro w s₀ s₁ mg mb G Y fa o pm cd doc dV kV ho hd hcd hD hmg hg args vals as hpre hlay hrd hwl hlo
  have KX : (heapK w.params).In s₁.heap := kIn_of Y
  have GG : GH (heapK w.params) s₁.heap := ⟨KX, ⟨_, G.T.g⟩, ⟨_, G.T.b, G.T.builtins⟩, G.T.nolimit⟩
  have hm : mg d.name = some (.ref 253) := by
    rw [hn]
    exact mg_of KX G.T.g law_at
  obtain rfl : fa = 253 := by rw [hmg] at hm; injection hm with hm; injection hm
  clear hm hmg hD hcd hd ho Y
  wrow_args hpre hlay hrd hwl hlo
  rename_i l _ _ _ _ _ _ _ a _ _ _ _ w1 _ _ _ hlen _
  have hl : l.length ≤ 1000 := by omega
  clear hlen
  cases w1 with
  | list ha hb =>
    refine wpD_call (codeD_mono (law_spec (w := w) (prog := lawRow.prog) GG l hl [] callerA s₁ _ ?_ rfl trivial (fun _ _ e => e) ⟨⟨_, _, _, rfl, ha, rs_of_well hb⟩, trivial⟩) ?_)
    · exact ⟨⟨rfl, by decide, by decide⟩, rfl⟩
    · rintro r s' ⟨rfl, h', tk, rfl, hst⟩
      exact ⟨.inl ⟨.bool true, .bool true, [], rfl, fun _ => rfl, ReadsW.bool true, by wrow_post, fun _ => ⟨List.Pairwise.nil, fun _ x => nomatch x⟩⟩, OldK.of_keep hst, rfl, AllBare.of_eq hg⟩
set_option maxHeartbeats 0 in
theorem all : PySem.Challenge.rw_pq0390_01.Holds := by
  refine holds_law said fun sd => Kx.PySem.W.holds_open (r := PySem.Challenge.rw_pq0390_01.row) (q := lawView) (loose := looseNames) (Xt := lookX) (XP := XL lawView []) (Yf := lawHook.obs) (Ya := lawHook.val) (YP := lawHook.says) (N := 3606)
    left lawHook.of lawHook.keeps (fun s e => xl_of s (Bool.and_eq_true_iff.mp e).1) XL.keeps (by rfl) (by rfl) (by rfl) (fun s e => recFacts_of (Bool.and_eq_true_iff.mp e).2) (by rfl) sd (by decide +kernel) ⟨rfl, rfl, rfl, rfl, rfl, by decide +kernel⟩ ?hw ?hc
  case hw => w_witness2
  case hc => exact walk _ _ rfl
end Kx
theorem PySem.Challenge.cw_pq0390_01_holds : PySem.Challenge.rw_pq0390_01.Holds := by
  exact Kx.all
