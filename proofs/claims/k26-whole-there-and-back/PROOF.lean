import PyProof.Rows.All
import Wide.All
import OpenK.AllK
import Wide.FinOn
import KE.KStateDown
import HandS.Head0
import HandS.Head1
import HandS.Head2
import HandS.HeadEnd
import HandS.HeadHook1
import HandS.HeadHook2
import HandS.Words
import PySem.Challenge.RW_lossrules_k26_whole_there_and_back
import HandS.ForMost
import HandS.ForExc
import HandS.Flow
import HandS.Style
import HandS.Wide
import HandS.IsInst
import HandS.TupAny
import HandS.TupMul
import HandS.Walk
import HandS.Zip
import HandS.Text
import HandS.Codes
import PySem.Str
import KE.DataMinMax
import PyProof.StrLawsReplace
import PyProof.Rows.StrItems
import HandS.ReplaceLit
import HandS.Comp
import KE.GoesEnum
import KE.GoesZip
import HandS.CallRecv
import OpenK.KOps
import PyProof.InstNe
import HandS.More
import HandS.Conv
import HandS.ExcOwn
import HandS.TryMany
import PyProof.ExcBaseAll.ValueError
import HandS.Defaults
section
set_option Elab.async false
set_option linter.all false
set_option maxRecDepth 100000
set_option maxHeartbeats 4000000
namespace PV
open PySem PySem.Spec PyProof.Rows L2
def clsFa (ncl : List (Nat × Str)) : List He.Fa := ncl.flatMap fun p => .glo p.2 :: .exc p.2 :: ncl.map fun q => .exm p.2 q.2 (decide (p.1 = q.1))
/-! ### more facts of a class -/
/-! ### the head's facts, some at a time -/
section
variable {n : Nat} {fa : List He.Fa} {fn : List He.DefD} {g : Addr → Option Obj}
theorem obs_iff : He.obsDG n fa fn g = He.valD fn ↔ (∀ f, f ∈ fa → f.ok (He.frG g (He.asD g n)) = true) ∧ ∀ d, d ∈ fn → d.ok (He.frG g (He.asD g n)) = true ∧ He.fnW (He.frG g (He.asD g n)) d.at_ = d.val := by
  unfold He.obsDG He.obsD He.valD
  rw [Prod.mk.injEq, Bool.and_eq_true, List.all_eq_true, List.all_eq_true, List.map_inj_left]
  constructor
  · rintro ⟨⟨h1, h2⟩, h3⟩
    exact ⟨h1, fun d hd => ⟨h2 d hd, h3 d hd⟩⟩
  · rintro ⟨h1, h2⟩
    exact ⟨⟨h1, fun d hd => (h2 d hd).1⟩, fun d hd => (h2 d hd).2⟩
theorem mem_chunk {α : Type} {xs : List α} {x : α} {a m : Nat} (ha : 0 < a) (hl : xs.length ≤ a * m) (h : x ∈ xs) : ∃ j, j < m ∧ x ∈ (xs.drop (a * j)).take a := by
  obtain ⟨i, hi, e⟩ := List.mem_iff_getElem.mp h
  have hd := Nat.div_add_mod i a
  have hm := Nat.mod_lt i ha
  refine ⟨i / a, ?_, ?_⟩
  · exact Nat.div_lt_of_lt_mul (by omega)
  · refine List.mem_of_getElem? (i := i % a) ?_
    rw [List.getElem?_take_of_lt hm, List.getElem?_drop, hd, List.getElem?_eq_getElem hi, e]
theorem obs_chunks {a b m : Nat} (ha : 0 < a) (hb : 0 < b) (hfa : fa.length ≤ a * m) (hfn : fn.length ≤ b * m) (h : ∀ j, j < m → He.obsDG n ((fa.drop (a * j)).take a) ((fn.drop (b * j)).take b) g = He.valD ((fn.drop (b * j)).take b)) : He.obsDG n fa fn g = He.valD fn := by
  rw [obs_iff]
  refine ⟨fun f hf => ?_, fun d hd => ?_⟩
  · obtain ⟨j, hj, hm⟩ := mem_chunk ha hfa hf
    exact (obs_iff.mp (h j hj)).1 f hm
  · obtain ⟨j, hj, hm⟩ := mem_chunk hb hfn hd
    exact (obs_iff.mp (h j hj)).2 d hm
theorem map_chunks {T : Type} {get : T → Addr → Option Obj} {a b m : Nat} (e : Option T) (ha : 0 < a) (hb : 0 < b) (hm : 0 < m) (hfa : fa.length ≤ a * m) (hfn : fn.length ≤ b * m)
    (h : ∀ j, j < m → e.map (fun s => He.obsDG n ((fa.drop (a * j)).take a) ((fn.drop (b * j)).take b) (get s)) = some (He.valD ((fn.drop (b * j)).take b))) : e.map (fun s => He.obsDG n fa fn (get s)) = some (He.valD fn) := by
  cases e with
  | none => have := h 0 hm; cases this
  | some s => exact congrArg some (obs_chunks ha hb hfa hfn fun j hj => Option.some.inj (h j hj))
end
/-! ### a class's part of the heap -/
/-! ### the head's run, one look at a time -/
section
open HandSHeadRun PySem.W PySem.Calls
theorem run_eq {r : OpenRow} {q : Program} {H : Hook} {ob : SharedT → H.α} {M : Nat} {loose : List PySem.Str} {w : World}
    (h1 : ∀ os : OsState, (endF (stepQ (denQ tabQ) r.prog w) M r.prog w os).map (fun s => looksF r.prog (boot_heap w.params) s.abs) = some true)
    (h2 : ∀ os : OsState, (endF (stepQ (denQ tabQ) r.prog w) M r.prog w os).map (fun s => seenQ q loose (importedModules r.prog.main.body) (fun s => xlAt q [] s && recOk r.toRowW.records s) s.abs) = some (openGood q loose))
    (h3 : ∀ os : OsState, (endF (stepQ (denQ tabQ) r.prog w) M r.prog w os).map ob = some (H.val w)) : RunEq r q H ob M loose w := by
  intro os
  have a := h1 os
  have b := h2 os
  have c := h3 os
  revert a b c
  cases endF (stepQ (denQ tabQ) r.prog w) M r.prog w os with
  | none => intro a b c; cases a
  | some s =>
    intro a b c
    have a := Option.some.inj a
    have b := Option.some.inj b
    have c := Option.some.inj c
    show some (_, _, _) = some (_, _, _)
    dsimp only at a b
    rw [a, b, c]
end
end PV
end
section
set_option Elab.async false
set_option linter.all false
set_option maxRecDepth 100000
set_option maxHeartbeats 0
namespace PV
open PySem PySem.Spec PyProof.Rows L2
def top (i : Nat) : Stmt := PySem.Challenge.pw_lossrules_k26_whole_there_and_back.main.body.getD i (.Pass ⟨0, 0, 0, 0⟩)
def ncl : List (Nat × Str) := [(0, "InvalidModel"), (14, "TooLarge"), (1, "InvalidLosses"), (17, "ParseError")]
def dd (x : Str) (i : Nat) : He.DefD := ⟨(x, none), x, x, defArgs (top i), defBody (top i), defScope (top i), [], []⟩
def da (x y : Str) (i : Nat) : He.DefD := ⟨(x, none), y, y, defArgs (top i), defBody (top i), defScope (top i), [], []⟩
def hfn0 : List He.DefD := [dd "_law_draw" 32, dd "_law_fraction" 35, dd "_law_spread" 36, dd "_law_model" 37, dd "_law_losses" 38, dd "common_divisor" 7, dd "lowest_terms" 8, dd "plus" 10, dd "total_of" 11, dd "is_fraction" 9, dd "are_chances" 14, dd "is_model" 15, dd "require_model" 16, dd "model_text" 20, dd "is_long" 21, dd "format_model" 22, dd "is_integer" 13, dd "are_valid_losses" 17, dd "require_losses" 18, dd "losses_text" 26, dd "format_losses" 27, dd "parse_number" 23, dd "parse_chance" 24, dd "parse_model" 25, dd "_law_parse_model_or" 40, dd "parse_loss" 28, dd "parse_losses" 29, dd "_law_parse_losses_or" 41, dd "_law_refused" 39, dd "_law_same" 31]
def hfn1 : List He.DefD := [dd "_law_pick" 33, dd "_law_spoiled" 34, dd "law" 42]
def hfn : List He.DefD := hfn0 ++ hfn1
def hfb0 : List He.Fa := [.glo "_law_draw", .glo "_law_fraction", .glo "_law_spread", .glo "_law_model", .glo "_law_losses", .glo "common_divisor", .glo "lowest_terms", .glo "plus", .glo "total_of", .glo "is_fraction", .glo "are_chances", .glo "is_model", .glo "require_model", .glo "model_text", .glo "is_long", .glo "format_model", .glo "is_integer", .glo "are_valid_losses", .glo "require_losses", .glo "losses_text", .glo "format_losses", .glo "parse_number", .glo "parse_chance", .glo "parse_model", .glo "_law_parse_model_or", .glo "parse_loss", .glo "parse_losses", .glo "_law_parse_losses_or", .glo "_law_refused", .glo "_law_same"]
def hfb1 : List He.Fa := [.glo "_law_pick", .glo "_law_spoiled", .glo "law", .free "len", .free "abs", .free "all", .free "any", .free "max", .free "min", .free "sum", .free "tuple", .free "list", .free "int", .free "str", .free "bool", .free "isinstance", .free "range", .free "enumerate", .free "zip"]
def hfb : List He.Fa := hfb0 ++ hfb1
def hfa : List He.Fa := hfb ++ clsFa ncl
def hoth0 : List Str := ["DecisionError", "InvalidModel", "InvalidLosses", "TooLarge", "ParseError", "common_divisor", "lowest_terms", "is_fraction", "plus", "total_of", "is_integer", "are_chances", "is_model", "require_model", "are_valid_losses", "require_losses", "model_text", "is_long", "format_model", "parse_number", "parse_chance", "parse_model", "losses_text", "format_losses", "parse_loss", "parse_losses", "_law_same", "_law_draw", "_law_pick", "_law_spoiled"]
def hoth1 : List Str := ["_law_fraction", "_law_spread", "_law_model", "_law_losses", "_law_refused", "_law_parse_model_or", "_law_parse_losses_or"]
def hoth : List Str := hoth0 ++ hoth1
abbrev hR : PySem.W.OpenRow := PySem.W.OpenLaw.row PySem.Challenge.rw_lossrules_k26_whole_there_and_back
abbrev hhk : PySem.W.Hook := He.hookD 2 hfa hfn
def hob (s : PySem.W.SharedT) : He.AlD := He.obsDG 2 hfa hfn (HandSHeadRun.getT s)
theorem hob_eq (s : PySem.W.SharedT) : hob s = hhk.obs s.abs := He.obsDG_eq (HandSHeadRun.getT_eq s)
section
open HandSHeadRun PySem.W PySem.Calls
theorem hrun1 (w : World) (os : OsState) : (endF (stepQ (denQ tabQ) hR.prog w) 40000 hR.prog w os).map (fun s => looksF hR.prog (boot_heap w.params) s.abs) = some true := by
  kernel_rfl
theorem hrun2 (w : World) (os : OsState) : (endF (stepQ (denQ tabQ) hR.prog w) 40000 hR.prog w os).map (fun s => seenQ (PySem.W.view hR.prog [42]) hoth (importedModules hR.prog.main.body) (fun s => xlAt (PySem.W.view hR.prog [42]) [] s && recOk hR.toRowW.records s) s.abs) = some (openGood (PySem.W.view hR.prog [42]) hoth) := by
  kernel_rfl
theorem hr3_0 (w : World) (os : OsState) : (endF (stepQ (denQ tabQ) hR.prog w) 40000 hR.prog w os).map (fun s => He.obsDG 2 ((hfa.drop (73 * 0)).take 73) ((hfn.drop (33 * 0)).take 33) (getT s)) = some (He.valD ((hfn.drop (33 * 0)).take 33)) := by
  kernel_rfl
theorem hrun3 (w : World) (os : OsState) : (endF (stepQ (denQ tabQ) hR.prog w) 40000 hR.prog w os).map hob = some (hhk.val w) :=
  map_chunks (n := 2) (fa := hfa) (fn := hfn) (get := getT) (a := 73) (b := 33) (m := 1) (endF (stepQ (denQ tabQ) hR.prog w) 40000 hR.prog w os) (by decide) (by decide) (by decide) (by decide +kernel) (by decide +kernel) (fun j hj => match j, hj with | 0, _ => hr3_0 w os | n + 1, h => absurd h (by omega))
end
theorem hrun (w : World) : HandSHeadRun.RunEq hR (PySem.W.view hR.prog [42]) hhk hob 40000 hoth w := run_eq (hrun1 w) (hrun2 w) (hrun3 w)
end PV
end
section
set_option linter.all false
/-! Core1: plain data, a store of cells, a small language and what it does. No library but the texts' type. -/
namespace PV
open PySem (Str)
inductive D where
  | none | bool (b : Bool) | int (i : Int) | str (s : Str)
  | tup (xs : List D) | lst (xs : List D) | scr (ns : List Int) | loc (n : Nat)
  deriving Inhabited
inductive Cell where
  | lst (xs : List D)
  | ins (c : Str) (fs : List (Str × D))
  deriving Inhabited
abbrev Store := List Cell
abbrev Env := List (Option D)
abbrev line : Nat := 16777216
/-! ### deciding that two data are the same -/
mutual
def D.same : D → D → Bool
  | .none, .none => true
  | .bool a, .bool b => a == b
  | .int a, .int b => a == b
  | .str a, .str b => a == b
  | .tup a, .tup b => D.sameL a b
  | .lst a, .lst b => D.sameL a b
  | .scr a, .scr b => a == b
  | .loc a, .loc b => a == b
  | _, _ => false
def D.sameL : List D → List D → Bool
  | [], [] => true
  | x :: xs, y :: ys => D.same x y && D.sameL xs ys
  | _, _ => false
end
mutual
theorem D.same_eq : ∀ (a b : D), D.same a b = true → a = b
  | .none, b, h => by cases b <;> first | rfl | (simp [D.same] at h)
  | .bool x, b, h => by cases b <;> simp_all [D.same]
  | .int x, b, h => by cases b <;> simp_all [D.same]
  | .str x, b, h => by cases b <;> simp_all [D.same]
  | .tup x, b, h => by
    cases b <;> simp [D.same] at h
    rw [D.sameL_eq _ _ h]
  | .lst x, b, h => by
    cases b <;> simp [D.same] at h
    rw [D.sameL_eq _ _ h]
  | .scr x, b, h => by cases b <;> simp_all [D.same]
  | .loc x, b, h => by cases b <;> simp_all [D.same]
theorem D.sameL_eq : ∀ (a b : List D), D.sameL a b = true → a = b
  | [], b, h => by cases b <;> first | rfl | (simp [D.sameL] at h)
  | x :: xs, b, h => by
    cases b with
    | nil => simp [D.sameL] at h
    | cons y ys =>
      simp [D.sameL] at h
      rw [D.same_eq x y h.1, D.sameL_eq xs ys h.2]
end
mutual
theorem D.same_refl : ∀ (a : D), D.same a a = true
  | .none => rfl
  | .bool x => by simp [D.same]
  | .int x => by simp [D.same]
  | .str x => by simp [D.same]
  | .tup x => by simp only [D.same]; exact D.sameL_refl x
  | .lst x => by simp only [D.same]; exact D.sameL_refl x
  | .scr x => by simp [D.same]
  | .loc x => by simp [D.same]
theorem D.sameL_refl : ∀ (a : List D), D.sameL a a = true
  | [] => rfl
  | x :: xs => by simp only [D.sameL, D.same_refl x, D.sameL_refl xs, Bool.and_self]
end
instance : DecidableEq D := fun a b => if h : D.same a b = true then isTrue (D.same_eq a b h) else isFalse (fun e => h (by rw [e]; exact D.same_refl b))
instance : DecidableEq Cell := fun a b => match a, b with
  | .lst x, .lst y => if h : x = y then isTrue (by rw [h]) else isFalse (fun e => h (by cases e; rfl))
  | .ins c x, .ins d y => if h : c = d ∧ x = y then isTrue (by rw [h.1, h.2]) else isFalse (fun e => h (by cases e; exact ⟨rfl, rfl⟩))
  | .lst _, .ins _ _ => isFalse (fun e => by cases e)
  | .ins _ _, .lst _ => isFalse (fun e => by cases e)
/-! ### Python's own == -/
mutual
def D.eqv : D → D → Bool
  | .none, .none => true
  | .bool a, .bool b => a == b
  | .bool a, .int j => (if a then 1 else 0) == j
  | .int i, .bool b => i == (if b then 1 else 0)
  | .int i, .int j => i == j
  | .str x, .str y => x == y
  | .lst xs, .lst ys => D.eqvL xs ys
  | .tup xs, .tup ys => D.eqvL xs ys
  | _, _ => false
def D.eqvL : List D → List D → Bool
  | [], [] => true
  | x :: xs, y :: ys => D.eqv x y && D.eqvL xs ys
  | _, _ => false
end
mutual
/-- no cell, no script inside -/
def D.flat : D → Bool
  | .none => true | .bool _ => true | .int _ => true
  | .str s => s.cps.all fun c => decide (c < 1114112)
  | .tup xs => D.flatL xs | .lst xs => D.flatL xs
  | .scr _ => false | .loc _ => false
def D.flatL : List D → Bool
  | [] => true
  | x :: xs => D.flat x && D.flatL xs
end
mutual
def D.dep : D → Nat
  | .tup xs => D.depL xs + 1 | .lst xs => D.depL xs + 1
  | _ => 0
def D.depL : List D → Nat
  | [] => 0
  | x :: xs => max (D.dep x) (D.depL xs)
end
/-! ### cells -/
mutual
/-- the cells from n on are taken for plain lists -/
def D.frz1 (n : Nat) (S : Store) (go : List D → List D) : D → D
  | .tup xs => .tup (D.frz1L n S go xs)
  | .lst xs => .lst (D.frz1L n S go xs)
  | .loc m => if n ≤ m then (match S[m]? with
      | some (.lst xs) => .lst (go xs)
      | _ => .loc m) else .loc m
  | .none => .none | .bool b => .bool b | .int i => .int i | .str s => .str s | .scr ns => .scr ns
def D.frz1L (n : Nat) (S : Store) (go : List D → List D) : List D → List D
  | [] => []
  | x :: xs => D.frz1 n S go x :: D.frz1L n S go xs
end
/-- k: how deep -/
def D.frzL (n : Nat) (S : Store) : Nat → List D → List D
  | 0, xs => xs
  | k + 1, xs => D.frz1L n S (D.frzL n S k) xs
def D.frz (n : Nat) (S : Store) (k : Nat) (d : D) : D := D.frz1 n S (D.frzL n S k) d
mutual
/-- every cell that is named lies below n -/
def D.under (n : Nat) : D → Bool
  | .tup xs => D.underL n xs | .lst xs => D.underL n xs
  | .loc m => decide (m < n)
  | _ => true
def D.underL (n : Nat) : List D → Bool
  | [] => true
  | x :: xs => D.under n x && D.underL n xs
end
def Cell.under (n : Nat) : Cell → Bool
  | .lst xs => D.underL n xs
  | .ins _ fs => fs.all fun p => D.under n p.2
/-! ### results -/
inductive R (α : Type) where
  | ok (a : α) (S : Store)
  | exc (c : Nat) (S : Store)
  | err
@[inline] def R.bind {α β : Type} (x : R α) (f : α → Store → R β) : R β :=
  match x with
  | .ok a S => f a S
  | .exc c S => .exc c S
  | .err => .err
@[simp] theorem bind_ok {α β : Type} (a : α) (S : Store) (f : α → Store → R β) : (R.ok a S).bind f = f a S := (rfl)
@[simp] theorem bind_exc {α β : Type} (c : Nat) (S : Store) (f : α → Store → R β) : (R.exc c S : R α).bind f = .exc c S := (rfl)
@[simp] theorem bind_err {α β : Type} (f : α → Store → R β) : (R.err : R α).bind f = .err := (rfl)
/-- what raises is refused -/
def R.noexc {α : Type} : R α → R α
  | .exc _ _ => .err
  | x => x
@[simp] theorem noexc_ok {α : Type} (a : α) (S : Store) : (R.ok a S).noexc = .ok a S := (rfl)
/-- what raises is refused where the walk is long -/
def R.few {α : Type} (n : Nat) : R α → R α
  | .exc c S => if n ≤ 16777216 then .exc c S else .err
  | x => x
@[simp] theorem few_ok {α : Type} (n : Nat) (a : α) (S : Store) : (R.ok a S).few n = .ok a S := (rfl)
theorem few_exc {α : Type} {n : Nat} (h : n ≤ 16777216) (c : Nat) (S : Store) : (R.exc c S : R α).few n = .exc c S := if_pos h
def getList (S : Store) : D → Option (List D)
  | .lst xs => some xs
  | .loc n => (match S[n]? with | some (.lst xs) => some xs | _ => none)
  | _ => none
def getSeq (S : Store) : D → Option (List D)
  | .tup xs => some xs
  | .scr ns => some (ns.map D.int)
  | d => getList S d
def truth (S : Store) : D → Option Bool
  | .none => some false
  | .bool b => some b
  | .int i => some (i != 0)
  | .str s => if s.length ≤ line then some (s.length != 0) else none
  | d => (getSeq S d).map fun xs => !xs.isEmpty
def ofOpt {α : Type} (S : Store) : Option α → R α
  | some a => .ok a S
  | none => .err
@[simp] theorem ofOpt_some {α : Type} (S : Store) (a : α) : ofOpt S (some a) = .ok a S := (rfl)
@[simp] theorem ofOpt_none {α : Type} (S : Store) : ofOpt S (none : Option α) = .err := (rfl)
/-- a new list: a cell, or plain -/
def newL (m : Bool) (xs : List D) (S : Store) : R D :=
  if xs.length ≤ line then (if m then .ok (.loc S.length) (S ++ [.lst xs]) else .ok (.lst xs) S) else .err
def ixN (n : Nat) (i : Int) : Option Nat := if 0 ≤ i then (if i < n then some i.toNat else none) else if -(n : Int) ≤ i then some (i + n).toNat else none
def atI {α : Type} (xs : List α) (i : Int) : Option α := (ixN xs.length i).bind fun j => xs[j]?
def sIx (n d : Nat) : Option Int → Nat
  | none => d
  | some v => if v < 0 then (v + n).toNat else min v.toNat n
def cut {α : Type} (xs : List α) (lo hi : Option Int) : List α := (xs.drop (sIx xs.length 0 lo)).take (sIx xs.length xs.length hi - sIx xs.length 0 lo)
def mulOk (i j : Int) : Bool := decide (i.natAbs.log2 + j.natAbs.log2 < 1000000)
def divOk (j : Int) : Bool := decide (j ≠ 0) && decide (j.natAbs.log2 < 9000)
inductive Bop where | add | sub | mul | fdiv | mod
  deriving DecidableEq
def rep {α : Type} (xs : List α) (k : Int) : List α := (List.replicate k.toNat xs).flatten
def addD (m : Bool) (a b : D) (S : Store) : R D :=
  match a with
  | .int i => (match b with | .int j => .ok (.int (i + j)) S | _ => .err)
  | .bool p => (match b with | .int j => .ok (.int ((if p = true then 1 else 0) + j)) S | _ => .err)
  | .tup xs => (match b with | .tup ys => if xs.length + ys.length ≤ line then .ok (.tup (xs ++ ys)) S else .err | _ => .err)
  | .str x => (match b with | .str y => if x.length + y.length ≤ line then .ok (.str (x ++ y)) S else .err | _ => .err)
  | a => (match getList S a, getList S b with
    | some xs, some ys => newL m (xs ++ ys) S
    | _, _ => .err)
/-- a text, again and again -/
def repS (x : Str) (k : Int) : Str := ⟨(rep x.cps.toList k).toArray⟩
def mulD (m : Bool) (a b : D) (S : Store) : R D :=
  match b with
  | .int k => (match a with
    | .int i => if mulOk i k then .ok (.int (i * k)) S else .err
    | .tup xs => if k ≤ 1000 ∧ -1000 ≤ k ∧ xs.length ≤ 1000 then .ok (.tup (rep xs k)) S else .err
    | .str x => if k ≤ 1000 ∧ -1000 ≤ k ∧ x.length ≤ 1000 then .ok (.str (repS x k)) S else .err
    | a => (match getList S a with
      | some xs => if k ≤ 1000 ∧ -1000 ≤ k ∧ xs.length ≤ 1000 then newL m (rep xs k) S else .err
      | none => .err))
  | _ => .err
def binD (m : Bool) : Bop → D → D → Store → R D
  | .add, a, b, S => addD m a b S
  | .sub, a, b, S => (match a, b with | .int i, .int j => .ok (.int (i - j)) S | .bool p, .int j => .ok (.int ((if p = true then 1 else 0) - j)) S | _, _ => .err)
  | .mul, a, b, S => mulD m a b S
  | .fdiv, a, b, S => (match a, b with | .int i, .int j => if divOk j then .ok (.int (i.fdiv j)) S else .err | _, _ => .err)
  | .mod, a, b, S => (match a, b with | .int i, .int j => if j ≠ 0 then .ok (.int (i.fmod j)) S else .err | _, _ => .err)
inductive Cop where | lt | le | gt | ge | eq | ne | is | isnot | mem | notmem
  deriving DecidableEq
def deepOk (a : D) : Bool := a.flat && decide (a.dep ≤ 64)
def eqD (S : Store) (a b : D) : Option Bool :=
  let a' := D.frz 0 S 3 a
  let b' := D.frz 0 S 3 b
  if deepOk a' && deepOk b' then some (D.eqv a' b') else none
/-- a scalar, for x in (..) -/
def scalar : D → Bool
  | .int _ => true | .str _ => true | .bool _ => false | .none => false | _ => false
def memD (S : Store) (a b : D) : Option Bool :=
  match getSeq S b with
  | some xs => if scalar a && xs.all scalar then some (xs.any fun y => D.eqv y a) else none
  | none => none
def cmpD : Cop → D → D → Store → Option Bool
  | .eq, a, b, S => eqD S a b
  | .ne, a, b, S => (eqD S a b).map not
  | .mem, a, b, S => memD S a b
  | .notmem, a, b, S => (memD S a b).map not
  | .is, a, b, _ => (match b with | .none => some (match a with | .none => true | _ => false) | _ => none)
  | .isnot, a, b, _ => (match b with | .none => some (match a with | .none => false | _ => true) | _ => none)
  | .lt, a, b, _ => (match a, b with | .int i, .int j => some (decide (i < j)) | _, _ => none)
  | .le, a, b, _ => (match a, b with | .int i, .int j => some (decide (i ≤ j)) | .str i, .str j => some (!decide (j.cps.toList < i.cps.toList)) | _, _ => none)
  | .gt, a, b, _ => (match a, b with | .int i, .int j => some (decide (j < i)) | _, _ => none)
  | .ge, a, b, _ => (match a, b with | .int i, .int j => some (decide (j ≤ i)) | _, _ => none)
inductive Ty where | int | bool | tuple | list | str
  deriving DecidableEq
def isi (S : Store) : D → Ty → Option Bool
  | .none, _ => some false
  | .bool _, t => some (t == .bool || t == .int)
  | .int _, t => some (t == .int)
  | .str _, t => some (t == .str)
  | .tup _, t => some (t == .tuple)
  | .lst _, t => some (t == .list)
  | .scr _, t => some (t == .list)
  | .loc n, t => (match S[n]? with | some (.lst _) => some (t == .list) | _ => none)
def allInt : List D → Option (List Int)
  | [] => some []
  | .int i :: r => (allInt r).map (i :: ·)
  | _ :: _ => none
def allStr : List D → Option (List Str)
  | [] => some []
  | .str i :: r => (allStr r).map (i :: ·)
  | _ :: _ => none
def digB (c : Nat) : Bool := decide (48 ≤ c) && decide (c ≤ 57)
/-- the number that a text of digits tells -/
def numS (s : Str) : Option Int := if s.cps.toList.all digB && !s.cps.toList.isEmpty && decide (s.length ≤ 640) then some ((s.cps.toList.foldl (fun acc c => acc * 10 + (c - 48)) 0 : Nat) : Int) else none
def joinD (a : Str) (y : D) (S : Store) : R D := match (getSeq S y).bind allStr with
  | some ys => if (ys.map (·.length)).sum + ys.length * a.length ≤ 16777216 then .ok (.str (Str.join a ys)) S else .err
  | none => .err
def allBool : List D → Option (List Bool)
  | [] => some []
  | .bool i :: r => (allBool r).map (i :: ·)
  | _ :: _ => none
def maxL : List Int → Int → Int
  | [], m => m
  | x :: r, m => maxL r (if m < x then x else m)
def minL : List Int → Int → Int
  | [], m => m
  | x :: r, m => minL r (if x < m then x else m)
/-- built-in functions of values -/
inductive Bi where | len | abs | all | any | max | min | sum | tuple | list | int | str | max2 | min2 | minp
  deriving DecidableEq
/-- pairs of an int and a tuple of ints, and their order -/
def pairK : D → Option (List Int)
  | .tup [.int m, .tup xs] => (allInt xs).map (m :: ·)
  | _ => none
def keyL (d : D) : List Int := (pairK d).getD []
def lexL : List Int → List Int → Bool
  | a :: as, b :: bs => if a < b then true else if a = b then lexL as bs else false
  | [], _ :: _ => true
  | _, [] => false
def minP (d : D) (ds : List D) : D := ds.foldl (fun a y => if lexL (keyL y) (keyL a) = true then y else a) d
def pairsOk (n : Nat) (ds : List D) : Bool := ds.all fun d => match pairK d with | some k => k.length == n | none => false
def biD (m : Bool) : Bi → List D → Store → R D
  | .len, [.str s], S => if s.length ≤ line then .ok (.int s.length) S else .err
  | .len, [a], S => (match getSeq S a with | some xs => .ok (.int xs.length) S | none => .err)
  | .abs, [.int i], S => .ok (.int (if i < 0 then -i else i)) S
  | .all, [a], S => (match (getList S a).bind allBool with | some bs => .ok (.bool (bs.all id)) S | none => .err)
  | .any, [a], S => (match (getList S a).bind allBool with | some bs => .ok (.bool (bs.any id)) S | none => .err)
  | .max, [.tup xs], S => (match allInt xs with | some (x :: r) => .ok (.int (maxL r x)) S | _ => .err)
  | .max, [a], S => (match (getList S a).bind allInt with | some (x :: r) => .ok (.int (maxL r x)) S | _ => .err)
  | .min, [a], S => (match (getList S a).bind allInt with | some (x :: r) => .ok (.int (minL r x)) S | _ => .err)
  | .sum, [a], S => (match (getList S a).bind allInt with | some ns => .ok (.int ns.sum) S | _ => .err)
  | .tuple, [.tup xs], S => .ok (.tup xs) S
  | .tuple, [a], S => (match getList S a with | some xs => .ok (.tup xs) S | none => .err)
  | .list, [a], S => (match getSeq S a with | some xs => newL m xs S | none => .err)
  | .int, [.int i], S => .ok (.int i) S
  | .int, [.bool b], S => .ok (.int (if b then 1 else 0)) S
  | .int, [.str s], S => (match numS s with | some n => .ok (.int n) S | none => .err)
  | .str, [.int i], S => if i.natAbs.log2 < 1920 then .ok (.str (Str.ofString (toString i))) S else .err
  | .str, [.bool b], S => .ok (.str (if b then "True" else "False")) S
  | .max2, [.int i, .int j], S => .ok (.int (if j > i then j else i)) S
  | .min2, [.int i, .int j], S => .ok (.int (if j < i then j else i)) S
  | .minp, [a], S => (match getList S a with | some (d :: ds) => if pairsOk (keyL d).length (d :: ds) then .ok (minP d ds) S else .err | _ => .err)
  | _, _, _ => .err
/-! ### what is walked -/
inductive Ik where | seq | range | enum | zip
  deriving DecidableEq
/-- the cells that are walked, as they stand -/
abbrev Guard := List (Nat × List D)
def Guard.ok (g : Guard) (S : Store) : Bool := g.all fun p => decide (S[p.1]? = some (.lst p.2))
@[simp] theorem guard_nil (S : Store) : Guard.ok [] S = true := (rfl)
def guardOf (S : Store) : D → Guard
  | .loc n => (match S[n]? with | some (.lst xs) => [(n, xs)] | _ => [])
  | _ => []
def rangeL (lo hi : Int) : List D := (List.range (hi - lo).toNat).map fun (k : Nat) => D.int (lo + (k : Int))
def smallI (i : Int) : Bool := decide (-(2 ^ 62) ≤ i ∧ i < 2 ^ 62)
def enumL (xs : List D) : List D := xs.zipIdx.map fun p => D.tup [.int p.2, p.1]
def zip2L (xs ys : List D) : List D := List.zipWith (fun x y => D.tup [x, y]) xs ys
def zip3L : List D → List D → List D → List D
  | x :: xs, y :: ys, z :: zs => .tup [x, y, z] :: zip3L xs ys zs
  | _, _, _ => []
def chars (s : Str) : List D := s.cps.toList.map fun c => D.str ⟨#[c]⟩
def walkD : Ik → List D → Store → Option (List D × Guard)
  | .seq, [.str s], _ => some (chars s, [])
  | .seq, [a], S => (getSeq S a).map fun xs => (xs, guardOf S a)
  | .range, [.int j], _ => if smallI j then some (rangeL 0 j, []) else none
  | .range, [.int i, .int j], _ => if smallI i && smallI j then some (rangeL i j, []) else none
  | .enum, [a], S => (getSeq S a).map fun xs => (enumL xs, guardOf S a)
  | .zip, [a, b], S => (match getSeq S a, getSeq S b with | some xs, some ys => some (zip2L xs ys, guardOf S a ++ guardOf S b) | _, _ => none)
  | .zip, [a, b, c], S => (match getSeq S a, getSeq S b, getSeq S c with | some xs, some ys, some zs => some (zip3L xs ys zs, guardOf S a ++ guardOf S b ++ guardOf S c) | _, _, _ => none)
  | _, _, _ => none
/-- a target: a name, or several of a tuple -/
inductive Tg where
  | name (i : Nat)
  | tup (is : List Nat)
  deriving DecidableEq
def putAll : List Nat → List D → Env → Option Env
  | [], [], ρ => some ρ
  | i :: is, d :: ds, ρ => putAll is ds (ρ.set i (some d))
  | _, _, _ => none
def put (t : Tg) (d : D) (ρ : Env) : Option Env :=
  match t with
  | .name i => some (ρ.set i (some d))
  | .tup is => (match d with | .tup ds => putAll is ds ρ | _ => none)
def wipeE (ρ : Env) : List Nat → Env
  | [] => ρ
  | v :: vs => (wipeE ρ vs).set v none
/-! ### the language -/
inductive Ex where
  | var (i : Nat)
  | int (i : Int) | bool (b : Bool) | str (s : Str) | none
  | bin (op : Bop) (m : Bool) (a b : Ex)
  | neg (a : Ex) | not (a : Ex)
  | and (a b : Ex) | or (a b : Ex)
  | cmp (op : Cop) (a b : Ex)
  | chain (op op' : Cop) (a b c : Ex)
  | ife (c a b : Ex)
  | anil | acons (a r : Ex)
  | tup (a : Ex)
  | lst (m : Bool) (a : Ex)
  | idx (a i : Ex)
  | sli (m : Bool) (a lo hi : Ex)
  | rev (m : Bool) (a : Ex)
  | call (f : Nat) (a : Ex)
  | bi (b : Bi) (m : Bool) (a : Ex)
  | isi (a : Ex) (t : Ty)
  | comp (k : Ik) (src : Ex) (tg : Tg) (own : List Nat) (tst : Bool) (c e : Ex) (m : Bool)
  | app (o e : Ex)
  | pop (o : Ex)
  | popi (o i : Ex)
  | split (m : Bool) (o e : Ex)
  | starts (o e : Ex)
  | repl (o : Ex) (y z : Str)
  | opt (a : Ex)
  | last (a : Ex)
  | lrg1 (m : Bool) (a : Ex)
  | lrg2 (m : Bool) (a b : Ex)
  | any
  | join (o e : Ex)
  | fld (c : Str) (a : Ex) (f : Str)
  | meth (g : Nat) (c m : Str) (o a : Ex)
  | new (g : Nat) (c : Str) (a : Ex)
  | lenO (g : Nat) (c : Str) (a : Ex)
  | isc (c : Str) (a : Ex)
  | eqO (ne : Bool) (g : Nat) (c : Str) (a b : Ex)
  | comp2 (k : Ik) (src : Ex) (tg : Tg) (own : List Nat) (k1 : Ik) (src1 : Ex) (tg1 : Tg) (own1 : List Nat) (e : Ex) (m : Bool)
inductive St where
  | skip
  | seq (a b : St)
  | set (i : Nat) (e : Ex)
  | unp (is : List Nat) (e : Ex)
  | setI (o i e : Ex)
  | expr (e : Ex)
  | ret (e : Ex)
  | ifs (c : Ex) (a b : St)
  | for_ (k : Ik) (src : Ex) (tg : Tg) (b : St)
  | while_ (mu : Env → Store → Nat) (c : Ex) (b : St)
  | raise (c : Nat)
  | tryR (e : Ex) (hs : List (Nat × Str))
  | setI2 (o i o' i' e : Ex)
  | any
  | setF (c : Str) (o : Ex) (f : Str) (e : Ex)
  | setSl (o lo hi e : Ex)
inductive SR where
  | nx (ρ : Env) (S : Store)
  | ret (d : D) (S : Store)
  | exc (c : Nat) (S : Store)
  | err
/-! ### what it does -/
def optI : D → Option (Option Int)
  | .none => some none
  | .int i => some (some i)
  | _ => none
/-- the elements made of the items -/
def mapR (f : D → Store → R (Option D)) (g : Guard) : List D → Store → R (List D)
  | [], S => if g.ok S then .ok [] S else .err
  | x :: xs, S => if g.ok S then (f x S).bind fun y S1 => (mapR f g xs S1).bind fun ys S2 => .ok (y.toList ++ ys) S2 else .err
/-- the elements of several lists made of the items -/
def mapRL (f : D → Store → R (List D)) (g : Guard) : List D → Store → R (List D)
  | [], S => if g.ok S then .ok [] S else .err
  | x :: xs, S => if g.ok S then (f x S).bind fun ys S1 => (mapRL f g xs S1).bind fun zs S2 => .ok (ys ++ zs) S2 else .err
def forR (t : Tg) (b : Env → Store → SR) (g : Guard) : List D → Env → Store → SR
  | [], ρ, S => if g.ok S then .nx ρ S else .err
  | x :: xs, ρ, S => if g.ok S then (match put t x ρ with
    | some ρ1 => (match b ρ1 S with
      | .nx ρ2 S2 => forR t b g xs ρ2 S2
      | r => r)
    | none => .err) else .err
def whileR (c : Env → Store → R Bool) (b : Env → Store → SR) : Nat → Env → Store → SR
  | 0, _, _ => .err
  | n + 1, ρ, S => (match c ρ S with
    | .ok true S1 => (match b ρ S1 with
      | .nx ρ2 S2 => whileR c b n ρ2 S2
      | r => r)
    | .ok false S1 => .nx ρ S1
    | .exc e S1 => .exc e S1
    | .err => .err)
def appD (o d : D) (S : Store) : R D :=
  match o with
  | .loc n => (match S[n]? with
    | some (.lst xs) => if xs.length < line then .ok .none (S.set n (.lst (xs ++ [d]))) else .err
    | _ => .err)
  | _ => .err
def popD (o : D) (S : Store) : R D :=
  match o with
  | .loc n => (match S[n]? with
    | some (.lst xs) => (match xs[xs.length - 1]? with | some d => .ok d (S.set n (.lst xs.dropLast)) | none => .err)
    | _ => .err)
  | _ => .err
/-- a text cut at a sign -/
def spl1 (c : Nat) : List Nat → List (List Nat)
  | [] => [[]]
  | x :: l => if x = c then [] :: spl1 c l else (match spl1 c l with | [] => [[x]] | p :: ps => (x :: p) :: ps)
def splitS (c : Nat) (s : Str) : List Str := (spl1 c s.cps.toList).map fun l => ⟨l.toArray⟩
def splitD (m : Bool) (a b : D) (S : Store) : R D := match a, b with
  | .str x, .str y => (match y.cps.toList with
    | [c] => if x.length + 2 ≤ line then newL m ((splitS c x).map D.str) S else .err
    | _ => .err)
  | _, _ => .err
def startsD (a b : D) (S : Store) : R D := match a, b with
  | .str x, .str y => (match y.cps.toList with
    | [c] => .ok (.bool (x.cps.toList.head? == some c)) S
    | _ => .err)
  | _, _ => .err
def replD (a : D) (y z : Str) (S : Store) : R D := match a with
  | .str x => (match y.cps.toList with
    | [c] => if x.length + (x.length + 1) * z.length ≤ 16777216 && !(y == z) then .ok (.str (Str.join z (splitS c x))) S else .err
    | _ => .err)
  | _ => .err
/-- a slice is stored to -/
def setSlD (x l h d : D) (S : Store) : Option Store := match x, l, h, d with
  | .loc n, .int i, .int j, .lst ys => (match S[n]? with
    | some (.lst xs) => if 0 ≤ i ∧ i ≤ j ∧ j ≤ xs.length ∧ xs.length + ys.length ≤ line then some (S.set n (.lst (xs.take i.toNat ++ ys ++ xs.drop j.toNat))) else none
    | _ => none)
  | _, _, _, _ => none
def popiD (o i : D) (S : Store) : R D :=
  match o, i with
  | .loc n, .int k => (match S[n]? with
    | some (.lst xs) => (match ixN xs.length k with
      | some j => (match xs[j]? with | some d => if smallI k then .ok d (S.set n (.lst (xs.eraseIdx j))) else .err | none => .err)
      | none => .err)
    | _ => .err)
  | _, _ => .err
def setD (o i d : D) (S : Store) : Option Store :=
  match o, i with
  | .loc n, .int k => (match S[n]? with
    | some (.lst xs) => (match ixN xs.length k with | some j => some (S.set n (.lst (xs.set j d))) | none => none)
    | _ => none)
  | _, _ => none
def idxD (a i : D) (S : Store) : Option D :=
  match i with
  | .int k => (match a with
    | .str s => if s.length ≤ line then (atI s.cps.toList k).map fun c => D.str ⟨#[c]⟩ else none
    | a => (getSeq S a).bind fun xs => atI xs k)
  | _ => none
def sliD (m : Bool) (a lo hi : D) (S : Store) : R D :=
  match optI lo, optI hi with
  | some l, some h => (match a with
    | .tup xs => .ok (.tup (cut xs l h)) S
    | .str s => if s.length ≤ line then .ok (.str ⟨(cut s.cps.toList l h).toArray⟩) S else .err
    | a => (match getList S a with
      | some xs => newL m (cut xs l h) S
      | none => .err))
  | _, _ => .err
def revD (m : Bool) (a : D) (S : Store) : R D :=
  match a with
  | .tup xs => .ok (.tup xs.reverse) S
  | a => (match getList S a with
    | some xs => newL m xs.reverse S
    | none => .err)
/-! ### instances -/
def putD (f : Str) (v : D) : List (Str × D) → List (Str × D)
  | [] => [(f, v)]
  | (k, x) :: r => if k = f then (k, v) :: r else (k, x) :: putD f v r
def insAt (c : Str) (x : D) (S : Store) : Option (List (Str × D)) := match x with
  | .loc n => (match S[n]? with
    | some (.ins c' fs) => if c' = c then some fs else none
    | _ => none)
  | _ => none
def fldD (c f : Str) (x : D) (S : Store) : Option D := (insAt c x S).bind fun fs => fs.lookup f
def setFD (c f : Str) (x d : D) (S : Store) : Option Store := match x with
  | .loc n => (match insAt c x S with
    | some fs => if fs.length < 1000 then some (S.set n (.ins c (putD f d fs))) else none
    | none => none)
  | _ => none
def hasM (c m : Str) (x : D) (S : Store) : Bool := match insAt c x S with
  | some fs => (fs.lookup m).isNone
  | none => false
def newR (n : Nat) : R D → R D
  | .ok .none S => .ok (.loc n) S
  | .ok _ _ => .err
  | .exc c S => .exc c S
  | .err => .err
@[simp] theorem newR_ok (n : Nat) (S : Store) : newR n (.ok .none S) = .ok (.loc n) S := (rfl)
@[simp] theorem newR_exc (n c : Nat) (S : Store) : newR n (.exc c S) = .exc c S := (rfl)
/-- an instance of the class, or a list -/
def iscD (c : Str) (x : D) (S : Store) : Option Bool := if (insAt c x S).isSome then some true else if (getList S x).isSome then some false else none
/-- what a method tells of two, or the contrary -/
def notR (ne : Bool) : R D → R D
  | .ok (.bool k) S => .ok (.bool (xor ne k)) S
  | .ok _ _ => .err
  | .exc c S => .exc c S
  | .err => .err
/-- a length that a method tells -/
def lenR : R D → R D
  | .ok (.int i) S => if 0 ≤ i ∧ i < 2 ^ 63 then .ok (.int i) S else .err
  | .ok _ _ => .err
  | .exc c S => .exc c S
  | .err => .err
/-- a cell's item is written -/
def putR (x y d : D) (S : Store) : R D := match setD x y d S with | some S4 => .ok .none S4 | none => .err
section
variable (F : Nat → List D → Store → R D)
def ev : Ex → Env → Store → R D
  | .var i, ρ, S => (match ρ[i]? with | some (some d) => .ok d S | _ => .err)
  | .int i, _, S => .ok (.int i) S
  | .bool b, _, S => .ok (.bool b) S
  | .str s, _, S => .ok (.str s) S
  | .none, _, S => .ok .none S
  | .bin op m a b, ρ, S => (ev a ρ S).bind fun x S1 => (ev b ρ S1).bind fun y S2 => binD m op x y S2
  | .neg a, ρ, S => (ev a ρ S).bind fun x S1 => (match x with | .int i => .ok (.int (-i)) S1 | _ => .err)
  | .not a, ρ, S => (ev a ρ S).bind fun x S1 => ofOpt S1 ((truth S1 x).map fun b => D.bool (!b))
  | .and a b, ρ, S => (ev a ρ S).bind fun x S1 => (match truth S1 x with | some true => ev b ρ S1 | some false => .ok x S1 | none => .err)
  | .or a b, ρ, S => (ev a ρ S).bind fun x S1 => (match truth S1 x with | some true => .ok x S1 | some false => ev b ρ S1 | none => .err)
  | .cmp op a b, ρ, S => (ev a ρ S).bind fun x S1 => (ev b ρ S1).bind fun y S2 => ofOpt S2 ((cmpD op x y S2).map D.bool)
  | .chain op op' a b c, ρ, S => (ev a ρ S).bind fun x S1 => (ev b ρ S1).bind fun y S2 => (match cmpD op x y S2 with
    | some true => (ev c ρ S2).bind fun z S3 => ofOpt S3 ((cmpD op' y z S3).map D.bool)
    | some false => .ok (.bool false) S2
    | none => .err)
  | .ife c a b, ρ, S => (ev c ρ S).bind fun x S1 => (match truth S1 x with | some true => ev a ρ S1 | some false => ev b ρ S1 | none => .err)
  | .anil, _, S => .ok (.tup []) S
  | .acons a r, ρ, S => (ev a ρ S).bind fun x S1 => (ev r ρ S1).bind fun y S2 => (match y with | .tup ys => .ok (.tup (x :: ys)) S2 | _ => .err)
  | .tup a, ρ, S => (ev a ρ S).bind fun x S1 => (match x with | .tup xs => if xs.length ≤ line then .ok (.tup xs) S1 else .err | _ => .err)
  | .lst m a, ρ, S => (ev a ρ S).bind fun x S1 => (match x with | .tup xs => newL m xs S1 | _ => .err)
  | .idx a i, ρ, S => (ev a ρ S).bind fun x S1 => (ev i ρ S1).bind fun y S2 => ofOpt S2 (idxD x y S2)
  | .sli m a lo hi, ρ, S => (ev a ρ S).bind fun x S1 => (ev lo ρ S1).bind fun l S2 => (ev hi ρ S2).bind fun h S3 => sliD m x l h S3
  | .rev m a, ρ, S => (ev a ρ S).bind fun x S1 => revD m x S1
  | .call f a, ρ, S => (ev a ρ S).bind fun x S1 => (match x with | .tup xs => F f xs S1 | _ => .err)
  | .bi b m a, ρ, S => (ev a ρ S).bind fun x S1 => (match x with | .tup xs => biD m b xs S1 | _ => .err)
  | .isi a t, ρ, S => (ev a ρ S).bind fun x S1 => ofOpt S1 ((PV.isi S1 x t).map D.bool)
  | .comp k src tg own tst c e m, ρ, S => (ev src ρ S).bind fun x S1 => (match x with
    | .tup as => (match walkD k as S1 with
      | some (its, g) => ((mapR (fun it S2 => (match put tg it (wipeE ρ own) with
          | some ρ1 => (if tst then (ev c ρ1 S2).bind fun v S3 => (match truth S3 v with
              | some true => (ev e ρ1 S3).bind fun y S4 => .ok (some y) S4
              | some false => .ok none S3
              | none => .err)
            else (ev e ρ1 S2).bind fun y S4 => .ok (some y) S4)
          | none => .err)) g its S1).few its.length).bind fun ys S5 => newL m ys S5
      | none => .err)
    | _ => .err)
  | .app o e, ρ, S => (ev o ρ S).bind fun x S1 => if (getList S1 x).isSome then (ev e ρ S1).bind fun y S2 => appD x y S2 else .err
  | .pop o, ρ, S => (ev o ρ S).bind fun x S1 => popD x S1
  | .popi o i, ρ, S => (ev o ρ S).bind fun x S1 => if (getList S1 x).isSome then (ev i ρ S1).bind fun y S2 => popiD x y S2 else .err
  | .split m o e, ρ, S => (ev o ρ S).bind fun x S1 => (match x with | .str a => (ev e ρ S1).bind fun y S2 => splitD m (.str a) y S2 | _ => .err)
  | .starts o e, ρ, S => (ev o ρ S).bind fun x S1 => (match x with | .str a => (ev e ρ S1).bind fun y S2 => startsD (.str a) y S2 | _ => .err)
  | .repl o y z, ρ, S => (ev o ρ S).bind fun x S1 => replD x y z S1
  | .opt a, ρ, S => (ev a ρ S).bind fun x S1 => (match x with | .int i => .ok (.int i) S1 | _ => .err)
  | .last a, ρ, S => ev a ρ S
  | .lrg1 m a, ρ, S => (ev a ρ S).bind fun x S1 => (match x with | .int j => if smallI j then newL m (rangeL 0 j) S1 else .err | _ => .err)
  | .lrg2 m a b, ρ, S => (ev a ρ S).bind fun x S1 => (ev b ρ S1).bind fun y S2 => (match x, y with | .int i, .int j => if smallI i && smallI j then newL m (rangeL i j) S2 else .err | _, _ => .err)
  | .any, _, _ => .err
  | .join o e, ρ, S => (ev o ρ S).bind fun x S1 => (match x with | .str a => (ev e ρ S1).bind fun y S2 => joinD a y S2 | _ => .err)
  | .fld c a f, ρ, S => (ev a ρ S).bind fun x S1 => ofOpt S1 (fldD c f x S1)
  | .meth g c m o a, ρ, S => (ev o ρ S).bind fun x S1 => if hasM c m x S1 then (ev a ρ S1).bind fun y S2 => (match y with | .tup ys => F g (x :: ys) S2 | _ => .err) else .err
  | .new g c a, ρ, S => (ev a ρ S).bind fun x S1 => (match x with | .tup xs => newR S1.length (F g (.loc S1.length :: xs) (S1 ++ [.ins c []])) | _ => .err)
  | .lenO g c a, ρ, S => (ev a ρ S).bind fun x S1 => if (insAt c x S1).isSome then lenR (F g [x] S1) else .err
  | .isc c a, ρ, S => (ev a ρ S).bind fun x S1 => ofOpt S1 ((iscD c x S1).map D.bool)
  | .eqO ne g c a b, ρ, S => (ev a ρ S).bind fun x S1 => (ev b ρ S1).bind fun y S2 => if (insAt c x S2).isSome && (iscD c y S2).isSome then notR ne (F g [x, y] S2) else .err
  | .comp2 k src tg own k1 src1 tg1 own1 e m, ρ, S => (ev src ρ S).bind fun x S1 => (match x with
    | .tup as => (match walkD k as S1 with
      | some (its, g) => ((mapRL (fun it S2 => (match put tg it (wipeE ρ own) with
          | some ρ1 => (ev src1 ρ1 S2).bind fun x1 S3 => (match x1 with
            | .tup as1 => (match walkD k1 as1 S3 with
              | some (its1, g1) => mapR (fun it1 S4 => (match put tg1 it1 (wipeE ρ1 own1) with
                | some ρ2 => (ev e ρ2 S4).bind fun y S5 => .ok (some y) S5
                | none => .err)) g1 its1 S3
              | none => .err)
            | _ => .err)
          | none => .err)) g its S1).noexc).bind fun ys S5 => newL m ys S5
      | none => .err)
    | _ => .err)
def evT (e : Ex) (ρ : Env) (S : Store) : R Bool := (ev F e ρ S).bind fun x S1 => ofOpt S1 (truth S1 x)
def ex : St → Env → Store → SR
  | .skip, ρ, S => .nx ρ S
  | .seq a b, ρ, S => (match ex a ρ S with | .nx ρ1 S1 => ex b ρ1 S1 | r => r)
  | .set i e, ρ, S => (match ev F e ρ S with | .ok d S1 => .nx (ρ.set i (some d)) S1 | .exc c S1 => .exc c S1 | .err => .err)
  | .unp is e, ρ, S => (match ev F e ρ S with | .ok d S1 => (match put (.tup is) d ρ with | some ρ1 => .nx ρ1 S1 | none => .err) | .exc c S1 => .exc c S1 | .err => .err)
  | .setI o i e, ρ, S => (match (ev F e ρ S).bind fun d S1 => (ev F o ρ S1).bind fun x S2 => (ev F i ρ S2).bind fun y S3 => (match setD x y d S3 with | some S4 => .ok () S4 | none => .err) with
    | .ok _ S4 => .nx ρ S4 | .exc c S1 => .exc c S1 | .err => .err)
  | .expr e, ρ, S => (match ev F e ρ S with | .ok _ S1 => .nx ρ S1 | .exc c S1 => .exc c S1 | .err => .err)
  | .ret e, ρ, S => (match ev F e ρ S with | .ok d S1 => .ret d S1 | .exc c S1 => .exc c S1 | .err => .err)
  | .ifs c a b, ρ, S => (match evT F c ρ S with | .ok true S1 => ex a ρ S1 | .ok false S1 => ex b ρ S1 | .exc c S1 => .exc c S1 | .err => .err)
  | .for_ k src tg b, ρ, S => (match ev F src ρ S with
    | .ok (.tup as) S1 => (match walkD k as S1 with
      | some (its, g) => forR tg (ex b) g its ρ S1
      | none => .err)
    | .exc c S1 => .exc c S1
    | _ => .err)
  | .while_ mu c b, ρ, S => whileR (evT F c) (ex b) (mu ρ S) ρ S
  | .raise c, _, S => .exc c S
  | .tryR e hs, ρ, S => (match ev F e ρ S with
    | .ok d S1 => .ret d S1
    | .exc c S1 => (match hs.find? (fun p => p.1 == c) with | some p => .ret (.str p.2) S1 | none => .err)
    | .err => .err)
  | .setI2 o i o' i' e, ρ, S => (match ev F e ρ S with
    | .ok (.tup [u, v]) S1 => (match (ev F o ρ S1).bind fun x S2 => (ev F i ρ S2).bind fun y S3 => putR x y u S3 with
      | .ok _ S4 => (match (ev F o' ρ S4).bind fun x S2 => (ev F i' ρ S2).bind fun y S3 => putR x y v S3 with
        | .ok _ S5 => .nx ρ S5
        | .exc c S5 => .exc c S5
        | .err => .err)
      | .exc c S4 => .exc c S4
      | .err => .err)
    | .exc c S1 => .exc c S1
    | _ => .err)
  | .any, _, _ => .err
  | .setSl o lo hi e, ρ, S => (match (ev F e ρ S).bind fun d S1 => (ev F o ρ S1).bind fun x S2 => (ev F lo ρ S2).bind fun l S3 => (ev F hi ρ S3).bind fun h S4 => (match setSlD x l h d S4 with | some S5 => .ok () S5 | none => .err) with
    | .ok _ S5 => .nx ρ S5 | .exc c S1 => .exc c S1 | .err => .err)
  | .setF c o f e, ρ, S => (match (ev F e ρ S).bind fun d S1 => (ev F o ρ S1).bind fun x S2 => (match setFD c f x d S2 with | some S4 => .ok () S4 | none => .err) with
    | .ok _ S4 => .nx ρ S4 | .exc c S1 => .exc c S1 | .err => .err)
end
/-! ### a def called -/
def sameOr (n : Nat) : Store → Store → Bool
  | [], [] => true
  | c :: r, c' :: r' => (decide (c' = c) || c'.under n) && sameOr n r r'
  | _, _ => false
/-- what a call leaves: the new cells are dropped, what is handed back is plain -/
def clean (S : Store) (d : D) (S1 : Store) : R D :=
  let d' := D.frz S.length S1 3 d
  if d'.under S.length && sameOr S.length S (S1.take S.length) then .ok d' (S1.take S.length) else .err
structure Fn where
  np : Nat
  nn : Nat
  body : St
def startE (nn : Nat) (vs : List D) : Env := vs.map some ++ List.replicate (nn - vs.length) none
def runF (F : Nat → List D → Store → R D) (f : Fn) (vs : List D) (S : Store) : R D :=
  if vs.length = f.np then
    (match ex F f.body (startE f.nn vs) S with
    | .nx _ S1 => clean S .none S1
    | .ret d S1 => clean S d S1
    | .exc c S1 => (match clean S .none S1 with | .ok _ S2 => .exc c S2 | _ => .err)
    | .err => .err)
  else .err
/-! ### defs by number -/
structure Cal where
  id : Nat
  nm : Str
  G : List D → Store → R D
def FOf : List Cal → Nat → List D → Store → R D
  | [], _ => fun _ _ => .err
  | c :: l, g => if c.id = g then c.G else FOf l g
def nmOf : List Cal → Nat → Option Str
  | [], _ => none
  | c :: l, g => if c.id = g then some c.nm else nmOf l g
def nmP : List (Nat × Str) → Nat → Option Str
  | [], _ => none
  | c :: l, g => if c.1 = g then some c.2 else nmP l g
theorem nmOf_P : ∀ (l : List Cal) (g : Nat), nmOf l g = nmP (l.map fun c => (c.id, c.nm)) g
  | [], _ => rfl
  | c :: l, g => by
    show (if c.id = g then some c.nm else nmOf l g) = (if c.id = g then some c.nm else nmP (l.map fun c => (c.id, c.nm)) g)
    rw [nmOf_P l g]
/-- names: defs, methods, attributes -/
structure Nms where
  d : Nat → Option Str
  m : Nat → Option (Str × Str)
  a : List (Str × Str)
  q : List Str
instance : CoeFun Nms fun _ => Nat → Option Str := ⟨Nms.d⟩
def Nms.of (nt : List (Nat × Str)) : Nms := ⟨nmP nt, fun _ => none, [], []⟩
/-- the turns of a loop, by the int at a slot -/
def muAbs (i : Nat) : Env → Store → Nat := fun ρ _ => match ρ[i]? with | some (some (.int k)) => k.natAbs + 1 | _ => 0
end PV
end
section
set_option Elab.async false
set_option linter.all false
set_option maxRecDepth 100000
set_option maxHeartbeats 4000000
namespace PV
open PySem PySem.Spec PyProof.Rows L2
/-! ### a datum borne by a value -/
def ScrOk (K : PySem.W.Frag) (H : Hp) (a : Addr) (xs : List V) : Prop :=
  (∃ o, H a = some (.frz o (.lst xs))) ∨
    ∃ (o : Obj) (its : Array Value) (n : Nat), K.lookup a = some o ∧ o.cls = .type "list" ∧ o.dict = none ∧ o.data = .seq its n ∧ its.size ≤ sizeLine ∧ Vals xs its.toList
theorem ScrOk.sq {K : PySem.W.Frag} {H : Hp} {a : Addr} {xs : List V} (h : ScrOk K H a xs) : SqL K H a xs := by
  rcases h with h | h
  · exact .inl (.inr h)
  · exact .inr h
/-- the cells' addresses; the lists that nobody knows yet -/
structure Th where
  c : List Addr
  g : List Addr
mutual
inductive Rep (K : PySem.W.Frag) (H : Hp) (th : Th) : D → V → Prop
  | none : Rep K H th .none .non
  | bool (b : Bool) : Rep K H th (.bool b) (.bl b)
  | int (i : Int) : Rep K H th (.int i) (.int i)
  | str (s : Str) : Rep K H th (.str s) (.str s)
  | tup {a : Addr} {xs : List D} {vs : List V} : H a = some (.tup vs) → RepL K H th xs vs → Rep K H th (.tup xs) (.ref a)
  | lst {a : Addr} {xs : List D} {vs : List V} : H a = some (.lst vs) → a ∉ th.c → a ∉ th.g → RepL K H th xs vs → Rep K H th (.lst xs) (.ref a)
  | scr {a : Addr} {ns : List Int} : ScrOk K H a (ns.map V.int) → Rep K H th (.scr ns) (.ref a)
  | loc {a : Addr} {n : Nat} : th.c[n]? = some a → Rep K H th (.loc n) (.ref a)
inductive RepL (K : PySem.W.Frag) (H : Hp) (th : Th) : List D → List V → Prop
  | nil : RepL K H th [] []
  | cons {d : D} {v : V} {ds : List D} {vs : List V} : Rep K H th d v → RepL K H th ds vs → RepL K H th (d :: ds) (v :: vs)
end
section
variable {K : PySem.W.Frag} {H H' H'' : Hp} {th th' th'' : Th}
theorem RepL.length : ∀ {ds : List D} {vs : List V}, RepL K H th ds vs → ds.length = vs.length
  | _, _, .nil => rfl
  | _, _, .cons _ t => by rw [List.length_cons, List.length_cons, RepL.length t]
theorem RepL.get : ∀ {ds : List D} {vs : List V} {i : Nat} {d : D}, RepL K H th ds vs → ds[i]? = some d → ∃ v, vs[i]? = some v ∧ Rep K H th d v
  | _, _, _, _, .nil, e => by simp at e
  | _, _, 0, _, .cons r _, e => by simp at e; subst e; exact ⟨_, rfl, r⟩
  | _, _, i + 1, d, .cons _ t, e => by
    obtain ⟨u, h1, h2⟩ := RepL.get (i := i) (d := d) t (by simpa using e)
    exact ⟨u, by simpa using h1, h2⟩
theorem RepL.getV : ∀ {ds : List D} {vs : List V} {i : Nat} {v : V}, RepL K H th ds vs → vs[i]? = some v → ∃ d, ds[i]? = some d ∧ Rep K H th d v
  | _, _, _, _, .nil, e => by simp at e
  | _, _, 0, _, .cons r _, e => by simp at e; subst e; exact ⟨_, rfl, r⟩
  | _, _, i + 1, v, .cons _ t, e => by
    obtain ⟨u, h1, h2⟩ := RepL.getV (i := i) (v := v) t (by simpa using e)
    exact ⟨u, by simpa using h1, h2⟩
theorem RepL.append : ∀ {ds es : List D} {vs ws : List V}, RepL K H th ds vs → RepL K H th es ws → RepL K H th (ds ++ es) (vs ++ ws)
  | _, _, _, _, .nil, s => s
  | _, _, _, _, .cons r t, s => .cons r (RepL.append t s)
theorem RepL.one {d : D} {v : V} (r : Rep K H th d v) : RepL K H th [d] [v] := .cons r .nil
theorem RepL.set {d : D} {v : V} (r : Rep K H th d v) : ∀ {ds : List D} {vs : List V} (i : Nat), RepL K H th ds vs → RepL K H th (ds.set i d) (vs.set i v)
  | _, _, _, .nil => .nil
  | _, _, 0, .cons _ t => .cons r t
  | _, _, i + 1, .cons q t => .cons q (RepL.set r i t)
theorem RepL.take : ∀ {ds : List D} {vs : List V} (n : Nat), RepL K H th ds vs → RepL K H th (ds.take n) (vs.take n)
  | _, _, 0, _ => .nil
  | _, _, _ + 1, .nil => .nil
  | _, _, n + 1, .cons r t => .cons r (RepL.take n t)
theorem RepL.drop : ∀ {ds : List D} {vs : List V} (n : Nat), RepL K H th ds vs → RepL K H th (ds.drop n) (vs.drop n)
  | _, _, 0, r => r
  | _, _, _ + 1, .nil => .nil
  | _, _, n + 1, .cons _ t => RepL.drop n t
theorem RepL.reverse : ∀ {ds : List D} {vs : List V}, RepL K H th ds vs → RepL K H th ds.reverse vs.reverse
  | _, _, .nil => .nil
  | _, _, .cons r t => by
    rw [List.reverse_cons, List.reverse_cons]
    exact (RepL.reverse t).append (.one r)
theorem RepL.dropLast {ds : List D} {vs : List V} (h : RepL K H th ds vs) : RepL K H th ds.dropLast vs.dropLast := by
  rw [List.dropLast_eq_take, List.dropLast_eq_take, h.length]
  exact h.take _
theorem RepL.rep {ds : List D} {vs : List V} (h : RepL K H th ds vs) : ∀ k : Nat, RepL K H th (List.replicate k ds).flatten (List.replicate k vs).flatten
  | 0 => .nil
  | k + 1 => by
    rw [List.replicate_succ, List.replicate_succ, List.flatten_cons, List.flatten_cons]
    exact h.append (RepL.rep h k)
theorem RepL.ints : ∀ {ns : List Int}, RepL K H th (ns.map D.int) (ns.map V.int)
  | [] => .nil
  | _ :: _ => .cons (.int _) RepL.ints
/-- what stays from one heap to a later one -/
structure Ext (H : Hp) (th : Th) (H' : Hp) (th' : Th) : Prop where
  tup : ∀ a vs, H a = some (.tup vs) → H' a = some (.tup vs)
  lst : ∀ a vs, H a = some (.lst vs) → a ∉ th.c → H' a = some (.lst vs)
  frz : ∀ a o u, H a = some (.frz o u) → H' a = some (.frz o u)
  pre : ∃ more, th'.c = th.c ++ more
  gh : th'.g = th.g
  new : ∀ a, a ∈ th'.c → a ∉ th.c → H a = none
  there : ∀ a, H' a = none → H a = none
theorem Ext.refl : Ext H th H th := ⟨fun _ _ h => h, fun _ _ h _ => h, fun _ _ _ h => h, ⟨[], by simp⟩, rfl, fun _ h n => absurd h n, fun _ h => h⟩
theorem Ext.notin (e : Ext H th H' th') {a : Addr} {o : HO} (h : H a = some o) (n : a ∉ th.c) : a ∉ th'.c := fun z => by
  rw [e.new a z n] at h; cases h
theorem Ext.get (e : Ext H th H' th') {n : Nat} {a : Addr} (h : th.c[n]? = some a) : th'.c[n]? = some a := by
  obtain ⟨more, q⟩ := e.pre
  rw [q, List.getElem?_append_left (List.getElem?_eq_some_iff.mp h).1]; exact h
theorem Ext.sub (e : Ext H th H' th') {a : Addr} (h : a ∈ th.c) : a ∈ th'.c := by
  obtain ⟨more, q⟩ := e.pre
  rw [q]
  exact List.mem_append_left _ h
mutual
theorem Rep.mono (e : Ext H th H' th') : ∀ {d : D} {v : V}, Rep K H th d v → Rep K H' th' d v
  | _, _, .none => .none
  | _, _, .bool b => .bool b
  | _, _, .int i => .int i
  | _, _, .str s => .str s
  | _, _, .tup h r => .tup (e.tup _ _ h) (RepL.mono e r)
  | _, _, .lst h n g r => .lst (e.lst _ _ h n) (e.notin h n) (by rw [e.gh]; exact g) (RepL.mono e r)
  | _, _, .scr h => .scr (by
      rcases h with ⟨o, h⟩ | h
      · exact .inl ⟨o, e.frz _ _ _ h⟩
      · exact .inr h)
  | _, _, .loc h => .loc (e.get h)
theorem RepL.mono (e : Ext H th H' th') : ∀ {ds : List D} {vs : List V}, RepL K H th ds vs → RepL K H' th' ds vs
  | _, _, .nil => .nil
  | _, _, .cons r t => .cons (Rep.mono e r) (RepL.mono e t)
end
theorem Ext.trans (e : Ext H th H' th') (f : Ext H' th' H'' th'') : Ext H th H'' th'' := by
  refine ⟨fun a vs h => f.tup a vs (e.tup a vs h), fun a vs h n => f.lst a vs (e.lst a vs h n) (e.notin h n), fun a o u h => f.frz a o u (e.frz a o u h), ?_, f.gh.trans e.gh, fun a h n => ?_, fun a h => e.there a (f.there a h)⟩
  · obtain ⟨m1, q1⟩ := e.pre
    obtain ⟨m2, q2⟩ := f.pre
    exact ⟨m1 ++ m2, by rw [q2, q1, List.append_assoc]⟩
  · by_cases h1 : a ∈ th'.c
    · exact e.new a h1 n
    · exact e.there a (f.new a h h1)
/-- an instance's attributes -/
structure RepF (K : PySem.W.Frag) (H : Hp) (th : Th) (fs : List (Str × D)) (vs : List (Str × V)) : Prop where
  key : fs.map (·.1) = vs.map (·.1)
  val : RepL K H th (fs.map (·.2)) (vs.map (·.2))
theorem RepF.mono (e : Ext H th H' th') {fs : List (Str × D)} {vs : List (Str × V)} (h : RepF K H th fs vs) : RepF K H' th' fs vs := ⟨h.key, h.val.mono e⟩
theorem RepF.nil : RepF K H th [] [] := ⟨rfl, .nil⟩
theorem RepF.lookup : ∀ {fs : List (Str × D)} {vs : List (Str × V)} (f : Str), RepF K H th fs vs → (fs.lookup f = none → vs.lookup f = none) ∧ ∀ d, fs.lookup f = some d → ∃ v, vs.lookup f = some v ∧ Rep K H th d v
  | [], [], f, _ => ⟨fun _ => rfl, fun d h => by cases h⟩
  | [], _ :: _, f, h => by have := h.key; cases this
  | _ :: _, [], f, h => by have := h.key; cases this
  | (k, d) :: fs, (k', v) :: vs, f, h => by
    have h1 := h.key
    have h2 := h.val
    simp only [List.map_cons, List.cons.injEq] at h1
    obtain ⟨rfl, h1⟩ := h1
    cases h2 with
    | cons r t =>
      obtain ⟨i1, i2⟩ := RepF.lookup f (⟨h1, t⟩ : RepF K H th fs vs)
      cases hk : f == k with
      | true =>
        simp only [List.lookup, hk]
        exact ⟨fun z => (by cases z), fun d h => by cases h; exact ⟨v, rfl, r⟩⟩
      | false =>
        simp only [List.lookup, hk]
        exact ⟨i1, i2⟩
theorem RepF.put : ∀ {fs : List (Str × D)} {vs : List (Str × V)} (f : Str) {d : D} {v : V}, Rep K H th d v → RepF K H th fs vs → RepF K H th (putD f d fs) (L2.putF f v vs)
  | [], [], f, d, v, r, _ => ⟨rfl, .one r⟩
  | [], _ :: _, f, _, _, _, h => by have := h.key; cases this
  | _ :: _, [], f, _, _, _, h => by have := h.key; cases this
  | (k, d0) :: fs, (k', v0) :: vs, f, d, v, r, h => by
    have h1 := h.key
    have h2 := h.val
    simp only [List.map_cons, List.cons.injEq] at h1
    obtain ⟨rfl, h1⟩ := h1
    cases h2 with
    | cons r0 t =>
      have ih := RepF.put f r (⟨h1, t⟩ : RepF K H th fs vs)
      rw [show putD f d ((k, d0) :: fs) = (if k = f then (k, d) :: fs else (k, d0) :: putD f d fs) from rfl, show L2.putF f v ((k, v0) :: vs) = (if k = f then (k, v) :: vs else (k, v0) :: L2.putF f v vs) from rfl]
      by_cases hk : k = f
      · rw [if_pos hk, if_pos hk]
        exact ⟨by simp [h1], .cons r t⟩
      · rw [if_neg hk, if_neg hk]
        exact ⟨by simp [ih.key], .cons r0 ih.val⟩
theorem RepF.length {fs : List (Str × D)} {vs : List (Str × V)} (h : RepF K H th fs vs) : fs.length = vs.length := by
  have := congrArg List.length h.key
  simpa using this
def CellOk (K : PySem.W.Frag) (H : Hp) (th : Th) : Cell → Addr → Prop
  | .lst xs, a => ∃ vs, H a = some (.lst vs) ∧ RepL K H th xs vs
  | .ins c fs, a => ∃ dx vs, H a = some (.ins (He.ga K c) dx vs) ∧ RepF K H th fs vs
structure Sim (K : PySem.W.Frag) (H : Hp) (th : Th) (S : Store) : Prop where
  len : th.c.length = S.length
  nd : th.c.Nodup
  cell : ∀ (n : Nat) (c : Cell) (a : Addr), S[n]? = some c → th.c[n]? = some a → CellOk K H th c a
  gh : ∀ a, a ∈ th.g → H a ≠ none ∧ a ∉ th.c
theorem Sim.at {S : Store} (s : Sim K H th S) {n : Nat} {xs : List D} (h : S[n]? = some (.lst xs)) : ∃ a vs, th.c[n]? = some a ∧ H a = some (.lst vs) ∧ RepL K H th xs vs := by
  have hn : n < S.length := (List.getElem?_eq_some_iff.mp h).1
  have hn' : n < th.c.length := by rw [s.len]; exact hn
  obtain ⟨vs, h1, h2⟩ := s.cell n _ th.c[n] h (List.getElem?_eq_getElem hn')
  exact ⟨th.c[n], vs, List.getElem?_eq_getElem hn', h1, h2⟩
theorem Sim.tracked {S : Store} (s : Sim K H th S) {a : Addr} (h : a ∈ th.c) : ∃ o, H a = some o := by
  obtain ⟨n, hn, rfl⟩ := List.getElem_of_mem h
  have hn' : n < S.length := by rw [← s.len]; exact hn
  have q := s.cell n S[n] th.c[n] (List.getElem?_eq_getElem hn') (List.getElem?_eq_getElem hn)
  cases hc : S[n] with
  | lst xs => rw [hc] at q; obtain ⟨vs, h1, _⟩ := q; exact ⟨_, h1⟩
  | ins c fs => rw [hc] at q; obtain ⟨dx, vs, h1, _⟩ := q; exact ⟨_, h1⟩
theorem Sim.fresh {S : Store} (s : Sim K H th S) {p : Addr} (h : H p = none) : p ∉ th.c := fun z => by
  obtain ⟨o, q⟩ := s.tracked z
  rw [h] at q; cases q
theorem Sim.freshG {S : Store} (s : Sim K H th S) {p : Addr} (h : H p = none) : p ∉ th.g := fun z => (s.gh p z).1 h
theorem CellOk.mono (e : Ext H th H' th') (hk : ∀ a, a ∈ th.c → H' a = H a) {c : Cell} {a : Addr} (ha : a ∈ th.c) (h : CellOk K H th c a) : CellOk K H' th' c a := by
  cases c with
  | lst xs =>
    obtain ⟨vs, h1, h2⟩ := h
    exact ⟨vs, by rw [hk a ha]; exact h1, h2.mono e⟩
  | ins c fs =>
    obtain ⟨dx, vs, h1, h2⟩ := h
    exact ⟨dx, vs, by rw [hk a ha]; exact h1, h2.mono e⟩
theorem upd_none {p b : Addr} {o : HO} (h : upd H p o b = none) : H b = none := by
  unfold upd at h
  split at h
  · cases h
  · exact h
theorem upd_some {p b : Addr} {o : HO} (h : H b ≠ none) : upd H p o b ≠ none := fun z => h (upd_none z)
/-- a tuple, a plain list is laid -/
theorem Ext.laid {p : Addr} (hp : H p = none) (o : HO) : Ext H th (upd H p o) th :=
  ⟨fun a vs h => by rw [upd_ne (ne_of_none h hp)]; exact h, fun a vs h _ => by rw [upd_ne (ne_of_none h hp)]; exact h, fun a _ u h => by rw [upd_ne (ne_of_none h hp)]; exact h, ⟨[], by simp⟩, rfl, fun _ h n => absurd h n, fun _ h => upd_none h⟩
theorem Sim.laid {S : Store} (s : Sim K H th S) {p : Addr} (hp : H p = none) (o : HO) : Sim K (upd H p o) th S := by
  refine ⟨s.len, s.nd, fun n c a h1 h2 => ?_, fun a h => ⟨upd_some (s.gh a h).1, (s.gh a h).2⟩⟩
  have ha : a ∈ th.c := List.mem_of_getElem? h2
  refine (s.cell n c a h1 h2).mono (Ext.laid hp o) (fun b hb => ?_) ha
  rw [upd_ne (fun z : b = p => s.fresh hp (z ▸ hb))]
theorem Rep.laidT {p : Addr} (hp : H p = Option.none) {vs : List V} {xs : List D} (r : RepL K H th xs vs) : Rep K (upd H p (.tup vs)) th (.tup xs) (.ref p) := .tup upd_same (r.mono (Ext.laid hp _))
theorem Rep.laidL {S : Store} (s : Sim K H th S) {p : Addr} (hp : H p = Option.none) {vs : List V} {xs : List D} (r : RepL K H th xs vs) : Rep K (upd H p (.lst vs)) th (.lst xs) (.ref p) :=
  .lst upd_same (s.fresh hp) (s.freshG hp) (r.mono (Ext.laid hp _))
/-- a new cell -/
def Th.add (th : Th) (p : Addr) : Th := ⟨th.c ++ [p], th.g⟩
theorem Ext.newC {p : Addr} (hp : H p = none) (vs : List V) : Ext H th (upd H p (.lst vs)) (th.add p) :=
  ⟨fun a vs h => by rw [upd_ne (ne_of_none h hp)]; exact h, fun a vs h _ => by rw [upd_ne (ne_of_none h hp)]; exact h, fun a _ u h => by rw [upd_ne (ne_of_none h hp)]; exact h, ⟨[p], rfl⟩, rfl, fun a h n => by
    rcases List.mem_append.mp h with h | h
    · exact absurd h n
    · rw [List.mem_singleton.mp h]; exact hp, fun _ h => upd_none h⟩
theorem Sim.newC {S : Store} (s : Sim K H th S) {p : Addr} (hp : H p = none) {vs : List V} {xs : List D} (r : RepL K H th xs vs) : Sim K (upd H p (.lst vs)) (th.add p) (S ++ [.lst xs]) := by
  have e : Ext H th (upd H p (.lst vs)) (th.add p) := Ext.newC hp vs
  refine ⟨by simp [Th.add, s.len], ?_, fun n c a h1 h2 => ?_, fun a h => ⟨upd_some (s.gh a h).1, fun z => ?_⟩⟩
  · show (th.c ++ [p]).Nodup
    rw [List.nodup_append]
    exact ⟨s.nd, by simp, fun a ha b hb z => s.fresh hp (by rw [List.mem_singleton] at hb; rw [← hb, ← z]; exact ha)⟩
  · have h2 : (th.c ++ [p])[n]? = some a := h2
    by_cases hn : n < S.length
    · rw [List.getElem?_append_left hn] at h1
      rw [List.getElem?_append_left (by rw [s.len]; exact hn)] at h2
      exact (s.cell n c a h1 h2).mono e (fun b hb => by rw [upd_ne (fun z : b = p => s.fresh hp (z ▸ hb))]) (List.mem_of_getElem? h2)
    · rw [List.getElem?_append_right (by omega)] at h1
      rw [List.getElem?_append_right (by rw [s.len]; omega), s.len] at h2
      have hz : n - S.length = 0 := by
        have := (List.getElem?_eq_some_iff.mp h1).1
        simp at this
        omega
      rw [hz] at h1 h2
      simp at h1 h2
      subst h1 h2
      exact ⟨vs, upd_same, r.mono e⟩
  · rcases List.mem_append.mp z with z | z
    · exact (s.gh a h).2 z
    · exact s.freshG hp (List.mem_singleton.mp z ▸ h)
/-- a cell is written -/
theorem Ext.wrote {p : Addr} (hp : p ∈ th.c) {ws : List V} (hw : H p = some (.lst ws)) (vs : List V) : Ext H th (upd H p (.lst vs)) th :=
  ⟨fun a us h => by rw [upd_ne (fun z => by rw [z, hw] at h; cases h)]; exact h, fun a us h n => by rw [upd_ne (fun z : a = p => n (z ▸ hp))]; exact h, fun a _ u h => by rw [upd_ne (fun z => by rw [z, hw] at h; cases h)]; exact h, ⟨[], by simp⟩, rfl, fun _ h n => absurd h n, fun _ h => upd_none h⟩
theorem Sim.wrote {S : Store} (s : Sim K H th S) {n : Nat} {p : Addr} (hn : th.c[n]? = some p) {ws : List V} (hw : H p = some (.lst ws)) {vs : List V} {xs : List D} (r : RepL K H th xs vs) : Sim K (upd H p (.lst vs)) th (S.set n (.lst xs)) := by
  have hp : p ∈ th.c := List.mem_of_getElem? hn
  have e : Ext H th (upd H p (.lst vs)) th := Ext.wrote hp hw vs
  refine ⟨by simp [s.len], s.nd, fun m c a h1 h2 => ?_, fun a h => ⟨upd_some (s.gh a h).1, (s.gh a h).2⟩⟩
  by_cases hm : n = m
  · subst hm
    rw [hn] at h2; cases h2
    have hl : n < S.length := by rw [← s.len]; exact (List.getElem?_eq_some_iff.mp hn).1
    rw [List.getElem?_set_self hl] at h1
    cases h1
    exact ⟨vs, upd_same, r.mono e⟩
  · rw [List.getElem?_set_ne hm] at h1
    have q := s.cell m c a h1 h2
    have ne : a ≠ p := fun z => by
      subst z
      exact hm ((List.getElem?_inj (by exact (List.getElem?_eq_some_iff.mp hn).1) s.nd).mp (hn.trans h2.symm))
    cases c with
    | lst ys =>
      obtain ⟨us, h3, h4⟩ := q
      exact ⟨us, by rw [upd_ne ne]; exact h3, h4.mono e⟩
    | ins c fs =>
      obtain ⟨dx, us, h3, h4⟩ := q
      exact ⟨dx, us, by rw [upd_ne ne]; exact h3, h4.mono e⟩
/-- an instance is written -/
theorem Ext.wroteI {p C dx : Addr} {fs : List (Str × V)} (hp : p ∈ th.c) (hw : H p = some (.ins C dx fs)) (o : HO) : Ext H th (upd H p o) th :=
  ⟨fun a us h => by rw [upd_ne (fun z => by rw [z, hw] at h; cases h)]; exact h, fun a us h n => by rw [upd_ne (fun z : a = p => n (z ▸ hp))]; exact h, fun a _ u h => by rw [upd_ne (fun z => by rw [z, hw] at h; cases h)]; exact h, ⟨[], by simp⟩, rfl, fun _ h n => absurd h n, fun _ h => upd_none h⟩
theorem Sim.wroteI {S : Store} (s : Sim K H th S) {n : Nat} {p dx : Addr} {c : Str} (hn : th.c[n]? = some p) {ws : List (Str × V)} (hw : H p = some (.ins (He.ga K c) dx ws)) {vs : List (Str × V)} {fs : List (Str × D)} (r : RepF K H th fs vs) : Sim K (upd H p (.ins (He.ga K c) dx vs)) th (S.set n (.ins c fs)) := by
  have hp : p ∈ th.c := List.mem_of_getElem? hn
  have e : Ext H th (upd H p (.ins (He.ga K c) dx vs)) th := Ext.wroteI hp hw _
  refine ⟨by simp [s.len], s.nd, fun m c' a h1 h2 => ?_, fun a h => ⟨upd_some (s.gh a h).1, (s.gh a h).2⟩⟩
  by_cases hm : n = m
  · subst hm
    rw [hn] at h2; cases h2
    have hl : n < S.length := by rw [← s.len]; exact (List.getElem?_eq_some_iff.mp hn).1
    rw [List.getElem?_set_self hl] at h1
    cases h1
    exact ⟨dx, vs, upd_same, r.mono e⟩
  · rw [List.getElem?_set_ne hm] at h1
    have q := s.cell m c' a h1 h2
    have ne : a ≠ p := fun z => by
      subst z
      exact hm ((List.getElem?_inj (by exact (List.getElem?_eq_some_iff.mp hn).1) s.nd).mp (hn.trans h2.symm))
    cases c' with
    | lst ys =>
      obtain ⟨us, h3, h4⟩ := q
      exact ⟨us, by rw [upd_ne ne]; exact h3, h4.mono e⟩
    | ins c fs =>
      obtain ⟨dx, us, h3, h4⟩ := q
      exact ⟨dx, us, by rw [upd_ne ne]; exact h3, h4.mono e⟩
/-- a new instance -/
theorem Ext.newI {x dx C : Addr} (hx : H x = none) (hd : H dx = none) : Ext H th (upd (upd H dx (.own x)) x (.ins C dx [])) (th.add x) := by
  have k : ∀ a o, H a = some o → (upd (upd H dx (.own x)) x (.ins C dx [])) a = some o := fun a o h => by
    rw [upd_ne (ne_of_none h hx), upd_ne (ne_of_none h hd)]; exact h
  exact ⟨fun a vs h => k a _ h, fun a vs h _ => k a _ h, fun a _ u h => k a _ h, ⟨[x], rfl⟩, rfl, fun a h n => by
    rcases List.mem_append.mp h with h | h
    · exact absurd h n
    · rw [List.mem_singleton.mp h]; exact hx, fun _ h => upd_none (upd_none h)⟩
theorem Sim.newI {S : Store} (s : Sim K H th S) {x dx : Addr} {c : Str} (hx : H x = none) (hd : H dx = none) : Sim K (upd (upd H dx (.own x)) x (.ins (He.ga K c) dx [])) (th.add x) (S ++ [.ins c []]) := by
  have e : Ext H th (upd (upd H dx (.own x)) x (.ins (He.ga K c) dx [])) (th.add x) := Ext.newI hx hd
  refine ⟨by simp [Th.add, s.len], ?_, fun n c' a h1 h2 => ?_, fun a h => ⟨upd_some (upd_some (s.gh a h).1), fun z => ?_⟩⟩
  · show (th.c ++ [x]).Nodup
    rw [List.nodup_append]
    exact ⟨s.nd, by simp, fun a ha b hb z => s.fresh hx (by rw [List.mem_singleton] at hb; rw [← hb, ← z]; exact ha)⟩
  · have h2 : (th.c ++ [x])[n]? = some a := h2
    by_cases hn : n < S.length
    · rw [List.getElem?_append_left hn] at h1
      rw [List.getElem?_append_left (by rw [s.len]; exact hn)] at h2
      exact (s.cell n c' a h1 h2).mono e (fun b hb => by rw [upd_ne (fun z : b = x => s.fresh hx (z ▸ hb)), upd_ne (fun z : b = dx => s.fresh hd (z ▸ hb))]) (List.mem_of_getElem? h2)
    · rw [List.getElem?_append_right (by omega)] at h1
      rw [List.getElem?_append_right (by rw [s.len]; omega), s.len] at h2
      have hz : n - S.length = 0 := by
        have := (List.getElem?_eq_some_iff.mp h1).1
        simp at this
        omega
      rw [hz] at h1 h2
      simp at h1 h2
      subst h1 h2
      exact ⟨dx, [], upd_same, .nil⟩
  · rcases List.mem_append.mp z with z | z
    · exact (s.gh a h).2 z
    · exact s.freshG hx (List.mem_singleton.mp z ▸ h)
theorem Sim.insAt {S : Store} (s : Sim K H th S) {c : Str} {d : D} {v : V} {fs : List (Str × D)} (r : Rep K H th d v) (h : PV.insAt c d S = some fs) : ∃ n a dx vs, d = .loc n ∧ v = .ref a ∧ th.c[n]? = some a ∧ H a = some (.ins (He.ga K c) dx vs) ∧ RepF K H th fs vs := by
  cases r with
  | @loc a n hn =>
    unfold PV.insAt at h
    dsimp only at h
    split at h
    · rename_i c' fs' e
      split at h
      · rename_i hc
        subst hc
        cases h
        obtain ⟨dx, vs, h1, h2⟩ := s.cell n _ a e hn
        exact ⟨n, a, dx, vs, rfl, rfl, hn, h1, h2⟩
      · cases h
    · cases h
  | _ => cases h
/-! ### a list that nobody knows yet -/
def Th.hide (th : Th) (p : Addr) : Th := ⟨th.c, p :: th.g⟩
mutual
theorem Rep.hide {p : Addr} {o : HO} (hp : H p = Option.none) : ∀ {d : D} {v : V}, Rep K H th d v → Rep K (upd H p o) (th.hide p) d v
  | _, _, .none => .none
  | _, _, .bool b => .bool b
  | _, _, .int i => .int i
  | _, _, .str s => .str s
  | _, _, .tup h r => .tup (by rw [upd_ne (ne_of_none h hp)]; exact h) (RepL.hide hp r)
  | _, _, .lst h n g r => .lst (by rw [upd_ne (ne_of_none h hp)]; exact h) n (fun z => (List.mem_cons.mp z).elim (fun q => ne_of_none h hp q) g) (RepL.hide hp r)
  | _, _, .scr h => .scr (by
      rcases h with ⟨o, h⟩ | h
      · exact .inl ⟨o, by rw [upd_ne (ne_of_none h hp)]; exact h⟩
      · exact .inr h)
  | _, _, .loc h => .loc h
theorem RepL.hide {p : Addr} {o : HO} (hp : H p = none) : ∀ {ds : List D} {vs : List V}, RepL K H th ds vs → RepL K (upd H p o) (th.hide p) ds vs
  | _, _, .nil => .nil
  | _, _, .cons r t => .cons (Rep.hide hp r) (RepL.hide hp t)
end
theorem Sim.hide {S : Store} (s : Sim K H th S) {p : Addr} {o : HO} (hp : H p = none) : Sim K (upd H p o) (th.hide p) S := by
  refine ⟨s.len, s.nd, fun n c a h1 h2 => ?_, fun a h => ?_⟩
  · have q := s.cell n c a h1 h2
    have ha : a ∈ th.c := List.mem_of_getElem? h2
    cases c with
    | lst xs =>
      obtain ⟨vs, h3, h4⟩ := q
      exact ⟨vs, by rw [upd_ne (ne_of_none h3 hp)]; exact h3, h4.hide hp⟩
    | ins c fs =>
      obtain ⟨dx, vs, h3, h4⟩ := q
      exact ⟨dx, vs, by rw [upd_ne (ne_of_none h3 hp)]; exact h3, h4.key, h4.val.hide hp⟩
  · rcases List.mem_cons.mp h with rfl | h
    · exact ⟨by rw [upd_same]; simp, s.fresh hp⟩
    · exact ⟨upd_some (s.gh a h).1, (s.gh a h).2⟩
mutual
/-- the hidden list is changed -/
theorem Rep.grow {p : Addr} {o : HO} {vs₀ : List V} (hg : p ∈ th.g) (hp : H p = some (.lst vs₀)) : ∀ {d : D} {v : V}, (p ∉ th.c) → Rep K H th d v → Rep K (upd H p o) th d v
  | _, _, _, .none => .none
  | _, _, _, .bool b => .bool b
  | _, _, _, .int i => .int i
  | _, _, _, .str s => .str s
  | _, _, hc, .tup h r => .tup (by rw [upd_ne (fun z => by rw [z, hp] at h; cases h)]; exact h) (RepL.grow hg hp hc r)
  | _, _, hc, .lst (a := a) h n g r => .lst (by rw [upd_ne (fun z : a = p => g (z ▸ hg))]; exact h) n g (RepL.grow hg hp hc r)
  | _, _, _, .scr h => .scr (by
      rcases h with ⟨o, h⟩ | h
      · exact .inl ⟨o, by rw [upd_ne (fun z => by rw [z, hp] at h; cases h)]; exact h⟩
      · exact .inr h)
  | _, _, _, .loc h => .loc h
theorem RepL.grow {p : Addr} {o : HO} {vs₀ : List V} (hg : p ∈ th.g) (hp : H p = some (.lst vs₀)) : ∀ {ds : List D} {vs : List V}, (p ∉ th.c) → RepL K H th ds vs → RepL K (upd H p o) th ds vs
  | _, _, _, .nil => .nil
  | _, _, hc, .cons r t => .cons (Rep.grow hg hp hc r) (RepL.grow hg hp hc t)
end
theorem Sim.grow {S : Store} (s : Sim K H th S) {p : Addr} {o : HO} {vs₀ : List V} (hg : p ∈ th.g) (hp : H p = some (.lst vs₀)) : Sim K (upd H p o) th S := by
  have hc := (s.gh p hg).2
  refine ⟨s.len, s.nd, fun n c a h1 h2 => ?_, fun a h => ⟨upd_some (s.gh a h).1, (s.gh a h).2⟩⟩
  have q := s.cell n c a h1 h2
  have ha : a ∈ th.c := List.mem_of_getElem? h2
  cases c with
  | lst xs =>
    obtain ⟨vs, h3, h4⟩ := q
    exact ⟨vs, by rw [upd_ne (fun z : a = p => hc (z ▸ ha))]; exact h3, h4.grow hg hp hc⟩
  | ins c fs =>
    obtain ⟨dx, vs, h3, h4⟩ := q
    exact ⟨dx, vs, by rw [upd_ne (fun z : a = p => hc (z ▸ ha))]; exact h3, h4.key, h4.val.grow hg hp hc⟩
mutual
/-- fewer are hidden, fewer cells are known -/
theorem Rep.show_ {g' : List Addr} (hg : ∀ a, a ∈ g' → a ∈ th.g) : ∀ {d : D} {v : V}, Rep K H th d v → Rep K H ⟨th.c, g'⟩ d v
  | _, _, .none => .none
  | _, _, .bool b => .bool b
  | _, _, .int i => .int i
  | _, _, .str s => .str s
  | _, _, .tup h r => .tup h (RepL.show_ hg r)
  | _, _, .lst h n g r => .lst h n (fun z => g (hg _ z)) (RepL.show_ hg r)
  | _, _, .scr h => .scr h
  | _, _, .loc h => .loc h
theorem RepL.show_ {g' : List Addr} (hg : ∀ a, a ∈ g' → a ∈ th.g) : ∀ {ds : List D} {vs : List V}, RepL K H th ds vs → RepL K H ⟨th.c, g'⟩ ds vs
  | _, _, .nil => .nil
  | _, _, .cons r t => .cons (Rep.show_ hg r) (RepL.show_ hg t)
end
theorem Sim.show_ {S : Store} {g' : List Addr} (s : Sim K H th S) (hg : ∀ a, a ∈ g' → a ∈ th.g) : Sim K H ⟨th.c, g'⟩ S := by
  refine ⟨s.len, s.nd, fun n c a h1 h2 => ?_, fun a h => s.gh a (hg a h)⟩
  have q := s.cell n c a h1 h2
  cases c with
  | lst xs =>
    obtain ⟨vs, h3, h4⟩ := q
    exact ⟨vs, h3, h4.show_ hg⟩
  | ins c fs =>
    obtain ⟨dx, vs, h3, h4⟩ := q
    exact ⟨dx, vs, h3, h4.key, h4.val.show_ hg⟩
end
end PV
end
section
set_option Elab.async false
set_option linter.all false
set_option maxRecDepth 100000
set_option maxHeartbeats 4000000
namespace PV
open PySem PySem.Spec PyProof.Rows L2
/-! ### readings -/
/-- cv: the classes of exceptions, as values -/
def Post (K : PySem.W.Frag) (cv : Nat → Value) (E : XK) (H : Hp) (th : Th) (r : R D) (Q : VK) : Prop :=
  match r with
  | .ok d S => ∀ v H' th', Ext H th H' th' → Sim K H' th' S → Rep K H' th' d v → Q v H'
  | .exc c S => ∀ H' th', Ext H th H' th' → Sim K H' th' S → E (cv c) none H'
  | .err => False
def PostA (K : PySem.W.Frag) (cv : Nat → Value) (E : XK) (H : Hp) (th : Th) (r : R D) (Q : List V → Hp → Prop) : Prop :=
  match r with
  | .ok d S => ∃ ds, d = .tup ds ∧ ∀ vs H' th', Ext H th H' th' → Sim K H' th' S → RepL K H' th' ds vs → Q vs H'
  | .exc c S => ∀ H' th', Ext H th H' th' → Sim K H' th' S → E (cv c) none H'
  | .err => False
def PostT (K : PySem.W.Frag) (cv : Nat → Value) (E : XK) (H : Hp) (th : Th) (r : R Bool) (Q : Bool → Hp → Prop) : Prop :=
  match r with
  | .ok b S => ∀ H' th', Ext H th H' th' → Sim K H' th' S → Q b H'
  | .exc c S => ∀ H' th', Ext H th H' th' → Sim K H' th' S → E (cv c) none H'
  | .err => False
def PostS (K : PySem.W.Frag) (cv : Nat → Value) (E : XK) (H : Hp) (th : Th) (r : SR) (RE : Hp → Th → Env → L2.St → Prop) (D : Ends) : Prop :=
  match r with
  | .nx ρ S => ∀ σ H' th', Ext H th H' th' → Sim K H' th' S → RE H' th' ρ σ → D.nx σ H'
  | .ret d S => ∀ v H' th', Ext H th H' th' → Sim K H' th' S → Rep K H' th' d v → D.rt v H'
  | .exc c S => ∀ H' th', Ext H th H' th' → Sim K H' th' S → E (cv c) none H'
  | .err => False
/-- the slots bear the names' data -/
structure RepE (K : PySem.W.Frag) (H : Hp) (th : Th) (ρ : Env) (σ : L2.St) : Prop where
  len : ρ.length = σ.length
  at_ : ∀ (i : Nat) (d : D), ρ[i]? = some (some d) → ∃ v, σ[i]? = some (some v) ∧ Rep K H th d v
section
variable {K : PySem.W.Frag} {cv : Nat → Value} {E : XK} {H H' : Hp} {th th' : Th} {S : Store} {ρ : Env} {σ : L2.St}
theorem RepE.mono (e : Ext H th H' th') (r : RepE K H th ρ σ) : RepE K H' th' ρ σ := ⟨r.len, fun i d h => by
  obtain ⟨v, h1, h2⟩ := r.at_ i d h
  exact ⟨v, h1, h2.mono e⟩⟩
theorem RepE.set (r : RepE K H th ρ σ) (i : Nat) {d : D} {v : V} (h : Rep K H th d v) : RepE K H th (ρ.set i (some d)) (σ.set i (some v)) := by
  refine ⟨by simp [r.len], fun j e h1 => ?_⟩
  by_cases hj : i = j
  · subst hj
    have hl : i < ρ.length := by
      have := (List.getElem?_eq_some_iff.mp h1).1
      simpa using this
    rw [List.getElem?_set_self hl] at h1
    cases h1
    exact ⟨v, List.getElem?_set_self (by rw [← r.len]; exact hl), h⟩
  · rw [List.getElem?_set_ne hj] at h1
    obtain ⟨w, h2, h3⟩ := r.at_ j e h1
    exact ⟨w, by rw [List.getElem?_set_ne hj]; exact h2, h3⟩
theorem wipeE_some {i : Nat} {x : D} : ∀ {vs : List Nat}, (wipeE ρ vs)[i]? = some (some x) → ρ[i]? = some (some x) ∧ i ∉ vs
  | [], h => ⟨h, by simp⟩
  | v :: vs, h => by
    unfold wipeE at h
    by_cases hi : v = i
    · subst hi
      by_cases hv : v < (wipeE ρ vs).length
      · rw [List.getElem?_set_self hv] at h; cases h
      · rw [List.getElem?_eq_none (by simpa using hv)] at h; cases h
    · rw [List.getElem?_set_ne hi] at h
      obtain ⟨h1, h2⟩ := wipeE_some h
      exact ⟨h1, by simp only [List.mem_cons, not_or]; exact ⟨fun e => hi e.symm, h2⟩⟩
theorem wipeE_length : ∀ vs : List Nat, (wipeE ρ vs).length = ρ.length
  | [] => rfl
  | v :: vs => by unfold wipeE; rw [List.length_set, wipeE_length vs]
theorem RepE.wipe (r : RepE K H th ρ σ) (vs : List Nat) : RepE K H th (wipeE ρ vs) (L2.wipe σ vs) := by
  refine ⟨by rw [wipeE_length, L2.wipe_length, r.len], fun i d h => ?_⟩
  obtain ⟨h1, h2⟩ := wipeE_some h
  obtain ⟨v, h3, h4⟩ := r.at_ i d h1
  exact ⟨v, by rw [L2.wipe_out h2]; exact h3, h4⟩
theorem Post.back (e : Ext H th H' th') {r : R D} {Q : VK} (h : Post K cv E H th r Q) : Post K cv E H' th' r Q := by
  cases r with
  | ok d S => exact fun v H2 th2 e2 s2 r2 => h v H2 th2 (e.trans e2) s2 r2
  | exc c S => exact fun H2 th2 e2 s2 => h H2 th2 (e.trans e2) s2
  | err => exact h
theorem PostA.back (e : Ext H th H' th') {r : R D} {Q : List V → Hp → Prop} (h : PostA K cv E H th r Q) : PostA K cv E H' th' r Q := by
  cases r with
  | ok d S =>
    obtain ⟨ds, e1, h⟩ := h
    exact ⟨ds, e1, fun v H2 th2 e2 s2 r2 => h v H2 th2 (e.trans e2) s2 r2⟩
  | exc c S => exact fun H2 th2 e2 s2 => h H2 th2 (e.trans e2) s2
  | err => exact h
theorem PostT.back (e : Ext H th H' th') {r : R Bool} {Q : Bool → Hp → Prop} (h : PostT K cv E H th r Q) : PostT K cv E H' th' r Q := by
  cases r with
  | ok d S => exact fun H2 th2 e2 s2 => h H2 th2 (e.trans e2) s2
  | exc c S => exact fun H2 th2 e2 s2 => h H2 th2 (e.trans e2) s2
  | err => exact h
theorem PostS.back (e : Ext H th H' th') {r : SR} {RE : Hp → Th → Env → L2.St → Prop} {D : Ends} (h : PostS K cv E H th r RE D) : PostS K cv E H' th' r RE D := by
  cases r with
  | nx ρ S => exact fun v H2 th2 e2 s2 r2 => h v H2 th2 (e.trans e2) s2 r2
  | ret d S => exact fun v H2 th2 e2 s2 r2 => h v H2 th2 (e.trans e2) s2 r2
  | exc c S => exact fun H2 th2 e2 s2 => h H2 th2 (e.trans e2) s2
  | err => exact h
/-- one thing behind another -/
theorem Post.bind {x : R D} {f : D → Store → R D} {Q : VK} (h : Post K cv E H th (x.bind f) Q) {Q' : VK} (hq : ∀ d S v H' th', x = .ok d S → Ext H th H' th' → Sim K H' th' S → Rep K H' th' d v → Post K cv E H' th' (f d S) Q → Q' v H') : Post K cv E H th x Q' := by
  cases x with
  | ok d S => exact fun v H' th' e s r => hq d S v H' th' rfl e s r (Post.back e h)
  | exc c S => exact h
  | err => exact h
theorem Post.bindA {x : R D} {f : D → Store → R D} {Q : VK} (h : Post K cv E H th (x.bind f) Q) (ht : ∀ d S, x = .ok d S → ∃ ds, d = .tup ds) {Q' : List V → Hp → Prop} (hq : ∀ ds S vs H' th', x = .ok (.tup ds) S → Ext H th H' th' → Sim K H' th' S → RepL K H' th' ds vs → Post K cv E H' th' (f (.tup ds) S) Q → Q' vs H') : PostA K cv E H th x Q' := by
  cases x with
  | ok d S =>
    obtain ⟨ds, rfl⟩ := ht d S rfl
    exact ⟨ds, rfl, fun v H' th' e s r => hq ds S v H' th' rfl e s r (Post.back e h)⟩
  | exc c S => exact h
  | err => exact h
theorem PostA.bind {x : R D} {f : D → Store → R D} {Q : List V → Hp → Prop} (h : PostA K cv E H th (x.bind f) Q) {Q' : VK} (hq : ∀ d S v H' th', x = .ok d S → Ext H th H' th' → Sim K H' th' S → Rep K H' th' d v → PostA K cv E H' th' (f d S) Q → Q' v H') : Post K cv E H th x Q' := by
  cases x with
  | ok d S => exact fun v H' th' e s r => hq d S v H' th' rfl e s r (PostA.back e h)
  | exc c S => exact h
  | err => exact h
theorem PostT.bind {x : R D} {f : D → Store → R Bool} {Q : Bool → Hp → Prop} (h : PostT K cv E H th (x.bind f) Q) {Q' : VK} (hq : ∀ d S v H' th', x = .ok d S → Ext H th H' th' → Sim K H' th' S → Rep K H' th' d v → PostT K cv E H' th' (f d S) Q → Q' v H') : Post K cv E H th x Q' := by
  cases x with
  | ok d S => exact fun v H' th' e s r => hq d S v H' th' rfl e s r (PostT.back e h)
  | exc c S => exact h
  | err => exact h
end
section
variable (K : PySem.W.Frag) (cv : Nat → Value) (F : Nat → List D → Store → R D) (E : XK)
def tE (ie : Ex) : TE := fun σ H Q => ∃ th S ρ, Sim K H th S ∧ RepE K H th ρ σ ∧ Post K cv E H th (ev F ie ρ S) Q
def tA (ie : Ex) : TA := fun σ H Q => ∃ th S ρ, Sim K H th S ∧ RepE K H th ρ σ ∧ PostA K cv E H th (ev F ie ρ S) Q
def tT (ie : Ex) : TT := fun σ H Q => ∃ th S ρ, Sim K H th S ∧ RepE K H th ρ σ ∧ PostT K cv E H th (evT F ie ρ S) Q
def tS (is : St) : TS := fun D σ H => ∃ th S ρ, Sim K H th S ∧ RepE K H th ρ σ ∧ PostS K cv E H th (ex F is ρ S) (RepE K) D
/-- a def's promise: it does what G does -/
def spOf (G : List D → Store → R D) : Sp := fun vs H Q E => ∃ th S ds, Sim K H th S ∧ RepL K H th ds vs ∧ Post K cv E H th (G ds S) Q
end
theorem PE.weak {X : Cx} {e : Expr} {t t' : TE} (h : PE X e t) (w : ∀ σ H Q, t' σ H Q → t σ H Q) : PE X e t' := ⟨fun pins s σ H Q I q => h.run pins s σ H Q I (w σ H Q q)⟩
theorem PT.weak {X : Cx} {e : Expr} {t t' : TT} (h : PT X e t) (w : ∀ σ H Q, t' σ H Q → t σ H Q) : PT X e t' := ⟨fun pins s σ H Q I q => h.run pins s σ H Q I (w σ H Q q)⟩
theorem PA.weak {X : Cx} {e : List Expr} {t t' : TA} (h : PA X e t) (w : ∀ σ H Q, t' σ H Q → t σ H Q) : PA X e t' := ⟨fun p pins s σ H Q I q => h.run p pins s σ H Q I (w σ H Q q)⟩
theorem PS.weak {X : Cx} {e : Stmt} {t t' : TS} (h : PS X e t) (w : ∀ D σ H, t' D σ H → t D σ H) : PS X e t' := ⟨fun pins s σ H D I q => h.run pins s σ H D I (w D σ H q)⟩
theorem PSs.weak {X : Cx} {e : List Stmt} {t t' : TS} (h : PSs X e t) (w : ∀ D σ H, t' D σ H → t D σ H) : PSs X e t' := ⟨fun pins s σ H D I q => h.run pins s σ H D I (w D σ H q)⟩
/-! ### exceptions in the air -/
/-- as the library's XE, the frame's address given apart (a comprehension's block has the frame of its def) -/
def XEL (X : Cx) (L : Addr) (E : XK) (u : Value) (s' : Shared) : Prop :=
  ∃ (a : Addr) (B : Heap) (sI : Shared) (pins : List (Addr × Obj)) (σ : L2.St) (H : Hp) (cls : Value) (d : Option Addr),
    u = .ref a ∧ Inv X pins σ H sI ∧ (∀ b o, sI.heap.get? b = some o → b ∉ frs X.stack → B.get? b = some o) ∧ sI.heap.UpToSlots s'.heap ∧
      Sky B X.stack a (Zc cls d) L s'.heap ∧ H a = none ∧ s'.os = sI.os ∧ AllBare s'.gens ∧ E cls d H
/-- what flies here is taken -/
structure Fly (X : Cx) (E : XK) : Prop where
  at_ : ∃ (L : Addr) (env0 : PySem.Env) (outer0 : List PySem.Env), X.stack = env0 :: outer0 ∧ env0.frame = some L ∧ X.env.frame = some L ∧ ∀ u s', XEL X L E u s' → X.xe u s'
/-- in a def's own block -/
theorem Fly.of_takes {X : Cx} {E : XK} (hs : X.stack = X.env :: X.outer) (hf : X.env.frame = some X.env.locals) (tk : Takes X (fun cls d _ H => E cls d H)) : Fly X E :=
  ⟨X.env.locals, X.env, X.outer, hs, hf, hf, fun u s' h => tk u s' h⟩
theorem XEL.of_call {X : Cx} {pins : List (Addr × Obj)} {σ : L2.St} {H : Hp} {s s' : Shared} {L : Addr} {E : XK} (I : Inv X pins σ H s) {u : Value} (c : L2.CX X.prog X.w X.stack H s E u s') : XEL X L E u s' := by
  obtain ⟨a, B, sI, pins', σ', H', cls, d, e, J, nb, up, sky, na, os, ag, w⟩ := XE.of_call (W := fun cls d _ H => E cls d H) I (fun _ _ _ h => h) c
  obtain ⟨a2, B2, H2, cls2, d2, e2, fl, _⟩ := c
  have ea : a2 = a := by rw [e] at e2; cases e2; rfl
  subst ea
  refine ⟨a2, B, sI, pins', σ', H', cls, d, e, J, nb, up, ?_, na, os, ag, w⟩
  rcases sky with h | h | h
  · exact .inl h
  · exact .inr (.inl h)
  · obtain ⟨_, _, _, oe, vs, T, oT, ts, q1, _, q2, q3, _, _, q4, q5, q6⟩ := fl
    obtain ⟨_, _, _, oe', vs', T', oT', ts', r1, _, r2, r3, _, _, r4, r5, r6⟩ := h
    rw [q1] at r1; cases r1
    rw [q2] at r2; cases r2
    rw [q3] at r3; cases r3
    rw [q4] at r4; cases r4
    rw [q5] at r5; cases r5
    rw [q6] at r6; cases r6
theorem Fly.pass {X : Cx} {E : XK} (f : Fly X E) : Passes (L2.CX X.prog X.w) X E := fun _ _ _ _ e s' I c => by
  obtain ⟨L, env0, outer0, h1, h2, h3, h⟩ := f.at_
  exact h e s' (XEL.of_call I c)
/-! ### the ground of a body -/
structure CallOk (X : Cx) (cv : Nat → Value) (x : Str) (G : List D → Store → R D) : Prop where
  ok : ∃ (k : Nat) (f : Addr) (fd : FuncData) (ps : List Str), FnOk X.prog X.w X.K X.mg X.base (L2.CX X.prog X.w) k f fd ps (spOf X.K cv G) ∧ Room k X.A ∧ X.mg x = some (.ref f) ∧ PySem.W.keepIn X.K (.ref f) = true ∧ Binds X.K fd ps []
/-- a method, a maker -/
def MM (K : PySem.W.Frag) (mg : Str → Option Value) (c m : Str) (f : Addr) : Prop :=
  if m = "__init__" then Mk K (He.ga K c) f ∧ mg c = some (.ref (He.ga K c)) else Meth K (He.ga K c) m f
/-- what isinstance and == ask of a class of the text -/
structure InsX (K : PySem.W.Frag) (C : Addr) : Prop where
  ins : C8.InsC K C
  ne : PySem.W.findIn K (.ref C) "__ne__" = some (some (.builtin "object.__ne__"))
  ls : PySem.W.kitOne K (.type "list") (.ref C) = some false
structure MethOk (X : Cx) (cv : Nat → Value) (c m : Str) (G : List D → Store → R D) : Prop where
  ok : ∃ (k : Nat) (f : Addr) (fd : FuncData) (ps : List Str), FnOk X.prog X.w X.K X.mg X.base (L2.CX X.prog X.w) k f fd ps (spOf X.K cv G) ∧ Room (k + 1) X.A ∧ Binds X.K fd ps [] ∧ Cls X.K (He.ga X.K c) ∧ MM X.K X.mg c m f
def bltNames : List Str := ["len", "abs", "all", "any", "max", "min", "sum", "tuple", "list", "int", "str", "bool", "isinstance", "range", "enumerate", "zip"]
/-- sc: the scope that is read, ls: the one that is stored to, nm: the defs by number -/
structure Good (X : Cx) (sc ls : Scope) (nm : Nms) (cv : Nat → Value) (F : Nat → List D → Store → R D) (E : XK) : Prop where
  sc : X.env.scope = sc
  kind : X.env.scope.kind = .function
  calm : X.calm = true
  nd : X.N.Nodup
  call : ∀ f x, nm f = some x → CallOk X cv x (F f)
  meth : ∀ f c m, nm.m f = some (c, m) → MethOk X cv c m (F f)
  insc : ∀ c, c ∈ nm.q → InsX X.K (He.ga X.K c) ∧ X.mg c = some (.ref (He.ga X.K c))
  attr : ∀ p, p ∈ nm.a → Cls X.K (He.ga X.K p.1) ∧ NoAttr X.K (He.ga X.K p.1) p.2
  pass : Passes (L2.CX X.prog X.w) X E
  fly : Fly X E
  units : X.A.units + 64 < cLine
  blt : ∀ x ∈ bltNames, X.mg x = none
  st : ∀ x, (ls.names.lookup x = some .local ∨ ls.names.lookup x = some .cell) → Loc X.env.scope x ∧ (X.fn x = true ∨ X.env.scope.names.lookup x = some .local)
end PV
end
section
set_option Elab.async false
set_option linter.all false
set_option maxRecDepth 100000
set_option maxHeartbeats 4000000
namespace PV
open PySem PySem.Spec PyProof.Rows L2
/-! ### tuple * int, the small ones -/
theorem tuple_mulS (l : Addr) (items : Array Value) (n : Nat) (dd : Option Addr) (sl : Array (Option Value)) (x : Int) (u : Tok) (c0 : (decide (x < -(2 ^ 63)) || decide (x ≥ 2 ^ 63)) = false) (c1 : (items.isEmpty || x == 1) = true) :
    Meets (Builtin.«tuple.__mul__» ⟨[.ref l, .int x u], []⟩) (fun _ R s => s.heap.get? l = some { cls := .type "tuple", dict := dd, data := .seq items n, slots := sl } ∧
      R (.ok (.ret (Value.ref l))) s) :=
  .of_wp fun prog w A R s h => by
    obtain ⟨hp, g, d, tk, os⟩ := s
    obtain ⟨hl, h⟩ := h
    have f1 := AutoSeq1.idx_int
    wp_walk using wpAny_loadPart' hl
    refine wpAny_ite_false (decide_eq_false (by rw [c0]; exact Bool.false_ne_true)) ?_
    wp_walk using wpAny_loadPart' hl
    exact ⟨_, rfl, h⟩
theorem tuple_mulZ (l : Addr) (items : Array Value) (n : Nat) (dd : Option Addr) (sl : Array (Option Value)) (x : Int) (u : Tok) (c0 : (decide (x < -(2 ^ 63)) || decide (x ≥ 2 ^ 63)) = false) (c1 : (items.isEmpty || x == 1) = false) (c2 : (decide (x ≤ 0) || items.isEmpty) = true) :
    Meets (Builtin.«tuple.__mul__» ⟨[.ref l, .int x u], []⟩) (fun _ R s => s.heap.get? l = some { cls := .type "tuple", dict := dd, data := .seq items n, slots := sl } ∧
      R (.ok (.ret (Value.ref s.heap.objs.size))) { s with heap := s.heap.push { cls := Value.type "tuple", data := Data.seq #[] }, toks := s.toks }) :=
  .of_wp fun prog w A R s h => by
    obtain ⟨hp, g, d, tk, os⟩ := s
    obtain ⟨hl, h⟩ := h
    have f1 := AutoSeq1.idx_int
    wp_walk using wpAny_loadPart' hl
    refine wpAny_ite_false (decide_eq_false (by rw [c0]; exact Bool.false_ne_true)) ?_
    wp_walk using wpAny_loadPart' hl
    exact ⟨_, rfl, h⟩
/-- tuple * 1 is the tuple; tuple * 0, and less, is empty -/
def rRepS (K : PySem.W.Frag) : R2 := fun x y H Q => ∃ l k xs, x = .ref l ∧ y = .int k ∧ SqT K H l xs ∧ -1000 ≤ k ∧ k ≤ 1000 ∧ ((xs = [] ∨ k = 1) ∧ Q (.ref l) H ∨ (xs ≠ [] ∧ k ≤ 0) ∧ ∀ p, H p = none → Q (.ref p) (upd H p (.tup [])))
section
variable {X : Cx}
theorem op_repS : OpR X (binaryOp .Mult) (rRepS X.K) := by
  intro pins s σ H x y v u Q I rx ry h
  obtain ⟨l, k, xs, rfl, rfl, hT, h1, h2, hq⟩ := h
  cases rx
  obtain ⟨t, rfl⟩ := ry
  obtain ⟨its, r, ⟨⟨cls, dd, data, sl⟩, ho, hc, n, hd⟩, hs⟩ := I.tuple hT
  simp only at hc hd
  subst hc hd
  have hle : its.length = xs.length := r.length.symm
  have c0 : (decide (k < -(2 ^ 63)) || decide (k ≥ 2 ^ 63)) = false := by
    rw [decide_eq_false (by omega), decide_eq_false (by omega)] <;> rfl
  rcases hq with ⟨hz, q⟩ | ⟨⟨hne, hk⟩, q⟩
  · have c1 : (its.toArray.isEmpty || k == 1) = true := by
      rcases hz with hz | hz
      · subst hz
        have : its = [] := List.eq_nil_of_length_eq_zero hle
        subst this
        rfl
      · rw [Bool.or_eq_true]; exact .inr (by rw [hz]; rfl)
    refine wpAny_binaryOp_repeat_ref (T := "tuple") (U := "int") (by decide) ⟨_, ho, rfl⟩ (fun s' => typeIs_int s' k t) noFill_tuple_mul F.fills_int_mul F.slot_int_rmul repeat_tuple F.slot_int_index.lookup
      (call_meets F.slot_int_rmul (typeIs_int s k t) F.entry_int_rmul (F.args_int_rmul_2 _ _) (int_rmul_tuple k t l its.toArray n dd sl)
        ⟨ho, rfl, ⟨_, ho, rfl⟩, call_meets F.slot_tuple_mul ⟨_, ho, rfl⟩ F.entry_tuple_mul (F.args_tuple_mul_2 _ _) (tuple_mulS l its.toArray n dd sl k t c0 c1) ⟨ho, ?_⟩⟩)
    exact ⟨.ref l, H, I, rfl, q⟩
  · have hn : its ≠ [] := fun e => hne (by
      rw [e] at hle
      exact List.eq_nil_of_length_eq_zero hle.symm)
    have hi : its.toArray.isEmpty = false := by
      cases its with
      | nil => exact absurd rfl hn
      | cons a b => rfl
    have c1 : (its.toArray.isEmpty || k == 1) = false := by
      rw [hi, Bool.false_or]
      exact beq_eq_false_iff_ne.mpr (by omega)
    have c2 : (decide (k ≤ 0) || its.toArray.isEmpty) = true := by rw [decide_eq_true hk]; rfl
    refine wpAny_binaryOp_repeat_ref (T := "tuple") (U := "int") (by decide) ⟨_, ho, rfl⟩ (fun s' => typeIs_int s' k t) noFill_tuple_mul F.fills_int_mul F.slot_int_rmul repeat_tuple F.slot_int_index.lookup
      (call_meets F.slot_int_rmul (typeIs_int s k t) F.entry_int_rmul (F.args_int_rmul_2 _ _) (int_rmul_tuple k t l its.toArray n dd sl)
        ⟨ho, rfl, ⟨_, ho, rfl⟩, call_meets F.slot_tuple_mul ⟨_, ho, rfl⟩ F.entry_tuple_mul (F.args_tuple_mul_2 _ _) (tuple_mulZ l its.toArray n dd sl k t c0 c1 c2) ⟨ho, ?_⟩⟩)
    refine ⟨.ref s.heap.objs.size, _, I.laid (t' := s.toks) (o := .tup []) (fun b ob q => Heap.get?_push_of_some _ q) (Nat.le_refl _) ?_, rfl, q _ (I.hok.fresh (Nat.le_refl _))⟩
    exact ⟨Nat.zero_le _, [], .nil, IsTup.new _ _⟩
/-! ### a text, again and again -/
theorem flat_rep {α : Type} (xs : List α) : ∀ k : Nat, (List.replicate k xs.toArray).foldl (· ++ ·) #[] = ((List.replicate k xs).flatten).toArray := by
  have key : ∀ (k : Nat) (acc : Array α), (List.replicate k xs.toArray).foldl (· ++ ·) acc = acc ++ ((List.replicate k xs).flatten).toArray := fun k => by
    induction k with
    | zero => intro acc; simp
    | succ k ih =>
      intro acc
      rw [List.replicate_succ, List.foldl_cons, ih, List.replicate_succ, List.flatten_cons]
      apply Array.ext'
      simp
  intro k
  rw [key]
  apply Array.ext'
  simp
def rRepX : R2 := fun x y H Q => ∃ (a : Str) (k : Int), x = .str a ∧ y = .int k ∧ k ≤ 1000 ∧ -1000 ≤ k ∧ a.length ≤ 1000 ∧ Q (.str (repS a k)) H
theorem op_repX : OpR X (binaryOp .Mult) rRepX := by
  intro pins s σ H x y v u Q I rx ry h
  obtain ⟨a, k, rfl, rfl, h1, h2, h3, q⟩ := h
  obtain ⟨t, rfl⟩ := (show ∃ t, v = Value.str a t from rx)
  obtain ⟨t', rfl⟩ := (show ∃ t', u = Value.int k t' from ry)
  have hmul : a.length * k.toNat ≤ 1000 * 1000 := Nat.mul_le_mul h3 (by omega)
  refine PySem.P.mul_str ?_ ?_ ?_ ?_
  · rw [decide_eq_false (by omega), decide_eq_false (by omega)]; rfl
  · intro h4 _ h5
    have : (1000 : Int) ≤ (2 ^ 63 - 1) / k := by
      rw [Int.le_ediv_iff_mul_le (by omega)]
      omega
    omega
  · intro _ _
    exact PyProof.Rows.short24 (by omega)
  · by_cases h4 : k < 1
    · rw [if_pos h4]
      have e : repS a k = Str.empty := by
        unfold repS rep
        rw [show k.toNat = 0 by omega]
        rfl
      rw [e] at q
      exact ⟨by decide, ⟨.str _, H, I.tok _, ⟨_, rfl⟩, q⟩⟩
    · rw [if_neg h4]
      split
      · rename_i h5
        have e : repS a k = a := by
          unfold repS rep
          rw [Bool.or_eq_true, beq_iff_eq, beq_iff_eq] at h5
          rcases h5 with h5 | h5
          · subst h5
            simp
          · have : a.cps.toList = [] := by
              have : a.cps.size = 0 := h5
              simpa using this
            rw [this, List.flatten_replicate_nil]
            have h6 : a.cps = #[] := by
              have : a.cps.size = 0 := h5
              simpa using this
            cases a
            simp at h6
            subst h6
            rfl
        rw [e] at q
        exact ⟨.str _, H, I, ⟨_, rfl⟩, q⟩
      · have e : repS a k = ⟨(List.replicate k.toNat a.cps).foldl (· ++ ·) #[]⟩ := by
          unfold repS rep
          rw [← flat_rep]
        rw [e] at q
        exact ⟨by
          rw [← e]
          rw [sizeLine_eq]
          show (rep a.cps.toList k).toArray.size ≤ 16777216
          unfold rep
          simp
          have : a.cps.size = a.length := rfl
          rw [this, Nat.mul_comm]
          omega, ⟨.str _, H, I.tok _, ⟨_, rfl⟩, q⟩⟩
/-! ### max of a tuple of ints -/
theorem reads_ints {h : Heap} : ∀ {vs : List Value} {ns : List Int}, IntsAre vs ns → ReadsAll h vs (ns.map PyData.int) []
  | _, _, .nil => .nil
  | _, _, .cons _ _ r => ReadsAll.cons (as := []) (bs := []) (.int _ _) (reads_ints r)
theorem alike_ints (ns : List Int) : PySem.W.AlikeAll (ns.map PyData.int) := by
  refine ⟨fun x hx y hy => ?_, fun x hx => ?_⟩
  · obtain ⟨i, _, rfl⟩ := List.mem_map.mp hx
    obtain ⟨j, _, rfl⟩ := List.mem_map.mp hy
    rfl
  · obtain ⟨i, _, rfl⟩ := List.mem_map.mp hx
    exact fun e => nomatch e
theorem depth_ints : ∀ ns : List Int, PyData.depthAll (ns.map PyData.int) = 0
  | [] => rfl
  | n :: ns => by
    show max (PyData.depth (.int n)) (PyData.depthAll (ns.map PyData.int)) = 0
    rw [depth_ints ns]; rfl
def rMaxT (K : PySem.W.Frag) : List V → Hp → VK → Prop := fun vs H Q => ∃ (a : Addr) (n : Int) (ns : List Int), vs = [V.ref a] ∧ SqT K H a ((n :: ns).map V.int) ∧ Q (.int (ns.foldl max n)) H
theorem cr_maxT (hc : X.calm = true) (hu : X.A.units + 64 < cLine) : CallR X (.builtin "max") (rMaxT X.K) := by
  intro pins s σ H vs us Q I r h
  obtain ⟨a, n, ns, rfl, hs, q⟩ := h
  obtain ⟨its, rv, hT, _⟩ := I.tuple hs
  rw [Vals.ref1 r]
  have hi := rv.ints
  have hr : ReadsAll s.heap its ((n :: ns).map PyData.int) [] := reads_ints hi
  refine PySem.W.max_tuple_data (vs := its.toArray) (I.ok.hd hc) hT (by simpa using hr) (alike_ints (n :: ns)) ?_ fun i v h' tk bs hv hR hk => ?_
  · have := depth_ints (n :: ns)
    rw [show PyData.depthAll (PyData.int n :: ns.map PyData.int) = 0 from this]
    show X.A.units + 1 + 0 < cLine
    omega
  · rw [PySem.W.maxD_ints] at hR
    cases hR
    exact ⟨.int _, H, I.kept hk, ⟨_, rfl⟩, q⟩
end
end PV
end
section
set_option Elab.async false
set_option linter.all false
set_option maxRecDepth 100000
set_option maxHeartbeats 4000000
namespace PV
open PySem PySem.Spec PyProof.Rows L2
theorem line_eq : sizeLine = line := sizeLine_eq
section
variable {K : PySem.W.Frag} {cv : Nat → Value} {E : XK} {H : Hp} {th : Th} {S : Store} {Q : VK}
theorem Post.ok {d : D} (h : Post K cv E H th (.ok d S) Q) (s : Sim K H th S) {v : V} (r : Rep K H th d v) : Q v H := h v H th .refl s r
theorem newL_ok {m : Bool} {xs : List D} {vs : List V} (s : Sim K H th S) (r : RepL K H th xs vs) (h : Post K cv E H th (newL m xs S) Q) : vs.length ≤ sizeLine ∧ ∀ p, H p = none → Q (.ref p) (upd H p (.lst vs)) := by
  unfold newL at h
  by_cases hl : xs.length ≤ line
  · rw [if_pos hl] at h
    refine ⟨by rw [← r.length, line_eq]; exact hl, fun p hp => ?_⟩
    cases m with
    | true =>
      have e : Ext H th (upd H p (.lst vs)) (th.add p) := Ext.newC hp vs
      exact h _ _ _ e (s.newC hp r) (.loc (by show (th.c ++ [p])[S.length]? = some p; rw [← s.len]; simp))
    | false => exact h _ _ _ (Ext.laid hp _) (s.laid hp _) (Rep.laidL s hp r)
  · rw [if_neg hl] at h; exact h.elim
theorem getList_ok {d : D} {v : V} {xs : List D} (s : Sim K H th S) (r : Rep K H th d v) (h : getList S d = some xs) : ∃ a vs, v = .ref a ∧ H a = some (.lst vs) ∧ RepL K H th xs vs := by
  cases r with
  | lst h1 _ _ r => cases h; exact ⟨_, _, rfl, h1, r⟩
  | @loc a n hn =>
    unfold getList at h
    dsimp only at h
    split at h
    · rename_i ys e
      cases h
      obtain ⟨b, vs, h1, h2, h3⟩ := s.at e
      rw [hn] at h1; cases h1
      exact ⟨a, vs, rfl, h2, h3⟩
    · cases h
  | _ => cases h
theorem getSeq_ok {d : D} {v : V} {xs : List D} (s : Sim K H th S) (r : Rep K H th d v) (h : getSeq S d = some xs) : ∃ a vs, v = .ref a ∧ (SqL K H a vs ∨ SqT K H a vs) ∧ RepL K H th xs vs := by
  cases r with
  | tup h1 r => cases h; exact ⟨_, _, rfl, .inr (SqT.of h1), r⟩
  | scr h1 => cases h; exact ⟨_, _, rfl, .inl h1.sq, .ints⟩
  | lst h1 n g r => obtain ⟨a, vs, e, h2, h3⟩ := getList_ok s (.lst h1 n g r) h; exact ⟨a, vs, e, .inl (SqL.of h2), h3⟩
  | loc hn => obtain ⟨a, vs, e, h2, h3⟩ := getList_ok s (.loc hn) h; exact ⟨a, vs, e, .inl (SqL.of h2), h3⟩
  | none => cases h
  | bool _ => cases h
  | int _ => cases h
  | str _ => cases h
theorem truth_ok {d : D} {v : V} {k : Bool} (s : Sim K H th S) (r : Rep K H th d v) (h : truth S d = some k) : TruV K v H k := by
  have seq : ∀ {xs : List D} {a : Addr} {vs : List V}, RepL K H th xs vs → (SqL K H a vs ∨ SqT K H a vs) → k = !xs.isEmpty → TruV K (.ref a) H k := fun {xs a vs} r1 h1 e => by
    have q : (!xs.isEmpty) = !vs.isEmpty := by cases r1 <;> rfl
    rcases h1 with h1 | h1
    · exact .inl ⟨vs, h1, e.trans q⟩
    · exact .inr (.inl ⟨vs, h1, e.trans q⟩)
  cases r with
  | none => exact (Option.some.inj h).symm
  | bool b => exact (Option.some.inj h).symm
  | int i => exact (Option.some.inj h).symm
  | str x =>
    unfold truth at h
    dsimp only at h
    split at h
    · rename_i hl
      refine ⟨by rw [line_eq]; exact hl, ?_⟩
      cases h
      cases hx : x.length with
      | zero => rfl
      | succ n => rfl
    · cases h
  | tup h1 r1 =>
    cases h
    exact seq r1 (.inr (SqT.of h1)) rfl
  | scr h1 =>
    cases h
    exact seq .ints (.inl h1.sq) rfl
  | lst h1 n g r1 =>
    cases h
    exact seq r1 (.inl (SqL.of h1)) rfl
  | @loc a n hn =>
    have h : (getSeq S (.loc n)).map (fun xs => !xs.isEmpty) = some k := h
    cases hg : getSeq S (.loc n) with
    | none => rw [hg] at h; cases h
    | some xs =>
      rw [hg] at h
      obtain ⟨b, vs, e, h2, h3⟩ := getSeq_ok s (.loc hn) hg
      cases e
      exact seq h3 h2 (Option.some.inj h).symm
/-! ### operators -/
def rAddO (K : PySem.W.Frag) : R2 := fun x y H Q => rI0 (fun i j => V.int (i + j)) x y H Q ∨ rCatA K x y H Q ∨ (∃ i j, x = .str i ∧ y = .str j ∧ i.length + j.length ≤ sizeLine ∧ Q (.str (i ++ j)) H) ∨ rCat x y H Q
def rBI (g : Int → Int → Int) : R2 := fun x y H Q => ∃ (p : Bool) (j : Int), x = .bl p ∧ y = .int j ∧ Q (.int (g (if p = true then 1 else 0) j)) H
theorem op_addBI {X : Cx} : OpR X (binaryOp .Add) (rBI fun i j => i + j) := by
  intro pins s σ H x y v u Q I rx ry h
  obtain ⟨i, j, rfl, rfl, q⟩ := h
  cases rx
  obtain ⟨t', rfl⟩ := ry
  exact PySem.IntBool.add_bool_int ⟨.int _, H, I.tok _, ⟨_, rfl⟩, q⟩
theorem op_subBI {X : Cx} : OpR X (binaryOp .Sub) (rBI fun i j => i - j) := by
  intro pins s σ H x y v u Q I rx ry h
  obtain ⟨i, j, rfl, rfl, q⟩ := h
  cases rx
  obtain ⟨t', rfl⟩ := ry
  exact PySem.IntBool.sub_bool_int ⟨.int _, H, I.tok _, ⟨_, rfl⟩, q⟩
def rAddA (K : PySem.W.Frag) : R2 := fun x y H Q => rAddO K x y H Q ∨ rBI (fun i j => i + j) x y H Q
theorem op_addA {X : Cx} : OpR X (binaryOp .Add) (rAddA X.K) := (op_add.or (op_catA.or (op_add_str.or op_cat))).or op_addBI
theorem add_ok {m : Bool} {a b : D} {x y : V} (s : Sim K H th S) (ra : Rep K H th a x) (rb : Rep K H th b y) (h : Post K cv E H th (addD m a b S) Q) : rAddA K x y H Q := by
  have lists : ∀ {a : D} {x : V}, Rep K H th a x → Post K cv E H th (match getList S a, getList S b with
      | some xs, some ys => newL m (xs ++ ys) S
      | _, _ => .err) Q → rAddA K x y H Q := fun {a x} ra h => by
    cases h1 : getList S a with
    | none => rw [h1] at h; exact h.elim
    | some xs =>
      cases h2 : getList S b with
      | none => rw [h1, h2] at h; exact h.elim
      | some ys =>
        rw [h1, h2] at h
        obtain ⟨p, vs, rfl, e1, r1⟩ := getList_ok s ra h1
        obtain ⟨q, ws, rfl, e2, r2⟩ := getList_ok s rb h2
        obtain ⟨hl, hq⟩ := newL_ok s (r1.append r2) h
        rw [List.length_append] at hl
        exact .inl (.inr (.inr (.inr ⟨p, q, vs, ws, rfl, rfl, e1, e2, hl, hq⟩)))
  cases ra with
  | int i =>
    cases rb with
    | int j => exact .inl (.inl ⟨i, j, rfl, rfl, h.ok s (.int _)⟩)
    | _ => exact h.elim
  | str i =>
    cases rb with
    | str j =>
      unfold addD at h
      dsimp only at h
      split at h
      · rename_i hl
        exact .inl (.inr (.inr (.inl ⟨i, j, rfl, rfl, by rw [line_eq]; exact hl, h.ok s (.str _)⟩)))
      · exact h.elim
    | _ => exact h.elim
  | @tup pa xs vs e1 r1 =>
    cases rb with
    | @tup pb ys ws e2 r2 =>
      unfold addD at h
      dsimp only at h
      split at h
      · rename_i hl
        refine .inl (.inr (.inl ⟨pa, pb, vs, ws, rfl, rfl, SqT.of e1, SqT.of e2, by rw [line_eq, ← r1.length, ← r2.length]; exact hl, fun z => ?_, fun _ z => ?_, fun _ _ p hp => ?_⟩))
        · subst z
          cases r1
          exact h.ok s (.tup e2 r2)
        · subst z
          cases r2
          rw [List.append_nil] at h
          exact h.ok s (.tup e1 r1)
        · exact h _ _ _ (Ext.laid hp _) (s.laid hp _) (Rep.laidT hp (r1.append r2))
      · exact h.elim
    | _ => exact h.elim
  | lst e1 n g r1 => exact lists (.lst e1 n g r1) h
  | scr e1 => exact lists (.scr e1) h
  | loc e1 => exact lists (.loc e1) h
  | none => exact lists .none h
  | bool p =>
    cases rb with
    | int j => exact .inr ⟨p, j, rfl, rfl, h.ok s (.int _)⟩
    | _ => exact h.elim
def rMulA (K : PySem.W.Frag) : R2 := fun x y H Q => rI CMulW (fun i j => V.int (i * j)) x y H Q ∨ rRepT K x y H Q ∨ rRep x y H Q ∨ rRepS K x y H Q ∨ rRepX x y H Q
theorem op_mulA {X : Cx} : OpR X (binaryOp .Mult) (rMulA X.K) := op_mulW.or (op_repT.or (op_rep.or (op_repS.or op_repX)))
theorem mul_ok {m : Bool} {a b : D} {x y : V} (s : Sim K H th S) (ra : Rep K H th a x) (rb : Rep K H th b y) (h : Post K cv E H th (mulD m a b S) Q) : rMulA K x y H Q := by
  cases rb with
  | int k =>
    have lists : ∀ {a : D} {x : V}, Rep K H th a x → Post K cv E H th (match getList S a with
      | some xs => if k ≤ 1000 ∧ -1000 ≤ k ∧ xs.length ≤ 1000 then newL m (rep xs k) S else .err
      | none => .err) Q → rMulA K x (.int k) H Q := fun {a x} ra h => by
      cases h1 : getList S a with
      | none => rw [h1] at h; exact h.elim
      | some xs =>
        rw [h1] at h
        dsimp only at h
        split at h
        · rename_i hk
          obtain ⟨p, vs, rfl, e1, r1⟩ := getList_ok s ra h1
          obtain ⟨hl, hq⟩ := newL_ok s (r1.rep k.toNat) h
          refine .inr (.inr (.inl ⟨p, k, vs, rfl, rfl, e1, by omega, by omega, ?_, hq⟩))
          have hv := r1.length
          have : vs.length * k.toNat ≤ 1000 * 1000 := Nat.mul_le_mul (by omega) (by omega)
          rw [line_eq]
          show _ ≤ 16777216
          omega
        · exact h.elim
    cases ra with
    | int i =>
      unfold mulD at h
      dsimp only at h
      split at h
      · rename_i hm
        exact .inl ⟨i, k, rfl, rfl, (show i.natAbs.log2 + k.natAbs.log2 < 1000000 from of_decide_eq_true hm), h.ok s (.int _)⟩
      · exact h.elim
    | @tup pa xs vs e1 r1 =>
      unfold mulD at h
      dsimp only at h
      split at h
      · rename_i hk
        have hv := r1.length
        by_cases hz : xs = [] ∨ k = 1
        · have e : rep xs k = xs := by
            rcases hz with rfl | rfl
            · unfold rep
              rw [List.flatten_replicate_nil]
            · unfold rep
              simp
          rw [e] at h
          have hz' : vs = [] ∨ k = 1 := by
            rcases hz with hz | hz
            · left; subst hz; cases r1; rfl
            · exact .inr hz
          exact .inr (.inr (.inr (.inl ⟨pa, k, vs, rfl, rfl, SqT.of e1, by omega, by omega, .inl ⟨hz', h.ok s (.tup e1 r1)⟩⟩)))
        · rw [not_or] at hz
          have hz' : vs ≠ [] := fun z => by
            subst z
            cases r1
            exact hz.1 rfl
          by_cases h0 : k ≤ 0
          · have e : rep xs k = [] := by
              unfold rep
              rw [show k.toNat = 0 by omega]
              rfl
            rw [e] at h
            exact .inr (.inr (.inr (.inl ⟨pa, k, vs, rfl, rfl, SqT.of e1, by omega, by omega, .inr ⟨⟨hz', h0⟩, fun p hp => h _ _ _ (Ext.laid hp _) (s.laid hp _) (Rep.laidT hp .nil)⟩⟩)))
          · exact .inr (.inl ⟨pa, k, vs, rfl, rfl, SqT.of e1, hz', by omega, hk.1, by omega, fun p hp => h _ _ _ (Ext.laid hp _) (s.laid hp _) (Rep.laidT hp (r1.rep k.toNat))⟩)
      · exact h.elim
    | str a =>
      unfold mulD at h
      dsimp only at h
      split at h
      · rename_i hk
        exact .inr (.inr (.inr (.inr ⟨a, k, rfl, rfl, hk.1, hk.2.1, hk.2.2, h.ok s (.str _)⟩)))
      · exact h.elim
    | lst e1 n g r1 => exact lists (.lst e1 n g r1) h
    | scr e1 => exact lists (.scr e1) h
    | loc e1 => exact lists (.loc e1) h
    | none => exact lists .none h
    | bool _ => exact lists (.bool _) h
  | _ => exact h.elim
def CDivA (_ j : Int) : Prop := j ≠ 0 ∧ j.natAbs.log2 < 9000
theorem op_fdivA {X : Cx} : OpR X (binaryOp .FloorDiv) (rI CDivA fun i j => .int (i.fdiv j)) := opI fun _ _ _ _ _ _ _ hc q => floordiv_int hc.1 q (.inl (PyProof.noPylong_of_log2 hc.2))
def rOf (K : PySem.W.Frag) : Bop → R2
  | .add => rAddA K
  | .sub => fun x y H Q => rI0 (fun i j => V.int (i - j)) x y H Q ∨ rBI (fun i j => i - j) x y H Q
  | .mul => rMulA K
  | .fdiv => rI CDivA fun i j => .int (i.fdiv j)
  | .mod => rI (fun _ j => j ≠ 0) fun i j => .int (i.fmod j)
def opOf : Bop → Operator
  | .add => .Add | .sub => .Sub | .mul => .Mult | .fdiv => .FloorDiv | .mod => .Mod
theorem op_of {X : Cx} : ∀ op : Bop, OpR X (binaryOp (opOf op)) (rOf X.K op)
  | .add => op_addA
  | .sub => op_sub.or op_subBI
  | .mul => op_mulA
  | .fdiv => op_fdivA
  | .mod => op_modN
theorem bin_ok {m : Bool} {op : Bop} {a b : D} {x y : V} (s : Sim K H th S) (ra : Rep K H th a x) (rb : Rep K H th b y) (h : Post K cv E H th (binD m op a b S) Q) : rOf K op x y H Q := by
  cases op with
  | add => exact add_ok s ra rb h
  | mul => exact mul_ok s ra rb h
  | sub =>
    cases ra with
    | int i =>
      cases rb with
      | int j => exact .inl ⟨i, j, rfl, rfl, h.ok s (.int _)⟩
      | _ => exact h.elim
    | bool p =>
      cases rb with
      | int j => exact .inr ⟨p, j, rfl, rfl, h.ok s (.int _)⟩
      | _ => exact h.elim
    | _ => exact h.elim
  | fdiv =>
    cases ra with
    | int i =>
      cases rb with
      | int j =>
        unfold binD at h
        dsimp only at h
        split at h
        · rename_i hk
          unfold divOk at hk
          rw [Bool.and_eq_true] at hk
          exact ⟨i, j, rfl, rfl, ⟨of_decide_eq_true hk.1, of_decide_eq_true hk.2⟩, h.ok s (.int _)⟩
        · exact h.elim
      | _ => exact h.elim
    | _ => exact h.elim
  | mod =>
    cases ra with
    | int i =>
      cases rb with
      | int j =>
        unfold binD at h
        dsimp only at h
        split at h
        · rename_i hk
          exact ⟨i, j, rfl, rfl, hk, h.ok s (.int _)⟩
        · exact h.elim
      | _ => exact h.elim
    | _ => exact h.elim
/-! ### == -/
mutual
def D.py : D → PyData
  | .none => .none
  | .bool b => .bool b
  | .int i => .int i
  | .str s => .str s
  | .tup xs => .tuple (D.pyL xs)
  | .lst xs => .list (D.pyL xs)
  | .scr _ => .none
  | .loc _ => .none
def D.pyL : List D → List PyData
  | [] => []
  | x :: xs => D.py x :: D.pyL xs
end
mutual
theorem eqv_py : ∀ a b : D, a.flat = true → b.flat = true → PyData.eqv a.py b.py = D.eqv a b
  | .none, b, _, hb => by cases b <;> first | rfl | (simp [D.flat] at hb)
  | .bool x, b, _, hb => by cases b <;> first | rfl | (simp [D.flat] at hb)
  | .int x, b, _, hb => by cases b <;> first | rfl | (simp [D.flat] at hb)
  | .str x, b, _, hb => by cases b <;> first | rfl | (simp [D.flat] at hb)
  | .tup xs, b, ha, hb => by
    cases b <;> first | rfl | (simp [D.flat] at hb; done) | skip
    simp only [D.flat] at ha hb
    simp only [D.py, PyData.eqv, D.eqv]
    exact eqv_pyL xs _ ha hb
  | .lst xs, b, ha, hb => by
    cases b <;> first | rfl | (simp [D.flat] at hb; done) | skip
    simp only [D.flat] at ha hb
    simp only [D.py, PyData.eqv, D.eqv]
    exact eqv_pyL xs _ ha hb
  | .scr _, _, ha, _ => by simp [D.flat] at ha
  | .loc _, _, ha, _ => by simp [D.flat] at ha
theorem eqv_pyL : ∀ a b : List D, D.flatL a = true → D.flatL b = true → PyData.eqvAll (D.pyL a) (D.pyL b) = D.eqvL a b
  | [], b, _, hb => by cases b <;> rfl
  | x :: xs, b, ha, hb => by
    cases b with
    | nil => rfl
    | cons y ys =>
      simp only [D.flatL, Bool.and_eq_true] at ha hb
      simp only [D.pyL, PyData.eqvAll, D.eqvL]
      rw [eqv_py x y ha.1 hb.1, eqv_pyL xs ys ha.2 hb.2]
end
mutual
theorem lay_py : ∀ a : D, a.flat = true → PyData.canLay0 a.py = true
  | .none, _ => rfl
  | .bool _, _ => rfl
  | .int _, _ => rfl
  | .str x, h => h
  | .tup xs, h => by simp only [D.py, PyData.canLay0]; exact lay_pyL xs h
  | .lst xs, h => by simp only [D.py, PyData.canLay0]; exact lay_pyL xs h
  | .scr _, _ => rfl
  | .loc _, _ => rfl
theorem lay_pyL : ∀ a : List D, D.flatL a = true → PyData.canLayAll0 (D.pyL a) = true
  | [], _ => rfl
  | x :: xs, h => by
    simp only [D.flatL, Bool.and_eq_true] at h
    simp only [D.pyL, PyData.canLayAll0, lay_py x h.1, lay_pyL xs h.2, Bool.and_self]
end
mutual
theorem dep_py : ∀ a : D, PyData.depth a.py = a.dep
  | .none => rfl
  | .bool _ => rfl
  | .int _ => rfl
  | .str x => rfl
  | .tup xs => by simp only [D.py, PyData.depth, D.dep, dep_pyL xs]
  | .lst xs => by simp only [D.py, PyData.depth, D.dep, dep_pyL xs]
  | .scr _ => rfl
  | .loc _ => rfl
theorem dep_pyL : ∀ a : List D, PyData.depthAll (D.pyL a) = D.depL a
  | [] => rfl
  | x :: xs => by simp only [D.pyL, PyData.depthAll, D.depL, dep_py x, dep_pyL xs]
end
theorem shaped_py {a : D} (h : deepOk a = true) : SeqAt.shaped a.py = true := by
  unfold deepOk at h
  rw [Bool.and_eq_true] at h
  unfold SeqAt.shaped
  rw [Bool.and_eq_true, dep_py]
  exact ⟨lay_py a h.1, h.2⟩
mutual
theorem dp_flat : ∀ {a : D} {x : V}, Rep K H th a x → a.flat = true → Dp K H x a.py
  | _, _, .none, _ => .non
  | _, _, .bool b, _ => .bl b
  | _, _, .int b, _ => .int b
  | _, _, .str b, _ => .str b
  | _, _, .tup h r, f => .tup (SqT.of h) (dp_flatL r f)
  | _, _, .lst h _ _ r, f => .lst (SqL.of h) (dp_flatL r f)
  | _, _, .scr _, f => by simp [D.flat] at f
  | _, _, .loc _, f => by simp [D.flat] at f
theorem dp_flatL : ∀ {as : List D} {xs : List V}, RepL K H th as xs → D.flatL as = true → DpAll K H xs (D.pyL as)
  | _, _, .nil, _ => .nil
  | _, _, .cons r t, f => .cons (dp_flat r (Bool.and_eq_true_iff.mp f).1) (dp_flatL t (Bool.and_eq_true_iff.mp f).2)
end
mutual
theorem dp_step {go : List D → List D} (s : Sim K H th S) (ih : ∀ {as : List D} {xs : List V}, RepL K H th as xs → D.flatL (go as) = true → DpAll K H xs (D.pyL (go as))) :
    ∀ {a : D} {x : V}, Rep K H th a x → (D.frz1 0 S go a).flat = true → Dp K H x (D.frz1 0 S go a).py
  | _, _, .none, _ => .non
  | _, _, .bool b, _ => .bl b
  | _, _, .int b, _ => .int b
  | _, _, .str b, _ => .str b
  | _, _, .tup h r, f => .tup (SqT.of h) (dp_stepL s ih r f)
  | _, _, .lst h _ _ r, f => .lst (SqL.of h) (dp_stepL s ih r f)
  | _, _, .scr _, f => by simp [D.frz1, D.flat] at f
  | _, _, .loc (n := n) hn, f => by
    simp only [D.frz1, Nat.zero_le, if_true] at f ⊢
    cases hs : S[n]? with
    | none => rw [hs] at f; simp [D.flat] at f
    | some c =>
      cases c with
      | ins c fs => rw [hs] at f; simp [D.flat] at f
      | lst ys =>
        rw [hs] at f
        obtain ⟨b, ws, h1, h2, h3⟩ := s.at hs
        rw [hn] at h1; cases h1
        simp only [D.flat] at f
        simp only [D.py]
        exact .lst (SqL.of h2) (ih h3 f)
theorem dp_stepL {go : List D → List D} (s : Sim K H th S) (ih : ∀ {as : List D} {xs : List V}, RepL K H th as xs → D.flatL (go as) = true → DpAll K H xs (D.pyL (go as))) :
    ∀ {as : List D} {xs : List V}, RepL K H th as xs → D.flatL (D.frz1L 0 S go as) = true → DpAll K H xs (D.pyL (D.frz1L 0 S go as))
  | _, _, .nil, _ => .nil
  | _, _, .cons r t, f => .cons (dp_step s ih r (Bool.and_eq_true_iff.mp f).1) (dp_stepL s ih t (Bool.and_eq_true_iff.mp f).2)
end
theorem dp_frzL (s : Sim K H th S) : ∀ (k : Nat) {as : List D} {xs : List V}, RepL K H th as xs → D.flatL (D.frzL 0 S k as) = true → DpAll K H xs (D.pyL (D.frzL 0 S k as))
  | 0, _, _, r, f => dp_flatL r f
  | k + 1, _, _, r, f => dp_stepL s (fun r f => dp_frzL s k r f) r f
theorem dp_frz (s : Sim K H th S) (k : Nat) {a : D} {x : V} (r : Rep K H th a x) (f : (D.frz 0 S k a).flat = true) : Dp K H x (D.frz 0 S k a).py := dp_step s (fun r f => dp_frzL s k r f) r f
theorem eqD_ok {a b : D} {x y : V} {k : Bool} (s : Sim K H th S) (ra : Rep K H th a x) (rb : Rep K H th b y) (h : eqD S a b = some k) : ∃ d e, Dp K H x d ∧ Dp K H y e ∧ SeqAt.shaped d = true ∧ SeqAt.shaped e = true ∧ PyData.eqv d e = k := by
  unfold eqD at h
  dsimp only at h
  split at h
  · rename_i hk
    rw [Bool.and_eq_true] at hk
    have fa : (D.frz 0 S 3 a).flat = true := (Bool.and_eq_true_iff.mp hk.1).1
    have fb : (D.frz 0 S 3 b).flat = true := (Bool.and_eq_true_iff.mp hk.2).1
    exact ⟨_, _, dp_frz s 3 ra fa, dp_frz s 3 rb fb, shaped_py hk.1, shaped_py hk.2, (eqv_py _ _ fa fb).trans (Option.some.inj h)⟩
  · cases h
end
end PV
end
section
set_option Elab.async false
set_option linter.all false
set_option maxRecDepth 100000
set_option maxHeartbeats 4000000
namespace PV
open PySem PySem.Spec PyProof.Rows L2
/-! ### min of a list of pairs of an int and a tuple of ints -/
def pairD (k : List Int) : D := .tup [.int (k.headD 0), .tup (k.tail.map D.int)]
def pairP (k : List Int) : PyData := .tuple [.int (k.headD 0), .tuple (k.tail.map PyData.int)]
def minK (k : List Int) (ks : List (List Int)) : List Int := ks.foldl (fun a y => if lexL y a = true then y else a) k
theorem allInt_map' : ∀ ns : List Int, allInt (ns.map D.int) = some ns
  | [] => rfl
  | n :: ns => by
    show (allInt (ns.map D.int)).map (n :: ·) = _
    rw [allInt_map' ns]; rfl
theorem allInt_eq' : ∀ {xs : List D} {ns : List Int}, allInt xs = some ns → xs = ns.map D.int
  | [], _, h => by cases h; rfl
  | d :: xs, ns, h => by
    cases d <;> first | (cases h; done) | skip
    rename_i i
    have h : (allInt xs).map (i :: ·) = some ns := h
    cases hx : allInt xs with
    | none => rw [hx] at h; cases h
    | some ms =>
      rw [hx] at h
      cases h
      rw [allInt_eq' hx]; rfl
theorem pairK_of {d : D} {k : List Int} (h : pairK d = some k) : d = pairD k ∧ k ≠ [] := by
  unfold pairK at h
  split at h
  · rename_i m xs
    cases hx : allInt xs with
    | none => rw [hx] at h; cases h
    | some ms =>
      rw [hx] at h
      cases h
      exact ⟨by rw [allInt_eq' hx]; rfl, by simp⟩
  · cases h
theorem pairK_pairD {k : List Int} (h : k ≠ []) : pairK (pairD k) = some k := by
  cases k with
  | nil => exact absurd rfl h
  | cons a l =>
    show (allInt (l.map D.int)).map (a :: ·) = _
    rw [allInt_map']; rfl
theorem keyL_pairD {k : List Int} (h : k ≠ []) : keyL (pairD k) = k := by unfold keyL; rw [pairK_pairD h]; rfl
theorem pairs_all : ∀ {n : Nat} {ds : List D}, pairsOk n ds = true → ∃ ks : List (List Int), ds = ks.map pairD ∧ ∀ k, k ∈ ks → k ≠ [] ∧ k.length = n
  | n, [], _ => ⟨[], rfl, fun _ h => nomatch h⟩
  | n, d :: ds, h => by
    simp only [pairsOk, List.all_cons, Bool.and_eq_true] at h
    obtain ⟨ks, e, hk⟩ := pairs_all (n := n) (ds := ds) h.2
    cases hp : pairK d with
    | none => rw [hp] at h; cases h.1
    | some k =>
      rw [hp] at h
      obtain ⟨e2, hne⟩ := pairK_of hp
      refine ⟨k :: ks, by rw [List.map_cons, ← e2, ← e], fun k' hk' => ?_⟩
      rcases List.mem_cons.mp hk' with rfl | hk'
      · exact ⟨hne, by simpa using h.1⟩
      · exact hk k' hk'
theorem pairs_of {n : Nat} {d : D} {ds : List D} (h : pairsOk n (d :: ds) = true) : ∃ (k : List Int) (ks : List (List Int)), d = pairD k ∧ ds = ks.map pairD ∧ ∀ j, j ∈ k :: ks → j ≠ [] ∧ j.length = k.length := by
  obtain ⟨l, e, hl⟩ := pairs_all h
  cases l with
  | nil => cases e
  | cons k ks =>
    cases e
    exact ⟨k, ks, rfl, rfl, fun j hj => ⟨(hl j hj).1, (hl j hj).2.trans (hl k List.mem_cons_self).2.symm⟩⟩
theorem pyL_ints : ∀ ns : List Int, D.pyL (ns.map D.int) = ns.map PyData.int
  | [] => rfl
  | n :: ns => by
    show D.py (.int n) :: D.pyL (ns.map D.int) = _
    rw [pyL_ints ns]; rfl
theorem py_pair (k : List Int) : D.py (pairD k) = pairP k := by
  show PyData.tuple [.int (k.headD 0), .tuple (D.pyL (k.tail.map D.int))] = _
  rw [pyL_ints]; rfl
theorem pyL_pairs : ∀ ks : List (List Int), D.pyL (ks.map pairD) = ks.map pairP
  | [] => rfl
  | k :: ks => by
    show D.py (pairD k) :: D.pyL (ks.map pairD) = _
    rw [py_pair, pyL_pairs ks]; rfl
theorem flat_ints : ∀ ns : List Int, D.flatL (ns.map D.int) = true
  | [] => rfl
  | n :: ns => by
    show (D.flat (.int n) && D.flatL (ns.map D.int)) = true
    rw [flat_ints ns]; rfl
theorem flat_pairs : ∀ ks : List (List Int), D.flatL (ks.map pairD) = true
  | [] => rfl
  | k :: ks => by
    show ((true && (D.flatL (k.tail.map D.int) && true)) && D.flatL (ks.map pairD)) = true
    rw [flat_ints, flat_pairs ks]; rfl
theorem alike_int2 : ∀ xs ys : List Int, PySem.W.alikeAll (xs.map PyData.int) (ys.map PyData.int) = true
  | [], ys => by
    show PySem.W.alikeAll [] _ = true
    unfold PySem.W.alikeAll; rfl
  | x :: xs, [] => by
    show PySem.W.alikeAll (.int x :: xs.map PyData.int) [] = true
    unfold PySem.W.alikeAll; rfl
  | x :: xs, y :: ys => by
    show PySem.W.alikeAll (.int x :: xs.map PyData.int) (.int y :: ys.map PyData.int) = true
    unfold PySem.W.alikeAll
    rw [alike_int2 xs ys]
    unfold PySem.W.alike; rfl
theorem alike_pairs {k : List Int} {ks : List (List Int)} (hk : ∀ j, j ∈ k :: ks → j ≠ [] ∧ j.length = k.length) : PySem.W.AlikeAll (pairP k :: ks.map pairP) := by
  have hall : ∀ x, x ∈ pairP k :: ks.map pairP → ∃ j, x = pairP j := fun x hx => by
    rcases List.mem_cons.mp hx with rfl | hx
    · exact ⟨k, rfl⟩
    · obtain ⟨j, _, rfl⟩ := List.mem_map.mp hx
      exact ⟨j, rfl⟩
  refine ⟨fun x hx y hy => ?_, fun x hx => ?_⟩
  · obtain ⟨i, rfl⟩ := hall x hx
    obtain ⟨j, rfl⟩ := hall y hy
    show PySem.W.alike (.tuple [.int _, .tuple (i.tail.map PyData.int)]) (.tuple [.int _, .tuple (j.tail.map PyData.int)]) = true
    simp only [PySem.W.alike, PySem.W.alikeAll, alike_int2, Bool.and_self]
  · obtain ⟨i, rfl⟩ := hall x hx
    unfold pairP
    exact fun e => by cases e
theorem dep_int : ∀ ns : List Int, PyData.depthAll (ns.map PyData.int) = 0
  | [] => rfl
  | n :: ns => by
    show max (PyData.depth (.int n)) (PyData.depthAll (ns.map PyData.int)) = 0
    rw [dep_int ns]; rfl
theorem dep_pair (k : List Int) : PyData.depth (pairP k) ≤ 2 := by
  show PyData.depth (.tuple [.int (k.headD 0), .tuple (k.tail.map PyData.int)]) ≤ 2
  simp only [PyData.depth, PyData.depthAll, dep_int]
  decide
theorem depth_pairs (k : List Int) (ks : List (List Int)) : PyData.depthAll (pairP k :: ks.map pairP) ≤ 2 := by
  have : ∀ l : List (List Int), PyData.depthAll (l.map pairP) ≤ 2 := fun l => by
    induction l with
    | nil => exact Nat.zero_le _
    | cons j l ih =>
      show max (PyData.depth (pairP j)) (PyData.depthAll (l.map pairP)) ≤ 2
      have := dep_pair j
      omega
  exact this (k :: ks)
theorem lay_pairs (k : List Int) (ks : List (List Int)) : ∀ d, d ∈ pairP k :: ks.map pairP → PyData.canLay0 d = true := by
  intro d hd
  obtain ⟨j, rfl⟩ : ∃ j, d = pairP j := by
    rcases List.mem_cons.mp hd with rfl | hd
    · exact ⟨k, rfl⟩
    · obtain ⟨j, _, rfl⟩ := List.mem_map.mp hd
      exact ⟨j, rfl⟩
  rw [← py_pair]
  have := flat_pairs [j]
  exact lay_py (pairD j) (by simpa [D.flatL] using this)
theorem lex_ints : ∀ (xs ys : List Int), xs.length = ys.length → ∀ t : List (Int ⊕ List Nat), PyProof.Rows.lexLt PyProof.Rows.itemOrd t t = false → PyProof.Rows.lexLt PyProof.Rows.itemOrd (PySem.W.keyToksAll (xs.map PyData.int) ++ t) (PySem.W.keyToksAll (ys.map PyData.int) ++ t) = lexL xs ys
  | [], [], _, t, ht => by
    show PyProof.Rows.lexLt PyProof.Rows.itemOrd (PySem.W.keyToksAll [] ++ t) (PySem.W.keyToksAll [] ++ t) = false
    rw [PySem.W.lex_pre]; exact ht
  | [], _ :: _, h, _, _ => by cases h
  | _ :: _, [], h, _, _ => by cases h
  | x :: xs, y :: ys, h, t, ht => by
    have ih := lex_ints xs ys (by simpa using h) t ht
    have e : ∀ (z : Int) (zs : List Int), PySem.W.keyToksAll ((z :: zs).map PyData.int) ++ t = [Sum.inl 1] ++ (Sum.inl z :: (PySem.W.keyToksAll (zs.map PyData.int) ++ t)) := fun z zs => by
      show PySem.W.keyToksAll (PyData.int z :: zs.map PyData.int) ++ t = _
      rw [PySem.W.toks_all_cons]
      have : PySem.W.keyToks (.int z) = [Sum.inl z] := by unfold PySem.W.keyToks; rfl
      rw [this]; rfl
    rw [e, e, PySem.W.lex_pre]
    by_cases hxy : x = y
    · subst hxy
      have := PySem.W.lex_pre [Sum.inl x] (PySem.W.keyToksAll (xs.map PyData.int) ++ t) (PySem.W.keyToksAll (ys.map PyData.int) ++ t)
      rw [show (Sum.inl x :: (PySem.W.keyToksAll (xs.map PyData.int) ++ t)) = [Sum.inl x] ++ (PySem.W.keyToksAll (xs.map PyData.int) ++ t) from rfl, show (Sum.inl x :: (PySem.W.keyToksAll (ys.map PyData.int) ++ t)) = [Sum.inl x] ++ (PySem.W.keyToksAll (ys.map PyData.int) ++ t) from rfl, this, ih]
      simp [lexL]
    · rw [PySem.W.lex_atom (fun e => hxy (Sum.inl.inj e))]
      have h2 : PyProof.Rows.lexLt PyProof.Rows.itemOrd [Sum.inl x] [Sum.inl y] = decide (x < y) := by
        have := PySem.W.dataLt_int x y
        unfold PySem.W.dataLt PySem.W.keyToks at this
        exact this
      rw [h2]
      unfold lexL
      by_cases hlt : x < y
      · simp [hlt]
      · simp [hlt, hxy]
theorem lt_pairs {i j : List Int} (hi : i ≠ []) (hj : j ≠ []) (h : i.length = j.length) : PySem.W.dataLt (pairP i) (pairP j) = lexL i j := by
  cases i with
  | nil => exact absurd rfl hi
  | cons a as =>
    cases j with
    | nil => exact absurd rfl hj
    | cons b bs =>
      have e : ∀ (z : Int) (zs : List Int), PySem.W.keyToks (pairP (z :: zs)) = [Sum.inl 1] ++ (Sum.inl z :: ([Sum.inl 1] ++ (PySem.W.keyToksAll (zs.map PyData.int) ++ [Sum.inl 0]))) := fun z zs => by
        show PySem.W.keyToks (.tuple [.int z, .tuple (zs.map PyData.int)]) = _
        simp only [PySem.W.keyToks, PySem.W.keyToksAll]
        rfl
      unfold PySem.W.dataLt
      rw [e, e, PySem.W.lex_pre]
      by_cases hab : a = b
      · subst hab
        have := PySem.W.lex_pre [Sum.inl a] ([Sum.inl 1] ++ (PySem.W.keyToksAll (as.map PyData.int) ++ [Sum.inl 0])) ([Sum.inl 1] ++ (PySem.W.keyToksAll (bs.map PyData.int) ++ [Sum.inl 0]))
        refine this.trans ?_
        rw [PySem.W.lex_pre, lex_ints as bs (by simpa using h) [Sum.inl 0] (by
          have := PySem.W.lex_pre [Sum.inl 0] [] []
          exact this)]
        simp [lexL]
      · rw [PySem.W.lex_atom (fun e => hab (Sum.inl.inj e))]
        have h2 : PyProof.Rows.lexLt PyProof.Rows.itemOrd [Sum.inl a] [Sum.inl b] = decide (a < b) := by
          have := PySem.W.dataLt_int a b
          unfold PySem.W.dataLt PySem.W.keyToks at this
          exact this
        rw [h2]
        unfold lexL
        by_cases hlt : a < b
        · simp [hlt]
        · simp [hlt, hab]
theorem minK_mem (n : Nat) : ∀ (ks : List (List Int)) (k : List Int), (∀ j, j ∈ k :: ks → j ≠ [] ∧ j.length = n) → minK k ks ≠ [] ∧ (minK k ks).length = n
  | [], k, h => h k List.mem_cons_self
  | j :: ks, k, h => by
    show minK (if lexL j k = true then j else k) ks ≠ [] ∧ _
    refine minK_mem n ks _ fun i hi => ?_
    rcases List.mem_cons.mp hi with rfl | hi
    · split
      · exact h j (List.mem_cons_of_mem _ List.mem_cons_self)
      · exact h k List.mem_cons_self
    · exact h i (List.mem_cons_of_mem _ (List.mem_cons_of_mem _ hi))
theorem minK_ne {k : List Int} {ks : List (List Int)} (h : ∀ j, j ∈ k :: ks → j ≠ [] ∧ j.length = k.length) : minK k ks ≠ [] := (minK_mem k.length ks k h).1
theorem minD_all (n : Nat) : ∀ (ks : List (List Int)) (k : List Int), (∀ j, j ∈ k :: ks → j ≠ [] ∧ j.length = n) → PySem.W.minD (pairP k) (ks.map pairP) = pairP (minK k ks) ∧ minP (pairD k) (ks.map pairD) = pairD (minK k ks)
  | [], k, h => ⟨rfl, rfl⟩
  | j :: ks, k, h => by
    have hk := h k List.mem_cons_self
    have hj := h j (List.mem_cons_of_mem _ List.mem_cons_self)
    have ih := minD_all n ks (if lexL j k = true then j else k) fun i hi => by
      rcases List.mem_cons.mp hi with rfl | hi
      · split
        · exact hj
        · exact hk
      · exact h i (List.mem_cons_of_mem _ (List.mem_cons_of_mem _ hi))
    constructor
    · show PySem.W.minD (if PySem.W.dataLt (pairP j) (pairP k) = true then pairP j else pairP k) (ks.map pairP) = pairP (minK (if lexL j k = true then j else k) ks)
      rw [lt_pairs hj.1 hk.1 (hj.2.trans hk.2.symm), ← ih.1]
      congr 1
      split <;> rfl
    · show minP (if lexL (keyL (pairD j)) (keyL (pairD k)) = true then pairD j else pairD k) (ks.map pairD) = pairD (minK (if lexL j k = true then j else k) ks)
      rw [keyL_pairD hj.1, keyL_pairD hk.1, ← ih.2]
      congr 1
      split <;> rfl
theorem minD_pairs (k : List Int) (ks : List (List Int)) (h : ∀ j, j ∈ k :: ks → j ≠ [] ∧ j.length = k.length) : PySem.W.minD (pairP k) (ks.map pairP) = pairP (minK k ks) := (minD_all k.length ks k h).1
theorem minP_pairs (k : List Int) (ks : List (List Int)) (h : ∀ j, j ∈ k :: ks → j ≠ [] ∧ j.length = k.length) : minP (pairD k) (ks.map pairD) = pairD (minK k ks) := (minD_all k.length ks k h).2
theorem map_int_inj : ∀ {a b : List Int}, a.map PyData.int = b.map PyData.int → a = b
  | [], [], _ => rfl
  | [], _ :: _, h => by cases h
  | _ :: _, [], h => by cases h
  | x :: a, y :: b, h => by
    rw [List.map_cons, List.map_cons] at h
    injection h with h1 h2
    injection h1 with h1
    rw [h1, map_int_inj h2]
theorem pairP_inj {i j : List Int} (hi : i ≠ []) (hj : j ≠ []) (h : pairP i = pairP j) : i = j := by
  cases i with
  | nil => exact absurd rfl hi
  | cons a as =>
    cases j with
    | nil => exact absurd rfl hj
    | cons b bs =>
      unfold pairP at h
      injection h with h
      injection h with h1 h2
      injection h1 with h1
      injection h2 with h2
      injection h2 with h2
      have h1 : a = b := h1
      have h2 : as.map PyData.int = bs.map PyData.int := h2
      rw [h1, map_int_inj h2]
def rMinP (K : PySem.W.Frag) : List V → Hp → VK → Prop := fun vs H Q => ∃ (a : Addr) (ws : List V) (x : PyData) (xs : List PyData), vs = [V.ref a] ∧ SqL K H a ws ∧ DpAll K H ws (x :: xs) ∧ PySem.W.AlikeAll (x :: xs) ∧ PyData.depthAll (x :: xs) ≤ 2 ∧ (∀ d, d ∈ x :: xs → PyData.canLay0 d = true) ∧ ∀ (i : Nat) (v : V), ws[i]? = some v → (x :: xs)[i]? = some (PySem.W.minD x xs) → Q v H
theorem vals_get : ∀ {ws : List V} {us : List Value} {i : Nat} {u : Value}, Vals ws us → us[i]? = some u → ∃ w, ws[i]? = some w ∧ RelV w u
  | _, _, i, u, .nil, h => by simp at h
  | _, _, 0, u, .cons r _, h => by
    simp at h; subst h
    exact ⟨_, rfl, r⟩
  | _, _, i + 1, u, .cons _ rs, h => by
    obtain ⟨w, h1, h2⟩ := vals_get (i := i) rs (by simpa using h)
    exact ⟨w, by simpa using h1, h2⟩
theorem cr_minP {X : Cx} (hc : X.calm = true) (hu : X.A.units + 64 < cLine) : CallR X (.builtin "min") (rMinP X.K) := by
  intro pins s σ H vs us Q I r h
  obtain ⟨a, ws, x, xs, rfl, hs, hd, hal, hdp, hlay, q⟩ := h
  obtain ⟨its, rv, hl, _⟩ := I.list hs
  rw [Vals.ref1 r]
  obtain ⟨as, hr⟩ := Dp.readsAll I (x :: xs) ws its hd rv
  refine PySem.W.min_list_data (vs := its.toArray) (I.ok.hd hc) hl.isList (by simpa using hr) hal ?_ fun i v h' tk bs hv hR hk => ?_
  · show X.A.units + 1 + _ < cLine
    omega
  · have hv : its[i]? = some v := by simpa using hv
    obtain ⟨bs', r1, hlt, hmem, _⟩ := PySem.W.readsAll_at hr i v hv
    have r2 := PySem.W.reads_keeps hk r1
    have e := (Reads.unique r2 _ _ hR).1
    obtain ⟨w, hw, rw'⟩ := vals_get rv hv
    refine ⟨w, H, I.kept hk, rw', q i w hw ?_⟩
    rw [List.getD_eq_getElem?_getD] at e
    rw [List.getElem?_eq_getElem hlt] at e ⊢
    simpa using e
end PV
end
section
set_option Elab.async false
set_option linter.all false
set_option maxRecDepth 100000
set_option maxHeartbeats 4000000
namespace PV
open PySem PySem.Spec PyProof.Rows L2
def copOf : Cop → CmpOp
  | .lt => .Lt | .le => .LtE | .gt => .Gt | .ge => .GtE | .eq => .Eq | .ne => .NotEq | .is => .Is | .isnot => .IsNot | .mem => .In | .notmem => .NotIn
def rCmp (K : PySem.W.Frag) : Cop → R2
  | .lt => rI0 fun i j => .bl (decide (i < j))
  | .le => fun x y H Q => rI0 (fun i j => .bl (decide (i ≤ j))) x y H Q ∨ ∃ i j, x = .str i ∧ y = .str j ∧ Q (.bl (!decide (j.cps.toList < i.cps.toList))) H
  | .gt => rI0 fun i j => .bl (decide (j < i))
  | .ge => rI0 fun i j => .bl (decide (j ≤ i))
  | .eq => rEqD K
  | .ne => rNeD K
  | .is => fun x y H Q => y = .non ∧ Q (.bl (decide (x = .non))) H
  | .isnot => fun x y H Q => y = .non ∧ Q (.bl (!decide (x = .non))) H
  | .mem => rIn K false
  | .notmem => rIn K true
theorem cmp_of {X : Cx} (hu : X.A.units + 64 < cLine) : ∀ op : Cop, OpR X (compareOp (copOf op)) (rCmp X.K op)
  | .lt => op_lt
  | .le => op_le.or op_le_str
  | .gt => op_gt
  | .ge => op_ge
  | .eq => op_eqD hu
  | .ne => op_neD hu
  | .is => op_isN
  | .isnot => op_notN
  | .mem => op_in_seq
  | .notmem => op_notIn_seq
section
variable {K : PySem.W.Frag} {cv : Nat → Value} {E : XK} {H : Hp} {th : Th} {S : Store} {Q : VK}
theorem scalar_flat {a : D} {x : V} (r : Rep K H th a x) (h : scalar a = true) : flatV x = true := by
  cases r <;> first | rfl | (simp [scalar] at h)
theorem scalar_all : ∀ {xs : List D} {vs : List V}, RepL K H th xs vs → xs.all scalar = true → vs.all flatV = true
  | _, _, .nil, _ => rfl
  | _, _, .cons r t, h => by
    simp only [List.all_cons, Bool.and_eq_true] at h ⊢
    exact ⟨scalar_flat r h.1, scalar_all t h.2⟩
theorem scalar_eq {a b : D} {x y : V} (r : Rep K H th a x) (q : Rep K H th b y) (h : scalar a = true) (h' : scalar b = true) : eqV x y = D.eqv a b := by
  cases r <;> first | (simp [scalar] at h; done) | (cases q <;> first | rfl | (simp [scalar] at h'))
theorem scalar_any {b : D} {y : V} (q : Rep K H th b y) (h' : scalar b = true) : ∀ {xs : List D} {vs : List V}, RepL K H th xs vs → xs.all scalar = true → inV y vs = xs.any fun z => D.eqv z b
  | _, _, .nil, _ => rfl
  | _, _, .cons (vs := vs) r t, h => by
    simp only [List.all_cons, Bool.and_eq_true] at h
    have ih := scalar_any q h' t h.2
    unfold inV at ih ⊢
    rw [List.any_cons, List.any_cons, scalar_eq r q h.1 h', ih]
theorem mem_ok {a b : D} {x y : V} {k neg : Bool} (s : Sim K H th S) (ra : Rep K H th a x) (rb : Rep K H th b y) (h : memD S a b = some k) (q : Q (.bl (if neg then !k else k)) H) : rIn K neg x y H Q := by
  unfold memD at h
  cases hg : getSeq S b with
  | none => rw [hg] at h; cases h
  | some xs =>
    rw [hg] at h
    dsimp only at h
    split at h
    · rename_i hk
      rw [Bool.and_eq_true] at hk
      obtain ⟨p, vs, rfl, h1, h2⟩ := getSeq_ok s rb hg
      refine ⟨p, vs, rfl, h1, scalar_flat ra hk.1, scalar_all h2 hk.2, ?_⟩
      rw [scalar_any ra hk.1 h2 hk.2]
      cases h
      exact q
    · cases h
theorem cmp_ok {op : Cop} {a b : D} {x y : V} {k : Bool} (s : Sim K H th S) (ra : Rep K H th a x) (rb : Rep K H th b y) (h : cmpD op a b S = some k) (q : Q (.bl k) H) : rCmp K op x y H Q := by
  cases op with
  | lt =>
    cases ra with
    | int i => cases rb with
      | int j => cases h; exact ⟨i, j, rfl, rfl, q⟩
      | _ => cases h
    | _ => cases h
  | le =>
    cases ra with
    | int i => cases rb with
      | int j => cases h; exact .inl ⟨i, j, rfl, rfl, q⟩
      | _ => cases h
    | str i => cases rb with
      | str j => cases h; exact .inr ⟨i, j, rfl, rfl, q⟩
      | _ => cases h
    | _ => cases h
  | gt =>
    cases ra with
    | int i => cases rb with
      | int j => cases h; exact ⟨i, j, rfl, rfl, q⟩
      | _ => cases h
    | _ => cases h
  | ge =>
    cases ra with
    | int i => cases rb with
      | int j => cases h; exact ⟨i, j, rfl, rfl, q⟩
      | _ => cases h
    | _ => cases h
  | eq =>
    obtain ⟨d, e, h1, h2, h3, h4, rfl⟩ := eqD_ok s ra rb h
    exact ⟨d, e, h1, h2, h3, h4, q⟩
  | ne =>
    have h : (eqD S a b).map not = some k := h
    cases he : eqD S a b with
    | none => rw [he] at h; cases h
    | some k' =>
      rw [he] at h
      cases h
      obtain ⟨d, e, h1, h2, h3, h4, rfl⟩ := eqD_ok s ra rb he
      exact ⟨d, e, h1, h2, h3, h4, q⟩
  | is =>
    cases rb with
    | none =>
      refine ⟨rfl, ?_⟩
      have h := Option.some.inj h
      subst h
      cases ra <;> exact q
    | _ => cases h
  | isnot =>
    cases rb with
    | none =>
      refine ⟨rfl, ?_⟩
      have h := Option.some.inj h
      subst h
      cases ra <;> exact q
    | _ => cases h
  | mem => exact mem_ok (neg := false) s ra rb h q
  | notmem =>
    have h : (memD S a b).map not = some k := h
    cases he : memD S a b with
    | none => rw [he] at h; cases h
    | some k' =>
      rw [he] at h
      cases h
      exact mem_ok (neg := true) s ra rb he q
/-! ### isinstance -/
def tyOf : Ty → String
  | .int => "int" | .bool => "bool" | .tuple => "tuple" | .list => "list" | .str => "str"
theorem kit_all : ∀ t : Ty, kitB "NoneType" (tyOf t) = some false ∧ kitB "bool" (tyOf t) = some (t == .bool || t == .int) ∧ kitB "int" (tyOf t) = some (t == .int) ∧ kitB "str" (tyOf t) = some (t == .str) ∧
    kitB "tuple" (tyOf t) = some (t == .tuple) ∧ kitB "list" (tyOf t) = some (t == .list)
  | .int => by decide +kernel
  | .bool => by decide +kernel
  | .tuple => by decide +kernel
  | .list => by decide +kernel
  | .str => by decide +kernel
theorem isi_ok {a : D} {x : V} {t : Ty} {k : Bool} (s : Sim K H th S) (ra : Rep K H th a x) (h : PV.isi S a t = some k) : ∃ T, TyX K H x (.type T) ∧ PySem.W.kitOne K (.type T) (.type (tyOf t)) = some k := by
  obtain ⟨k0, k1, k2, k3, k4, k5⟩ := kit_all t
  cases ra with
  | none => cases h; exact ⟨_, .base .non, kit_ty k0⟩
  | bool b => cases h; exact ⟨_, .base (.bl b), kit_ty k1⟩
  | int b => cases h; exact ⟨_, .base (.int b), kit_ty k2⟩
  | str b => cases h; exact ⟨_, .base (.str b), kit_ty k3⟩
  | tup e _ => cases h; exact ⟨_, .base (.tup e), kit_ty k4⟩
  | lst e _ _ _ => cases h; exact ⟨_, .base (.lst e), kit_ty k5⟩
  | scr e =>
    cases h
    rcases e with ⟨o, e⟩ | ⟨o, its, n, e, c, _⟩
    · exact ⟨_, .base (.frz e), kit_ty k5⟩
    · exact ⟨_, .kList e c, kit_ty k5⟩
  | @loc p n hn =>
    unfold PV.isi at h
    dsimp only at h
    cases hs : S[n]? with
    | none => rw [hs] at h; cases h
    | some c =>
      rw [hs] at h
      cases c with
      | ins c fs => cases h
      | lst ys =>
        cases h
        obtain ⟨b, ws, h1, h2, h3⟩ := s.at hs
        rw [hn] at h1; cases h1
        exact ⟨_, .base (.lst h2), kit_ty k5⟩
/-! ### built-in functions -/
theorem allInt_eq : ∀ {xs : List D} {ns : List Int}, allInt xs = some ns → xs = ns.map D.int
  | [], ns, h => by cases h; rfl
  | x :: r, ns, h => by
    cases x with
    | int i =>
      have h : (allInt r).map (i :: ·) = some ns := h
      cases hr : allInt r with
      | none => rw [hr] at h; cases h
      | some ms => rw [hr] at h; cases h; rw [allInt_eq hr]; rfl
    | _ => cases h
theorem allBool_eq : ∀ {xs : List D} {ns : List Bool}, allBool xs = some ns → xs = ns.map D.bool
  | [], ns, h => by cases h; rfl
  | x :: r, ns, h => by
    cases x with
    | bool i =>
      have h : (allBool r).map (i :: ·) = some ns := h
      cases hr : allBool r with
      | none => rw [hr] at h; cases h
      | some ms => rw [hr] at h; cases h; rw [allBool_eq hr]; rfl
    | _ => cases h
theorem ints_V : ∀ {ns : List Int} {vs : List V}, RepL K H th (ns.map D.int) vs → vs = ns.map V.int
  | [], _, .nil => rfl
  | i :: ns, _, .cons r t => by cases r; rw [ints_V t]; rfl
theorem bools_V : ∀ {ns : List Bool} {vs : List V}, RepL K H th (ns.map D.bool) vs → vs = ns.map V.bl
  | [], _, .nil => rfl
  | i :: ns, _, .cons r t => by cases r; rw [bools_V t]; rfl
theorem maxL_spec : ∀ (r : List Int) (m : Int), (maxL r m = m ∨ maxL r m ∈ r) ∧ m ≤ maxL r m ∧ ∀ y ∈ r, y ≤ maxL r m
  | [], m => ⟨.inl rfl, Int.le_refl _, fun _ h => nomatch h⟩
  | x :: r, m => by
    unfold maxL
    by_cases hx : m < x
    · rw [if_pos hx]
      obtain ⟨h1, h2, h3⟩ := maxL_spec r x
      refine ⟨.inr ?_, by omega, fun y hy => ?_⟩
      · rcases h1 with h1 | h1
        · rw [h1]; exact List.mem_cons_self
        · exact List.mem_cons_of_mem _ h1
      · rcases List.mem_cons.mp hy with rfl | hy
        · exact h2
        · exact h3 y hy
    · rw [if_neg hx]
      obtain ⟨h1, h2, h3⟩ := maxL_spec r m
      refine ⟨?_, h2, fun y hy => ?_⟩
      · rcases h1 with h1 | h1
        · exact .inl h1
        · exact .inr (List.mem_cons_of_mem _ h1)
      · rcases List.mem_cons.mp hy with rfl | hy
        · omega
        · exact h3 y hy
theorem minL_spec : ∀ (r : List Int) (m : Int), (minL r m = m ∨ minL r m ∈ r) ∧ minL r m ≤ m ∧ ∀ y ∈ r, minL r m ≤ y
  | [], m => ⟨.inl rfl, Int.le_refl _, fun _ h => nomatch h⟩
  | x :: r, m => by
    unfold minL
    by_cases hx : x < m
    · rw [if_pos hx]
      obtain ⟨h1, h2, h3⟩ := minL_spec r x
      refine ⟨.inr ?_, by omega, fun y hy => ?_⟩
      · rcases h1 with h1 | h1
        · rw [h1]; exact List.mem_cons_self
        · exact List.mem_cons_of_mem _ h1
      · rcases List.mem_cons.mp hy with rfl | hy
        · exact h2
        · exact h3 y hy
    · rw [if_neg hx]
      obtain ⟨h1, h2, h3⟩ := minL_spec r m
      refine ⟨?_, h2, fun y hy => ?_⟩
      · rcases h1 with h1 | h1
        · exact .inl h1
        · exact .inr (List.mem_cons_of_mem _ h1)
      · rcases List.mem_cons.mp hy with rfl | hy
        · omega
        · exact h3 y hy
theorem numS_ok {a : Str} {n : Int} (h : numS a = some n) : PySem.intText? a = some n ∧ a.length ≤ 640 := by
  unfold numS at h
  split at h
  · rename_i hk
    rw [Bool.and_eq_true, Bool.and_eq_true] at hk
    obtain ⟨⟨h1, h2⟩, h3⟩ := hk
    have h3 := of_decide_eq_true h3
    cases h
    refine ⟨?_, h3⟩
    have := SX.int_S (a := a.cps.toList) h1 (fun e => by rw [e] at h2; cases h2) (by have : a.cps.toList.length = a.length := Array.length_toList; omega)
    exact this
  · cases h
def biName : Bi → Str
  | .len => "len" | .abs => "abs" | .all => "all" | .any => "any" | .max => "max" | .min => "min" | .sum => "sum" | .tuple => "tuple" | .list => "list" | .int => "int" | .str => "str" | .max2 => "max" | .min2 => "min" | .minp => "min"
def biVal : Bi → Value
  | .len => .builtin "len" | .abs => .builtin "abs" | .all => .builtin "all" | .any => .builtin "any" | .max => .builtin "max" | .min => .builtin "min" | .sum => .builtin "sum" | .tuple => .type "tuple" | .list => .type "list" | .int => .type "int" | .str => .type "str" | .max2 => .builtin "max" | .min2 => .builtin "min" | .minp => .builtin "min"
def rBi (K : PySem.W.Frag) : Bi → List V → Hp → VK → Prop
  | .len => fun xs H Q => ∃ x n, xs = [x] ∧ LenV K x H n ∧ Q (.int n) H
  | .abs => fun xs H Q => ∃ i, xs = [.int i] ∧ Q (.int (if i < 0 then -i else i)) H
  | .all => rAll K
  | .any => rAny K
  | .max => fun xs H Q => rMax K xs H Q ∨ rMaxT K xs H Q
  | .min => rMin K
  | .sum => rSum K
  | .tuple => fun xs H Q => ∃ p ys, xs = [.ref p] ∧ ((SqL K H p ys ∧ ∀ l, H l = none → Q (.ref l) (upd H l (.tup ys))) ∨ (SqT K H p ys ∧ Q (.ref p) H))
  | .list => fun xs H Q => ∃ p ys, xs = [.ref p] ∧ (SqL K H p ys ∨ SqT K H p ys) ∧ ∀ l, H l = none → Q (.ref l) (upd H l (.lst ys))
  | .int => fun xs H Q => ((∃ i, xs = [.int i] ∧ Q (.int i) H) ∨ ∃ k, xs = [.bl k] ∧ Q (.int (if k then 1 else 0)) H) ∨ ∃ a n, xs = [.str a] ∧ PySem.intText? a = some n ∧ a.length ≤ 640 ∧ Q (.int n) H
  | .str => fun xs H Q => (∃ i, xs = [.int i] ∧ i.natAbs.log2 < 1920 ∧ Q (.str (toString i)) H) ∨ ∃ k, xs = [.bl k] ∧ Q (.str (if k then "True" else "False")) H
  | .max2 => fun xs H Q => ∃ i j, xs = [.int i, .int j] ∧ Q (.int (if j > i then j else i)) H
  | .min2 => fun xs H Q => ∃ i j, xs = [.int i, .int j] ∧ Q (.int (if j < i then j else i)) H
  | .minp => rMinP K
theorem call_str_ib {X : Cx} : CallR X (.type "str") (fun xs H Q => (∃ i, xs = [.int i] ∧ i.natAbs.log2 < 1920 ∧ Q (.str (toString i)) H) ∨ ∃ k, xs = [.bl k] ∧ Q (.str (if k then "True" else "False")) H) := by
  intro pins s σ H xs us Q I r h
  rcases h with h | ⟨k, rfl, q⟩
  · exact call_str_int pins s σ H xs us Q I r h
  · obtain ⟨u, rfl, r1⟩ := vals1 r
    cases r1
    exact PySem.P.str_of_bool ⟨.str _, H, I.tok _, ⟨_, rfl⟩, q⟩
theorem bi_of {X : Cx} (hc : X.calm = true) (hu : X.A.units + 64 < cLine) : ∀ b : Bi, CallR X (biVal b) (rBi X.K b)
  | .len => call_len
  | .abs => call_abs
  | .all => cr_all hc
  | .any => cr_any hc
  | .max => (cr_max hc).or (cr_maxT hc hu)
  | .min => cr_min hc
  | .sum => cr_sum hc
  | .tuple => call_tuple_of
  | .list => call_list_of
  | .int => call_int1.or call_int_str
  | .str => call_str_ib
  | .max2 => call_max2 hc
  | .min2 => call_min2 hc
  | .minp => cr_minP hc hu
theorem bi_boot : ∀ b : Bi, bootBuiltins (biName b) = some (biVal b)
  | .len => by decide +kernel
  | .abs => by decide +kernel
  | .all => by decide +kernel
  | .any => by decide +kernel
  | .max => by decide +kernel
  | .min => by decide +kernel
  | .sum => by decide +kernel
  | .tuple => by decide +kernel
  | .list => by decide +kernel
  | .int => by decide +kernel
  | .str => by decide +kernel
  | .max2 => by decide +kernel
  | .min2 => by decide +kernel
  | .minp => by decide +kernel
theorem bi_names : ∀ b : Bi, biName b ∈ bltNames ∧ biName b ≠ "__name__" ∧ (biName b == ("__debug__" : Str)) = false
  | .len => by decide +kernel
  | .abs => by decide +kernel
  | .all => by decide +kernel
  | .any => by decide +kernel
  | .max => by decide +kernel
  | .min => by decide +kernel
  | .sum => by decide +kernel
  | .tuple => by decide +kernel
  | .list => by decide +kernel
  | .int => by decide +kernel
  | .str => by decide +kernel
  | .max2 => by decide +kernel
  | .min2 => by decide +kernel
  | .minp => by decide +kernel
theorem one_of {ds : List D} {vs : List V} (r : RepL K H th ds vs) {P : Prop} (h1 : ∀ d v, ds = [d] → vs = [v] → Rep K H th d v → P) (h0 : ds = [] → P) (h2 : ∀ a b t, ds = a :: b :: t → P) : P := by
  cases r with
  | nil => exact h0 rfl
  | cons r t =>
    cases t with
    | nil => exact h1 _ _ rfl rfl r
    | cons r2 t2 => exact h2 _ _ _ rfl
theorem listArg {α : Type} {xs : List D} {d : D} {v : V} {f : List D → Option α} (s : Sim K H th S) (r : Rep K H th d v) {z : α} (h : (getList S d).bind f = some z) : ∃ a vs ys, v = .ref a ∧ H a = some (.lst vs) ∧ RepL K H th ys vs ∧ f ys = some z := by
  cases hg : getList S d with
  | none => rw [hg] at h; cases h
  | some ys =>
    rw [hg] at h
    obtain ⟨a, vs, e, h1, h2⟩ := getList_ok s r hg
    exact ⟨a, vs, ys, e, h1, h2, h⟩
theorem bi_ok {m : Bool} {b : Bi} {ds : List D} {vs : List V} (s : Sim K H th S) (r : RepL K H th ds vs) (h : Post K cv E H th (biD m b ds S) Q) : rBi K b vs H Q := by
  cases b with
  | max2 =>
    cases r with
    | nil => exact h.elim
    | cons r t =>
      cases t with
      | nil => cases r <;> exact h.elim
      | cons r2 t2 =>
        cases t2 with
        | nil =>
          cases r with
          | int i => cases r2 with
            | int j => exact ⟨i, j, rfl, h.ok s (.int _)⟩
            | _ => exact h.elim
          | _ => exact h.elim
        | cons _ _ => cases r <;> first | exact h.elim | (cases r2 <;> exact h.elim)
  | min2 =>
    cases r with
    | nil => exact h.elim
    | cons r t =>
      cases t with
      | nil => cases r <;> exact h.elim
      | cons r2 t2 =>
        cases t2 with
        | nil =>
          cases r with
          | int i => cases r2 with
            | int j => exact ⟨i, j, rfl, h.ok s (.int _)⟩
            | _ => exact h.elim
          | _ => exact h.elim
        | cons _ _ => cases r <;> first | exact h.elim | (cases r2 <;> exact h.elim)
  | len =>
    refine one_of r (fun d v e1 e2 rd => ?_) (fun e => ?_) (fun x y t e => ?_)
    · subst e1 e2
      clear r
      have r := rd
      clear rd
      have seq : Post K cv E H th (match getSeq S d with | some xs => .ok (.int xs.length) S | none => .err) Q → rBi K .len [v] H Q := fun h => by
        cases hg : getSeq S d with
        | none => rw [hg] at h; exact h.elim
        | some xs =>
          rw [hg] at h
          obtain ⟨a, vs, rfl, h1, h2⟩ := getSeq_ok s r hg
          refine ⟨.ref a, vs.length, rfl, ?_, by rw [← h2.length]; exact h.ok s (.int _)⟩
          rcases h1 with h1 | h1
          · exact .inl ⟨vs, h1, rfl⟩
          · exact .inr ⟨vs, h1, rfl⟩
      cases r with
      | str x =>
        unfold biD at h
        dsimp only at h
        split at h
        · rename_i hl
          exact ⟨_, _, rfl, ⟨by rw [line_eq]; exact hl, rfl⟩, h.ok s (.int _)⟩
        · exact h.elim
      | _ => exact seq h
    · subst e; exact h.elim
    · subst e; cases x <;> exact h.elim
  | abs =>
    refine one_of r (fun d v e1 e2 rd => ?_) (fun e => ?_) (fun x y t e => ?_)
    · subst e1 e2
      clear r
      have r := rd
      clear rd
      cases r with
      | int i => exact ⟨i, rfl, h.ok s (.int _)⟩
      | _ => exact h.elim
    · subst e; exact h.elim
    · subst e; cases x <;> exact h.elim
  | all =>
    refine one_of r (fun d v e1 e2 rd => ?_) (fun e => ?_) (fun x y t e => ?_)
    · subst e1 e2
      clear r
      have r := rd
      clear rd
      have h : Post K cv E H th (match (getList S d).bind allBool with | some bs => .ok (.bool (bs.all id)) S | none => .err) Q := h
      cases hg : (getList S d).bind allBool with
      | none => rw [hg] at h; exact h.elim
      | some bs =>
        rw [hg] at h
        obtain ⟨a, vs, ys, rfl, h1, h2, h3⟩ := listArg (xs := []) s r hg
        have := allBool_eq h3
        subst this
        have := bools_V h2
        subst this
        exact ⟨a, bs, rfl, SqL.of h1, h.ok s (.bool _)⟩
    · subst e; exact h.elim
    · subst e; exact h.elim
  | any =>
    refine one_of r (fun d v e1 e2 rd => ?_) (fun e => ?_) (fun x y t e => ?_)
    · subst e1 e2
      clear r
      have r := rd
      clear rd
      have h : Post K cv E H th (match (getList S d).bind allBool with | some bs => .ok (.bool (bs.any id)) S | none => .err) Q := h
      cases hg : (getList S d).bind allBool with
      | none => rw [hg] at h; exact h.elim
      | some bs =>
        rw [hg] at h
        obtain ⟨a, vs, ys, rfl, h1, h2, h3⟩ := listArg (xs := []) s r hg
        have := allBool_eq h3
        subst this
        have := bools_V h2
        subst this
        exact ⟨a, bs, rfl, SqL.of h1, h.ok s (.bool _)⟩
    · subst e; exact h.elim
    · subst e; exact h.elim
  | sum =>
    refine one_of r (fun d v e1 e2 rd => ?_) (fun e => ?_) (fun x y t e => ?_)
    · subst e1 e2
      clear r
      have r := rd
      clear rd
      have h : Post K cv E H th (match (getList S d).bind allInt with | some ns => .ok (.int ns.sum) S | _ => .err) Q := h
      cases hg : (getList S d).bind allInt with
      | none => rw [hg] at h; exact h.elim
      | some bs =>
        rw [hg] at h
        obtain ⟨a, vs, ys, rfl, h1, h2, h3⟩ := listArg (xs := []) s r hg
        have := allInt_eq h3
        subst this
        have := ints_V h2
        subst this
        exact ⟨a, bs, rfl, SqL.of h1, h.ok s (.int _)⟩
    · subst e; exact h.elim
    · subst e; exact h.elim
  | max =>
    refine one_of r (fun d v e1 e2 rd => ?_) (fun e => ?_) (fun x y t e => ?_)
    · subst e1 e2
      clear r
      have r := rd
      clear rd
      have key : ∀ {x : Int} {t : List Int} {m : Int}, m ∈ x :: t → (∀ y, y ∈ x :: t → y ≤ m) → m = maxL t x := fun {x t m} hm hu => by
        obtain ⟨g1, g2, g3⟩ := maxL_spec t x
        have l1 : m ≤ maxL t x := by
          rcases List.mem_cons.mp hm with rfl | hm
          · exact g2
          · exact g3 m hm
        have l2 : maxL t x ≤ m := hu _ (by
          rcases g1 with g1 | g1
          · rw [g1]; exact List.mem_cons_self
          · exact List.mem_cons_of_mem _ g1)
        omega
      have lists : Post K cv E H th (match (getList S d).bind allInt with | some (x :: r) => .ok (.int (maxL r x)) S | _ => .err) Q → rBi K .max [v] H Q := fun h => by
        cases hg : (getList S d).bind allInt with
        | none => rw [hg] at h; exact h.elim
        | some bs =>
          rw [hg] at h
          obtain ⟨a, vs, ys, rfl, h1, h2, h3⟩ := listArg (xs := []) s r hg
          have := allInt_eq h3
          subst this
          have := ints_V h2
          subst this
          cases bs with
          | nil => exact h.elim
          | cons x t =>
            refine .inl ⟨a, x :: t, rfl, SqL.of h1, Nat.succ_pos _, fun m hm hu => ?_⟩
            rw [key hm hu]
            exact h.ok s (.int _)
      cases r with
      | @tup pa xs vs e1 r1 =>
        have h9 : Post K cv E H th (match allInt xs with | some (x :: r) => .ok (.int (maxL r x)) S | _ => .err) Q := h
        clear h lists
        cases hg : allInt xs with
        | none => rw [hg] at h9; exact h9.elim
        | some bs =>
          rw [hg] at h9
          have := allInt_eq hg
          subst this
          have := ints_V r1
          subst this
          cases bs with
          | nil => exact h9.elim
          | cons x t =>
            refine .inr ⟨pa, x, t, rfl, SqT.of e1, ?_⟩
            have e : t.foldl max x = maxL t x := by
              have gen : ∀ (t : List Int) (x : Int), t.foldl max x = maxL t x := by
                intro t
                induction t with
                | nil => intro x; rfl
                | cons y t ih =>
                  intro x
                  rw [List.foldl_cons, ih]
                  show maxL t (max x y) = maxL t (if x < y then y else x)
                  congr 1
                  by_cases hxy : x < y
                  · rw [if_pos hxy]; omega
                  · rw [if_neg hxy]; omega
              exact gen t x
            rw [e]
            exact h9.ok s (.int _)
      | none => exact lists h
      | bool _ => exact lists h
      | int _ => exact lists h
      | str _ => exact lists h
      | lst _ _ _ _ => exact lists h
      | scr _ => exact lists h
      | loc _ => exact lists h
    · subst e; exact h.elim
    · subst e; cases x <;> exact h.elim
  | minp =>
    refine one_of r (fun d v e1 e2 rd => ?_) (fun e => ?_) (fun x y t e => ?_)
    · subst e1 e2
      have h : Post K cv E H th (match getList S d with | some (d :: ds) => if pairsOk (keyL d).length (d :: ds) then .ok (minP d ds) S else .err | _ => .err) Q := h
      cases hg : getList S d with
      | none => rw [hg] at h; exact h.elim
      | some bs =>
        rw [hg] at h
        obtain ⟨a, vs, rfl, h1, h2⟩ := getList_ok s rd hg
        cases bs with
        | nil => exact h.elim
        | cons x t =>
          dsimp only at h
          split at h
          · rename_i hp
            obtain ⟨k, ks, e1, e2, hk⟩ := pairs_of hp
            subst e1 e2
            refine ⟨a, vs, pairP k, ks.map pairP, rfl, SqL.of h1, ?_, alike_pairs hk, depth_pairs _ _, lay_pairs _ _, fun i v hv hi => ?_⟩
            · have hf : D.flatL (pairD k :: ks.map pairD) = true := flat_pairs (k :: ks)
              have := dp_flatL h2 hf
              have e := pyL_pairs (k :: ks)
              rw [List.map_cons] at e
              rw [e] at this
              exact this
            · obtain ⟨di, hd1, hd2⟩ := h2.getV hv
              rw [minD_pairs k ks hk] at hi
              have e3 : di = pairD (minK k ks) := by
                have hm1 : (pairD k :: ks.map pairD) = (k :: ks).map pairD := rfl
                have hm2 : (pairP k :: ks.map pairP) = (k :: ks).map pairP := rfl
                rw [hm1, List.getElem?_map] at hd1
                rw [hm2, List.getElem?_map] at hi
                cases hki : (k :: ks)[i]? with
                | none => rw [hki] at hd1; cases hd1
                | some ki =>
                  rw [hki] at hd1 hi
                  cases hd1
                  have := Option.some.inj hi
                  rw [pairP_inj (hk ki (List.mem_of_getElem? hki)).1 (minK_ne hk) this]
              rw [minP_pairs k ks hk] at h
              exact Post.ok h s (by rw [← e3]; exact hd2)
          · exact h.elim
    · subst e; exact h.elim
    · subst e; exact h.elim
  | min =>
    refine one_of r (fun d v e1 e2 rd => ?_) (fun e => ?_) (fun x y t e => ?_)
    · subst e1 e2
      clear r
      have r := rd
      clear rd
      have h : Post K cv E H th (match (getList S d).bind allInt with | some (x :: r) => .ok (.int (minL r x)) S | _ => .err) Q := h
      cases hg : (getList S d).bind allInt with
      | none => rw [hg] at h; exact h.elim
      | some bs =>
        rw [hg] at h
        obtain ⟨a, vs, ys, rfl, h1, h2, h3⟩ := listArg (xs := []) s r hg
        have := allInt_eq h3
        subst this
        have := ints_V h2
        subst this
        cases bs with
        | nil => exact h.elim
        | cons x t =>
          refine ⟨a, x :: t, rfl, SqL.of h1, Nat.succ_pos _, fun m hm hu => ?_⟩
          obtain ⟨g1, g2, g3⟩ := minL_spec t x
          have e : m = minL t x := by
            have l1 : minL t x ≤ m := by
              rcases List.mem_cons.mp hm with rfl | hm
              · exact g2
              · exact g3 m hm
            have l2 : m ≤ minL t x := hu _ (by
              rcases g1 with g1 | g1
              · rw [g1]; exact List.mem_cons_self
              · exact List.mem_cons_of_mem _ g1)
            omega
          rw [e]
          exact h.ok s (.int _)
    · subst e; exact h.elim
    · subst e; exact h.elim
  | tuple =>
    refine one_of r (fun d v e1 e2 rd => ?_) (fun e => ?_) (fun x y t e => ?_)
    · subst e1 e2
      clear r
      have r := rd
      clear rd
      have lists : ∀ {d : D} {v : V}, Rep K H th d v → Post K cv E H th (match getList S d with | some xs => .ok (.tup xs) S | none => .err) Q → rBi K .tuple [v] H Q := fun {d v} r h => by
        cases hg : getList S d with
        | none => rw [hg] at h; exact h.elim
        | some ys =>
          rw [hg] at h
          obtain ⟨a, vs, rfl, h1, h2⟩ := getList_ok s r hg
          exact ⟨a, vs, rfl, .inl ⟨SqL.of h1, fun l hl => h _ _ _ (Ext.laid hl _) (s.laid hl _) (Rep.laidT hl h2)⟩⟩
      cases r with
      | tup e r => exact ⟨_, _, rfl, .inr ⟨SqT.of e, h.ok s (.tup e r)⟩⟩
      | none => exact lists .none h
      | bool b => exact lists (.bool b) h
      | int b => exact lists (.int b) h
      | str b => exact lists (.str b) h
      | lst e n g r => exact lists (.lst e n g r) h
      | scr e => exact lists (.scr e) h
      | loc e => exact lists (.loc e) h
    · subst e; exact h.elim
    · subst e; cases x <;> exact h.elim
  | list =>
    refine one_of r (fun d v e1 e2 rd => ?_) (fun e => ?_) (fun x y t e => ?_)
    · subst e1 e2
      clear r
      have r := rd
      clear rd
      have h : Post K cv E H th (match getSeq S d with | some xs => newL m xs S | none => .err) Q := h
      cases hg : getSeq S d with
      | none => rw [hg] at h; exact h.elim
      | some ys =>
        rw [hg] at h
        obtain ⟨a, vs, rfl, h1, h2⟩ := getSeq_ok s r hg
        exact ⟨a, vs, rfl, h1, (newL_ok s h2 h).2⟩
    · subst e; exact h.elim
    · subst e; exact h.elim
  | int =>
    refine one_of r (fun d v e1 e2 rd => ?_) (fun e => ?_) (fun x y t e => ?_)
    · subst e1 e2
      clear r
      have r := rd
      clear rd
      cases r with
      | int i => exact .inl (.inl ⟨i, rfl, h.ok s (.int _)⟩)
      | bool i => exact .inl (.inr ⟨i, rfl, h.ok s (.int _)⟩)
      | str a =>
        unfold biD at h
        dsimp only at h
        cases hn : numS a with
        | none => rw [hn] at h; exact h.elim
        | some n =>
          rw [hn] at h
          obtain ⟨k1, k2⟩ := numS_ok hn
          exact .inr ⟨a, n, rfl, k1, k2, h.ok s (.int _)⟩
      | _ => exact h.elim
    · subst e; exact h.elim
    · subst e; cases x <;> exact h.elim
  | str =>
    refine one_of r (fun d v e1 e2 rd => ?_) (fun e => ?_) (fun x y t e => ?_)
    · subst e1 e2
      clear r
      have r := rd
      clear rd
      cases r with
      | int i =>
        unfold biD at h
        dsimp only at h
        split at h
        · rename_i hl
          exact .inl ⟨i, rfl, hl, h.ok s (.str _)⟩
        · exact h.elim
      | bool k => exact .inr ⟨k, rfl, h.ok s (.str _)⟩
      | _ => exact h.elim
    · subst e; exact h.elim
    · subst e; cases x <;> exact h.elim
/-! ### an item, a slice, a store -/
theorem atI_rep {ds : List D} {vs : List V} {i : Int} {d : D} (r : RepL K H th ds vs) (h : PV.atI ds i = some d) : ∃ v, L2.atI vs i = some v ∧ Rep K H th d v := by
  have e : PV.ixN = L2.ixN := rfl
  unfold PV.atI at h
  unfold L2.atI
  rw [e, r.length] at h
  cases hj : L2.ixN vs.length i with
  | none => rw [hj] at h; cases h
  | some j =>
    rw [hj] at h
    exact r.get h
theorem idx_ok {a i : D} {x y : V} {d : D} (s : Sim K H th S) (ra : Rep K H th a x) (ri : Rep K H th i y) (h : idxD a i S = some d) (q : ∀ v, Rep K H th d v → Q v H) : rIx K x y H Q := by
  cases ri with
  | int k =>
    have seq : (getSeq S a).bind (fun xs => PV.atI xs k) = some d → rIx K x (.int k) H Q := fun h => by
      cases hg : getSeq S a with
      | none => rw [hg] at h; cases h
      | some xs =>
        rw [hg] at h
        obtain ⟨p, vs, rfl, h1, h2⟩ := getSeq_ok s ra hg
        obtain ⟨v, h3, h4⟩ := atI_rep h2 h
        rcases h1 with h1 | h1
        · exact .inl ⟨p, vs, k, v, rfl, rfl, h1, h3, q v h4⟩
        · exact .inr (.inl ⟨p, vs, k, v, rfl, rfl, h1, h3, q v h4⟩)
    cases ra with
    | str z =>
      unfold idxD at h
      dsimp only at h
      split at h
      · rename_i hl
        cases hc : PV.atI z.cps.toList k with
        | none => rw [hc] at h; cases h
        | some c =>
          rw [hc] at h
          cases h
          exact .inr (.inr ⟨z, k, c, rfl, rfl, by rw [line_eq]; exact hl, hc, q _ (.str _)⟩)
      · cases h
    | _ => exact seq h
  | _ => cases h
theorem cut_rep {ds : List D} {vs : List V} (r : RepL K H th ds vs) (lo hi : Option Int) : RepL K H th (cut ds lo hi) (cutV vs lo hi) := by
  have e : PV.sIx = HT.sIx := by
    funext n d o
    cases o <;> rfl
  unfold cut cutV
  rw [e, r.length]
  exact (r.drop _).take _
def rSlAny (K : PySem.W.Frag) : V → Option Int → Option Int → Hp → VK → Prop := fun x lo hi H Q => rSlA K x lo hi H Q ∨ (rSlL K x lo hi H Q ∨ rSlS x lo hi H Q)
theorem sl_any {X : Cx} : SlR X (rSlAny X.K) := sl_tupA.or (sl_list.or sl_str)
theorem cut_whole {α : Type} {xs : List α} {lo hi : Option Int} (h : HT.sIx xs.length 0 lo = 0 ∧ HT.sIx xs.length xs.length hi = xs.length) : cut xs lo hi = xs := by
  have e : PV.sIx = HT.sIx := by
    funext n d o
    cases o <;> rfl
  unfold cut
  rw [e, h.1, h.2]
  simp
theorem sli_ok {m : Bool} {a : D} {x : V} {l h : Option Int} {dl dh : D} (s : Sim K H th S) (ra : Rep K H th a x) (hl : optI dl = some l) (hh : optI dh = some h) (hp : Post K cv E H th (sliD m a dl dh S) Q) : rSlAny K x l h H Q := by
  unfold sliD at hp
  rw [hl, hh] at hp
  dsimp only at hp
  have lists : ∀ {a : D} {x : V}, Rep K H th a x → Post K cv E H th (match getList S a with
      | some xs => newL m (cut xs l h) S
      | none => .err) Q → rSlAny K x l h H Q := fun {a x} ra hp => by
    cases hg : getList S a with
    | none => rw [hg] at hp; exact hp.elim
    | some xs =>
      rw [hg] at hp
      obtain ⟨p, vs, rfl, h1, h2⟩ := getList_ok s ra hg
      exact .inr (.inl ⟨p, vs, rfl, SqL.of h1, (newL_ok s (cut_rep h2 l h) hp).2⟩)
  cases ra with
  | tup e r =>
    refine .inl ⟨_, _, rfl, SqT.of e, fun z => ?_, fun _ p hp' => ?_⟩
    · rw [← r.length] at z
      dsimp only at hp
      rw [cut_whole z] at hp
      exact hp.ok s (.tup e r)
    · exact hp _ _ _ (Ext.laid hp' _) (s.laid hp' _) (Rep.laidT hp' (cut_rep r l h))
  | none => exact lists .none hp
  | bool b => exact lists (.bool b) hp
  | int b => exact lists (.int b) hp
  | str b =>
    dsimp only at hp
    split at hp
    · rename_i hz
      have e : (⟨(cut b.cps.toList l h).toArray⟩ : Str) = cutS b l h := by
        have e0 : PV.sIx = HT.sIx := by
          funext n d o
          cases o <;> rfl
        unfold cut cutS
        rw [e0]
        rfl
      rw [e] at hp
      exact .inr (.inr ⟨b, rfl, by rw [line_eq]; exact hz, hp.ok s (.str _)⟩)
    · exact hp.elim
  | lst e n g r => exact lists (.lst e n g r) hp
  | scr e => exact lists (.scr e) hp
  | loc e => exact lists (.loc e) hp
end
end PV
end
section
set_option Elab.async false
set_option linter.all false
set_option maxRecDepth 100000
set_option maxHeartbeats 4000000
namespace PV
open PySem PySem.Spec PyProof.Rows L2
/-! ### the look: does a text bear a term of the language -/
def visB (sc : Scope) (x : Str) : Bool := match sc.names.lookup x with | some .local => true | some .cell => true | some .free => true | _ => false
def glB (sc : Scope) (x : Str) : Bool := match sc.names.lookup x with | some .globalImplicit => true | _ => false
def locB (sc : Scope) (x : Str) : Bool := match sc.names.lookup x with | some .local => true | some .cell => true | _ => false
def nameOk (x : Str) : Bool := !(x == ("__debug__" : Str)) && !(x == ("__classdict__" : Str))
def plainA : Expr → Bool
  | .Starred .. => false
  | _ => true
def notIf : Expr → Bool
  | .IfExp .. => false
  | _ => true
def notSet : Expr → Bool
  | .Set .. => false
  | _ => true
def notSl : Expr → Bool
  | .Slice .. => false
  | _ => true
def notCall0 : Expr → Bool
  | .Call (.Name _ _) [] [] _ => false
  | _ => true
def chkNames (N : List Str) (ls : Scope) : List Nat → List Expr → Bool
  | [], [] => true
  | i :: is, .Name x _ :: es => decide (N[i]? = some x) && locB ls x && chkNames N ls is es
  | _, _ => false
def chkTg (N : List Str) (ls : Scope) : Tg → Expr → Bool
  | .name i, .Name x _ => decide (N[i]? = some x) && locB ls x
  | .tup is, .Tuple es _ _ => chkNames N ls is es
  | _, _ => false
def tyName : Ty → Str
  | .int => "int" | .bool => "bool" | .tuple => "tuple" | .list => "list" | .str => "str"
def tgIn (own : List Nat) : Tg → Bool
  | .name i => own.contains i
  | .tup is => is.all own.contains
/-- pairs are stored to several names -/
def ikTg : Ik → Expr → Bool
  | .zip, .Tuple .. => true
  | .enum, .Tuple .. => true
  | .seq, _ => true
  | .range, _ => true
  | _, _ => false
section
variable (N : List Str) (nm : Nms)
mutual
def chkE : Ex → Scope → Expr → Bool
  | .var i, sc, e => (match e with | .Name x _ => decide (N[i]? = some x) && visB sc x && nameOk x | _ => false)
  | .int i, _, e => (match e with | .Constant (.int j) _ _ => decide (i = j) | _ => false)
  | .bool i, _, e => (match e with | .Constant (.bool j) _ _ => decide (i = j) | _ => false)
  | .str i, _, e => (match e with | .Constant (.str j) _ _ => decide (i = j) | _ => false)
  | .none, _, e => (match e with | .Constant .none _ _ => true | _ => false)
  | .bin op _ a b, sc, e => (match e with | .BinOp l o r _ => decide (o = opOf op) && chkE a sc l && chkE b sc r | _ => false)
  | .neg a, sc, e => (match e with | .UnaryOp .USub l _ => chkE a sc l | _ => false)
  | .not a, sc, e => (match e with | .UnaryOp .Not l _ => notIf l && chkE a sc l | _ => false)
  | .and a b, sc, e => (match e with | .BoolOp .And (l :: l2 :: rest) _ => notIf l && chkE a sc l && chkB .And b sc (l2 :: rest) | _ => false)
  | .or a b, sc, e => (match e with | .BoolOp .Or (l :: l2 :: rest) _ => notIf l && chkE a sc l && chkB .Or b sc (l2 :: rest) | _ => false)
  | .cmp op a b, sc, e => (match e with | .Compare l [o] [r] _ => decide (o = copOf op) && chkE a sc l && chkE b sc r && !behindInMarks o r | _ => false)
  | .chain op op' a b c, sc, e => (match e with | .Compare l [o, o'] [r, r'] _ => decide (o = copOf op) && decide (o' = copOf op') && chkE a sc l && chkE b sc r && chkE c sc r' && !lastMarks [o, o'] [r, r'] | _ => false)
  | .ife c a b, sc, e => (match e with | .IfExp t l r _ => notIf t && chkE c sc t && chkE a sc l && chkE b sc r | _ => false)
  | .anil, _, _ => false
  | .acons _ _, _, _ => false
  | .tup a, sc, e => (match e with | .Tuple es _ _ => chkA a sc es | _ => false)
  | .lst _ a, sc, e => (match e with | .List es _ => chkA a sc es | _ => false)
  | .idx a i, sc, e => (match e with | .Subscript l j _ => notSl j && chkE a sc l && chkE i sc j | _ => false)
  | .sli _ a lo hi, sc, e => (match e with | .Subscript l (.Slice p q none _) _ => chkE a sc l && chkO lo sc p && chkO hi sc q | _ => false)
  | .rev _ a, sc, e => (match e with | .Subscript l (.Slice none none (some (.UnaryOp .USub (.Constant (.int 1) _ _) _)) _) _ => chkE a sc l | _ => false)
  | .call f a, sc, e => (match e with | .Call (.Name x _) (l :: es) [] _ => decide (nm f = some x) && glB sc x && nameOk x && chkA a sc (l :: es) | _ => false)
  | .bi b _ a, sc, e => (match e with | .Call (.Name x _) (l :: es) [] _ => decide (x = biName b) && glB sc x && chkA a sc (l :: es) | _ => false)
  | .isi a t, sc, e => (match e with | .Call (.Name x _) [l, .Name y _] [] _ => decide (x = ("isinstance" : Str)) && glB sc x && decide (y = tyName t) && glB sc y && plainA l && chkE a sc l | _ => false)
  | .comp k src tg own tst c e m, sc, z => (match z with
    | .ListComp elt [⟨t, iter, ifs, 0⟩] scope _ => ikTg k t && chkI k src sc iter && blkC N sc scope (own.map fun i => (N.getD i Str.empty, i)) && chkTg N scope tg t && tgIn own tg &&
        (match ifs with | [] => !tst | [z] => tst && notIf z && chkE c (relS scope sc) z | _ => false) && chkE e (relS scope sc) elt
    | _ => false)
  | .app o e, sc, z => (match z with | .Call (.Attribute l x ap) [r] [] cp => decide (x = ("append" : Str)) && (ap.endLine == cp.line) && notCall0 l && plainA r && chkE o sc l && chkE e sc r | _ => false)
  | .pop o, sc, z => (match z with | .Call (.Attribute l x ap) [] [] cp => decide (x = ("pop" : Str)) && (ap.endLine == cp.line) && notCall0 l && chkE o sc l | _ => false)
  | .popi o i, sc, z => (match z with | .Call (.Attribute l x ap) [r] [] cp => decide (x = ("pop" : Str)) && (ap.endLine == cp.line) && notCall0 l && plainA r && chkE o sc l && chkE i sc r | _ => false)
  | .split _ o e, sc, z => (match z with | .Call (.Attribute l x ap) [r] [] cp => decide (x = ("split" : Str)) && (ap.endLine == cp.line) && notCall0 l && plainA r && chkE o sc l && chkE e sc r | _ => false)
  | .starts o e, sc, z => (match z with | .Call (.Attribute l x ap) [r] [] cp => decide (x = ("startswith" : Str)) && (ap.endLine == cp.line) && notCall0 l && plainA r && chkE o sc l && chkE e sc r | _ => false)
  | .repl _ _ _, _, _ => false
  | .opt _, _, _ => false
  | .last _, _, _ => false
  | .lrg1 _ a, sc, z => (match z with | .Call (.Name x _) [.Call (.Name y _) [l] [] _] [] _ => decide (x = ("list" : Str)) && decide (y = ("range" : Str)) && glB sc x && glB sc y && plainA l && chkE a sc l | _ => false)
  | .lrg2 _ a b, sc, z => (match z with | .Call (.Name x _) [.Call (.Name y _) [l, r] [] _] [] _ => decide (x = ("list" : Str)) && decide (y = ("range" : Str)) && glB sc x && glB sc y && plainA l && plainA r && chkE a sc l && chkE b sc r | _ => false)
  | .any, _, _ => true
  | .join o e, sc, z => (match z with | .Call (.Attribute l x ap) [r] [] cp => decide (x = ("join" : Str)) && (ap.endLine == cp.line) && notCall0 l && plainA r && chkE o sc l && chkE e sc r | _ => false)
  | .fld c a f, sc, z => (match z with | .Attribute l x _ => decide (x = f) && decide ((c, f) ∈ nm.a) && notCall0 l && chkE a sc l | _ => false)
  | .meth g c m o a, sc, z => (match z with | .Call (.Attribute l x ap) es [] cp => decide (x = m) && decide (nm.m g = some (c, m)) && decide (m ≠ ("__init__" : Str)) && (ap.endLine == cp.line) && notCall0 l && decide (es.length < 30) && chkE o sc l && chkA a sc es | _ => false)
  | .new g c a, sc, z => (match z with | .Call (.Name x _) (l :: es) [] _ => decide (x = c) && decide (nm.m g = some (c, ("__init__" : Str))) && glB sc x && nameOk x && chkA a sc (l :: es) | _ => false)
  | .lenO g c a, sc, z => (match z with | .Call (.Name x _) [l] [] _ => decide (x = ("len" : Str)) && decide (nm.m g = some (c, ("__len__" : Str))) && glB sc x && plainA l && chkE a sc l | _ => false)
  | .isc c a, sc, z => (match z with | .Call (.Name x _) [l, .Name y _] [] _ => decide (x = ("isinstance" : Str)) && decide (y = c) && decide (c ∈ nm.q) && glB sc x && glB sc y && nameOk y && plainA l && chkE a sc l | _ => false)
  | .eqO ne g c a b, sc, z => (match z with | .Compare l [o] [r] _ => decide (o = if ne then CmpOp.NotEq else CmpOp.Eq) && decide (nm.m g = some (c, ("__eq__" : Str))) && decide (c ∈ nm.q) && chkE a sc l && chkE b sc r && !behindInMarks o r | _ => false)
  | .comp2 k src tg own k1 src1 tg1 own1 e m, sc, z => (match z with
    | .ListComp elt [⟨t, iter, [], 0⟩, ⟨t1, iter1, [], 0⟩] scope _ => ikTg k t && chkI k src sc iter && blkC N sc scope (own.map fun i => (N.getD i Str.empty, i)) && chkTg N scope tg t && tgIn own tg &&
        ikTg k1 t1 && chkI k1 src1 (relS scope sc) iter1 && chkTg N scope tg1 t1 && tgIn own1 tg1 && own1.all own.contains && chkE e (relS scope sc) elt
    | _ => false)
def chkA : Ex → Scope → List Expr → Bool
  | .anil, _, es => (match es with | [] => true | _ => false)
  | .acons a r, sc, es => (match es with | e :: es => plainA e && chkE a sc e && chkA r sc es | _ => false)
  | _, _, _ => false
def chkB (op : BoolOp) : Ex → Scope → List Expr → Bool
  | .and a b, sc, es => (match es with
    | e :: e2 :: rest => decide (op = .And) && notIf e && chkE a sc e && chkB op b sc (e2 :: rest)
    | _ => false)
  | .or a b, sc, es => (match es with
    | e :: e2 :: rest => decide (op = .Or) && notIf e && chkE a sc e && chkB op b sc (e2 :: rest)
    | _ => false)
  | .last a, sc, es => (match es with | [e] => notIf e && chkE a sc e | _ => false)
  | _, _, _ => false
def chkO : Ex → Scope → Option Expr → Bool
  | .none, sc, o => (match o with | none => true | some e => false)
  | .opt a, sc, o => (match o with | some e => chkE a sc e | none => false)
  | _, _, _ => false
def chkI : Ik → Ex → Scope → Expr → Bool
  | k, .acons a r, sc, iter => notSet iter && (match k with
    | .seq => (match r with | .anil => chkE a sc iter | _ => false)
    | .range => (match iter with
      | .Call (.Name x _) [l] [] _ => decide (x = ("range" : Str)) && glB sc x && plainA l && chkE a sc l && (match r with | .anil => true | _ => false)
      | .Call (.Name x _) [l, l2] [] _ => decide (x = ("range" : Str)) && glB sc x && plainA l && chkE a sc l && plainA l2 && (match r with | .acons b .anil => chkE b sc l2 | _ => false)
      | _ => false)
    | .enum => (match iter with
      | .Call (.Name x _) [l] [] _ => decide (x = ("enumerate" : Str)) && glB sc x && plainA l && chkE a sc l && (match r with | .anil => true | _ => false)
      | _ => false)
    | .zip => (match iter with
      | .Call (.Name x _) [l, l2] [] _ => decide (x = ("zip" : Str)) && glB sc x && plainA l && chkE a sc l && plainA l2 && (match r with | .acons b .anil => chkE b sc l2 | _ => false)
      | .Call (.Name x _) [l, l2, l3] [] _ => decide (x = ("zip" : Str)) && glB sc x && plainA l && chkE a sc l && chkA r sc [l2, l3] && (match r with | .acons _ (.acons _ .anil) => true | _ => false)
      | _ => false))
  | _, _, _, _ => false
end
end
end PV
end
section
set_option Elab.async false
set_option linter.all false
set_option maxRecDepth 100000
set_option maxHeartbeats 4000000
namespace PV
open PySem PySem.Spec PyProof.Rows L2
theorem band {a b : Bool} (h : (a && b) = true) : a = true ∧ b = true := Bool.and_eq_true_iff.mp h
theorem visB_of {sc : Scope} {x : Str} (h : visB sc x = true) : Vis sc x := by
  unfold visB at h
  split at h
  · exact .inl (by assumption)
  · exact .inr (.inl (by assumption))
  · exact .inr (.inr (by assumption))
  · cases h
theorem locB_of {sc : Scope} {x : Str} (h : locB sc x = true) : sc.names.lookup x = some .local ∨ sc.names.lookup x = some .cell := by
  unfold locB at h
  split at h
  · exact .inl (by assumption)
  · exact .inr (by assumption)
  · cases h
theorem glB_of {X : Cx} {sc : Scope} {x : Str} (e : X.env.scope = sc) (h : glB sc x = true) : Gl X x := by
  unfold glB at h
  split at h
  · show X.env.scope.names.lookup x = _
    rw [e]; assumption
  · cases h
theorem nameOk_of {x : Str} (h : nameOk x = true) : (x == ("__debug__" : Str)) = false ∧ (x == ("__classdict__" : Str)) = false := by
  unfold nameOk at h
  obtain ⟨h1, h2⟩ := band h
  exact ⟨by simpa using h1, by simpa using h2⟩
theorem star_of {e : Expr} {es : List Expr} {env : PySem.Env} (h : plainA e = true) : starEach (e :: es) env = (false, eval e env) :: starEach es env := by
  cases e <;> first | rfl | (cases h)
def args : Ex → Bool
  | .anil => true
  | .acons _ _ => true
  | _ => false
section
variable {X : Cx} {sc ls : Scope} {nm : Nms} {cv : Nat → Value} {F : Nat → List D → Store → R D} {E : XK}
variable {ia ib ic : Ex} {a b c : Expr} {pos : Pos}
theorem ev_args (h : args ia = true) {ρ : PV.Env} {S S' : Store} {d : D} (q : ev F ia ρ S = .ok d S') : ∃ ds, d = .tup ds := by
  cases ia <;> first | (cases h; done) | skip
  · cases q; exact ⟨_, rfl⟩
  · rename_i x r
    have q : (ev F x ρ S).bind (fun x S1 => (ev F r ρ S1).bind fun y S2 => (match y with | .tup ys => .ok (.tup (x :: ys)) S2 | _ => .err)) = .ok d S' := q
    cases h1 : ev F x ρ S with
    | ok v S1 =>
      rw [h1] at q
      simp only [bind_ok] at q
      cases h2 : ev F r ρ S1 with
      | ok y S2 =>
        rw [h2] at q
        simp only [bind_ok] at q
        cases y <;> first | (cases q; exact ⟨_, rfl⟩) | (cases q)
      | exc c S2 => rw [h2] at q; cases q
      | err => rw [h2] at q; cases q
    | exc c S1 => rw [h1] at q; cases q
    | err => rw [h1] at q; cases q
theorem s_var {i : Nat} {x : Str} (g : Good X sc ls nm cv F E) (h1 : X.N[i]? = some x) (h2 : visB sc x = true) (h3 : nameOk x = true) : PE X (.Name x pos) (tE X.K cv F E (.var i)) := by
  refine PE.weak (pe_var h1 (by rw [g.sc]; exact visB_of h2) (nameOk_of h3).1 (nameOk_of h3).2) fun σ H Q ⟨th, S, ρ, s, re, h⟩ => ?_
  have h : Post X.K cv E H th (match ρ[i]? with | some (some d) => .ok d S | _ => .err) Q := h
  split at h
  · rename_i d hd
    obtain ⟨v, e, r⟩ := re.at_ i d hd
    exact ⟨v, e, h.ok s r⟩
  · exact h.elim
theorem s_bin {op : Bop} {m : Bool} (ha : PE X a (tE X.K cv F E ia)) (hb : PE X b (tE X.K cv F E ib)) : PE X (.BinOp a (opOf op) b pos) (tE X.K cv F E (.bin op m ia ib)) :=
  PE.weak (pe_op (op_of op) ha hb) fun σ H Q ⟨th, S, ρ, s, re, h⟩ => ⟨th, S, ρ, s, re, Post.bind h fun d1 S1 v1 H1 th1 _ e1 s1 r1 h1 => ⟨th1, S1, ρ, s1, re.mono e1, Post.bind h1 fun d2 S2 v2 H2 th2 _ e2 s2 r2 h2 => bin_ok s2 (r1.mono e2) r2 h2⟩⟩
theorem s_neg (ha : PE X a (tE X.K cv F E ia)) : PE X (.UnaryOp .USub a pos) (tE X.K cv F E (.neg ia)) :=
  PE.weak (pe_un un_neg ha) fun σ H Q ⟨th, S, ρ, s, re, h⟩ => ⟨th, S, ρ, s, re, Post.bind h fun d1 S1 v1 H1 th1 _ e1 s1 r1 h1 => by
    cases r1 with
    | int i => exact ⟨i, rfl, h1.ok s1 (.int _)⟩
    | _ => exact h1.elim⟩
/-- a test's reading by the value's -/
theorem tT_tE {ie : Ex} {σ : L2.St} {H : Hp} {Q : Bool → Hp → Prop} (h : tT X.K cv F E ie σ H Q) : tE X.K cv F E ie σ H fun v H' => ∃ k, TruV X.K v H' k ∧ Q k H' := by
  obtain ⟨th, S, ρ, s, re, h⟩ := h
  refine ⟨th, S, ρ, s, re, PostT.bind h fun d S1 v H' th' _ e s1 r h1 => ?_⟩
  cases hk : truth S1 d with
  | none => rw [hk] at h1; exact h1.elim
  | some k => rw [hk] at h1; exact ⟨k, truth_ok s1 r hk, h1 H' th' .refl s1⟩
theorem s_plainT {ie : Ex} {e : Expr} (ha : PE X e (tE X.K cv F E ie)) (he : ∀ whole, isTrue e X.env whole = (do let v ← whole; standAt e.pos; holding [v] (truthy v))) : PT X e (tT X.K cv F E ie) :=
  PT.weak (pt_truth ha he) fun σ H Q h => tT_tE h
theorem s_not (ha : PE X a (tE X.K cv F E ia)) : PE X (.UnaryOp .Not a pos) (tE X.K cv F E (.not ia)) :=
  PE.weak (pe_notT ha) fun σ H Q ⟨th, S, ρ, s, re, h⟩ => ⟨th, S, ρ, s, re, Post.bind h fun d1 S1 v1 H1 th1 _ e1 s1 r1 h1 => by
    cases hk : truth S1 d1 with
    | none => rw [hk] at h1; exact h1.elim
    | some k => rw [hk] at h1; exact ⟨k, truth_ok s1 r1 hk, h1.ok s1 (.bool _)⟩⟩
theorem s_notT (ha : PT X a (tT X.K cv F E ia)) : PT X (.UnaryOp .Not a pos) (tT X.K cv F E (.not ia)) :=
  PT.weak (pt_not ha) fun σ H Q ⟨th, S, ρ, s, re, h⟩ => by
    refine ⟨th, S, ρ, s, re, ?_⟩
    have h : PostT X.K cv E H th (((ev F ia ρ S).bind fun x S1 => ofOpt S1 ((truth S1 x).map fun b => D.bool (!b))).bind fun x S1 => ofOpt S1 (truth S1 x)) Q := h
    show PostT X.K cv E H th ((ev F ia ρ S).bind fun x S1 => ofOpt S1 (truth S1 x)) fun c H1 => Q (!c) H1
    cases hx : ev F ia ρ S with
    | ok d S1 =>
      rw [hx] at h
      simp only [bind_ok] at h ⊢
      cases hk : truth S1 d with
      | none => rw [hk] at h; exact h.elim
      | some k => rw [hk] at h; exact h
    | exc c S1 => rw [hx] at h; exact h
    | err => rw [hx] at h; exact h
/-- what follows a test -/
theorem PostIte {x : R D} {f g : Store → R D} {K : PySem.W.Frag} {H : Hp} {th : Th} {Q : VK} (h : Post K cv E H th (x.bind fun v S1 => match truth S1 v with | some true => f S1 | some false => g S1 | none => .err) Q) :
    PostT K cv E H th (x.bind fun v S1 => ofOpt S1 (truth S1 v)) fun b H1 => ∃ th1 S1, Ext H th H1 th1 ∧ Sim K H1 th1 S1 ∧ if b = true then Post K cv E H1 th1 (f S1) Q else Post K cv E H1 th1 (g S1) Q := by
  cases x with
  | ok d S1 =>
    simp only [bind_ok] at h ⊢
    cases hk : truth S1 d with
    | none => rw [hk] at h; exact h.elim
    | some k =>
      rw [hk] at h
      cases k with
      | true => exact fun H1 th1 e1 s1 => ⟨th1, S1, e1, s1, by rw [if_pos rfl]; exact Post.back e1 h⟩
      | false => exact fun H1 th1 e1 s1 => ⟨th1, S1, e1, s1, by rw [if_neg (by decide)]; exact Post.back e1 h⟩
  | exc c S1 => exact h
  | err => exact h
theorem s_ife (hc : PT X c (tT X.K cv F E ic)) (ha : PE X a (tE X.K cv F E ia)) (hb : PE X b (tE X.K cv F E ib)) : PE X (.IfExp c a b pos) (tE X.K cv F E (.ife ic ia ib)) :=
  PE.weak (pe_ifExp hc ha hb) fun σ H Q ⟨th, S, ρ, s, re, h⟩ => by
    refine ⟨th, S, ρ, s, re, ?_⟩
    have q := PostIte (f := fun S1 => ev F ia ρ S1) (g := fun S1 => ev F ib ρ S1) h
    show PostT X.K cv E H th ((ev F ic ρ S).bind fun v S1 => ofOpt S1 (truth S1 v)) _
    cases hx : (ev F ic ρ S).bind fun v S1 => ofOpt S1 (truth S1 v) with
    | ok k S1 =>
      rw [hx] at q
      intro H1 th1 e1 s1
      obtain ⟨th2, S2, e2, s2, q⟩ := q H1 th1 e1 s1
      cases k with
      | true => rw [if_pos rfl] at q ⊢; exact ⟨th2, S2, ρ, s2, re.mono e2, q⟩
      | false => rw [if_neg (by decide)] at q ⊢; exact ⟨th2, S2, ρ, s2, re.mono e2, q⟩
    | exc c S1 => rw [hx] at q; exact q
    | err => rw [hx] at q; exact q
theorem opt_bool {S : Store} {K : PySem.W.Frag} {H : Hp} {th : Th} {Q : VK} {o : Option Bool} (s : Sim K H th S) (h : Post K cv E H th (ofOpt S (o.map D.bool)) Q) : ∃ k, o = some k ∧ Q (.bl k) H := by
  cases o with
  | none => exact h.elim
  | some k => exact ⟨k, rfl, Post.ok h s (.bool k)⟩
theorem w_cmp {op : Cop} {σ : L2.St} {H : Hp} {Q Q' : VK} (h : tE X.K cv F E (.cmp op ia ib) σ H Q) (hq : ∀ k H', Q (.bl k) H' → Q' (.bl k) H') : tOp (rCmp X.K op) (tE X.K cv F E ia) (tE X.K cv F E ib) σ H Q' := by
  obtain ⟨th, S, ρ, s, re, h⟩ := h
  exact ⟨th, S, ρ, s, re, Post.bind h fun d1 S1 v1 H1 th1 _ e1 s1 r1 h1 => ⟨th1, S1, ρ, s1, re.mono e1, Post.bind h1 fun d2 S2 v2 H2 th2 _ e2 s2 r2 h2 => by
    obtain ⟨k, hk, q⟩ := opt_bool s2 h2
    exact cmp_ok s2 (r1.mono e2) r2 hk (hq k H2 q)⟩⟩
theorem s_cmp {op : Cop} (g : Good X sc ls nm cv F E) (ha : PE X a (tE X.K cv F E ia)) (hb : PE X b (tE X.K cv F E ib)) (hm : behindInMarks (copOf op) b = false) : PE X (.Compare a [copOf op] [b] pos) (tE X.K cv F E (.cmp op ia ib)) :=
  PE.weak (pe_cmpR (cmp_of g.units op) ha hb hm) fun σ H Q h => w_cmp h fun _ _ q => q
theorem s_cmpT {op : Cop} (g : Good X sc ls nm cv F E) (ha : PE X a (tE X.K cv F E ia)) (hb : PE X b (tE X.K cv F E ib)) (hm : behindInMarks (copOf op) b = false) : PT X (.Compare a [copOf op] [b] pos) (tT X.K cv F E (.cmp op ia ib)) :=
  PT.weak (pt_cmpR (cmp_of g.units op) ha hb hm) fun σ H Q h => w_cmp (tT_tE h) fun k H' ⟨k', e, q⟩ => ⟨k, rfl, by have e : k' = k := e; rw [← e]; exact q⟩
theorem w_chain {op op' : Cop} {σ : L2.St} {H : Hp} {Q Q' : VK} (h : tE X.K cv F E (.chain op op' ia ib ic) σ H Q) (hq : ∀ k H', Q (.bl k) H' → Q' (.bl k) H') : tChain (rCmp X.K op) (rCmp X.K op') (tE X.K cv F E ia) (tE X.K cv F E ib) (tE X.K cv F E ic) σ H Q' := by
  obtain ⟨th, S, ρ, s, re, h⟩ := h
  refine ⟨th, S, ρ, s, re, Post.bind h fun d1 S1 v1 H1 th1 _ e1 s1 r1 h1 => ⟨th1, S1, ρ, s1, re.mono e1, Post.bind h1 fun d2 S2 v2 H2 th2 _ e2 s2 r2 h2 => ?_⟩⟩
  cases hk : cmpD op d1 d2 S2 with
  | none => rw [hk] at h2; exact h2.elim
  | some k =>
    rw [hk] at h2
    refine cmp_ok s2 (r1.mono e2) r2 hk ⟨k, rfl, ?_⟩
    cases k with
    | false => rw [if_neg (by decide)]; exact hq false H2 (Post.ok h2 s2 (.bool _))
    | true =>
      rw [if_pos rfl]
      refine ⟨th2, S2, ρ, s2, (re.mono e1).mono e2, Post.bind h2 fun d3 S3 v3 H3 th3 _ e3 s3 r3 h3 => ?_⟩
      obtain ⟨k, hk, q⟩ := opt_bool s3 h3
      exact cmp_ok s3 (r2.mono e3) r3 hk (hq k H3 q)
theorem s_chain {op op' : Cop} (g : Good X sc ls nm cv F E) (ha : PE X a (tE X.K cv F E ia)) (hb : PE X b (tE X.K cv F E ib)) (hc : PE X c (tE X.K cv F E ic)) (hm : lastMarks [copOf op, copOf op'] [b, c] = false) : PE X (.Compare a [copOf op, copOf op'] [b, c] pos) (tE X.K cv F E (.chain op op' ia ib ic)) :=
  PE.weak (pe_chain (cmp_of g.units op) (cmp_of g.units op') ha hb hc hm) fun σ H Q h => w_chain h fun _ _ q => q
theorem s_chainT {op op' : Cop} (g : Good X sc ls nm cv F E) (ha : PE X a (tE X.K cv F E ia)) (hb : PE X b (tE X.K cv F E ib)) (hc : PE X c (tE X.K cv F E ic)) (hm : lastMarks [copOf op, copOf op'] [b, c] = false) : PT X (.Compare a [copOf op, copOf op'] [b, c] pos) (tT X.K cv F E (.chain op op' ia ib ic)) :=
  PT.weak (pt_chain (cmp_of g.units op) (cmp_of g.units op') ha hb hc hm) fun σ H Q h => w_chain (tT_tE h) fun k H' ⟨k', e, q⟩ => ⟨k, rfl, by have e : k' = k := e; rw [← e]; exact q⟩
/-! ### argument lists -/
theorem s_anil : PA X [] (tA X.K cv F E .anil) := PA.weak pa_nil fun σ H Q ⟨th, S, ρ, s, re, h⟩ => by
  obtain ⟨ds, e, h⟩ := h
  cases e
  exact h [] H th .refl s .nil
theorem s_acons {es : List Expr} (hp : plainA a = true) (hr : args ib = true) (ha : PE X a (tE X.K cv F E ia)) (hb : PA X es (tA X.K cv F E ib)) : PA X (a :: es) (tA X.K cv F E (.acons ia ib)) :=
  PA.weak (pa_cons ha hb (star_of hp)) fun σ H Q ⟨th, S, ρ, s, re, h⟩ => ⟨th, S, ρ, s, re, PostA.bind h fun d1 S1 v1 H1 th1 _ e1 s1 r1 h1 => ⟨th1, S1, ρ, s1, re.mono e1, by
    cases hx : ev F ib ρ S1 with
    | ok y S2 =>
      obtain ⟨ds, rfl⟩ := ev_args hr hx
      rw [hx] at h1
      obtain ⟨es', e, h1⟩ := h1
      cases e
      exact ⟨ds, rfl, fun vs H2 th2 e2 s2 r2 => h1 (v1 :: vs) H2 th2 e2 s2 (.cons (r1.mono e2) r2)⟩
    | exc c S2 => rw [hx] at h1; exact h1
    | err => rw [hx] at h1; exact h1⟩⟩
theorem s_tup {es : List Expr} {k : Nat} (hr : args ia = true) (ha : PA X es (tA X.K cv F E ia)) : PE X (.Tuple es k pos) (tE X.K cv F E (.tup ia)) :=
  PE.weak (pe_tup ha) fun σ H Q ⟨th, S, ρ, s, re, h⟩ => ⟨th, S, ρ, s, re, Post.bindA h (fun d S' q => ev_args hr q) fun ds S1 vs H1 th1 _ e1 s1 r1 h1 => by
    have h1 : Post X.K cv E H1 th1 (if ds.length ≤ line then .ok (.tup ds) S1 else .err) Q := h1
    split at h1
    · rename_i hl
      exact ⟨by rw [line_eq, ← r1.length]; exact hl, fun p hp => h1 _ _ _ (Ext.laid hp _) (s1.laid hp _) (Rep.laidT hp r1)⟩
    · exact h1.elim⟩
theorem s_lst {es : List Expr} {m : Bool} (hr : args ia = true) (ha : PA X es (tA X.K cv F E ia)) : PE X (.List es pos) (tE X.K cv F E (.lst m ia)) :=
  PE.weak (pe_lst ha) fun σ H Q ⟨th, S, ρ, s, re, h⟩ => ⟨th, S, ρ, s, re, Post.bindA h (fun d S' q => ev_args hr q) fun ds S1 vs H1 th1 _ e1 s1 r1 h1 => newL_ok s1 r1 h1⟩
theorem s_idx (hs : notSl b = true) (ha : PE X a (tE X.K cv F E ia)) (hb : PE X b (tE X.K cv F E ib)) : PE X (.Subscript a b pos) (tE X.K cv F E (.idx ia ib)) :=
  PE.weak (pe_ix ix_seq ha hb (by cases b <;> first | (intro _ _; rfl) | (cases hs))) fun σ H Q ⟨th, S, ρ, s, re, h⟩ => ⟨th, S, ρ, s, re, Post.bind h fun d1 S1 v1 H1 th1 _ e1 s1 r1 h1 => ⟨th1, S1, ρ, s1, re.mono e1, Post.bind h1 fun d2 S2 v2 H2 th2 _ e2 s2 r2 h2 => by
    cases hi : idxD d1 d2 S2 with
    | none => rw [hi] at h2; exact h2.elim
    | some d => rw [hi] at h2; exact idx_ok s2 (r1.mono e2) r2 hi fun v r => Post.ok h2 s2 r⟩⟩
/-- the parts of a slice -/
def tO (K : PySem.W.Frag) (cv : Nat → Value) (F : Nat → List D → Store → R D) (E : XK) (ie : Ex) : TO := fun σ H Q => ∃ th S ρ, Sim K H th S ∧ RepE K H th ρ σ ∧ (match ev F ie ρ S with
  | .ok d S1 => ∀ o H' th', optI d = some o → Ext H th H' th' → Sim K H' th' S1 → Q o H'
  | .exc c S1 => ∀ H' th', Ext H th H' th' → Sim K H' th' S1 → E (cv c) none H'
  | .err => False)
theorem PO.weak {e : Option Expr} {t t' : TO} (h : PO X e t) (w : ∀ σ H Q, t' σ H Q → t σ H Q) : PO X e t' := ⟨fun pins s σ H Q I q => h.run pins s σ H Q I (w σ H Q q)⟩
theorem s_ono : PO X none (tO X.K cv F E .none) := PO.weak po_none fun σ H Q ⟨th, S, ρ, s, re, h⟩ => h none H th rfl .refl s
theorem s_osome (ha : PE X a (tE X.K cv F E ia)) : PO X (some a) (tO X.K cv F E (.opt ia)) := PO.weak (po_some ha) fun σ H Q ⟨th, S, ρ, s, re, h⟩ => by
  refine ⟨th, S, ρ, s, re, ?_⟩
  have h : (match (ev F ia ρ S).bind (fun x S1 => (match x with | .int i => .ok (.int i) S1 | _ => .err)) with
    | .ok d S1 => ∀ o H' th', optI d = some o → Ext H th H' th' → Sim X.K H' th' S1 → Q o H'
    | .exc c S1 => ∀ H' th', Ext H th H' th' → Sim X.K H' th' S1 → E (cv c) none H'
    | .err => False) := h
  cases hx : ev F ia ρ S with
  | ok d S1 =>
    rw [hx] at h
    intro v H1 th1 e1 s1 r1
    cases r1 with
    | int i => exact ⟨i, rfl, h (some i) H1 th1 rfl e1 s1⟩
    | _ => exact h.elim
  | exc c S1 => rw [hx] at h; exact h
  | err => rw [hx] at h; exact h
theorem s_sli {lo hi : Option Expr} {il ih : Ex} {m : Bool} {p2 : Pos} (ha : PE X a (tE X.K cv F E ia)) (hl : PO X lo (tO X.K cv F E il)) (hh : PO X hi (tO X.K cv F E ih)) : PE X (.Subscript a (.Slice lo hi none p2) pos) (tE X.K cv F E (.sli m ia il ih)) :=
  PE.weak (pe_slice sl_any ha hl hh) fun σ H Q ⟨th, S, ρ, s, re, h⟩ => ⟨th, S, ρ, s, re, Post.bind h fun d1 S1 v1 H1 th1 _ e1 s1 r1 h1 => ⟨th1, S1, ρ, s1, re.mono e1, by
    cases hx : ev F il ρ S1 with
    | ok dl S2 =>
      rw [hx] at h1
      intro o H2 th2 ho e2 s2
      refine ⟨th2, S2, ρ, s2, (re.mono e1).mono e2, ?_⟩
      have h1 := Post.back e2 h1
      have h1 : Post X.K cv E H2 th2 ((ev F ih ρ S2).bind fun h S3 => sliD m d1 dl h S3) Q := h1
      cases hy : ev F ih ρ S2 with
      | ok dh S3 =>
        rw [hy] at h1
        intro o' H3 th3 ho' e3 s3
        exact sli_ok s3 ((r1.mono e2).mono e3) ho ho' (Post.back e3 h1)
      | exc c S3 => rw [hy] at h1; exact h1
      | err => rw [hy] at h1; exact h1
    | exc c S2 => rw [hx] at h1; exact h1
    | err => rw [hx] at h1; exact h1⟩⟩
theorem any_star {pos : Pos} {env : PySem.Env} : ∀ {es : List Expr}, es.all plainA = true → (backTo pos (starEach es env)).any (·.1) = false
  | [], _ => rfl
  | e :: es, h => by
    simp only [List.all_cons, Bool.and_eq_true] at h
    rw [star_of h.1]
    show (false || (backTo pos (starEach es env)).any (·.1)) = false
    rw [any_star h.2]; rfl
theorem s_call {f : Nat} {x : Str} {p : Pos} {es : List Expr} (g : Good X sc ls nm cv F E) (hn : nm f = some x) (hg : glB sc x = true) (hk : nameOk x = true) (hr : args ia = true) (hp : (a :: es).all plainA = true) (ha : PA X (a :: es) (tA X.K cv F E ia)) :
    PE X (.Call (.Name x p) (a :: es) [] pos) (tE X.K cv F E (.call f ia)) := by
  obtain ⟨k, fa, fd, ps, hF, hroom, hmg, hkeep, hb⟩ := (g.call f x hn).ok
  simp only [List.all_cons, Bool.and_eq_true] at hp
  refine PE.weak (pe_call hF hroom (glB_of g.sc hg) hmg hkeep hb .nil g.pass ha (nameOk_of hk).1 (star_of hp.1) (any_star hp.2)) fun σ H Q ⟨th, S, ρ, s, re, h⟩ => ?_
  refine ⟨th, S, ρ, s, re, Post.bindA h (fun d S' q => ev_args hr q) fun ds S1 vs H1 th1 _ e1 s1 r1 h1 => ?_⟩
  exact ⟨th1, S1, ds, s1, by rw [List.append_nil]; exact r1, h1⟩
theorem s_bi {b : Bi} {x : Str} {m : Bool} {p : Pos} {es : List Expr} (g : Good X sc ls nm cv F E) (hn : x = biName b) (hg : glB sc x = true) (hr : args ia = true) (hp : (a :: es).all plainA = true) (ha : PA X (a :: es) (tA X.K cv F E ia)) :
    PE X (.Call (.Name x p) (a :: es) [] pos) (tE X.K cv F E (.bi b m ia)) := by
  subst hn
  simp only [List.all_cons, Bool.and_eq_true] at hp
  obtain ⟨n1, n2, n3⟩ := bi_names b
  have w : ∀ σ H Q, tE X.K cv F E (.bi b m ia) σ H Q → tCB (rBi X.K b) (tA X.K cv F E ia) σ H Q := fun σ H Q ⟨th, S, ρ, s, re, h⟩ =>
    ⟨th, S, ρ, s, re, Post.bindA h (fun d S' q => ev_args hr q) fun ds S1 vs H1 th1 _ e1 s1 r1 h1 => bi_ok s1 r1 h1⟩
  have hc := bi_of g.calm g.units b
  have hv := bi_boot b
  cases hb : biVal b with
  | builtin id => rw [hb] at hc hv; exact PE.weak (pe_callB hc (glB_of g.sc hg) (g.blt _ n1) hv ha n2 n3 (star_of hp.1) (any_star hp.2)) w
  | type id => rw [hb] at hc hv; exact PE.weak (pe_callTy hc (glB_of g.sc hg) (g.blt _ n1) hv ha n2 n3 (star_of hp.1) (any_star hp.2)) w
  | _ => cases b <;> cases hb
theorem ty_facts : ∀ t : Ty, bootBuiltins (tyName t) = some (.type (tyOf t)) ∧ tyName t ∈ bltNames ∧ tyName t ≠ "__name__" ∧ (tyName t == ("__debug__" : Str)) = false
  | .int => by decide +kernel
  | .bool => by decide +kernel
  | .tuple => by decide +kernel
  | .list => by decide +kernel
  | .str => by decide +kernel
theorem s_isi {t : Ty} {p p2 : Pos} {y : Str} (g : Good X sc ls nm cv F E) (hg : glB sc "isinstance" = true) (hy : y = tyName t) (hg2 : glB sc y = true) (hp : plainA a = true) (ha : PE X a (tE X.K cv F E ia)) :
    PE X (.Call (.Name "isinstance" p) [a, .Name y p2] [] pos) (tE X.K cv F E (.isi ia t)) := by
  subst hy
  obtain ⟨t1, t2, t3, t4⟩ := ty_facts t
  refine PE.weak (pe_callB call_isi (glB_of g.sc hg) (g.blt _ (by decide +kernel)) boot_isinstance (pa_cons ha (pa_cons (pe_bltn (v := .ty (tyOf t)) (glB_of g.sc hg2) (g.blt _ t2) t1 rfl t3 t4) pa_nil) (star_of hp)) (by decide) (by decide) (star_of hp)) fun σ H Q ⟨th, S, ρ, s, re, h⟩ => ?_
  refine ⟨th, S, ρ, s, re, Post.bind h fun d1 S1 v1 H1 th1 _ e1 s1 r1 h1 => ?_⟩
  obtain ⟨k, hk, q⟩ := opt_bool s1 h1
  obtain ⟨T, h2, h3⟩ := isi_ok s1 r1 hk
  exact ⟨_, _, _, _, k, rfl, .ty _, h2, h3, q⟩
theorem base_of {o : Expr} {x : Str} (h : notCall0 o = true) : attributeBase o x X.env (eval o X.env) = eval o X.env := by
  unfold attributeBase
  split
  · rename_i id p pos
    simp [notCall0] at h
  · rfl
theorem s_app {ap cp : Pos} (hl : (ap.endLine == cp.line) = true) (h0 : notCall0 a = true) (hp : plainA b = true) (ha : PE X a (tE X.K cv F E ia)) (hb : PE X b (tE X.K cv F E ib)) :
    PE X (.Call (.Attribute a "append" ap) [b] [] cp) (tE X.K cv F E (.app ia ib)) := by
  refine PE.weak (pe_bm PySem.F.plainAttrs_list PySem.F.slot_list_append PySem.F.type_list_append mt_append ha (pa_cons hb pa_nil (star_of hp)) (base_of h0) (by rw [star_of hp]; rfl) hl (star_of hp) rfl) fun σ H Q ⟨th, S, ρ, s, re, h⟩ => ?_
  refine ⟨th, S, ρ, s, re, Post.bind h fun d1 S1 v1 H1 th1 _ e1 s1 r1 h1 => ?_⟩
  split at h1
  · rename_i hg
    obtain ⟨xs, hg⟩ := Option.isSome_iff_exists.mp hg
    obtain ⟨p, vs, rfl, g1, g2⟩ := getList_ok s1 r1 hg
    refine ⟨.inl ⟨rfl, vs, SqL.of g1⟩, th1, S1, ρ, s1, re.mono e1, Post.bind h1 fun d2 S2 v2 H2 th2 _ e2 s2 r2 h2 => ?_⟩
    cases r1 with
    | @loc _ n hn =>
      have h2 : Post X.K cv E H2 th2 (match S2[n]? with
        | some (.lst xs) => if xs.length < line then .ok .none (S2.set n (.lst (xs ++ [d2]))) else .err
        | _ => .err) Q := h2
      split at h2
      · rename_i ys he
        split at h2
        · rename_i hlt
          obtain ⟨p', ws, k1, k2, k3⟩ := s2.at he
          rw [e2.get hn] at k1; cases k1
          refine ⟨p, ws, v2, rfl, rfl, k2, by rw [line_eq, ← k3.length]; exact hlt, ?_⟩
          exact h2 _ _ _ (Ext.wrote (List.mem_of_getElem? (e2.get hn)) k2 _) (s2.wrote (e2.get hn) k2 (k3.append (.one r2))) .none
        · exact h2.elim
      · exact h2.elim
    | _ => exact h2.elim
  · exact h1.elim
end
end PV
end
section
set_option linter.all false
namespace PV
open PySem (Str)
theorem spl1_ne (c : Nat) : ∀ l : List Nat, spl1 c l ≠ []
  | [] => by simp [spl1]
  | x :: l => by
    unfold spl1
    split
    · simp
    · split <;> simp
theorem spl1_free {c : Nat} : ∀ {l : List Nat}, c ∉ l → spl1 c l = [l]
  | [], _ => rfl
  | x :: l, h => by
    have hx : ¬ x = c := fun e => h (by rw [e]; simp)
    have ih := spl1_free (c := c) (l := l) fun hh => h (by simp [hh])
    unfold spl1
    rw [if_neg hx, ih]
theorem spl1_cut {c : Nat} (r : List Nat) : ∀ {l : List Nat}, c ∉ l → spl1 c (l ++ c :: r) = l :: spl1 c r
  | [], _ => by
    show spl1 c (c :: r) = _
    rw [spl1, if_pos rfl]
  | x :: l, h => by
    have hx : ¬ x = c := fun e => h (by rw [e]; simp)
    have ih := spl1_cut r (c := c) (l := l) fun hh => h (by simp [hh])
    show spl1 c (x :: (l ++ c :: r)) = _
    rw [spl1, if_neg hx, ih]
theorem str_app (a b : Str) : (a ++ b).cps.toList = a.cps.toList ++ b.cps.toList := by
  show (a.cps ++ b.cps).toList = _
  simp
/-- parts without the sign, joined by it, are found again -/
theorem spl1_join {c : Nat} : ∀ {ps : List Str}, ps ≠ [] → (∀ p ∈ ps, c ∉ p.cps.toList) → spl1 c (Str.join ⟨#[c]⟩ ps).cps.toList = ps.map fun p => p.cps.toList
  | [], h, _ => absurd rfl h
  | [p], _, h => spl1_free (h p (by simp))
  | p :: q :: r, _, h => by
    have ih := spl1_join (c := c) (ps := q :: r) (by simp) fun x hx => h x (by simp at hx ⊢; exact .inr hx)
    show spl1 c (p ++ ⟨#[c]⟩ ++ Str.join ⟨#[c]⟩ (q :: r)).cps.toList = _
    rw [str_app, str_app]
    have e : (⟨#[c]⟩ : Str).cps.toList = [c] := rfl
    rw [e, List.append_assoc, List.singleton_append, spl1_cut _ (h p (by simp)), ih]
    rfl
theorem splitS_join {c : Nat} {ps : List Str} (h0 : ps ≠ []) (h : ∀ p ∈ ps, c ∉ p.cps.toList) : splitS c (Str.join ⟨#[c]⟩ ps) = ps := by
  unfold splitS
  rw [spl1_join h0 h, List.map_map]
  have : (fun l : List Nat => (⟨l.toArray⟩ : Str)) ∘ (fun p : Str => p.cps.toList) = id := by
    funext p
    simp
  rw [this, List.map_id]
end PV
end
section
set_option Elab.async false
set_option linter.all false
set_option maxRecDepth 100000
set_option maxHeartbeats 4000000
namespace PV
open PySem PySem.Spec PyProof.Rows L2
/-! ### texts -/
theorem split_eq (x : Str) (c : Nat) : Txt.split x ⟨#[c]⟩ = splitS c x := by
  have h0 : Txt.split x ⟨#[c]⟩ ≠ [] := fun e => by
    have := split_pos x ⟨#[c]⟩
    rw [e] at this
    simp at this
  have := splitS_join h0 (StrLaws.split_free x c)
  rw [StrLaws.join_split] at this
  exact this.symm
theorem str_one {y : Str} {c : Nat} (h : y.cps.toList = [c]) : y = ⟨#[c]⟩ := by
  obtain ⟨a⟩ := y
  have : a = #[c] := by
    apply Array.toList_inj.mp
    exact h
  rw [this]
theorem strs_rep {K : PySem.W.Frag} {H : Hp} {th : Th} : ∀ ys : List Str, RepL K H th (ys.map D.str) (ys.map V.str)
  | [] => .nil
  | y :: ys => .cons (.str y) (strs_rep ys)
theorem starts_eq (x : Str) (c : Nat) : Txt.startswith x ⟨#[c]⟩ = (x.cps.toList.head? == some c) := by
  obtain ⟨a⟩ := x
  show (decide (0 + 1 ≤ a.size) && (a.extract 0 (0 + 1) == #[c])) = (a.toList.head? == some c)
  obtain ⟨l⟩ := a
  cases l with
  | nil => rfl
  | cons y l =>
    have e : (⟨y :: l⟩ : Array Nat).extract 0 (0 + 1) = #[y] := by
      apply Array.toList_inj.mp
      simp
    rw [e]
    have h1 : decide (0 + 1 ≤ (⟨y :: l⟩ : Array Nat).size) = true := by simp
    rw [h1, Bool.true_and]
    show (#[y] == #[c]) = (some y == some c)
    by_cases h : y = c
    · subst h; simp
    · have h2 : (some y == some c) = false := by simp [h]
      rw [h2]
      simp [h]
section
variable {X : Cx} {sc ls : Scope} {nm : Nms} {cv : Nat → Value} {F : Nat → List D → Store → R D} {E : XK}
variable {ia ib ic : Ex} {a b c : Expr} {pos : Pos}
theorem s_split {m : Bool} {ap cp : Pos} (hl : (ap.endLine == cp.line) = true) (h0 : notCall0 a = true) (hp : plainA b = true) (ha : PE X a (tE X.K cv F E ia)) (hb : PE X b (tE X.K cv F E ib)) :
    PE X (.Call (.Attribute a "split" ap) [b] [] cp) (tE X.K cv F E (.split m ia ib)) := by
  refine PE.weak (pe_split ha hb (by rw [star_of hp]; rfl) (base_of h0) hl) fun σ H Q ⟨th, S, ρ, s, re, h⟩ => ?_
  refine ⟨th, S, ρ, s, re, Post.bind h fun d1 S1 v1 H1 th1 _ e1 s1 r1 h1 => ?_⟩
  cases r1 with
  | str x =>
    refine ⟨⟨x, rfl⟩, th1, S1, ρ, s1, re.mono e1, Post.bind h1 fun d2 S2 v2 H2 th2 _ e2 s2 r2 h2 => ?_⟩
    cases r2 with
    | str y =>
      replace h2 : Post X.K cv E H2 th2 (match y.cps.toList with
        | [c] => if x.length + 2 ≤ line then newL m ((splitS c x).map D.str) S2 else .err
        | _ => .err) Q := h2
      split at h2
      · rename_i c hc
        split at h2
        · rename_i hz
          have ey := str_one hc
          subst ey
          obtain ⟨hl2, hq⟩ := newL_ok s2 (strs_rep (splitS c x)) h2
          refine ⟨x, _, rfl, rfl, rfl, by rw [line_eq]; exact hz, ?_⟩
          rw [split_eq]
          exact hq
        · exact h2.elim
      · exact h2.elim
    | _ => exact h2.elim
  | _ => exact h1.elim
theorem s_starts {ap cp : Pos} (hl : (ap.endLine == cp.line) = true) (h0 : notCall0 a = true) (hp : plainA b = true) (ha : PE X a (tE X.K cv F E ia)) (hb : PE X b (tE X.K cv F E ib)) :
    PE X (.Call (.Attribute a "startswith" ap) [b] [] cp) (tE X.K cv F E (.starts ia ib)) := by
  refine PE.weak (pe_m1 PySem.F.slot_str_startswith PySem.F.type_str_startswith mt_startswith ha hb (by rw [star_of hp]; rfl) (base_of h0) hl) fun σ H Q ⟨th, S, ρ, s, re, h⟩ => ?_
  refine ⟨th, S, ρ, s, re, Post.bind h fun d1 S1 v1 H1 th1 _ e1 s1 r1 h1 => ?_⟩
  cases r1 with
  | str x =>
    refine ⟨⟨x, rfl⟩, th1, S1, ρ, s1, re.mono e1, Post.bind h1 fun d2 S2 v2 H2 th2 _ e2 s2 r2 h2 => ?_⟩
    cases r2 with
    | str y =>
      replace h2 : Post X.K cv E H2 th2 (match y.cps.toList with
        | [c] => .ok (.bool (x.cps.toList.head? == some c)) S2
        | _ => .err) Q := h2
      split at h2
      · rename_i c hc
        have ey := str_one hc
        subst ey
        refine ⟨x, _, rfl, rfl, ?_⟩
        rw [starts_eq]
        exact h2.ok s2 (.bool _)
      · exact h2.elim
    | _ => exact h2.elim
  | _ => exact h1.elim
end
end PV
end
section
set_option Elab.async false
set_option linter.all false
set_option maxRecDepth 100000
set_option maxHeartbeats 4000000
namespace PV
open PySem PySem.Spec PyProof.Rows L2
open Sem (wp)
/-! CoreE: a comprehension whose parts may let an exception out. -/
theorem note_frame {x : Value} {e e' : PySem.Env} (h : e.frame = e'.frame) : noteFrame x e = noteFrame x e' := by
  unfold noteFrame PySem.frameOf
  rw [h]
/-- what must stand behind an exception in the block of ce -/
def errP (X : Cx) (ce : PySem.Env) : Value → Shared → Prop := fun x s' => ∃ m, s'.heap.Ns ce.locals m ∧ ∀ h', Heap.SameBut ce.locals s'.heap h' →
  wpAny (model X.prog X.w) X.A (passOn "comprehension.variables-let-go" x ce : Sem Value) (fun _ _ => False) X.xe { s' with heap := h' }
/-- the block's context, exceptions taken -/
abbrev blkE (X : Cx) (s : Shared) (H : Hp) (scope : Scope) (ce : PySem.Env) (fp : List Addr) : Cx := { X.blk s H scope ce fp with xe := notedBy (model X.prog X.w) X.A ce (errP X ce) }
theorem inv_xe {X : Cx} {pins : List (Addr × Obj)} {σ : L2.St} {H : Hp} {s : Shared} (f : Value → Shared → Prop) (I : Inv X pins σ H s) : Inv { X with xe := f } pins σ H s :=
  ⟨⟨I.ok.mod, I.ok.kind, I.ok.glob, I.ok.blt, I.ok.above, I.ok.inj, I.ok.has, I.ok.cab, I.ok.hd, I.ok.frames, I.ok.stk, I.ok.exf, I.ok.bs, I.ok.bsz, I.ok.noex, I.ok.exfs, I.ok.funs, I.ok.frf⟩,
    I.os, I.bare, I.base, I.loc, I.cell, I.free, I.freeC, I.pin, I.hok, I.len⟩
theorem fly_blk {X : Cx} {E : XK} {scope : Scope} {s3 : Shared} {H3 : Hp} {σ : L2.St} {pins : List (Addr × Obj)} {fp : List Addr} {cl : List (Str × Addr)} (fx : Fly X E) (I3 : Inv X pins σ H3 s3) (f3 : ∀ b ∈ fp, FpOk X pins H3 b ∧ b < s3.heap.objs.size) :
    Fly (blkE X s3 H3 scope (compEnvC scope cl s3.heap.objs.size X.env) fp) E := by
  obtain ⟨L, env0, outer0, hs, hf0, hf, hx⟩ := fx.at_
  generalize hce : compEnvC scope cl s3.heap.objs.size X.env = ce
  have cL : ce.locals = s3.heap.objs.size := by rw [← hce]; rfl
  have cF : ce.frame = some L := by rw [← hce]; exact hf
  have hfr : X.A.frames = some (env0 :: outer0) := by rw [I3.ok.frames, hs]
  refine ⟨L, env0, outer0, hs, hf0, cF, fun u s' x => ?_⟩
  obtain ⟨a, B, sI, pins', σ', H', cls, d, rfl, J, nb, up, sky, na, os, ag, hE⟩ := x
  have nb : ∀ b o, sI.heap.get? b = some o → b ∉ frs X.stack → B.get? b = some o := nb
  have sky : Sky B X.stack a (Zc cls d) L s'.heap := sky
  -- the frames lie below the block's dict
  have nC : ce.locals ∉ frs X.stack := fun hm => by
    obtain ⟨_, o, e, _⟩ := I3.stack.mem hm
    have h := Heap.lt_size e
    rw [cL] at h
    exact absurd h (Nat.lt_irrefl _)
  obtain ⟨m, ⟨oC, es, ep, hoC, rC⟩, _⟩ := J.loc
  have hoC : sI.heap.get? ce.locals = some oC := hoC
  have BC : B.get? ce.locals = some oC := nb _ _ hoC nC
  have Ba : B.get? a = none := by
    rcases sky with h | h | h
    · exact h.2.1
    · exact h.2.1
    · exact h.2.1
  have aC : a ≠ ce.locals := fun e => by rw [e, BC] at Ba; cases Ba
  show wpAny _ _ (noteFrame (.ref a) ce) _ _ s'
  rw [note_frame (show ce.frame = env0.frame from cF.trans hf0.symm)]
  have fin : ∀ h1, HandSPX.HeldZ B (env0 :: outer0) a (Zc cls d) L h1 → s'.heap.UpToSlots h1 → errP X ce (.ref a) { s' with heap := h1 } := fun h1 hh up1 => by
    refine ⟨m, ⟨oC, es, ep, hh.1 _ _ BC, rC⟩, fun h2 sb => ?_⟩
    have sb : Heap.SameBut ce.locals h1 h2 := sb
    -- without the block's dict
    have sub : ∀ b o, (PySem.W.hideAll B [ce.locals]).get? b = some o → B.get? b = some o ∧ b ≠ ce.locals := fun b o e => by
      refine ⟨PySem.W.of_hideAll _ e, fun z => ?_⟩
      rw [z, PySem.W.hideAll_none _ (List.mem_singleton.mpr rfl)] at e; cases e
    have ht := hh.2.2.2
    obtain ⟨oe, vs, T, oT, ts, q1, q2, q3, q4, q5, q6, q7, q8, q9⟩ := ht
    have TC : T ≠ ce.locals := fun e => by rw [e, BC] at q5; cases q5
    have nn : ∀ b, B.get? b = none → (PySem.W.hideAll B [ce.locals]).get? b = none := fun b e => by
      cases q : (PySem.W.hideAll B [ce.locals]).get? b with
      | none => rfl
      | some o => rw [(sub b o q).1] at e; cases e
    have held : HandSPX.HeldZ (PySem.W.hideAll B [ce.locals]) (env0 :: outer0) a (Zc cls d) L h2 := by
      refine ⟨fun b o e => (sb.2 b (sub b o e).2).trans (hh.1 b o (sub b o e).1), nn a Ba, ?_, oe, vs, T, oT, ts, (sb.2 a aC).trans q1, q2, q3, q4, nn T q5, q6, (sb.2 T TC).trans q7, q8, q9⟩
      have ff : h1.FunFrames (PySem.W.hideAll B [ce.locals]) (env0 :: outer0) := funFrames_none hh.2.2.1 fun b hb => nn b (hh.2.2.1.mem hb).1
      obtain ⟨g, hg⟩ : ∃ g : Heap, g = PySem.W.hideAll h1 [ce.locals] := ⟨_, rfl⟩
      have fr : ∀ b ∈ frs (env0 :: outer0), b ≠ ce.locals := fun b hb e => nC (by rw [hs, ← e]; exact hb)
      have gf : g.FunFrames (PySem.W.hideAll B [ce.locals]) (env0 :: outer0) := by
        have : ∀ l : List PySem.Env, (∀ b ∈ frs l, b ≠ ce.locals) → h1.FunFrames (PySem.W.hideAll B [ce.locals]) l → g.FunFrames (PySem.W.hideAll B [ce.locals]) l := by
          intro l
          induction l with
          | nil => intro _ _; trivial
          | cons e l ih =>
            intro hl h
            obtain ⟨k1, ⟨L', o, k2, k3, k4, k5⟩, k6⟩ := h
            refine ⟨k1, ⟨L', o, k2, k3, ?_, k5⟩, ih (fun b hb => hl b ?_) k6⟩
            · rw [hg]
              exact PySem.W.hideAll_get _ k4 fun hm => hl L' (List.mem_filterMap.mpr ⟨e, List.mem_cons_self, k2⟩) (List.mem_singleton.mp hm)
            · obtain ⟨e', he, q⟩ := List.mem_filterMap.mp hb
              exact List.mem_filterMap.mpr ⟨e', List.mem_cons_of_mem _ he, q⟩
        exact this _ fr ff
      refine Heap.FunFrames.of_keeps (fun b o e _ => ?_) gf
      rw [hg] at e
      have e1 := PySem.W.of_hideAll _ e
      have ne : b ≠ ce.locals := fun z => by
        rw [z, PySem.W.hideAll_none _ (List.mem_singleton.mpr rfl)] at e; cases e
      exact ⟨o, (sb.2 b ne).trans e1, rfl⟩
    unfold PySem.passOn
    refine wpAny_bind (wpAny_field ((sb.2 a aC).trans q1) q3 q4 ?_)
    rw [if_neg (show ¬ ((Value.ref T == Value.none) = true) from by simp)]
    rw [cF]
    refine wpAny_bind (HandSPX.setFlight_onZ held fun h3 held3 up3 => ?_)
    refine wpAny_throw (hx _ _ ?_)
    have I6 : Inv X pins σ H' sI := I3.call' (ch := fp) J.os J.base J.hok J.bare fun b hb => ⟨(f3 b hb).1.2.2.2.1, (f3 b hb).1.2.1, (f3 b hb).1.2.2.2.2.1, (f3 b hb).1.2.2.2.2.2⟩
    have nC' : H' ce.locals = none := J.free
    obtain ⟨g0, g1, g2, g3, g4, g5⟩ : FpOk X pins H' ce.locals := I3.fpOk (by rw [cL]; exact Nat.le_refl _) nC'
    have I7 : Inv X pins σ H' { sI with heap := PySem.W.hideAll sI.heap [ce.locals], toks := sI.toks } := I6.turned (it := ce.locals) (t' := sI.toks) (fun b o hb e => PySem.W.hideAll_get _ e fun hm => hb (List.mem_singleton.mp hm)) g0 g1 g3 g4 g5
    have sub2 : ∀ b o, (PySem.W.hideAll sI.heap [ce.locals]).get? b = some o → sI.heap.get? b = some o ∧ b ≠ ce.locals := fun b o e => by
      refine ⟨PySem.W.of_hideAll _ e, fun z => ?_⟩
      rw [z, PySem.W.hideAll_none _ (List.mem_singleton.mpr rfl)] at e; cases e
    refine ⟨a, PySem.W.hideAll B [ce.locals], _, pins, σ, H', cls, d, rfl, I7, fun b o e hb => ?_, fun b o e hd => ?_, ?_, na, os, ag, hE⟩
    · obtain ⟨e1, e2⟩ := sub2 b o e
      exact PySem.W.hideAll_get _ (nb b o e1 hb) fun hm => e2 (List.mem_singleton.mp hm)
    · obtain ⟨e1, e2⟩ := sub2 b o e
      obtain ⟨sl1, k1⟩ := up b o e1 hd
      obtain ⟨sl2, k2⟩ := up1 b _ k1 hd
      obtain ⟨sl3, k3⟩ := up3 b _ ((sb.2 b e2).trans k2) hd
      exact ⟨sl3, k3⟩
    · rw [hs]
      exact .inr (.inr held3)
  have sky : Sky B (env0 :: outer0) a (Zc cls d) L s'.heap := by rw [← hs]; exact sky
  rcases sky with ⟨hB, hn, hl, oe, vs, he, hz, hd, h1⟩ | fl | hh
  · exact HandSPX.look_newZ Zc.steady hfr hl hf0 he hB hn hd h1 hz fin
  · exact HandSPX.looks_onZ Zc.steady hfr hf0 fl fin
  · exact HandSPX.againZ hf0 hh.2.2.2 (fin s'.heap hh (Heap.UpToSlots.refl _))
/-! ### the comprehension -/
def compPostE (X : Cx) (use : Option (Value → Sem Unit)) (Q : Value → Shared → Prop) (acc : Value) (ce : PySem.Env) (r : Result) (s' : Shared) : Prop :=
  match r with
  | .ok _ => compPost (model X.prog X.w) X.A X.xe use Q acc ce.locals (.ok .next) s'
  | .error x => errP X ce x s'
theorem comp_freeE {X : Cx} {s : Shared} {e : Expr} {scope : Scope} {pos : Pos} {newAcc first : Sem Value} {g : Comprehension} {gs : List Comprehension} {cl : List (Str × Addr)} {use : Option (Value → Sem Unit)} {Q : Value → Shared → Prop}
    (hcl : clausesOf e = g :: gs) (hs : ∀ x, foldedSetIterable g.iter X.env x = pure x) (hclos : closureFor scope X.env = pure cl)
    (hkind : scope.kind = .function) (hnames : ∀ x ∈ scope.names, x.2 = .local → scope.names.lookup x.1 = some .local)
    (h : wpAny (model X.prog X.w) X.A first (fun x s₁ => wpAny (model X.prog X.w) X.A (pyIter x) (fun it s₂ => wpAny (model X.prog X.w) X.A newAcc (fun acc s₃ =>
      wpAny (model X.prog X.w) X.A (newFunctionEnv scope X.env.globals cl [] X.env.qual none .none (some X.env)) (fun cenv s₄ =>
        codeAny (model X.prog X.w) X.A (.compStart e 0 it acc { cenv with scope := relabel scope X.env }) (compPostE X use Q acc { cenv with scope := relabel scope X.env }) s₄) X.xe s₃) X.xe s₂) X.xe s₁) X.xe s) :
    wpAny (model X.prog X.w) X.A (comprehension e scope X.env pos newAcc false first use) Q X.xe s := by
  unfold comprehension
  rw [hclos, hcl]
  refine wpAny_bind (wpAny_mono h (fun x s₁ h₁ => ?_) fun _ _ h' => h')
  refine wpAny_bind (wpAny_standAt (wpAny_bind (wpAny_of_eq (hs x) (wpAny_bind (wpAny_holding ?_)))))
  refine wpAny_mono h₁ (fun it s₂ h₂ => ?_) fun _ _ h' => h'
  refine wpAny_standIf (wpAny_bind (wpAny_mono h₂ (fun acc s₃ h₃ => wpAny_bind (wpAny_pure (wpAny_bind (wpAny_mono h₃ (fun cenv s₄ h₄ => ?_) fun _ _ h' => h')))) fun _ _ h' => h'))
  dsimp only
  have hv : ∀ x ∈ scope.names, x.2 = .local → Env.kindOf { cenv with scope := relabel scope X.env } x.1 = some .local := fun x hx hl => lookup_relabel_local (hnames x hx hl)
  generalize hvs : (scope.names.filter fun x => (x.2 == .local || x.2 == .cell) && x.1 != (".0" : Str)) = vs
  have vin : ∀ x ∈ vs, x ∈ scope.names := fun x hx => by rw [← hvs] at hx; exact (List.mem_filter.mp hx).1
  have hv1 : ∀ x ∈ vs.reverse, x.2 = .local → Env.kindOf { cenv with scope := relabel scope X.env } x.1 = some .local := fun x hx hl => hv x (vin x (List.mem_reverse.mp hx)) hl
  have hv2 : ∀ x ∈ vs.reverse.drop 1 ++ vs.reverse.take 1, x.2 = .local → Env.kindOf { cenv with scope := relabel scope X.env } x.1 = some .local := fun x hx hl => by
    rcases List.mem_append.mp hx with h1 | h1
    · exact hv1 x (List.mem_of_mem_drop h1) hl
    · exact hv1 x (List.mem_of_mem_take h1) hl
  refine wpAny_holding (wpAny_bind (wpAny_attempt (wpAny_holding (wpAny_run (codeAny_mono h₄ fun r s' hr => ?_)))))
  cases r with
  | ok f =>
    cases use with
    | none =>
      obtain ⟨m, hn, hr⟩ := hr
      exact wpAny_bind (wpAny_holding (wpAny_comp_letGo (cenv := { cenv with scope := relabel scope X.env }) hkind _ s' m hv1 hn fun h' m' _ hs' => wpAny_pure (hr h' hs')))
    | some u =>
      have hr : wpAny (model X.prog X.w) X.A (u acc) (fun _ s'' => ∃ m, s''.heap.Ns cenv.locals m ∧ ∀ h', Heap.SameBut cenv.locals s''.heap h' → Q .none { s'' with heap := h' }) X.xe s' := hr
      refine wpAny_bind (wpAny_rule (wpAny_bind (wpAny_holding (wpAny_mono hr (fun _ s'' hr' => ?_) fun _ _ h' => h'))))
      obtain ⟨m, hn, hr'⟩ := hr'
      exact wpAny_bind (wpAny_comp_letGo (cenv := { cenv with scope := relabel scope X.env }) hkind _ s'' m hv2 hn fun h' m' _ hs' => wpAny_pure (hr' h' hs'))
  | error x =>
    obtain ⟨m, hn, hr⟩ := hr
    exact wpAny_bind (wpAny_holding (wpAny_comp_letGo (cenv := { cenv with scope := relabel scope X.env }) hkind _ s' m hv1 hn fun h' m' _ hs' => wpAny_mono (hr h' hs') (fun _ _ f => f.elim) fun _ _ y => y))
/-- in each block of this comprehension -/
def Blks (X : Cx) (scope : Scope) (P : Cx → Prop) : Prop := ∀ (pins : List (Addr × Obj)) (σ : L2.St) (s : Shared) (H : Hp) (fp : List Addr) (cl : List (Str × Addr)), Inv X pins σ H s → (∀ b ∈ fp, FpOk X pins H b ∧ b < s.heap.objs.size) →
  P (blkE X s H scope (compEnvC scope cl s.heap.objs.size X.env) fp)
section
variable {X : Cx}
theorem lcE_core {pins : List (Addr × Obj)} {s : Shared} {σ : L2.St} {H : Hp} {Q : VK} {elt tg iter : Expr} {ifs : List Expr} {scope : Scope} {own : List (Str × Nat)} {pos pos' : Pos} {wi : TI} {g : TG} {tt : TT} {te : TE} {use : Option (Value → Sem Unit)} {Qf : Value → Shared → Prop}
    (hc : X.calm = true) (hN : X.N.Nodup) (I : Inv X pins σ H s) (hi : PI X tg iter wi) (ok : BlkOk X.N X.env.scope scope own)
    (hg : Blks X scope fun Y => PG Y tg g) (ht : Blks X scope fun Y => PTs Y ifs tt) (he : Blks X scope fun Y => PE Y elt te) (hs : ∀ x, foldedSetIterable iter X.env x = pure x)
    (h : tLc wi g tt te (own.map (·.2)) σ H Q)
    (hRR : ∀ D C s' m H', Inv X pins σ H' s' → Q (.ref D) H' → s'.heap.Ns C m → FpOk X pins H' C → compPost (model X.prog X.w) X.A X.xe use Qf (.ref D) C (.ok .next) s') :
    wpAny (model X.prog X.w) X.A (comprehension (.ListComp elt [⟨tg, iter, ifs, 0⟩] scope pos) scope X.env pos' (newList []) false (eval iter X.env) use) Qf X.xe s := by
  have hfree : ∀ y ∈ scope.names, y.2 = .free → ∃ c, X.env.cells.lookup y.1 = some c := fun y hy e => by
    rcases ok.free y hy e with k | k
    · exact I.ok.has _ (.inl k)
    · exact I.ok.has _ (.inr k)
  refine comp_freeE (use := use) rfl hs (closure_ok hfree) ok.kind (fun y hy e => by rw [ok.uniq y hy, e])
    (thn (hi.run pins s σ H _ I h) fun xv s1 hx => thn hx fun itv s2 h2 => ?_)
  obtain ⟨it, fp, tn, J, H2, e, I2, T, st2, f2, q⟩ := h2
  subst e
  refine wpAny_newObj_type (newEnv_comp ?_) (by show 0 ≤ sizeLine; decide)
  generalize hD : s2.heap.objs.size = D
  have hDn : H2 D = none := I2.hok.fresh (Nat.le_of_eq hD)
  obtain ⟨W, ⟨m0, w0⟩, turn⟩ := q D hDn
  -- the new list
  generalize hs3 : ({ s2 with heap := s2.heap.push { cls := .type "list", data := .seq ([] : List Value).toArray } } : Shared) = s3
  have I3 : Inv X pins σ (upd H2 D (.lst [])) s3 := by
    rw [← hs3]
    refine I2.laid (t' := s2.toks) (fun b o e => Heap.get?_push_of_some _ e) (Nat.le_of_eq hD) ⟨Nat.zero_le _, [], 0, .nil, ?_⟩
    rw [← hD]
    exact Heap.get?_push_size _ rfl
  have h3 : s3.heap = s2.heap.push { cls := .type "list", data := .seq ([] : List Value).toArray } := by rw [← hs3]
  have sz : ∀ b ∈ fp, b < s2.heap.objs.size := fun b hb => by
    obtain ⟨o, e, _⟩ := T.obj _ _ st2 b hb
    exact Heap.lt_size e
  have f3 : ∀ b ∈ fp, FpOk X pins (upd H2 D (.lst [])) b ∧ b < s3.heap.objs.size := fun b hb => by
    have hlt := sz b hb
    refine ⟨⟨?_, (f2 b hb).2⟩, by rw [h3, Heap.size_push]; exact Nat.lt_succ_of_lt hlt⟩
    rw [upd_ne (by rw [← hD]; exact Nat.ne_of_lt hlt)]
    exact (f2 b hb).1
  have st3 : tn 0 s3.heap := T.keep _ _ _ st2 fun b _ o e => by rw [h3]; exact Heap.get?_push_of_some _ e
  have I4 := inv_xe (notedBy (model X.prog X.w) X.A (compEnvC scope (cellsFrom (s3.heap.objs.size + 1) scope.names (cloFrom X.env.cells scope.names [])) s3.heap.objs.size X.env) (errP X (compEnvC scope (cellsFrom (s3.heap.objs.size + 1) scope.names (cloFrom X.env.cells scope.names [])) s3.heap.objs.size X.env))) (block_start I3 ok hN f3)
  have pg := hg pins σ s3 _ fp (cellsFrom (s3.heap.objs.size + 1) scope.names (cloFrom X.env.cells scope.names [])) I3 f3
  have pt := ht pins σ s3 _ fp (cellsFrom (s3.heap.objs.size + 1) scope.names (cloFrom X.env.cells scope.names [])) I3 f3
  have pe := he pins σ s3 _ fp (cellsFrom (s3.heap.objs.size + 1) scope.names (cloFrom X.env.cells scope.names [])) I3 f3
  show codeAny _ _ (.compStart (.ListComp elt [⟨tg, iter, ifs, 0⟩] scope pos) 0 (.ref it) (.ref D) (compEnvC scope (cellsFrom (s3.heap.objs.size + 1) scope.names (cloFrom X.env.cells scope.names [])) s3.heap.objs.size X.env)) (compPostE X use Qf (.ref D) (compEnvC scope (cellsFrom (s3.heap.objs.size + 1) scope.names (cloFrom X.env.cells scope.names [])) s3.heap.objs.size X.env)) { s3 with heap := pushCells (s3.heap.push { cls := .type "dict", data := .dict #[] }) scope.names }
  have nfp : ∀ b ∈ fp, (upd H2 D (.lst [])) b = none := fun b hb => (f3 b hb).1.1
  generalize hce : compEnvC scope (cellsFrom (s3.heap.objs.size + 1) scope.names (cloFrom X.env.cells scope.names [])) s3.heap.objs.size X.env = ce at I4 pg pt pe ⊢
  have cL : ce.locals = s3.heap.objs.size := by subst hce; rfl
  generalize hH3 : upd H2 D (.lst []) = H3 at I3 I4 pg pt pe w0 nfp f3
  generalize hs4 : ({ s3 with heap := pushCells (s3.heap.push { cls := .type "dict", data := .dict #[] }) scope.names } : Shared) = s4 at I4 ⊢
  have st4 : tn 0 s4.heap := T.keep _ _ _ st3 fun b _ o e => by rw [← hs4]; exact pushCells_keeps _ _ _ _ (Heap.get?_push_of_some _ e)
  have stat : ∀ {σ' : L2.St} {H' : Hp} {s' : Shared}, Inv (blkE X s3 H3 scope ce fp) [] σ' H' s' → (∀ b ∈ fp, H' b = none) → ∀ b ∈ fp, FpOk (blkE X s3 H3 scope ce fp) [] H' b := fun {σ' H' s'} I' hn b hb =>
    ⟨hn b hb, (I'.ok.exf b hb).1, I'.ok.exfs b hb, .inl hb, fun x c e => (I'.ok.exf b hb).2 x c e, fun p hp => absurd (show p ∈ ([] : List (Addr × Obj)) ++ [] from hp) (by simp)⟩
  have loop : codeAny (model X.prog X.w) X.A (.compLoop (.ListComp elt [⟨tg, iter, ifs, 0⟩] scope pos) 0 (.ref it) (.ref D) ce) (compPostE X use Qf (.ref D) ce) s4 := by
    refine compLoop_any (fun n s' => ∃ i H', Inv (blkE X s3 H3 scope ce fp) [] (wipe σ (own.map (·.2))) H' s' ∧ tn i s'.heap ∧ (∀ b ∈ fp, H' b = none) ∧ W i n H') ?_ m0 ⟨0, H3, I4, st4, nfp, w0⟩
    rintro n s5 ⟨i, H5, I5, st5, n5, w5⟩
    rcases turn i n H5 w5 with ⟨stop, qq⟩ | ⟨go, Nx, hNx, step⟩
    · have td := T.done (blkE X s3 H3 scope ce fp) rfl rfl rfl hc i [] s5 _ H5 (fun _ _ => False) I5 (stat I5 n5) st5 stop
      refine thnF td fun r s6 ⟨hr, I6⟩ => ?_
      subst hr
      have I7 : Inv X pins σ H5 s6 := I3.call' (ch := fp) I6.os I6.base I6.hok I6.bare fun b hb => ⟨(f3 b hb).1.2.2.2.1, (f3 b hb).1.2.1, (f3 b hb).1.2.2.2.2.1, (f3 b hb).1.2.2.2.2.2⟩
      have nC : H5 s3.heap.objs.size = none := by
        have z : H5 ce.locals = none := I6.free
        rw [cL] at z
        exact z
      obtain ⟨m, hn, _⟩ := I6.loc
      have hn : s6.heap.Ns ce.locals m := hn
      rw [cL] at hn
      have z := hRR D s3.heap.objs.size s6 m H5 I7 qq hn (I3.fpOk (Nat.le_refl _) nC)
      rw [← cL] at z
      exact z
    · have ti := T.item (blkE X s3 H3 scope ce fp) rfl rfl rfl hc i [] s5 _ H5 (fun _ _ => False) I5 (stat I5 n5) st5 go
      refine thnF ti fun r s6 ⟨u, hr, h6⟩ => ?_
      subst hr
      refine thnF h6 fun _ s7 ⟨x, H7, I7, r7, y7, st7, n7⟩ => ?_
      have I7' := I7.pinned (stat I7 n7) (T.obj _ _ st7)
      refine thn (pg.run _ s7 _ H7 x u _ I7' r7 (step x H7 y7)) fun _ s8 ⟨σ8, H8, I8, hw8, q8⟩ => ?_
      refine thn (pt.run _ s8 σ8 H8 _ I8 q8) fun b s9 ⟨H9, I9, q9⟩ => ?_
      -- the turn's end
      have fin : ∀ {s' : Shared} {H' : Hp}, Inv (blkE X s3 H3 scope ce fp) ([] ++ pinsAt fp s7.heap) σ8 H' s' → Nx H' → ∃ m, m < n ∧ ∃ i H', Inv (blkE X s3 H3 scope ce fp) [] (wipe σ (own.map (·.2))) H' s' ∧ tn i s'.heap ∧ (∀ b ∈ fp, H' b = none) ∧ W i m H' := fun {s' H'} I' nx => by
        obtain ⟨m', hm, w'⟩ := hNx H' nx
        have pin' : ∀ b ∈ fp, ∀ o, s7.heap.get? b = some o → s'.heap.get? b = some o ∧ H' b = none := fun b hb o e =>
          let z := I'.pin (b, o) (List.mem_append_right _ (List.mem_append_right _ (mem_pinsAt hb e)))
          ⟨z.1, z.2.1⟩
        have hl : (wipe σ (own.map (·.2))).length = σ8.length := by rw [← hw8, wipe_length]
        refine ⟨m', hm, i + 1, H', (I'.unpinned (pins := [])).weak hl (fun j v e => ?_), T.keep _ _ _ st7 fun b hb o e => (pin' b hb o e).1, fun b hb => ?_, w'⟩
        · rw [← hw8] at e
          exact (wipe_some e).1
        · obtain ⟨o, e, _⟩ := T.obj _ _ st7 b hb
          exact (pin' b hb o e).2
      cases b with
      | false =>
        simp only [Bool.false_eq_true, if_false] at q9 ⊢
        exact fin I9 q9
      | true =>
        simp only [if_true] at q9 ⊢
        refine thn (pe.run _ s9 σ8 H9 _ I9 q9) fun z s10 ⟨yv, H10, I10, r10, acc, hD10, hz10, nx⟩ => ?_
        exact app_ok (X := blkE X s3 H3 scope ce fp) I10 hD10 hz10 r10 fun s11 I11 => fin I11 nx
  exact codeAny_compStart_list loop (T.self X.A 0 _ _ _ st4 loop)
/-- as a value -/
theorem peE_lc {elt tg iter : Expr} {ifs : List Expr} {scope : Scope} {own : List (Str × Nat)} {pos : Pos} {wi : TI} {g : TG} {tt : TT} {te : TE} (hc : X.calm = true) (hN : X.N.Nodup) (hi : PI X tg iter wi) (ok : BlkOk X.N X.env.scope scope own)
    (hg : Blks X scope fun Y => PG Y tg g) (ht : Blks X scope fun Y => PTs Y ifs tt) (he : Blks X scope fun Y => PE Y elt te) (hs : ∀ x, foldedSetIterable iter X.env x = pure x) :
    PE X (.ListComp elt [⟨tg, iter, ifs, 0⟩] scope pos) (tLc wi g tt te (own.map (·.2))) := by
  refine ⟨fun pins s σ H Q I h => ?_⟩
  rw [eval_ListComp]
  refine lcE_core hc hN I hi ok hg ht he hs h fun D C s' m H' I' q hn f => ⟨m, hn, fun h'' sb => ?_⟩
  obtain ⟨f0, f1, f2, f3, f4, f5⟩ := f
  exact ⟨.ref D, H', I'.turned (t' := s'.toks) (fun b o hb e => (sb.2 b hb).trans e) f0 f1 f3 f4 f5, rfl, q⟩
/-- name = [..] on one line, the name a local -/
theorem psE_setLc {i : Nat} {y : Str} {py : Pos} {elt tg iter : Expr} {ifs : List Expr} {scope : Scope} {own : List (Str × Nat)} {pos spos : Pos} {wi : TI} {g : TG} {tt : TT} {te : TE} (hc : X.calm = true) (hN : X.N.Nodup) (hy : X.N[i]? = some y) (hyl : X.env.scope.names.lookup y = some .local)
    (hsw : swapsWith (.ListComp elt [⟨tg, iter, ifs, 0⟩] scope pos) (some (.Name y py)) spos.line X.env = pure true) (hi : PI X tg iter wi) (ok : BlkOk X.N X.env.scope scope own)
    (hg : Blks X scope fun Y => PG Y tg g) (ht : Blks X scope fun Y => PTs Y ifs tt) (he : Blks X scope fun Y => PE Y elt te) (hs : ∀ x, foldedSetIterable iter X.env x = pure x) :
    PS X (.Assign [.Name y py] (.ListComp elt [⟨tg, iter, ifs, 0⟩] scope pos) spos) (tAsg (tLc wi g tt te (own.map (·.2))) (gName i)) := by
  refine ⟨fun pins s σ H D I h => ?_⟩
  rw [exec_Assign_Name_used _ _ _ _ hsw]
  refine wpAny_bind (wpAny_standAt (wpAny_bind ?_))
  show wpAny _ X.A (do let _ ← comprehension (.ListComp elt [⟨tg, iter, ifs, 0⟩] scope pos) scope X.env (firstIterPos [⟨tg, iter, ifs, 0⟩] pos) (newList []) false (eval iter X.env) (some (assign (.Name y py) X.env))) _ _ s
  have h : tLc wi g tt te (own.map (·.2)) σ H (fun x H1 => gName i x σ H1 D.nx) := h
  refine wpAny_bind (thn (lcE_core (Qf := fun _ s' => SP X pins D .next s') hc hN I hi ok hg ht he hs h fun L C s' m H' I' q hn f => ?_) fun _ s' hq => wpAny_pure (wpAny_pure hq))
  show wpAny _ _ (assign (.Name y py) X.env (.ref L)) _ _ _
  refine wpAny_assign_Name (store_ok2 (v := V.ref L) I' hN hy (.inl hyl) rfl (fun s2 I2 ⟨a, sb, ha⟩ => ?_) (.inr hyl))
  obtain ⟨f0, f1, f2, f3, f4, f5⟩ := f
  have haC : C ≠ a := by
    rcases ha with z | z
    · rw [z]; exact f1
    · exact fun e => f4 y a z e.symm
  refine ⟨m, hn.sameBut sb haC, fun h3 sb3 => ?_⟩
  exact ⟨_, H', I2.turned (t' := s2.toks) (fun b o hb e => (sb3.2 b hb).trans e) f0 f1 f3 f4 f5, q⟩
end
end PV
end
section
set_option Elab.async false
set_option linter.all false
set_option maxRecDepth 100000
set_option maxHeartbeats 4000000
namespace PV
open PySem PySem.Spec PyProof.Rows L2
/-! ### what is walked -/
/-- J goes through the items, while what it walks stands -/
def WalkR (K : PySem.W.Frag) (J : It) (its : List D) (g : Guard) (as : List D) (avs : List V) : Prop :=
  ∀ H' th' S', Sim K H' th' S' → RepL K H' th' as avs → g.ok S' = true →
    (∀ i, i < its.length → J.go i H') ∧ J.stop its.length H' ∧
      ∀ (i : Nat) (x : V) (H'' : Hp) (it : D), its[i]? = some it → J.yld i H' x H'' → Ext H' th' H'' th' ∧ Sim K H'' th' S' ∧ Rep K H'' th' it x
def iW (K : PySem.W.Frag) (cv : Nat → Value) (F : Nat → List D → Store → R D) (E : XK) (k : Ik) (src : Ex) : TI := fun σ H R => ∃ th S ρ, Sim K H th S ∧ RepE K H th ρ σ ∧ (match ev F src ρ S with
  | .ok d S1 => ∃ as its g, d = .tup as ∧ walkD k as S1 = some (its, g) ∧ ∀ J H1 th1 avs, Ext H th H1 th1 → Sim K H1 th1 S1 → RepL K H1 th1 as avs → WalkR K J its g as avs → R J H1
  | .exc c S1 => ∀ H' th', Ext H th H' th' → Sim K H' th' S1 → E (cv c) none H'
  | .err => False)
theorem PI.weak {X : Cx} {tg iter : Expr} {t t' : TI} (h : PI X tg iter t) (w : ∀ σ H R, t' σ H R → t σ H R) : PI X tg iter t' := ⟨fun pins s σ H R I q => h.run pins s σ H R I (w σ H R q)⟩
def iAny (K : PySem.W.Frag) (te : TE) : TI := fun σ H R => te σ H fun x H1 => (∃ a, x = .ref a ∧ (∃ xs, SqL K H1 a xs) ∧ R (Itl K a) H1) ∨ (∃ a, x = .ref a ∧ (∃ xs, SqT K H1 a xs) ∧ R (Itt K a) H1) ∨ (∃ z, x = .str z ∧ R (Its z) H1)
theorem pi_any {X : Cx} {tg l : Expr} {tl : TE} (hl : PE X l tl) : PI X tg l (iAny X.K tl) := by
  refine ⟨fun pins s σ H R I h => ?_⟩
  refine thn (hl.run pins s σ H _ I h) fun v s1 ⟨x, H1, I1, r1, q1⟩ => ?_
  rcases q1 with ⟨a, e, ⟨xs, hq⟩, q⟩ | ⟨a, e, ⟨xs, hq⟩, q⟩ | ⟨z, e, q⟩
  · subst e
    cases r1
    obtain ⟨its, rv, p, hz⟩ := I1.list hq
    refine wpAny_pyIter_list p.isList ?_
    exact pi_one (tk := s1.toks) I1 _ (turn_list a _) ⟨_, Heap.get?_push_size _ rfl, rfl, rfl⟩ q
  · subst e
    cases r1
    obtain ⟨its, rv, p, hz⟩ := I1.tuple hq
    refine wpAny_pyIter_tuple (show s1.heap.IsTuple a its.toArray from p) ?_
    exact pi_one (tk := s1.toks) I1 _ (turn_tuple a _) ⟨_, Heap.get?_push_size _ rfl, rfl, rfl⟩ q
  · subst e
    obtain ⟨t, rfl⟩ := r1
    cases ha : z.cps.all (· < 128)
    · exact wpAny_pyIter_wide ha (pi_one (tk := s1.toks) I1 _ (turn_str _ z t "str_iterator" (.inr rfl)) ⟨_, Heap.get?_push_size _ rfl, rfl, rfl⟩ q)
    · exact wpAny_pyIter_ascii ha (pi_one (tk := s1.toks) I1 _ (turn_str _ z t "str_ascii_iterator" (.inl rfl)) ⟨_, Heap.get?_push_size _ rfl, rfl, rfl⟩ q)
section
variable {K : PySem.W.Frag} {H : Hp} {th : Th} {S S' : Store}
theorem guard_app {g g' : Guard} {S : Store} (h : Guard.ok (g ++ g') S = true) : g.ok S = true ∧ g'.ok S = true := by
  unfold Guard.ok at h ⊢
  rw [List.all_append, Bool.and_eq_true] at h
  exact h
theorem seq_later {d : D} {xs : List D} (h : getSeq S d = some xs) (g : (guardOf S d).ok S' = true) : getSeq S' d = some xs := by
  cases d with
  | loc n =>
    have h : (match S[n]? with | some (.lst xs) => some xs | _ => none) = some xs := h
    cases hs : S[n]? with
    | none => rw [hs] at h; cases h
    | some c =>
      rw [hs] at h
      cases c with
      | ins c fs => cases h
      | lst ys =>
        have g : Guard.ok (match S[n]? with | some (.lst xs) => [(n, xs)] | _ => []) S' = true := g
        rw [hs] at g
        have g : (decide (S'[n]? = some (.lst ys)) && true) = true := g
        have e : S'[n]? = some (.lst ys) := of_decide_eq_true (band g).1
        show (match S'[n]? with | some (.lst xs) => some xs | _ => none) = some xs
        rw [e]
        exact h
  | _ => exact h
/-- the walk over a value: a list, a tuple -/
def JOf (K : PySem.W.Frag) : D → V → It
  | .tup _, .ref a => Itt K a
  | .str z, _ => Its z
  | _, .ref a => Itl K a
  | _, _ => Itr 0 0
theorem walk_L {a : Addr} {xs : List D} {vs : List V} (s : Sim K H th S) (h1 : SqL K H a vs) (h2 : RepL K H th xs vs) : (∀ i, i < xs.length → (Itl K a).go i H) ∧ (Itl K a).stop xs.length H ∧
    ∀ (i : Nat) (x : V) (H'' : Hp) (it : D), xs[i]? = some it → (Itl K a).yld i H x H'' → Ext H th H'' th ∧ Sim K H'' th S ∧ Rep K H'' th it x := by
  refine ⟨fun i hi => ?_, ⟨vs, h1, Nat.le_of_eq h2.length.symm⟩, fun i x H'' it hit y => ?_⟩
  · have hi' : i < vs.length := by rw [← h2.length]; exact hi
    exact ⟨vs, vs[i], h1, List.getElem?_eq_getElem hi'⟩
  · obtain ⟨rfl, y⟩ := y
    obtain ⟨w, hw, rw'⟩ := h2.get hit
    have := y vs h1
    rw [hw] at this
    cases this
    exact ⟨.refl, s, rw'⟩
theorem walk_T {a : Addr} {xs : List D} {vs : List V} (s : Sim K H th S) (h1 : SqT K H a vs) (h2 : RepL K H th xs vs) : (∀ i, i < xs.length → (Itt K a).go i H) ∧ (Itt K a).stop xs.length H ∧
    ∀ (i : Nat) (x : V) (H'' : Hp) (it : D), xs[i]? = some it → (Itt K a).yld i H x H'' → Ext H th H'' th ∧ Sim K H'' th S ∧ Rep K H'' th it x := by
  refine ⟨fun i hi => ?_, ⟨vs, h1, Nat.le_of_eq h2.length.symm⟩, fun i x H'' it hit y => ?_⟩
  · have hi' : i < vs.length := by rw [← h2.length]; exact hi
    exact ⟨vs, vs[i], h1, List.getElem?_eq_getElem hi'⟩
  · obtain ⟨rfl, y⟩ := y
    obtain ⟨w, hw, rw'⟩ := h2.get hit
    have := y vs h1
    rw [hw] at this
    cases this
    exact ⟨.refl, s, rw'⟩
theorem walk_seq {d : D} {v : V} {xs : List D} (h : getSeq S d = some xs) : WalkR K (JOf K d v) xs (guardOf S d) [d] [v] := by
  intro H' th' S' s r g
  have hl := seq_later h g
  have r0 : Rep K H' th' d v := by cases r with | cons r _ => exact r
  cases r0 with
  | tup e r1 => cases h; exact walk_T s (SqT.of e) r1
  | lst e n g r1 => cases h; exact walk_L s (SqL.of e) r1
  | scr e => cases h; exact walk_L s e.sq .ints
  | loc e =>
    obtain ⟨a, vs, e', h1, h2⟩ := getList_ok s (.loc e) (show getList S' (.loc _) = some xs from hl)
    cases e'
    exact walk_L s (SqL.of h1) h2
  | none => cases h
  | bool _ => cases h
  | int _ => cases h
  | str _ => cases h
theorem walk_str {z : Str} {v : V} {as : List D} {avs : List V} : WalkR K (Its z) (chars z) [] as avs := by
  intro H' th' S' s r g
  have hl : (chars z).length = z.cps.size := by simp [chars]
  refine ⟨fun i hi => by rw [hl] at hi; exact hi, by rw [hl]; exact Nat.le_refl _, fun i x H'' it hit y => ?_⟩
  obtain ⟨rfl, c, hc, rfl⟩ := y
  refine ⟨.refl, s, ?_⟩
  unfold chars at hit
  rw [List.getElem?_map, Array.getElem?_toList, hc] at hit
  cases hit
  exact .str _
theorem walk_range {lo hi : Int} {as : List D} {avs : List V} : WalkR K (Itr lo (hi - lo).toNat) (rangeL lo hi) [] as avs := by
  intro H' th' S' s r g
  have hl : (rangeL lo hi).length = (hi - lo).toNat := by simp [rangeL]
  refine ⟨fun i hi' => by rw [hl] at hi'; exact hi', by rw [hl]; exact Nat.le_refl _, fun i x H'' it hit y => ?_⟩
  obtain ⟨rfl, rfl⟩ := y
  refine ⟨.refl, s, ?_⟩
  unfold rangeL at hit
  rw [List.getElem?_map] at hit
  have hi' : i < (hi - lo).toNat := by
    cases hr : (List.range (hi - lo).toNat)[i]? with
    | none => rw [hr] at hit; cases hit
    | some k => simpa using (List.getElem?_eq_some_iff.mp hr).1
  rw [List.getElem?_range hi'] at hit
  cases hit
  exact .int _
end
section
variable {X : Cx} {sc ls : Scope} {nm : Nms} {cv : Nat → Value} {F : Nat → List D → Store → R D} {E : XK} {tg : Expr}
variable {ia ib ic : Ex} {a b c : Expr} {pos : Pos}
theorem walkD_seq {d : D} {S : Store} {its : List D} {g : Guard} (hn : ∀ z, d ≠ .str z) (h : walkD .seq [d] S = some (its, g)) : getSeq S d = some its ∧ g = guardOf S d := by
  have h : (getSeq S d).map (fun xs => (xs, guardOf S d)) = some (its, g) := by
    cases d <;> first | exact h | exact absurd rfl (hn _)
  cases hs : getSeq S d with
  | none => rw [hs] at h; cases h
  | some xs => rw [hs] at h; cases h; exact ⟨rfl, rfl⟩
theorem iseq_w {σ : L2.St} {H : Hp} {R : It → Hp → Prop} (hw0 : iW X.K cv F E .seq (.acons ia .anil) σ H R) : iAny X.K (tE X.K cv F E ia) σ H R := by
  obtain ⟨th, S, ρ, s, re, h⟩ := hw0
  refine ⟨th, S, ρ, s, re, ?_⟩
  have e : ev F (.acons ia .anil) ρ S = (ev F ia ρ S).bind fun x S1 => .ok (.tup [x]) S1 := rfl
  rw [e] at h
  cases hx : ev F ia ρ S with
  | ok d S1 =>
    rw [hx] at h
    obtain ⟨as, its, g, e1, hw, h⟩ := h
    cases e1
    intro v H1 th1 e1 s1 r1
    have seq : getSeq S1 d = some its → g = guardOf S1 d → (∃ a, v = .ref a ∧ (∃ xs, SqL X.K H1 a xs) ∧ R (Itl X.K a) H1) ∨ (∃ a, v = .ref a ∧ (∃ xs, SqT X.K H1 a xs) ∧ R (Itt X.K a) H1) ∨ (∃ z, v = .str z ∧ R (Its z) H1) := fun hs hg => by
      subst hg
      have q := h (JOf X.K d v) H1 th1 [v] e1 s1 (.one r1) (walk_seq hs)
      cases r1 with
      | tup e r1 => exact .inr (.inl ⟨_, rfl, ⟨_, SqT.of e⟩, q⟩)
      | lst e n g r1 => exact .inl ⟨_, rfl, ⟨_, SqL.of e⟩, q⟩
      | scr e => exact .inl ⟨_, rfl, ⟨_, e.sq⟩, q⟩
      | loc e =>
        obtain ⟨a, vs, e', h1, h2⟩ := getList_ok s1 (.loc e) (show getList S1 (.loc _) = some its from hs)
        cases e'
        exact .inl ⟨_, rfl, ⟨_, SqL.of h1⟩, q⟩
      | none => cases hs
      | bool _ => cases hs
      | int _ => cases hs
      | str _ => cases hs
    cases d with
    | str z =>
      cases hw
      cases r1
      exact .inr (.inr ⟨z, rfl, h (Its z) H1 th1 [.str z] e1 s1 (.one (.str z)) (walk_str (v := .str z))⟩)
    | _ => exact seq (walkD_seq (fun _ z => by cases z) hw).1 (walkD_seq (fun _ z => by cases z) hw).2
  | exc c S1 => rw [hx] at h; exact h
  | err => rw [hx] at h; exact h
theorem s_iseq (ha : PE X a (tE X.K cv F E ia)) : PI X tg a (iW X.K cv F E .seq (.acons ia .anil)) := by
  exact PI.weak (pi_any ha) fun σ H R h => iseq_w h
theorem small_of {i : Int} (h : smallI i = true) : -(2 ^ 62) ≤ i ∧ i < 2 ^ 62 := of_decide_eq_true h
theorem s_irange1 {p : Pos} (g : Good X sc ls nm cv F E) (hg : glB sc "range" = true) (hp : plainA a = true) (ha : PE X a (tE X.K cv F E ia)) : PI X tg (.Call (.Name "range" p) [a] [] pos) (iW X.K cv F E .range (.acons ia .anil)) := by
  refine PI.weak (pi_range1 (glB_of g.sc hg) (g.blt _ (by decide +kernel)) (pa_cons ha pa_nil (star_of hp)) (by rw [star_of hp]; rfl)) fun σ H R ⟨th, S, ρ, s, re, h⟩ => ⟨th, S, ρ, s, re, ?_⟩
  have e : ev F (.acons ia .anil) ρ S = (ev F ia ρ S).bind fun x S1 => .ok (.tup [x]) S1 := rfl
  rw [e] at h
  cases hx : ev F ia ρ S with
  | ok d S1 =>
    rw [hx] at h
    obtain ⟨as, its, gd, e1, hw, h⟩ := h
    cases e1
    intro v H1 th1 e1 s1 r1
    cases r1 with
    | int j =>
      unfold walkD at hw
      dsimp only at hw
      split at hw
      · rename_i hj
        cases hw
        have q := h (Itr 0 (j - 0).toNat) H1 th1 [.int j] e1 s1 (.one (.int j)) walk_range
        rw [Int.sub_zero] at q
        exact ⟨j, rfl, (small_of hj).1, (small_of hj).2, q⟩
      · cases hw
    | _ => cases hw
  | exc c S1 => rw [hx] at h; exact h
  | err => rw [hx] at h; exact h
theorem ev_two {ρ : PV.Env} {S S' : Store} {as : List D} (h : ev F (.acons ia (.acons ib .anil)) ρ S = .ok (.tup as) S') : ∃ x y, as = [x, y] := by
  have h : ((ev F ia ρ S).bind fun x S1 => ((ev F ib ρ S1).bind fun y S2 => (R.ok (D.tup [y]) S2 : R D)).bind fun y S2 => (match y with | D.tup ys => R.ok (D.tup (x :: ys)) S2 | _ => R.err)) = .ok (.tup as) S' := h
  cases hx : ev F ia ρ S with
  | ok d S1 =>
    rw [hx] at h
    simp only [bind_ok] at h
    cases hy : ev F ib ρ S1 with
    | ok d2 S2 => rw [hy] at h; cases h; exact ⟨_, _, rfl⟩
    | exc c S2 => rw [hy] at h; cases h
    | err => rw [hy] at h; cases h
  | exc c S1 => rw [hx] at h; cases h
  | err => rw [hx] at h; cases h
theorem s_irange2 {p : Pos} (g : Good X sc ls nm cv F E) (hg : glB sc "range" = true) (hp : plainA a = true) (hp2 : plainA b = true) (ha : PA X [a, b] (tA X.K cv F E (.acons ia (.acons ib .anil)))) : PI X tg (.Call (.Name "range" p) [a, b] [] pos) (iW X.K cv F E .range (.acons ia (.acons ib .anil))) := by
  refine PI.weak (pi_range2 (glB_of g.sc hg) (g.blt _ (by decide +kernel)) ha (by rw [star_of hp, star_of hp2]; rfl) (by rw [star_of hp2]; rfl)) fun σ H RR ⟨th, S, ρ, s, re, h⟩ => ⟨th, S, ρ, s, re, ?_⟩
  cases hx : ev F (.acons ia (.acons ib .anil)) ρ S with
  | ok d S1 =>
    rw [hx] at h
    obtain ⟨as, its, gd, e3, hw, h⟩ := h
    subst e3
    obtain ⟨x, y, rfl⟩ := ev_two hx
    refine ⟨_, rfl, fun vs H2 th2 e2 s2 r2 => ?_⟩
    cases r2 with
    | cons r1 t =>
      cases t with
      | cons r2 t2 =>
        cases t2
        cases r1 with
        | int i =>
          cases r2 with
          | int j =>
            unfold walkD at hw
            dsimp only at hw
            split at hw
            · rename_i hj
              cases hw
              obtain ⟨k1, k2⟩ := band hj
              exact ⟨i, j, rfl, ⟨(small_of k1).1, (small_of k1).2, (small_of k2).1, (small_of k2).2⟩, h _ H2 th2 [.int i, .int j] e2 s2 (.cons (.int i) (.one (.int j))) walk_range⟩
            · cases hw
          | _ => cases hw
        | _ => cases r2 <;> cases hw
  | exc c S1 => rw [hx] at h; exact h
  | err => rw [hx] at h; exact h
/-! ### targets -/
def gNs (K : PySem.W.Frag) : List Nat → TGs
  | [] => gNil
  | i :: is => gCons (gName i) (gNs K is)
def gOf (K : PySem.W.Frag) : Tg → TG
  | .name i => gName i
  | .tup is => gTup K is.length (gNs K is)
theorem s_names (g : Good X sc ls nm cv F E) : ∀ {is : List Nat} {es : List Expr}, chkNames X.N ls is es = true → PGs X es (gNs X.K is) ∧ (assignEach es X.env).length = is.length ∧ (assignEach es X.env).findIdx? (·.1) = none
  | [], [], _ => ⟨pgs_nil, rfl, rfl⟩
  | [], _ :: _, h => by cases h
  | _ :: _, [], h => by cases h
  | i :: is, e :: es, h => by
    cases e <;> first | (cases h; done) | skip
    rename_i x p
    obtain ⟨h1, h3⟩ := band h
    obtain ⟨h1, h2⟩ := band h1
    obtain ⟨k1, k2, k3⟩ := s_names g h3
    obtain ⟨l1, l2⟩ := g.st x (locB_of h2)
    refine ⟨pgs_cons (pg_name g.nd (of_decide_eq_true h1) l1 l2) k1 rfl, ?_, ?_⟩
    · show (assignEach es X.env).length + 1 = is.length + 1
      rw [k2]
    · show ((false, _) :: assignEach es X.env).findIdx? (·.1) = none
      rw [List.findIdx?_cons, k3]; rfl
theorem s_tg (g : Good X sc ls nm cv F E) {t : Tg} (h : chkTg X.N ls t tg = true) : PG X tg (gOf X.K t) := by
  cases t with
  | name i =>
    cases tg <;> first | (cases h; done) | skip
    rename_i x p
    obtain ⟨h1, h2⟩ := band h
    obtain ⟨l1, l2⟩ := g.st x (locB_of h2)
    exact pg_name g.nd (of_decide_eq_true h1) l1 l2
  | tup is =>
    cases tg <;> first | (cases h; done) | skip
    rename_i es k p
    obtain ⟨k1, k2, k3⟩ := s_names g (is := is) (es := es) h
    exact pg_tup g.calm k1 k2 k3
theorem wipe_set {σ : L2.St} {v : Nat} {x : Option V} : ∀ {vs : List Nat}, L2.wipe (σ.set v x) vs = if v ∈ vs then L2.wipe σ vs else (L2.wipe σ vs).set v x
  | [] => by simp [L2.wipe]
  | u :: vs => by
    have ih := wipe_set (σ := σ) (v := v) (x := x) (vs := vs)
    show (L2.wipe (σ.set v x) vs).set u none = if v ∈ u :: vs then (L2.wipe σ vs).set u none else ((L2.wipe σ vs).set u none).set v x
    rw [ih]
    by_cases h1 : v ∈ vs
    · rw [if_pos h1, if_pos (List.mem_cons_of_mem _ h1)]
    · rw [if_neg h1]
      by_cases h2 : v = u
      · subst h2
        rw [if_pos List.mem_cons_self, List.set_set]
      · rw [if_neg (by simp [h1, h2]), List.set_comm _ _ (fun e => h2 e.symm)]
theorem wipe_set_mem {σ : L2.St} {v : Nat} {x : Option V} {vs : List Nat} (h : v ∈ vs) : L2.wipe (σ.set v x) vs = L2.wipe σ vs := by
  rw [wipe_set, if_pos h]
theorem putAll_ok {K : PySem.W.Frag} {H : Hp} {th : Th} {Q : L2.St → Hp → Prop} : ∀ {is : List Nat} {ds : List D} {vs : List V} {ρ ρ1 : PV.Env} {σ : L2.St}, putAll is ds ρ = some ρ1 → RepL K H th ds vs → RepE K H th ρ σ →
    (∀ σ1, RepE K H th ρ1 σ1 → (∀ own : List Nat, is.all own.contains = true → L2.wipe σ1 own = L2.wipe σ own) → Q σ1 H) → gNs K is vs σ H Q ∧ is.length = vs.length
  | [], [], _, _, _, _, h, .nil, re, hq => by cases h; exact ⟨⟨rfl, hq _ re fun _ _ => rfl⟩, rfl⟩
  | i :: is, d :: ds, _, ρ, ρ1, σ, h, .cons (v := v) (vs := vs) r t, re, hq => by
    have h : putAll is ds (ρ.set i (some d)) = some ρ1 := h
    obtain ⟨k1, k2⟩ := putAll_ok (Q := Q) h t (re.set i r) fun σ1 r1 w => hq σ1 r1 fun own ho => by
      simp only [List.all_cons, Bool.and_eq_true] at ho
      rw [w own ho.2]
      exact wipe_set_mem (by simpa using ho.1)
    exact ⟨⟨v, vs, rfl, k1⟩, by simp [k2]⟩
  | [], _ :: _, _, _, _, _, h, _, _, _ => by cases h
  | _ :: _, [], _, _, _, _, h, _, _, _ => by cases h
theorem put_ok {K : PySem.W.Frag} {H : Hp} {th : Th} {Q : L2.St → Hp → Prop} {t : Tg} {d : D} {v : V} {ρ ρ1 : PV.Env} {σ : L2.St} (h : put t d ρ = some ρ1) (r : Rep K H th d v) (re : RepE K H th ρ σ)
    (hq : ∀ σ1, RepE K H th ρ1 σ1 → (∀ own : List Nat, tgIn own t = true → L2.wipe σ1 own = L2.wipe σ own) → Q σ1 H) : gOf K t v σ H Q := by
  cases t with
  | name i =>
    cases h
    exact hq _ (re.set i r) fun own ho => wipe_set_mem (by simpa [tgIn] using ho)
  | tup is =>
    cases r with
    | @tup a xs vs e r =>
      obtain ⟨k1, k2⟩ := putAll_ok (Q := Q) (show putAll is xs ρ = some ρ1 from h) r re fun σ1 r1 w => hq σ1 r1 w
      exact ⟨a, vs, rfl, SqT.of e, k2.symm, k1⟩
    | _ => cases h
/-! ### a comprehension -/
theorem fly_never {Y : Cx} (g : Fly X E) (hs : Y.stack = X.stack) (hf : Y.env.frame = X.env.frame) : Fly Y E0 := by
  obtain ⟨L, env0, outer0, h1, h2, h3, _⟩ := g.at_
  exact ⟨L, env0, outer0, hs.trans h1, h2, hf.trans h3, fun u s' h => by obtain ⟨_, _, _, _, _, _, _, _, _, _, _, _, _, _, _, _, h⟩ := h; exact h.elim⟩
theorem good_st {scope : Scope} {scE : Scope} {x : Str} (hx : scope.names.lookup x = some .local ∨ scope.names.lookup x = some .cell) : Loc (relS scope scE) x ∧ ((scope.names.lookup x == some NameKind.cell) = true ∨ (relS scope scE).names.lookup x = some .local) := by
  rcases hx with hx | hx
  · have q : (relS scope scE).names.lookup x = some .local := lookup_relS_keep (by decide) hx
    exact ⟨.inl q, .inr q⟩
  · have q : (relS scope scE).names.lookup x = some .cell := lookup_relS_keep (by decide) hx
    exact ⟨.inr q, .inl (by rw [hx]; rfl)⟩
theorem good_blk {scope : Scope} (g : Good X sc ls nm cv F E) (hk : scope.kind = .function) (s : Shared) (H : Hp) (C : Addr) (cl : List (Str × Addr)) (fp : List Addr) : Good (X.blk s H scope (compEnvC scope cl C X.env) fp) (relS scope sc) scope nm cv F E0 := by
  refine ⟨?_, hk, g.calm, g.nd, fun f x h => ⟨(g.call f x h).ok⟩, fun f c m h => ⟨(g.meth f c m h).ok⟩, g.insc, g.attr, passL, fly_never g.fly rfl rfl, g.units, g.blt, fun x hx => good_st hx⟩
  show relS scope X.env.scope = relS scope sc
  rw [g.sc]
theorem good_blkE {scope : Scope} (g : Good X sc ls nm cv F E) (hk : scope.kind = .function) : Blks X scope fun Y => Y.N = X.N ∧ Y.K = X.K ∧ Good Y (relS scope sc) scope nm cv F E := by
  intro pins σ s H fp cl I f3
  have fl : Fly (blkE X s H scope (compEnvC scope cl s.heap.objs.size X.env) fp) E := fly_blk g.fly I f3
  refine ⟨rfl, rfl, ?_, hk, g.calm, g.nd, fun f x h => ⟨(g.call f x h).ok⟩, fun f c m h => ⟨(g.meth f c m h).ok⟩, g.insc, g.attr, fl.pass, fl, g.units, g.blt, fun x hx => good_st hx⟩
  show relS scope X.env.scope = relS scope sc
  rw [g.sc]
section
variable {K : PySem.W.Frag} {H H1 H' H'' : Hp} {th th1 th' : Th} {S : Store} {p : Addr}
theorem Ext.reg (e : Ext H th H' th') (g : List Addr) : Ext H ⟨th.c, g⟩ H' ⟨th'.c, g⟩ := ⟨e.tup, e.lst, e.frz, e.pre, rfl, e.new, e.there⟩
theorem Ext.upd_new {o : HO} (hp : H p = none) (e : Ext H th H' th') : Ext H th (upd H' p o) th' :=
  ⟨fun a vs h => by rw [upd_ne (ne_of_none h hp)]; exact e.tup a vs h, fun a vs h n => by rw [upd_ne (ne_of_none h hp)]; exact e.lst a vs h n, fun a o' u h => by rw [upd_ne (ne_of_none h hp)]; exact e.frz a o' u h, e.pre, e.gh, e.new, fun a h => e.there a (upd_none h)⟩
theorem Ext.add_new (hp : H p = none) (e : Ext H th H' th') : Ext H th H' (th'.add p) :=
  ⟨e.tup, e.lst, e.frz, by obtain ⟨m, q⟩ := e.pre; exact ⟨m ++ [p], by show th'.c ++ [p] = _; rw [q, List.append_assoc]⟩, e.gh, fun a h n => by
    rcases List.mem_append.mp h with h | h
    · exact e.new a h n
    · rw [List.mem_singleton.mp h]; exact hp, e.there⟩
mutual
theorem Rep.reveal {c g : List Addr} : ∀ {d : D} {v : V}, Rep K H ⟨c, p :: g⟩ d v → Rep K H ⟨c ++ [p], g⟩ d v
  | _, _, .none => .none
  | _, _, .bool b => .bool b
  | _, _, .int i => .int i
  | _, _, .str s => .str s
  | _, _, .tup h r => .tup h (RepL.reveal r)
  | _, _, .lst h n g r => .lst h (fun z => (List.mem_append.mp z).elim n fun q => g (List.mem_cons.mpr (.inl (List.mem_singleton.mp q)))) (fun z => g (List.mem_cons_of_mem _ z)) (RepL.reveal r)
  | _, _, .scr h => .scr h
  | _, _, .loc h => .loc (by
      have h : c[_]? = some _ := h
      show (c ++ [p])[_]? = some _
      rw [List.getElem?_append_left (List.getElem?_eq_some_iff.mp h).1]; exact h)
theorem RepL.reveal {c g : List Addr} : ∀ {ds : List D} {vs : List V}, RepL K H ⟨c, p :: g⟩ ds vs → RepL K H ⟨c ++ [p], g⟩ ds vs
  | _, _, .nil => .nil
  | _, _, .cons r t => .cons (Rep.reveal r) (RepL.reveal t)
end
theorem Sim.reveal {c g : List Addr} {xs : List D} {vs : List V} (s : Sim K H ⟨c, p :: g⟩ S) (hp : H p = some (.lst vs)) (r : RepL K H ⟨c, p :: g⟩ xs vs) (hg : p ∉ g) : Sim K H ⟨c ++ [p], g⟩ (S ++ [.lst xs]) := by
  have hpc : p ∉ c := (s.gh p List.mem_cons_self).2
  have hlen : c.length = S.length := s.len
  refine ⟨by simp [hlen], ?_, fun n cl a h1 h2 => ?_, fun a h => ⟨(s.gh a (List.mem_cons_of_mem _ h)).1, fun z => ?_⟩⟩
  · show (c ++ [p]).Nodup
    rw [List.nodup_append]
    exact ⟨s.nd, by simp, fun a ha b hb z => hpc (by rw [List.mem_singleton] at hb; rw [← hb, ← z]; exact ha)⟩
  · have h2 : (c ++ [p])[n]? = some a := h2
    by_cases hn : n < S.length
    · rw [List.getElem?_append_left hn] at h1
      rw [List.getElem?_append_left (by rw [hlen]; exact hn)] at h2
      have q := s.cell n cl a h1 h2
      cases cl with
      | lst ys =>
        obtain ⟨us, q1, q2⟩ := q
        exact ⟨us, q1, q2.reveal⟩
      | ins c fs =>
        obtain ⟨dx, us, q1, q2⟩ := q
        exact ⟨dx, us, q1, q2.key, q2.val.reveal⟩
    · rw [List.getElem?_append_right (by omega)] at h1
      rw [List.getElem?_append_right (by rw [hlen]; omega), hlen] at h2
      have hz : n - S.length = 0 := by
        have := (List.getElem?_eq_some_iff.mp h1).1
        simp at this
        omega
      rw [hz] at h1 h2
      simp at h1 h2
      subst h1 h2
      exact ⟨vs, hp, r.reveal⟩
  · rcases List.mem_append.mp z with z | z
    · exact (s.gh a (List.mem_cons_of_mem _ h)).2 z
    · exact hg (List.mem_singleton.mp z ▸ h)
end
theorem wipe_wipe {σ : L2.St} (vs : List Nat) : L2.wipe (L2.wipe σ vs) vs = L2.wipe σ vs := by
  apply List.ext_getElem?
  intro i
  by_cases h : i ∈ vs
  · have z : ∀ (τ : L2.St), i < τ.length → (L2.wipe τ vs)[i]? = some none := fun τ hl => by
      cases hx : (L2.wipe τ vs)[i]? with
      | none =>
        have := List.getElem?_eq_none_iff.mp hx
        rw [L2.wipe_length] at this
        omega
      | some o =>
        cases o with
        | none => rfl
        | some x => exact absurd h (L2.wipe_some hx).2
    by_cases hl : i < σ.length
    · rw [z σ hl, z _ (by rw [L2.wipe_length]; exact hl)]
    · rw [List.getElem?_eq_none (by rw [L2.wipe_length, L2.wipe_length]; omega), List.getElem?_eq_none (by rw [L2.wipe_length]; omega)]
  · rw [L2.wipe_out h]
/-- what a turn does -/
def turnE (F : Nat → List D → Store → R D) (ρ : PV.Env) (tgt : Tg) (own : List Nat) (tst : Bool) (ic ie : Ex) (it : D) (S2 : Store) : R (Option D) :=
  match put tgt it (wipeE ρ own) with
  | some ρ1 => (if tst then (ev F ic ρ1 S2).bind fun v S3 => (match truth S3 v with
      | some true => (ev F ie ρ1 S3).bind fun y S4 => .ok (some y) S4
      | some false => .ok none S3
      | none => .err)
    else (ev F ie ρ1 S2).bind fun y S4 => .ok (some y) S4)
  | none => .err
theorem ev_comp {k : Ik} {src : Ex} {tgt : Tg} {own : List Nat} {tst : Bool} {ic ie : Ex} {m : Bool} {ρ : PV.Env} {S : Store} : ev F (.comp k src tgt own tst ic ie m) ρ S = (ev F src ρ S).bind fun x S1 => (match x with
    | .tup as => (match walkD k as S1 with
      | some (its, g) => ((mapR (turnE F ρ tgt own tst ic ie) g its S1).few its.length).bind fun ys S5 => newL m ys S5
      | none => .err)
    | _ => .err) := rfl
/-- a clause's test -/
def tC1 (K : PySem.W.Frag) (cv : Nat → Value) (F : Nat → List D → Store → R D) (E : XK) (tst : Bool) (ic : Ex) : TT := if tst then tT K cv F E ic else tYes
theorem s_comp {K : PySem.W.Frag} {k : Ik} {src : Ex} {tgt : Tg} {own : List Nat} {tst : Bool} {ie : Ex} {m : Bool} (hin : tgIn own tgt = true) :
    ∀ σ H Q, tE K cv F E (.comp k src tgt own tst ic ie m) σ H Q → tLc (iW K cv F E k src) (gOf K tgt) (tC1 K cv F E tst ic) (tE K cv F E ie) own σ H Q := by
  intro σ H Q ⟨th, S, ρ, s, re, h⟩
  rw [ev_comp] at h
  refine ⟨th, S, ρ, s, re, ?_⟩
  cases hx : ev F src ρ S with
  | exc c S1 => rw [hx] at h; exact h
  | err => rw [hx] at h; exact h
  | ok d S1 =>
    rw [hx] at h
    simp only [bind_ok] at h
    cases d with
    | tup as =>
      dsimp only at h
      cases hw : walkD k as S1 with
      | none => rw [hw] at h; exact h.elim
      | some p =>
        obtain ⟨its, gd⟩ := p
        rw [hw] at h
        dsimp only at h
        refine ⟨as, its, gd, rfl, hw, fun J H1 th1 avs e1 s1 ra wk dA hD => ?_⟩
        obtain ⟨res, hres⟩ : ∃ res, res = mapR (turnE F ρ tgt own tst ic ie) gd its S1 := ⟨_, rfl⟩
        rw [← hres] at h
        have hne : res ≠ .err := fun z => by rw [z] at h; exact h.elim
        have hexc : ∀ c S5, res = .exc c S5 → its.length ≤ line ∧ ∀ H' th', Ext H th H' th' → Sim K H' th' S5 → E (cv c) none H' := fun c S5 z => by
          rw [z] at h
          by_cases hl : its.length ≤ 16777216
          · rw [few_exc hl] at h
            exact ⟨hl, h⟩
          · have h : Post K cv E H th ((if its.length ≤ 16777216 then (.exc c S5 : R (List D)) else .err).bind fun ys S5 => newL m ys S5) Q := h
            rw [if_neg hl] at h
            exact h.elim
        have hok : ∀ ys S5, res = .ok ys S5 → ys.length ≤ line ∧ Post K cv E H th (newL m ys S5) Q := fun ys S5 z => by
          rw [z] at h
          simp only [few_ok, bind_ok] at h
          refine ⟨?_, h⟩
          unfold newL at h
          split at h
          · assumption
          · exact h.elim
        have hbd : ∀ (x : R (List D)) (acc : List D), (x.bind fun ys' S' => .ok (acc ++ ys') S') = res → acc.length ≤ its.length → acc.length ≤ line := fun x acc z hl => by
          cases x with
          | ok ys' S' =>
            have := (hok _ _ z.symm).1
            rw [List.length_append] at this
            omega
          | exc c S' => exact Nat.le_trans hl (hexc _ _ z.symm).1
          | err => exact absurd z.symm hne
        have re1 := re.mono e1
        have hDc : dA ∉ th1.c := s1.fresh hD
        have hDg : dA ∉ th1.g := s1.freshG hD
        obtain ⟨NX, hNX⟩ : ∃ N : Nat → Hp → Prop, ∀ i Hc, N i Hc ↔ ∃ (thc : Th) (Sc : Store) (acc : List D) (accv : List V), thc.g = dA :: th1.g ∧ Ext H1 th1 Hc ⟨thc.c, th1.g⟩ ∧ Sim K Hc thc Sc ∧ Hc dA = some (.lst accv) ∧ RepL K Hc thc acc accv ∧ RepL K Hc thc as avs ∧ RepE K Hc thc ρ σ ∧
          ((mapR (turnE F ρ tgt own tst ic ie) gd (its.drop i) Sc).bind fun ys' S' => .ok (acc ++ ys') S') = res ∧ acc.length ≤ i := ⟨_, fun _ _ => Iff.rfl⟩
        refine ⟨fun i m Hc => m = its.length - i ∧ i ≤ its.length ∧ NX i Hc, ?_, ?_⟩
        · refine ⟨its.length, by simp, Nat.zero_le _, (hNX _ _).mpr ⟨th1.hide dA, S1, [], [], rfl, Ext.laid hD _, s1.hide hD, upd_same, .nil, ra.hide hD, ⟨re1.len, fun i d h => ?_⟩, ?_, Nat.le_refl _⟩⟩
          · obtain ⟨v, h1, h2⟩ := re1.at_ i d h
            exact ⟨v, h1, h2.hide hD⟩
          · rw [List.drop_zero, ← hres]
            cases res <;> rfl
        · rintro i m' Hc ⟨rfl, hi, nx⟩
          obtain ⟨⟨c, gg⟩, Sc, acc, accv, hgg, ec, sc', hDv, racc, ras, rec, hmap, hacc⟩ := (hNX _ _).mp nx
          have hgg : gg = dA :: th1.g := hgg
          subst hgg
          have gok : gd.ok Sc = true := by
            cases hd : its.drop i with
            | nil =>
              rw [hd] at hmap
              unfold mapR at hmap
              split at hmap
              · assumption
              · exact absurd hmap.symm hne
            | cons y r =>
              rw [hd] at hmap
              unfold mapR at hmap
              split at hmap
              · assumption
              · exact absurd hmap.symm hne
          obtain ⟨wg, ws, wy⟩ := wk Hc _ Sc sc' ras gok
          have hDc' : dA ∉ c := (sc'.gh dA List.mem_cons_self).2
          by_cases hlt : i < its.length
          · refine .inr ⟨wg i hlt, NX (i + 1), fun Hn z => ⟨its.length - (i + 1), by omega, rfl, hlt, z⟩, fun x H2 y => ?_⟩
            have hdrop : its.drop i = its[i] :: its.drop (i + 1) := List.drop_eq_getElem_cons hlt
            rw [hdrop] at hmap
            unfold mapR at hmap
            rw [if_pos gok] at hmap
            obtain ⟨f1, f2, f3⟩ := wy i x H2 its[i] (List.getElem?_eq_getElem hlt) y
            obtain ⟨t1, ht1⟩ : ∃ t1, t1 = turnE F ρ tgt own tst ic ie its[i] Sc := ⟨_, rfl⟩
            rw [← ht1] at hmap
            have tne : t1 ≠ .err := fun z => by rw [z] at hmap; exact hne hmap.symm
            have texc : ∀ c' S6, t1 = .exc c' S6 → res = .exc c' S6 := fun c' S6 z => by rw [z] at hmap; exact hmap.symm
            have tok : ∀ yo S6, t1 = .ok yo S6 → ((mapR (turnE F ρ tgt own tst ic ie) gd (its.drop (i + 1)) S6).bind fun ys' S' => .ok ((acc ++ yo.toList) ++ ys') S') = res := fun yo S6 z => by
              rw [z] at hmap
              rw [← hmap]
              simp only [bind_ok]
              cases mapR (turnE F ρ tgt own tst ic ie) gd (its.drop (i + 1)) S6 with
              | ok ys S7 => simp only [bind_ok, List.append_assoc]
              | exc c S7 => rfl
              | err => rfl
            unfold turnE at ht1
            cases hput : put tgt its[i] (wipeE ρ own) with
            | none => rw [hput] at ht1; exact absurd ht1 tne
            | some ρ1 =>
              rw [hput] at ht1
              dsimp only at ht1
              refine put_ok hput f3 ((rec.mono f1).wipe own) fun σ1 rs1 hw1 => ⟨by rw [hw1 own hin, wipe_wipe], ?_⟩
              -- an exception leaves
              have gone : ∀ (c' : Nat) (S9 : Store) (H3 : Hp) (th3 : Th), t1 = .exc c' S9 → Ext H2 ⟨c, dA :: th1.g⟩ H3 th3 → ∀ H' th', Ext H3 th3 H' th' → Sim K H' th' S9 → E (cv c') none H' := fun c' S9 H3 th3 z e3 H' th' e' s' => by
                have e24 := f1.trans (e3.trans e')
                have g4 : th'.g = dA :: th1.g := e24.gh
                refine (hexc c' S9 (texc c' S9 z)).2 H' ⟨th'.c, th1.g⟩ (e1.trans (ec.trans (e24.reg th1.g))) ?_
                obtain ⟨c4, g4'⟩ := th'
                have g4 : g4' = dA :: th1.g := g4
                subst g4
                exact s'.show_ fun a h => List.mem_cons_of_mem _ h
              -- the element is made
              have elem : ∀ (S8 : Store) (H3 : Hp) (th3 : Th), Ext H2 ⟨c, dA :: th1.g⟩ H3 th3 → Sim K H3 th3 S8 → t1 = ((ev F ie ρ1 S8).bind fun y S4 => .ok (some y) S4) →
                  tE K cv F E ie σ1 H3 fun y H4 => ∃ acc, H4 dA = some (.lst acc) ∧ acc.length < sizeLine ∧ NX (i + 1) (upd H4 dA (.lst (acc ++ [y]))) := by
                intro S8 H3 th3 e3 s3 ht
                refine ⟨th3, S8, ρ1, s3, rs1.mono e3, ?_⟩
                cases he0 : ev F ie ρ1 S8 with
                | err => rw [he0] at ht; exact absurd ht tne
                | exc c' S9 => rw [he0] at ht; exact gone c' S9 H3 th3 ht e3
                | ok y0 S9 =>
                  rw [he0] at ht
                  intro v H4 th4 e4 s4 r4
                  have e24 := f1.trans (e3.trans e4)
                  have g4 : th4.g = dA :: th1.g := e24.gh
                  have hD4 : H4 dA = some (.lst accv) := e24.lst dA accv hDv hDc'
                  have m4 : dA ∈ th4.g := by rw [g4]; exact List.mem_cons_self
                  have n4 : dA ∉ th4.c := (s4.gh dA m4).2
                  have hk := tok (some y0) S9 ht
                  have hbl := hbd _ _ hk (by rw [List.length_append]; show acc.length + 1 ≤ _; omega)
                  rw [List.length_append] at hbl
                  have hbl : acc.length + 1 ≤ line := hbl
                  refine ⟨accv, hD4, ?_, (hNX _ _).mpr ⟨th4, S9, acc ++ [y0], accv ++ [v], g4, ?_, s4.grow m4 hD4, upd_same, ?_, ?_, ?_, hk, ?_⟩⟩
                  · rw [line_eq, ← racc.length]
                    exact hbl
                  · exact Ext.upd_new hD (ec.trans (e24.reg th1.g))
                  · exact ((racc.mono e24).grow m4 hD4 n4).append (.one (r4.grow m4 hD4 n4))
                  · exact (ras.mono e24).grow m4 hD4 n4
                  · refine ⟨rec.len, fun j d hd => ?_⟩
                    obtain ⟨w, h1, h2⟩ := rec.at_ j d hd
                    exact ⟨w, h1, (h2.mono e24).grow m4 hD4 n4⟩
                  · rw [List.length_append]
                    show acc.length + 1 ≤ i + 1
                    omega
              cases tst with
              | false =>
                show (if true = true then tE K cv F E ie σ1 H2 (fun y H4 => ∃ acc, H4 dA = some (.lst acc) ∧ acc.length < sizeLine ∧ NX (i + 1) (upd H4 dA (.lst (acc ++ [y])))) else NX (i + 1) H2)
                rw [if_pos rfl]
                exact elem Sc H2 _ .refl f2 ht1
              | true =>
                rw [if_pos rfl] at ht1
                refine ⟨_, Sc, ρ1, f2, rs1, ?_⟩
                show PostT K cv E H2 ⟨c, dA :: th1.g⟩ ((ev F ic ρ1 Sc).bind fun v S1 => ofOpt S1 (truth S1 v)) _
                cases hc0 : ev F ic ρ1 Sc with
                | exc c' S9 => rw [hc0] at ht1; exact gone c' S9 H2 _ ht1 .refl
                | err => rw [hc0] at ht1; exact absurd ht1 tne
                | ok v0 S9 =>
                  rw [hc0] at ht1
                  simp only [bind_ok] at ht1 ⊢
                  cases htr : truth S9 v0 with
                  | none => rw [htr] at ht1; exact absurd ht1 tne
                  | some b =>
                    rw [htr] at ht1
                    intro H3 th3 e3 s3
                    cases b with
                    | true =>
                      rw [if_pos rfl]
                      exact elem S9 H3 th3 e3 s3 ht1
                    | false =>
                      rw [if_neg (by decide)]
                      have e23 := f1.trans e3
                      have hk := tok none S9 ht1
                      exact (hNX _ _).mpr ⟨th3, _, acc, accv, e23.gh, ec.trans (e23.reg th1.g), s3, e23.lst dA accv hDv hDc', racc.mono e23, ras.mono e23, rec.mono e23, by simpa using hk, by omega⟩
          · have ei : i = its.length := by omega
            subst ei
            refine .inl ⟨ws, ?_⟩
            rw [List.drop_length] at hmap
            unfold mapR at hmap
            rw [if_pos gok] at hmap
            have hmap : (R.ok (acc ++ []) Sc : R (List D)) = res := hmap
            rw [List.append_nil] at hmap
            obtain ⟨hlen, h⟩ := hok acc Sc hmap.symm
            unfold newL at h
            rw [if_pos hlen] at h
            cases m with
            | true =>
              refine h (.ref dA) Hc ⟨c ++ [dA], th1.g⟩ (e1.trans (Ext.add_new hD ec)) (sc'.reveal hDv racc hDg) (.loc ?_)
              have hcl := sc'.len
              show (c ++ [dA])[_]? = some dA
              rw [← hcl]; simp
            | false =>
              refine h (.ref dA) Hc ⟨c, th1.g⟩ (e1.trans ec) (sc'.show_ fun a h => List.mem_cons_of_mem _ h) (.lst hDv hDc' hDg (racc.show_ fun a h => List.mem_cons_of_mem _ h))
    | _ => exact h.elim
end
end PV
end
section
set_option Elab.async false
set_option linter.all false
set_option maxRecDepth 100000
set_option maxHeartbeats 4000000
namespace PV
open PySem PySem.Spec PyProof.Rows L2
section
variable {prog : Program} {w : World} {A : Around} {E : Value → Shared → Prop} {s : Shared}
theorem sliceBack {sl : Addr} {vs : Value} {n : Nat} {Q : Int × Int × Nat → Shared → Prop} (hs : s.heap.IsSliceOf sl .none .none vs) (ps : IsPart vs (some (-1)))
    (h : Q ((n : Int) - 1, -1, n) s) : wpAny (model prog w) A (Builtin.Slice.sliceApplied (.ref sl) (pure (n : Int))) Q E s := by
  obtain ⟨os, hos, hcs, hds⟩ := id hs
  unfold Builtin.Slice.sliceApplied Builtin.Slice.sliceFields
  refine wpAny_bind (wpAny_bind (wpAny_field hos hds (x := .none) rfl (wpAny_bind (wpAny_field hos hds (x := .none) rfl (wpAny_bind (wpAny_field hos hds (x := vs) rfl (wpAny_pure ?_)))))))
  refine wpAny_bind (HT.slicePart_ ps ?_)
  show wpAny _ _ (if ((-1 : Int) == 0) = true then _ else _) _ _ s
  rw [if_neg (by decide)]
  refine wpAny_bind (HT.slicePart_ .none (wpAny_bind (HT.slicePart_ .none (wpAny_bind (wpAny_pure ?_)))))
  show wpAny _ _ (pure ((n : Int) - 1, (-1 : Int), Builtin.Slice.slicePlaces ((n : Int) - 1) (-1) (-1))) _ _ s
  have e : Builtin.Slice.slicePlaces ((n : Int) - 1) (-1) (-1) = n := by
    unfold Builtin.Slice.slicePlaces
    rw [if_neg (by decide)]
    split
    · rw [show (- -1 : Int) = 1 by decide, Int.ediv_one]
      omega
    · omega
  rw [e]
  exact wpAny_pure h
theorem fm_congr {α β : Type} {f g : α → Option β} : ∀ {l : List α}, (∀ x, x ∈ l → f x = g x) → l.filterMap f = l.filterMap g
  | [], _ => rfl
  | x :: l, h => by
    rw [List.filterMap_cons, List.filterMap_cons, h x List.mem_cons_self, fm_congr fun y hy => h y (List.mem_cons_of_mem _ hy)]
theorem pick_back (xs : Array Value) : ((List.range xs.size).filterMap fun (m : Nat) => xs[(((xs.size : Int) - 1) + (m : Int) * (-1)).toNat]?).toArray = xs.toList.reverse.toArray := by
  have e : (List.range xs.size).filterMap (fun (m : Nat) => xs[(((xs.size : Int) - 1) + (m : Int) * (-1)).toNat]?) = xs.toList.reverse := by
    apply List.ext_getElem?
    intro i
    have q : (List.range xs.size).filterMap (fun (m : Nat) => xs[(((xs.size : Int) - 1) + (m : Int) * (-1)).toNat]?) = (List.range xs.size).map (fun (m : Nat) => xs.getD (xs.size - 1 - m) .none) := by
      rw [← List.filterMap_eq_map]
      apply fm_congr
      intro m hm
      have hm := List.mem_range.mp hm
      have e1 : (((xs.size : Int) - 1) + (m : Int) * (-1)).toNat = xs.size - 1 - m := by omega
      have hl : xs.size - 1 - m < xs.size := by omega
      rw [e1]
      simp [Array.getD, hl]
    rw [q, List.getElem?_map]
    by_cases hi : i < xs.size
    · rw [List.getElem?_range hi, List.getElem?_reverse (by simpa using hi)]
      have hl : xs.size - 1 - i < xs.size := by omega
      simp [Array.getD, hl]
    · rw [List.getElem?_eq_none (by simpa using hi), List.getElem?_eq_none (by simpa using hi)]
      rfl
  rw [e]
theorem getItem_back {t sl : Addr} {items : Array Value} {vs : Value} {Q : Value → Shared → Prop} (ht : IsTup s.heap t items) (hs : s.heap.IsSliceOf sl .none .none vs) (ps : IsPart vs (some (-1)))
    (h : Q (.ref s.heap.objs.size) { s with heap := s.heap.push { cls := .type "tuple", data := .seq items.toList.reverse.toArray } })
    (hsz : items.size ≤ sizeLine) : wpAny (model prog w) A (getItem (.ref t) (.ref sl)) Q E s := by
  have htake : sizeOk (.seq items.toList.reverse.toArray) := by
    show items.toList.reverse.toArray.size ≤ sizeLine
    rw [List.size_toArray, List.length_reverse, Array.length_toList]
    exact hsz
  obtain ⟨os, hos, hcs, hds⟩ := id hs
  have hTs : s.TypeIs (.ref sl) "slice" := ⟨os, hos, hcs⟩
  unfold getItem
  try with_reducible refine wpAny_holding ?_
  first | refine wpAny_bind (wpAny_pure ?_) | skip
  refine wpAny_bind (wpAny_sequenceKey ht.typeIs (by decide) ?_)
  refine wpAny_bind (wpAny_callSpecial?_slot (name := Str.ofString "__getitem__") ht.typeIs PyProof.Rows.slot_tuple_getitem
    (wpAny_call_entry PyProof.Rows.slot_tuple_getitem ht.typeIs entry_tuple_getitem ?_ (args_tuple_getitem _ _)))
  show wpAny _ _ (Builtin.Tuple.tupleItemsOf (.ref t) >>= _) _ _ s
  refine wpAny_bind (tupleItemsOf_ ht ?_)
  refine wpAny_bind (wpAny_typeOf hTs ?_)
  rw [if_pos (by decide)]
  refine wpAny_bind (sliceBack hs ps ?_)
  have hno : ¬ ((((items.size : Int) - 1) == 0 && (-1 : Int) == 1 && items.size == items.size) = true) := by
    intro q
    rw [Bool.and_eq_true, Bool.and_eq_true] at q
    exact absurd q.1.2 (by decide)
  show wpAny _ _ (if (((items.size : Int) - 1) == 0 && (-1 : Int) == 1 && items.size == items.size) = true then _ else _) _ _ s
  rw [if_neg hno, pick_back]
  first
    | exact wpAny_bind (m := Builtin.Tuple.tupleExact _) (wpAny_newObj_type (wpAny_pure ⟨_, rfl, wpAny_pure h⟩) htake)
    | exact wpAny_bind (m := Builtin.Tuple.tupleExact _) (wpAny_newObj_type (wpAny_bind (wpAny_pure (wpAny_pure ⟨_, rfl, wpAny_pure h⟩))) htake)
    | exact wpAny_bind (wpAny_bind (m := Builtin.Tuple.tupleExact _) (wpAny_newObj_type (wpAny_pure (wpAny_pure ⟨_, rfl, wpAny_pure h⟩)) htake))
    | exact wpAny_bind (wpAny_bind (m := Builtin.Tuple.tupleExact _) (wpAny_newObj_type (wpAny_pure ⟨_, rfl, wpAny_pure h⟩) htake))
end
section
variable {X : Cx}
def tRevA (K : PySem.W.Frag) (te : TE) : TE := fun σ H Q => te σ H fun x H1 => (∃ a xs, x = .ref a ∧ SqL K H1 a xs ∧ ∀ p, H1 p = none → Q (.ref p) (upd H1 p (.lst xs.reverse))) ∨
  (∃ a xs, x = .ref a ∧ SqT K H1 a xs ∧ ∀ p, H1 p = none → Q (.ref p) (upd H1 p (.tup xs.reverse)))
theorem pe_revA {e : Expr} {te : TE} {k : Nat} {p1 p2 p3 pos : Pos} (he : PE X e te) : PE X (.Subscript e (.Slice none none (some (.UnaryOp .USub (.Constant (.int 1) k p1) p2)) p3) pos) (tRevA X.K te) := by
  refine ⟨fun pins s σ H Q I h => ?_⟩
  refine Subscript_ (thn (he.run pins s σ H _ I h) fun v s1 ⟨x, H1, I1, r1, q1⟩ => ?_)
  have hst : PO X (some (.UnaryOp .USub (.Constant (.int 1) k p1) p2)) (tPart (tUn (rU fun i => .int (-i)) (tC (.int 1)))) := po_some (pe_un un_neg pe_int)
  refine wpAny_Slice (thn (po_none.run pins s1 σ H1 (fun o H2 => o = none ∧ H2 = H1) I1 ⟨rfl, rfl⟩) fun vl s2 ⟨l, H2, I2, pl, el, e2⟩ => ?_)
  subst el e2
  refine thn (po_none.run pins s2 σ H2 (fun o H3 => o = none ∧ H3 = H2) I2 ⟨rfl, rfl⟩) fun vu s3 ⟨u, H3, I3, pu, eu, e3⟩ => ?_
  subst eu e3
  refine thn (hst.run pins s3 σ H3 (fun o H4 => o = some (-1) ∧ H4 = H3) I3 ⟨1, rfl, -1, rfl, rfl, rfl⟩) fun vs s4 ⟨o, H4, I4, ps, eo, e4⟩ => ?_
  subst eo e4
  have I5 : Inv X pins σ H4 { s4 with heap := s4.heap.push { cls := .type "slice", data := .fields #[vl, vu, vs] } } := I4.kept (t' := s4.toks) fun b ob q => Heap.get?_push_of_some _ q
  rcases q1 with ⟨a, xs, ex, hx, q⟩ | ⟨a, xs, ex, hx, q⟩
  · subst ex
    cases r1
    obtain ⟨its, r, ht, hz⟩ := I5.list hx
    have hlen := r.length
    show wpAny (model X.prog X.w) X.A (subscriptTail e (.Slice none none (some (.UnaryOp .USub (.Constant (.int 1) k p1) p2)) p3) (.ref a) (.ref s4.heap.objs.size)) (EP X pins σ Q) X.xe { s4 with heap := s4.heap.push { cls := .type "slice", data := .fields #[vl, vu, vs] } }
    refine tail_any (ops := [.ref a, .ref s4.heap.objs.size]) ht.isList.typeIs (PySem.slot_list_getitem.lookup) ?_ (by with_unfolding_all rfl)
    refine wpAny_getItem_list_slice ht.isList (Heap.IsSliceOf.new _ vl vu vs) pl pu ps (by decide) ?_ (by rw [List.size_toArray]; omega)
    rw [PySem.W.krv_pick]
    refine ⟨.ref _, _, I5.laid (t' := s4.toks) (o := .lst xs.reverse) (fun b ob q => Heap.get?_push_of_some _ q) (Nat.le_refl _) ?_, rfl, q _ (I5.hok.fresh (Nat.le_refl _))⟩
    exact ⟨by rw [List.length_reverse]; exact hz, _, 0, r.reverse, Heap.get?_push_size _ rfl⟩
  · subst ex
    cases r1
    obtain ⟨its, r, ht, hz⟩ := I5.tuple hx
    have hlen := r.length
    cases pl
    cases pu
    show wpAny (model X.prog X.w) X.A (subscriptTail e (.Slice none none (some (.UnaryOp .USub (.Constant (.int 1) k p1) p2)) p3) (.ref a) (.ref s4.heap.objs.size)) (EP X pins σ Q) X.xe { s4 with heap := s4.heap.push { cls := .type "slice", data := .fields #[.none, .none, vs] } }
    refine tail_any (ops := [.ref a, .ref s4.heap.objs.size]) ht.typeIs (PyProof.Rows.slot_tuple_getitem.lookup) ?_ (by with_unfolding_all rfl)
    refine getItem_back ht (Heap.IsSliceOf.new _ _ _ vs) ps ?_ (by rw [List.size_toArray]; omega)
    refine ⟨.ref _, _, I5.laid (t' := s4.toks) (o := .tup xs.reverse) (fun b ob q => Heap.get?_push_of_some _ q) (Nat.le_refl _) ?_, rfl, q _ (I5.hok.fresh (Nat.le_refl _))⟩
    exact ⟨by rw [List.length_reverse]; exact hz, _, r.reverse, ⟨_, Heap.get?_push_size _ rfl, rfl, _, rfl⟩⟩
end
section
variable {X : Cx} {cv : Nat → Value} {F : Nat → List D → Store → R D} {E : XK} {ia : Ex} {a : Expr}
theorem s_rev {m : Bool} {k : Nat} {p1 p2 p3 pos : Pos} (ha : PE X a (tE X.K cv F E ia)) : PE X (.Subscript a (.Slice none none (some (.UnaryOp .USub (.Constant (.int 1) k p1) p2)) p3) pos) (tE X.K cv F E (.rev m ia)) :=
  PE.weak (pe_revA ha) fun σ H Q ⟨th, S, ρ, s, re, h⟩ => ⟨th, S, ρ, s, re, Post.bind h fun d1 S1 v1 H1 th1 _ e1 s1 r1 h1 => by
    have lists : ∀ {d : D} {v : V}, Rep X.K H1 th1 d v → Post X.K cv E H1 th1 (match getList S1 d with
        | some xs => newL m xs.reverse S1
        | none => .err) Q → (∃ a xs, v = .ref a ∧ SqL X.K H1 a xs ∧ ∀ p, H1 p = none → Q (.ref p) (upd H1 p (.lst xs.reverse))) := fun {d v} r h => by
      cases hg : getList S1 d with
      | none => rw [hg] at h; exact h.elim
      | some xs =>
        rw [hg] at h
        obtain ⟨p, vs, rfl, g1, g2⟩ := getList_ok s1 r hg
        exact ⟨p, vs, rfl, SqL.of g1, (newL_ok s1 g2.reverse h).2⟩
    cases r1 with
    | tup e r => exact .inr ⟨_, _, rfl, SqT.of e, fun p hp => h1 _ _ _ (Ext.laid hp _) (s1.laid hp _) (Rep.laidT hp r.reverse)⟩
    | none => exact .inl (lists .none h1)
    | bool b => exact .inl (lists (.bool b) h1)
    | int b => exact .inl (lists (.int b) h1)
    | str b => exact .inl (lists (.str b) h1)
    | lst e n g r => exact .inl (lists (.lst e n g r) h1)
    | scr e => exact .inl (lists (.scr e) h1)
    | loc e => exact .inl (lists (.loc e) h1)⟩
end
end PV
end
section
set_option Elab.async false
set_option linter.all false
set_option maxRecDepth 100000
set_option maxHeartbeats 4000000
namespace PV
open PySem PySem.Spec PyProof.Rows L2
section
variable {X : Cx} {sc ls : Scope} {nm : Nms} {cv : Nat → Value} {F : Nat → List D → Store → R D} {E : XK} {tg : Expr}
def turnI (F : Nat → List D → Store → R D) (ρ1 : PV.Env) (tg1 : Tg) (own1 : List Nat) (ie : Ex) (it1 : D) (S4 : Store) : R (Option D) :=
  match put tg1 it1 (wipeE ρ1 own1) with
  | some ρ2 => (ev F ie ρ2 S4).bind fun y S5 => .ok (some y) S5
  | none => .err
def turn2E (F : Nat → List D → Store → R D) (ρ : PV.Env) (tgt : Tg) (own : List Nat) (k1 : Ik) (src1 : Ex) (tg1 : Tg) (own1 : List Nat) (ie : Ex) (it : D) (S2 : Store) : R (List D) :=
  match put tgt it (wipeE ρ own) with
  | some ρ1 => (ev F src1 ρ1 S2).bind fun x1 S3 => (match x1 with
    | .tup as1 => (match walkD k1 as1 S3 with
      | some (its1, g1) => mapR (turnI F ρ1 tg1 own1 ie) g1 its1 S3
      | none => .err)
    | _ => .err)
  | none => .err
theorem ev_comp2 {k k1 : Ik} {src src1 : Ex} {tgt tg1 : Tg} {own own1 : List Nat} {ie : Ex} {m : Bool} {ρ : PV.Env} {S : Store} : ev F (.comp2 k src tgt own k1 src1 tg1 own1 ie m) ρ S = (ev F src ρ S).bind fun x S1 => (match x with
    | .tup as => (match walkD k as S1 with
      | some (its, g) => ((mapRL (turn2E F ρ tgt own k1 src1 tg1 own1 ie) g its S1).noexc).bind fun ys S5 => newL m ys S5
      | none => .err)
    | _ => .err) := rfl
theorem mapR_guard {f : D → Store → R (Option D)} {g : Guard} {l : List D} {S S' : Store} {ys : List D} (h : mapR f g l S = .ok ys S') : g.ok S = true := by
  cases l with
  | nil =>
    unfold mapR at h
    split at h
    · assumption
    · cases h
  | cons y r =>
    unfold mapR at h
    split at h
    · assumption
    · cases h
theorem mapRL_guard {f : D → Store → R (List D)} {g : Guard} {l : List D} {S S' : Store} {ys : List D} (h : mapRL f g l S = .ok ys S') : g.ok S = true := by
  cases l with
  | nil =>
    unfold mapRL at h
    split at h
    · assumption
    · cases h
  | cons y r =>
    unfold mapRL at h
    split at h
    · assumption
    · cases h
theorem s_comp2 {k k1 : Ik} {src src1 : Ex} {tgt tg1 : Tg} {own own1 : List Nat} {ie : Ex} {m : Bool} (hin : tgIn own tgt = true) (hin1 : tgIn own1 tg1 = true) :
    ∀ σ H Q, tE X.K cv F E (.comp2 k src tgt own k1 src1 tg1 own1 ie m) σ H Q → tLc2 (iW X.K cv F E k src) (gOf X.K tgt) tYes (iW X.K cv F E0 k1 src1) (gOf X.K tg1) tYes (tE X.K cv F E0 ie) own own1 σ H Q := by
  intro σ H Q ⟨th, S, ρ, s, re, h⟩
  rw [ev_comp2] at h
  refine ⟨th, S, ρ, s, re, ?_⟩
  cases hx : ev F src ρ S with
  | exc c S1 => rw [hx] at h; exact h
  | err => rw [hx] at h; exact h
  | ok d S1 =>
    rw [hx] at h
    simp only [bind_ok] at h
    cases d with
    | tup as =>
      dsimp only at h
      cases hw : walkD k as S1 with
      | none => rw [hw] at h; exact h.elim
      | some p =>
        obtain ⟨its, gd⟩ := p
        rw [hw] at h
        dsimp only at h
        refine ⟨as, its, gd, rfl, hw, fun J H1 th1 avs e1 s1 ra wk dA hD => ?_⟩
        cases hm : mapRL (turn2E F ρ tgt own k1 src1 tg1 own1 ie) gd its S1 with
        | exc c S5 => rw [hm] at h; exact h.elim
        | err => rw [hm] at h; exact h.elim
        | ok ys S5 =>
          rw [hm] at h
          simp only [noexc_ok, bind_ok] at h
          have hlen : ys.length ≤ line := by
            unfold newL at h
            split at h
            · assumption
            · exact h.elim
          have re1 := re.mono e1
          have hDc : dA ∉ th1.c := s1.fresh hD
          have hDg : dA ∉ th1.g := s1.freshG hD
          obtain ⟨NX, hNX⟩ : ∃ N : Nat → Hp → Prop, ∀ i Hc, N i Hc ↔ ∃ (thc : Th) (Sc : Store) (acc : List D) (accv : List V) (ys' : List D), thc.g = dA :: th1.g ∧ Ext H1 th1 Hc ⟨thc.c, th1.g⟩ ∧ Sim X.K Hc thc Sc ∧ Hc dA = some (.lst accv) ∧ RepL X.K Hc thc acc accv ∧ RepL X.K Hc thc as avs ∧ RepE X.K Hc thc ρ σ ∧
            mapRL (turn2E F ρ tgt own k1 src1 tg1 own1 ie) gd (its.drop i) Sc = .ok ys' S5 ∧ ys = acc ++ ys' := ⟨_, fun _ _ => Iff.rfl⟩
          refine ⟨fun i m Hc => m = its.length - i ∧ i ≤ its.length ∧ NX i Hc, ?_, ?_⟩
          · refine ⟨its.length, by simp, Nat.zero_le _, (hNX _ _).mpr ⟨th1.hide dA, S1, [], [], ys, rfl, Ext.laid hD _, s1.hide hD, upd_same, .nil, ra.hide hD, ⟨re1.len, fun i d h => ?_⟩, by simpa using hm, rfl⟩⟩
            obtain ⟨v, h1, h2⟩ := re1.at_ i d h
            exact ⟨v, h1, h2.hide hD⟩
          · rintro i m Hc ⟨rfl, hi, nx⟩
            obtain ⟨⟨c, gg⟩, Sc, acc, accv, ys', hgg, ec, sc', hDv, racc, ras, rec, hmap, hys⟩ := (hNX _ _).mp nx
            have hgg : gg = dA :: th1.g := hgg
            subst hgg
            have gok : gd.ok Sc = true := mapRL_guard hmap
            obtain ⟨wg, ws, wy⟩ := wk Hc _ Sc sc' ras gok
            have hDc' : dA ∉ c := (sc'.gh dA List.mem_cons_self).2
            by_cases hlt : i < its.length
            · refine .inr ⟨wg i hlt, NX (i + 1), fun Hn z => ⟨its.length - (i + 1), by omega, rfl, hlt, z⟩, fun x H2 y => ?_⟩
              have hdrop : its.drop i = its[i] :: its.drop (i + 1) := List.drop_eq_getElem_cons hlt
              rw [hdrop] at hmap
              unfold mapRL at hmap
              rw [if_pos gok] at hmap
              obtain ⟨f1, f2, f3⟩ := wy i x H2 its[i] (List.getElem?_eq_getElem hlt) y
              cases ht1 : turn2E F ρ tgt own k1 src1 tg1 own1 ie its[i] Sc with
              | exc c S6 => rw [ht1] at hmap; cases hmap
              | err => rw [ht1] at hmap; cases hmap
              | ok zs S6 =>
                rw [ht1] at hmap
                simp only [bind_ok] at hmap
                cases hm2 : mapRL (turn2E F ρ tgt own k1 src1 tg1 own1 ie) gd (its.drop (i + 1)) S6 with
                | exc c S7 => rw [hm2] at hmap; cases hmap
                | err => rw [hm2] at hmap; cases hmap
                | ok ys2 S7 =>
                  rw [hm2] at hmap
                  simp only [bind_ok] at hmap
                  cases hmap
                  unfold turn2E at ht1
                  cases hput : put tgt its[i] (wipeE ρ own) with
                  | none => rw [hput] at ht1; cases ht1
                  | some ρ1 =>
                    rw [hput] at ht1
                    dsimp only at ht1
                    refine put_ok hput f3 ((rec.mono f1).wipe own) fun σ1 rs1 hw1 => ⟨by rw [hw1 own hin, wipe_wipe], ?_⟩
                    show (if true = true then iW X.K cv F E0 k1 src1 σ1 H2 _ else NX (i + 1) H2)
                    rw [if_pos rfl]
                    refine ⟨_, Sc, ρ1, f2, rs1, ?_⟩
                    cases hx1 : ev F src1 ρ1 Sc with
                    | exc c S8 => rw [hx1] at ht1; cases ht1
                    | err => rw [hx1] at ht1; cases ht1
                    | ok d1 S8 =>
                      rw [hx1, bind_ok] at ht1
                      cases d1 with
                      | tup as1 =>
                        dsimp only at ht1
                        cases hwk : walkD k1 as1 S8 with
                        | none => rw [hwk] at ht1; cases ht1
                        | some p1 =>
                          obtain ⟨its1, gd1⟩ := p1
                          rw [hwk] at ht1
                          dsimp only at ht1
                          refine ⟨as1, its1, gd1, rfl, hwk, fun J1 H4 th4 avs1 e4 s4 ra4 wk1 => ?_⟩
                          have e14 := f1.trans e4
                          obtain ⟨NX1, hNX1⟩ : ∃ N : Nat → Hp → Prop, ∀ j Hc, N j Hc ↔ ∃ (thc : Th) (Sc : Store) (acc : List D) (accv : List V) (zs' : List D), thc.g = dA :: th1.g ∧ Ext H1 th1 Hc ⟨thc.c, th1.g⟩ ∧ Sim X.K Hc thc Sc ∧ Hc dA = some (.lst accv) ∧ RepL X.K Hc thc acc accv ∧ RepL X.K Hc thc as avs ∧ RepL X.K Hc thc as1 avs1 ∧ RepE X.K Hc thc ρ σ ∧ RepE X.K Hc thc ρ1 σ1 ∧
                            mapR (turnI F ρ1 tg1 own1 ie) gd1 (its1.drop j) Sc = .ok zs' S6 ∧ ys = acc ++ (zs' ++ ys2) := ⟨_, fun _ _ => Iff.rfl⟩
                          refine ⟨fun j m Hc => m = its1.length - j ∧ j ≤ its1.length ∧ NX1 j Hc, ?_, ?_⟩
                          · refine ⟨its1.length, by simp, Nat.zero_le _, (hNX1 _ _).mpr ⟨th4, S8, acc, accv, zs, e14.gh, ec.trans (e14.reg th1.g), s4, e14.lst dA accv hDv hDc', racc.mono e14, ras.mono e14, ra4, rec.mono e14, rs1.mono e4, by simpa using ht1, hys⟩⟩
                          · rintro j m Hc1 ⟨rfl, hj, nx1⟩
                            obtain ⟨⟨c', gg'⟩, Sc1, acc1, accv1, zs', hgg', ec1, sc1, hDv1, racc1, ras1, ras1', rec1, rec1', hmap1, hys1⟩ := (hNX1 _ _).mp nx1
                            have hgg' : gg' = dA :: th1.g := hgg'
                            subst hgg'
                            have gok1 : gd1.ok Sc1 = true := mapR_guard hmap1
                            obtain ⟨wg1, ws1, wy1⟩ := wk1 Hc1 _ Sc1 sc1 ras1' gok1
                            have hDc1 : dA ∉ c' := (sc1.gh dA List.mem_cons_self).2
                            by_cases hlt1 : j < its1.length
                            · refine .inr ⟨wg1 j hlt1, NX1 (j + 1), fun Hn z => ⟨its1.length - (j + 1), by omega, rfl, hlt1, z⟩, fun x1 H5 y1 => ?_⟩
                              have hdrop1 : its1.drop j = its1[j] :: its1.drop (j + 1) := List.drop_eq_getElem_cons hlt1
                              rw [hdrop1] at hmap1
                              unfold mapR at hmap1
                              rw [if_pos gok1] at hmap1
                              obtain ⟨q1, q2, q3⟩ := wy1 j x1 H5 its1[j] (List.getElem?_eq_getElem hlt1) y1
                              cases ht2 : turnI F ρ1 tg1 own1 ie its1[j] Sc1 with
                              | exc c S9 => rw [ht2] at hmap1; cases hmap1
                              | err => rw [ht2] at hmap1; cases hmap1
                              | ok yo S9 =>
                                rw [ht2] at hmap1
                                simp only [bind_ok] at hmap1
                                cases hm3 : mapR (turnI F ρ1 tg1 own1 ie) gd1 (its1.drop (j + 1)) S9 with
                                | exc c S10 => rw [hm3] at hmap1; cases hmap1
                                | err => rw [hm3] at hmap1; cases hmap1
                                | ok zs2 S10 =>
                                  rw [hm3] at hmap1
                                  simp only [bind_ok] at hmap1
                                  cases hmap1
                                  unfold turnI at ht2
                                  cases hput1 : put tg1 its1[j] (wipeE ρ1 own1) with
                                  | none => rw [hput1] at ht2; cases ht2
                                  | some ρ2 =>
                                    rw [hput1] at ht2
                                    dsimp only at ht2
                                    refine put_ok hput1 q3 ((rec1'.mono q1).wipe own1) fun σ3 rs3 hw3 => ⟨by rw [hw3 own1 hin1, wipe_wipe], ?_⟩
                                    show (if true = true then tE X.K cv F E0 ie σ3 H5 (fun y H7 => ∃ acc, H7 dA = some (.lst acc) ∧ acc.length < sizeLine ∧ NX1 (j + 1) (upd H7 dA (.lst (acc ++ [y])))) else NX1 (j + 1) H5)
                                    rw [if_pos rfl]
                                    cases he0 : ev F ie ρ2 Sc1 with
                                    | exc c S11 => rw [he0] at ht2; cases ht2
                                    | err => rw [he0] at ht2; cases ht2
                                    | ok y0 S11 =>
                                      rw [he0] at ht2
                                      cases ht2
                                      refine ⟨_, Sc1, ρ2, q2, rs3, ?_⟩
                                      rw [he0]
                                      intro v H7 th7 e7 s7 r7
                                      have e57 := q1.trans e7
                                      have g7 : th7.g = dA :: th1.g := e57.gh
                                      have hD7 : H7 dA = some (.lst accv1) := e57.lst dA accv1 hDv1 hDc1
                                      have m7 : dA ∈ th7.g := by rw [g7]; exact List.mem_cons_self
                                      have n7 : dA ∉ th7.c := (s7.gh dA m7).2
                                      have hgE : ∀ {ρ' : PV.Env} {σ' : L2.St}, RepE X.K Hc1 ⟨c', dA :: th1.g⟩ ρ' σ' → RepE X.K (upd H7 dA (.lst (accv1 ++ [v]))) th7 ρ' σ' := fun {ρ' σ'} rc => ⟨rc.len, fun j d hd => by
                                        obtain ⟨w, h1, h2⟩ := rc.at_ j d hd
                                        exact ⟨w, h1, (h2.mono e57).grow m7 hD7 n7⟩⟩
                                      refine ⟨accv1, hD7, ?_, (hNX1 _ _).mpr ⟨th7, _, acc1 ++ [y0], accv1 ++ [v], zs2, g7, Ext.upd_new hD (ec1.trans (e57.reg th1.g)), s7.grow m7 hD7, upd_same, ((racc1.mono e57).grow m7 hD7 n7).append (.one (r7.grow m7 hD7 n7)), (ras1.mono e57).grow m7 hD7 n7, (ras1'.mono e57).grow m7 hD7 n7, hgE rec1, hgE rec1', hm3, by rw [hys1]; simp⟩⟩
                                      rw [line_eq, ← racc1.length]
                                      rw [hys1] at hlen
                                      simp at hlen
                                      show acc1.length < line
                                      omega
                            · have ej : j = its1.length := by omega
                              subst ej
                              refine .inl ⟨ws1, ?_⟩
                              rw [List.drop_length] at hmap1
                              unfold mapR at hmap1
                              rw [if_pos gok1] at hmap1
                              cases hmap1
                              exact (hNX _ _).mpr ⟨_, _, acc1, accv1, ys2, rfl, ec1, sc1, hDv1, racc1, ras1, rec1, hm2, by simpa using hys1⟩
                      | _ => cases ht1
            · have ei : i = its.length := by omega
              subst ei
              refine .inl ⟨ws, ?_⟩
              rw [List.drop_length] at hmap
              unfold mapRL at hmap
              rw [if_pos gok] at hmap
              cases hmap
              rw [List.append_nil] at hys
              subst hys
              unfold newL at h
              rw [if_pos hlen] at h
              cases m with
              | true =>
                refine h (.ref dA) Hc ⟨c ++ [dA], th1.g⟩ (e1.trans (Ext.add_new hD ec)) (sc'.reveal hDv racc hDg) (.loc ?_)
                have hcl := sc'.len
                show (c ++ [dA])[_]? = some dA
                rw [← hcl]; simp
              | false =>
                refine h (.ref dA) Hc ⟨c, th1.g⟩ (e1.trans ec) (sc'.show_ fun a h => List.mem_cons_of_mem _ h) (.lst hDv hDc' hDg (racc.show_ fun a h => List.mem_cons_of_mem _ h))
    | _ => exact h.elim
end
end PV
end
section
set_option Elab.async false
set_option linter.all false
set_option maxRecDepth 100000
set_option maxHeartbeats 4000000
namespace PV
open PySem PySem.Spec PyProof.Rows L2
/-! ### zip and enumerate over lists and tuples (true: a list) -/
def sqK (K : PySem.W.Frag) (k : Bool) (H : Hp) (a : Addr) (xs : List V) : Prop := match k with | true => SqL K H a xs | false => SqT K H a xs
def itK (k : Bool) (it a : Addr) (i : Nat) (h : Heap) : Prop := match k with | true => h.IsListIter it a i | false => h.IsTupleIter it a i
def ctK (k : Bool) (h : Heap) (a : Addr) (items : Array Value) : Prop := match k with | true => h.IsList a items | false => h.IsTuple a items
def ioK (k : Bool) (a : Addr) : Obj := match k with | true => { cls := .type "list_iterator", data := .fields #[.ref a, .int 0 0] } | false => { cls := .type "tuple_iterator", data := .fields #[.ref a, .int 0 0] }
theorem draws_K {prog : Program} {w : World} {A : Around} (k : Bool) (hh : A.handled = none) (it a : Addr) (hne : a ≠ it) (items : Array Value) : Draws prog w A it [it, a] items.size (fun i v => items[i]? = some v) (fun i h => itK k it a i h ∧ ctK k h a items) := by
  cases k
  · exact Draws.tuple hh it a hne items
  · exact Draws.list hh it a hne items
theorem begins_K (k : Bool) (a : Addr) (items : Array Value) : Begins (.ref a) (ioK k a) (fun h => ctK k h a items) := by
  cases k
  · exact begins_tuple a items
  · exact begins_list a items
theorem itK_obj {k : Bool} {it a : Addr} {i : Nat} {h : Heap} (x : itK k it a i h) : ∃ o, h.get? it = some o ∧ ∀ v, o.data ≠ .cell v := by
  cases k <;> (obtain ⟨o, e, _, d⟩ := x; exact ⟨o, e, fun v q => by rw [d] at q; cases q⟩)
theorem itK_at {k : Bool} {it a : Addr} {i : Nat} {h h' : Heap} (x : itK k it a i h) (q : ∀ o, h.get? it = some o → h'.get? it = some o) : itK k it a i h' := by
  cases k <;> (obtain ⟨o, e, r⟩ := x; exact ⟨o, q o e, r⟩)
theorem itK_new {k : Bool} {it a : Addr} {h : Heap} (e : h.get? it = some (ioK k a)) : itK k it a 0 h := by
  cases k <;> exact ⟨_, e, rfl, rfl⟩
theorem sqK_ct {X : Cx} {pins : List (Addr × Obj)} {σ : L2.St} {H : Hp} {s : Shared} {k : Bool} {a : Addr} {xs : List V} (I : Inv X pins σ H s) (h : sqK X.K k H a xs) : ∃ its : List Value, Vals xs its ∧ ctK k s.heap a its.toArray := by
  cases k
  · obtain ⟨its, r, p, _⟩ := I.tuple h
    exact ⟨its, r, p⟩
  · obtain ⟨its, r, p, _⟩ := I.list h
    exact ⟨its, r, p.isList⟩
theorem sqK_inj {X : Cx} {pins : List (Addr × Obj)} {σ : L2.St} {H : Hp} {s : Shared} {k : Bool} {a : Addr} {xs ys : List V} (I : Inv X pins σ H s) (h : sqK X.K k H a xs) (h' : sqK X.K k H a ys) : xs = ys := by
  cases k
  · exact I.tuple_inj h h'
  · exact I.list_inj h h'
theorem ctK_lt {k : Bool} {h : Heap} {a : Addr} {its : Array Value} (x : ctK k h a its) : a < h.objs.size := by
  cases k <;> (obtain ⟨o, e, _⟩ := x; exact Heap.lt_size e)
def ItzK (K : PySem.W.Frag) (k1 k2 : Bool) (a b : Addr) : It :=
  ⟨fun i H => ∃ (xs ys : List V) (x y : V), sqK K k1 H a xs ∧ sqK K k2 H b ys ∧ xs[i]? = some x ∧ ys[i]? = some y,
    fun i H v H' => ∃ T x y, v = .ref T ∧ H T = none ∧ H' = upd H T (.tup [x, y]) ∧ (∀ xs, sqK K k1 H a xs → xs[i]? = some x) ∧ ∀ ys, sqK K k2 H b ys → ys[i]? = some y,
    fun i H => ∃ xs ys : List V, sqK K k1 H a xs ∧ sqK K k2 H b ys ∧ min xs.length ys.length = i⟩
theorem turn_zipK {P : Program} {w : World} {K : PySem.W.Frag} {elts : List Expr} {kk : Nat} {tpos : Pos} {k1 k2 : Bool} {a b : Addr} {N : Nat} (ha : a < N) (hb : b < N) :
    Turn P w K (.Tuple elts kk tpos) (ItzK K k1 k2 a b) [N + 4, N + 2, N + 3, N, N + 1] (N + 4) (fun i h => IsZip h (N + 4) (N + 2) (N + 3) .none ∧ IsTupOf2 h (N + 2) (.ref N) (.ref (N + 1)) ∧ (∃ a1 a2, IsTupOf2 h (N + 3) a1 a2) ∧ itK k1 N a i h ∧ itK k2 (N + 1) b i h) where
  mem := by simp
  obj := fun i h st c hc => by
    obtain ⟨hz, hTI, ⟨x, y, hTO⟩, h1, h2⟩ := st
    have e' : c = N + 4 ∨ c = N + 2 ∨ c = N + 3 ∨ c = N ∨ c = N + 1 := by simpa using hc
    rcases e' with q | q | q | q | q
    · rw [q]; exact ⟨_, hz, fun v q => nomatch q⟩
    · rw [q]; exact ⟨_, hTI, fun v q => nomatch q⟩
    · rw [q]; exact ⟨_, hTO, fun v q => nomatch q⟩
    · rw [q]; exact itK_obj h1
    · rw [q]; exact itK_obj h2
  keep := fun i h h' st k => by
    obtain ⟨hz, hTI, ⟨x, y, hTO⟩, h1, h2⟩ := st
    exact ⟨k _ (by simp) _ hz, k _ (by simp) _ hTI, ⟨x, y, k _ (by simp) _ hTO⟩, itK_at h1 fun o q => k N (by simp) o q, itK_at h2 fun o q => k (N + 1) (by simp) o q⟩
  item := by
    intro X hP hw hK hc i pins s σ H E I hf st hg
    subst hP hw hK
    obtain ⟨hz, hTI, hTO, h1, h2⟩ := st
    obtain ⟨xs, ys, x, y, hqx, hqy, hx, hy⟩ := hg
    obtain ⟨its, rv, p⟩ := sqK_ct I hqx
    obtain ⟨its2, rv2, p2⟩ := sqK_ct I hqy
    have W := WalksT.zipD2 (prog := X.prog) (w := X.w) (A := X.A) (zip_sep2 (N := N) (fp1 := [a]) (fp2 := [b]) (by simpa using ha) (by simpa using hb)) (draws_K (A := X.A.in1) k1 (show X.A.in1.handled = none from I.ok.hd hc) N a (Nat.ne_of_lt ha) its.toArray) (draws_K (A := X.A.in1) k2 (show X.A.in1.handled = none from I.ok.hd hc) (N + 1) b (Nat.ne_of_lt (Nat.lt_succ_of_lt hb)) its2.toArray)
    obtain ⟨u, hu, ru⟩ := rv.get hx
    obtain ⟨u2, hu2, ru2⟩ := rv2.get hy
    have hi1 : i < its.length := (List.getElem?_eq_some_iff.mp hu).1
    have hi2 : i < its2.length := (List.getElem?_eq_some_iff.mp hu2).1
    refine W.item i s _ _ (show i < min its.toArray.size its2.toArray.size from Nat.lt_min.mpr ⟨by simpa using hi1, by simpa using hi2⟩) ⟨hz, hTI, hTO, ⟨h1, p⟩, ⟨h2, p2⟩⟩ fun T vals h' tk hv hsz hT hmid hk => ?_
    obtain ⟨v1, v2, hv1, hv2, rfl⟩ := hv
    have e1 : v1 = u := by
      have hv1 : its.toArray[i]? = some v1 := hv1
      rw [List.getElem?_toArray, hu] at hv1
      exact (Option.some.inj hv1).symm
    have e2 : v2 = u2 := by
      have hv2 : its2.toArray[i]? = some v2 := hv2
      rw [List.getElem?_toArray, hu2] at hv2
      exact (Option.some.inj hv2).symm
    subst e1 e2
    refine ⟨_, rfl, W.go elts kk tpos i T _ _ _ hmid fun h'' hst hk2 => ?_⟩
    have hT2 : h''.IsTuple T #[v1, v2] := by
      obtain ⟨o, e, r⟩ := hT
      exact ⟨o, hk2 T o (W.apart _ _ _ hmid) e, r⟩
    have new : ObjOk X.prog X.w (upd H T (.tup [x, y])) h'' T (.tup [x, y]) := ⟨by show 2 ≤ sizeLine; decide, [v1, v2], .cons ru (.cons ru2 .nil), hT2⟩
    have I1 : Inv X pins σ (upd H T (.tup [x, y])) { s with heap := h'', toks := tk } :=
      I.turnedNew (t' := tk) (ch := [N + 4, N + 2, N + 3, N, N + 1]) (fun c o hb q => hk2 c o (fun z => hb (by simp at z ⊢; rcases z with z | z | z | z <;> simp [z])) (hk c o (fun z => hb (by simp at z ⊢; rcases z with z | z | z | z <;> simp [z])) q)) hf hsz new
    refine ⟨.ref T, _, I1, rfl, ⟨T, x, y, rfl, I.hok.fresh hsz, rfl, fun l hl => by rw [sqK_inj I hl hqx]; exact hx, fun l hl => by rw [sqK_inj I hl hqy]; exact hy⟩, ?_, fun c hcm => ?_⟩
    · obtain ⟨g1, g2, g3, g4, g5⟩ := hst
      exact ⟨g1, g2, g3, g4.1, g5.1⟩
    · have hlt : c < s.heap.objs.size := by
        have e' : c = N + 4 ∨ c = N + 2 ∨ c = N + 3 ∨ c = N ∨ c = N + 1 := by simpa using hcm
        rcases e' with q | q | q | q | q
        · rw [q]; exact Heap.lt_size hz
        · rw [q]; exact Heap.lt_size hTI
        · rw [q]; obtain ⟨_, _, hTO⟩ := hTO; exact Heap.lt_size hTO
        · rw [q]; obtain ⟨_, e1, _⟩ := itK_obj h1; exact Heap.lt_size e1
        · rw [q]; obtain ⟨_, e2, _⟩ := itK_obj h2; exact Heap.lt_size e2
      rw [upd_ne (Nat.ne_of_lt (Nat.lt_of_lt_of_le hlt hsz))]
      exact (hf c hcm).1
  done := by
    intro X hP hw hK hc i pins s σ H E I hf st hg
    subst hP hw hK
    obtain ⟨hz, hTI, hTO, h1, h2⟩ := st
    obtain ⟨xs, ys, hqx, hqy, hend⟩ := hg
    obtain ⟨its, rv, p⟩ := sqK_ct I hqx
    obtain ⟨its2, rv2, p2⟩ := sqK_ct I hqy
    have W := WalksT.zipD2 (prog := X.prog) (w := X.w) (A := X.A) (zip_sep2 (N := N) (fp1 := [a]) (fp2 := [b]) (by simpa using ha) (by simpa using hb)) (draws_K (A := X.A.in1) k1 (show X.A.in1.handled = none from I.ok.hd hc) N a (Nat.ne_of_lt ha) its.toArray) (draws_K (A := X.A.in1) k2 (show X.A.in1.handled = none from I.ok.hd hc) (N + 1) b (Nat.ne_of_lt (Nat.lt_succ_of_lt hb)) its2.toArray)
    have hi : i = min its.toArray.size its2.toArray.size := by
      have l1 := rv.length
      have l2 := rv2.length
      simp
      omega
    subst hi
    exact W.done s _ _ ⟨hz, hTI, hTO, ⟨h1, p⟩, ⟨h2, p2⟩⟩ fun h' tk hk => ⟨rfl, I.turnedL (t' := tk) (ch := [N + 4, N + 2, N + 3, N, N + 1]) (fun c o hb q => hk c o (fun z => hb (by simp at z ⊢; rcases z with z | z | z | z <;> simp [z])) q) hf⟩
  self := fun A i s Q E st h => wpAny_pyIter_zip st.1 h
def iZipK (K : PySem.W.Frag) (ta : TA) : TI := fun σ H R => ta σ H fun vs H1 => ∃ a b k1 k2 xs ys, vs = [.ref a, .ref b] ∧ sqK K k1 H1 a xs ∧ sqK K k2 H1 b ys ∧ R (ItzK K k1 k2 a b) H1
theorem pi_zipK {X : Cx} {e e2 : Expr} {ta : TA} {p pos tpos : Pos} {elts : List Expr} {kk : Nat} (hg : Gl X "zip") (hm : X.mg "zip" = none) (ha : PA X [e, e2] ta)
    (hs : starEach [e, e2] X.env = (false, eval e X.env) :: starEach [e2] X.env) (hpl : (backTo pos (starEach [e2] X.env)).any (·.1) = false) :
    PI X (.Tuple elts kk tpos) (.Call (.Name "zip" p) [e, e2] [] pos) (iZipK X.K ta) := by
  refine ⟨fun pins s σ H R I h => ?_⟩
  refine Call_ (ld_blt I hg hm PyProof.Rows.boot_zip (PyProof.Rows.callWith_type1 (thn (ha.run pos pins s σ H _ I h) fun us s1 ⟨vs, H1, I1, r1, q1⟩ => ?_) hs hpl))
  obtain ⟨a, b, k1, k2, xs, ys, ex, hqx, hqy, q⟩ := q1
  subst ex
  cases r1 with
  | cons r rr =>
    cases rr with
    | cons r' rr =>
      cases rr
      cases r
      cases r'
      obtain ⟨its, rv, p1⟩ := sqK_ct I1 hqx
      obtain ⟨its2, rv2, p2⟩ := sqK_ct I1 hqy
      refine zip_begins2 (begins_K k1 a its.toArray) (begins_K k2 b its2.toArray) p1 p2 fun h' hz hTI hTO e1 e2 hsz hk => wpAny_pyIter_zip hz ?_
      have I2 : Inv X pins σ H1 { s1 with heap := h' } := I1.kept (t' := s1.toks) hk
      refine ⟨s1.heap.objs.size + 4, [s1.heap.objs.size + 4, s1.heap.objs.size + 2, s1.heap.objs.size + 3, s1.heap.objs.size, s1.heap.objs.size + 1], _, _, H1, rfl, I2, turn_zipK (ctK_lt p1) (ctK_lt p2), ⟨hz, hTI, ⟨_, _, hTO⟩, itK_new e1, itK_new e2⟩, fun c hcm => ?_, q⟩
      have e' : c = s1.heap.objs.size + 4 ∨ c = s1.heap.objs.size + 2 ∨ c = s1.heap.objs.size + 3 ∨ c = s1.heap.objs.size ∨ c = s1.heap.objs.size + 1 := by simpa using hcm
      have hle : s1.heap.objs.size ≤ c := by
        rcases e' with z | z | z | z | z
        · rw [z]; exact Nat.le_add_right _ _
        · rw [z]; exact Nat.le_add_right _ _
        · rw [z]; exact Nat.le_add_right _ _
        · rw [z]; exact Nat.le_refl _
        · rw [z]; exact Nat.le_add_right _ _
      exact I1.fpOk hle (I1.hok.fresh hle)
def kOf : D → Bool | .tup _ => false | _ => true
section
variable {K : PySem.W.Frag} {H : Hp} {th : Th} {S : Store}
theorem seqK {d : D} {v : V} {xs : List D} (s : Sim K H th S) (r : Rep K H th d v) (h : getSeq S d = some xs) : ∃ a vs, v = .ref a ∧ sqK K (kOf d) H a vs ∧ RepL K H th xs vs := by
  cases r with
  | tup e r1 => cases h; exact ⟨_, _, rfl, SqT.of e, r1⟩
  | lst e n g r1 => cases h; exact ⟨_, _, rfl, SqL.of e, r1⟩
  | scr e => cases h; exact ⟨_, _, rfl, e.sq, .ints⟩
  | loc e =>
    obtain ⟨a, vs, e', h1, h2⟩ := getList_ok s (.loc e) (show getList S (.loc _) = some xs from h)
    cases e'
    exact ⟨_, _, rfl, SqL.of h1, h2⟩
  | none => cases h
  | bool _ => cases h
  | int _ => cases h
  | str _ => cases h
theorem zip2L_len (xs ys : List D) : (zip2L xs ys).length = min xs.length ys.length := by simp [zip2L]
theorem walk_zip {d1 d2 : D} {v1 v2 : V} {xs ys : List D} {a b : Addr} (h1 : getSeq S d1 = some xs) (h2 : getSeq S d2 = some ys) (e1 : v1 = .ref a) (e2 : v2 = .ref b) : WalkR K (ItzK K (kOf d1) (kOf d2) a b) (zip2L xs ys) (guardOf S d1 ++ guardOf S d2) [d1, d2] [v1, v2] := by
  intro H' th' S' s r g
  obtain ⟨g1, g2⟩ := guard_app g
  have l1 := seq_later h1 g1
  have l2 := seq_later h2 g2
  cases r with
  | cons r1 rr =>
    cases rr with
    | cons r2 rn =>
      obtain ⟨a', vs, q1, sq1, rx⟩ := seqK s r1 l1
      obtain ⟨b', ws, q2, sq2, ry⟩ := seqK s r2 l2
      rw [e1] at q1
      rw [e2] at q2
      cases q1
      cases q2
      refine ⟨fun i hi => ?_, ⟨vs, ws, sq1, sq2, by rw [zip2L_len, rx.length, ry.length]⟩, fun i x H'' it hit y => ?_⟩
      · rw [zip2L_len, rx.length, ry.length] at hi
        have hi1 : i < vs.length := by omega
        have hi2 : i < ws.length := by omega
        exact ⟨vs, ws, vs[i], ws[i], sq1, sq2, List.getElem?_eq_getElem hi1, List.getElem?_eq_getElem hi2⟩
      · obtain ⟨T, p, q, rfl, hT, rfl, f1, f2⟩ := y
        have f1 := f1 vs sq1
        have f2 := f2 ws sq2
        unfold zip2L at hit
        rw [List.getElem?_zipWith] at hit
        cases hx : xs[i]? with
        | none => rw [hx] at hit; cases hit
        | some dx =>
          cases hy : ys[i]? with
          | none => rw [hx, hy] at hit; cases hit
          | some dy =>
            rw [hx, hy] at hit
            cases hit
            obtain ⟨p', hp', rp⟩ := rx.get hx
            obtain ⟨q', hq', rq⟩ := ry.get hy
            rw [f1] at hp'
            rw [f2] at hq'
            cases hp'
            cases hq'
            exact ⟨Ext.laid hT _, s.laid hT _, Rep.laidT hT (.cons rp (.cons rq .nil))⟩
end
section
variable {X : Cx} {sc ls : Scope} {nm : Nms} {cv : Nat → Value} {F : Nat → List D → Store → R D} {E : XK}
theorem s_izip {ia ib : Ex} {a b : Expr} {pos p tpos : Pos} {elts : List Expr} {kk : Nat} (g : Good X sc ls nm cv F E) (hg : glB sc "zip" = true) (hp : plainA a = true) (hp2 : plainA b = true) (ha : PA X [a, b] (tA X.K cv F E (.acons ia (.acons ib .anil)))) :
    PI X (.Tuple elts kk tpos) (.Call (.Name "zip" p) [a, b] [] pos) (iW X.K cv F E .zip (.acons ia (.acons ib .anil))) := by
  refine PI.weak (pi_zipK (glB_of g.sc hg) (g.blt _ (by decide +kernel)) ha (star_of hp) (any_star (by simp [hp2]))) fun σ H R ⟨th, S, ρ, s, re, h⟩ => ⟨th, S, ρ, s, re, ?_⟩
  cases hx : ev F (.acons ia (.acons ib .anil)) ρ S with
  | err => rw [hx] at h; exact h
  | exc c S1 => rw [hx] at h; exact h
  | ok d S1 =>
    rw [hx] at h
    obtain ⟨as, its, gd, rfl, hw, h⟩ := h
    refine ⟨as, rfl, fun vs H1 th1 e1 s1 r1 => ?_⟩
    have hlen : ∃ x y, as = [x, y] := by
      have hx' : (ev F ia ρ S).bind (fun x S1 => ((ev F ib ρ S1).bind fun y S2 => PV.R.ok (PV.D.tup [y]) S2).bind fun z S2 => (match z with | PV.D.tup ys => PV.R.ok (PV.D.tup (x :: ys)) S2 | _ => PV.R.err)) = PV.R.ok (PV.D.tup as) S1 := hx
      cases h1 : ev F ia ρ S with
      | ok x Sa =>
        rw [h1, bind_ok] at hx'
        cases h2 : ev F ib ρ Sa with
        | ok y Sb => rw [h2, bind_ok, bind_ok] at hx'; cases hx'; exact ⟨x, y, rfl⟩
        | exc c Sb => rw [h2] at hx'; cases hx'
        | err => rw [h2] at hx'; cases hx'
      | exc c Sa => rw [h1] at hx'; cases hx'
      | err => rw [h1] at hx'; cases hx'
    obtain ⟨d1, d2, rfl⟩ := hlen
    have hw : (match getSeq S1 d1, getSeq S1 d2 with | some xs, some ys => some (zip2L xs ys, guardOf S1 d1 ++ guardOf S1 d2) | _, _ => none) = some (its, gd) := hw
    cases q1 : getSeq S1 d1 with
    | none => rw [q1] at hw; cases hw
    | some xs =>
      cases q2 : getSeq S1 d2 with
      | none => rw [q1, q2] at hw; cases hw
      | some ys =>
        rw [q1, q2] at hw
        cases hw
        have r1' := r1
        cases r1' with
        | cons ra rr =>
          cases rr with
          | cons rb rn =>
            cases rn
            obtain ⟨a', ws, e2, sq1, rx⟩ := seqK s1 ra q1
            obtain ⟨b', us, e3, sq2, ry⟩ := seqK s1 rb q2
            exact ⟨a', b', kOf d1, kOf d2, ws, us, by rw [e2, e3], sq1, sq2, h _ H1 th1 _ e1 s1 r1 (walk_zip q1 q2 e2 e3)⟩
end
end PV
end
section
set_option Elab.async false
set_option linter.all false
set_option maxRecDepth 100000
set_option maxHeartbeats 4000000
namespace PV
open PySem PySem.Spec PyProof.Rows L2
/-! ### zip of three -/
def ItzK3 (K : PySem.W.Frag) (k1 k2 k3 : Bool) (a b c : Addr) : It :=
  ⟨fun i H => ∃ (xs ys zs : List V) (x y z : V), sqK K k1 H a xs ∧ sqK K k2 H b ys ∧ sqK K k3 H c zs ∧ xs[i]? = some x ∧ ys[i]? = some y ∧ zs[i]? = some z,
    fun i H v H' => ∃ T x y z, v = .ref T ∧ H T = none ∧ H' = upd H T (.tup [x, y, z]) ∧ (∀ xs, sqK K k1 H a xs → xs[i]? = some x) ∧ (∀ ys, sqK K k2 H b ys → ys[i]? = some y) ∧ ∀ zs, sqK K k3 H c zs → zs[i]? = some z,
    fun i H => ∃ xs ys zs : List V, sqK K k1 H a xs ∧ sqK K k2 H b ys ∧ sqK K k3 H c zs ∧ min (min xs.length ys.length) zs.length = i⟩
theorem turn_zipK3 {P : Program} {w : World} {K : PySem.W.Frag} {elts : List Expr} {kk : Nat} {tpos : Pos} {k1 k2 k3 : Bool} {a b e : Addr} {N : Nat} (ha : a < N) (hb : b < N) (he : e < N) :
    Turn P w K (.Tuple elts kk tpos) (ItzK3 K k1 k2 k3 a b e) [N + 5, N + 3, N + 4, N, N + 1, N + 2] (N + 5) (fun i h => IsZip h (N + 5) (N + 3) (N + 4) .none ∧ IsTupOf3 h (N + 3) (.ref N) (.ref (N + 1)) (.ref (N + 2)) ∧ (∃ a1 a2 a3, IsTupOf3 h (N + 4) a1 a2 a3) ∧ itK k1 N a i h ∧ itK k2 (N + 1) b i h ∧ itK k3 (N + 2) e i h) where
  mem := by simp
  obj := fun i h st c hc => by
    obtain ⟨hz, hTI, ⟨x, y, u, hTO⟩, h1, h2, h3⟩ := st
    have e' : c = N + 5 ∨ c = N + 3 ∨ c = N + 4 ∨ c = N ∨ c = N + 1 ∨ c = N + 2 := by simpa using hc
    rcases e' with q | q | q | q | q | q
    · rw [q]; exact ⟨_, hz, fun v q => nomatch q⟩
    · rw [q]; exact ⟨_, hTI, fun v q => nomatch q⟩
    · rw [q]; exact ⟨_, hTO, fun v q => nomatch q⟩
    · rw [q]; exact itK_obj h1
    · rw [q]; exact itK_obj h2
    · rw [q]; exact itK_obj h3
  keep := fun i h h' st k => by
    obtain ⟨hz, hTI, ⟨x, y, u, hTO⟩, h1, h2, h3⟩ := st
    exact ⟨k _ (by simp) _ hz, k _ (by simp) _ hTI, ⟨x, y, u, k _ (by simp) _ hTO⟩, itK_at h1 fun o q => k N (by simp) o q, itK_at h2 fun o q => k (N + 1) (by simp) o q, itK_at h3 fun o q => k (N + 2) (by simp) o q⟩
  item := by
    intro X hP hw hK hc i pins s σ H E I hf st hg
    subst hP hw hK
    obtain ⟨hz, hTI, hTO, h1, h2, h3⟩ := st
    obtain ⟨xs, ys, zs, x, y, z, hqx, hqy, hqz, hx, hy, hzz⟩ := hg
    obtain ⟨its, rv, p⟩ := sqK_ct I hqx
    obtain ⟨its2, rv2, p2⟩ := sqK_ct I hqy
    obtain ⟨its3, rv3, p3⟩ := sqK_ct I hqz
    have W := WalksT.zipD3 (prog := X.prog) (w := X.w) (A := X.A) (zip_sep3 (N := N) (fp1 := [a]) (fp2 := [b]) (fp3 := [e]) (by simpa using ha) (by simpa using hb) (by simpa using he)) (draws_K (A := X.A.in1) k1 (show X.A.in1.handled = none from I.ok.hd hc) N a (Nat.ne_of_lt ha) its.toArray) (draws_K (A := X.A.in1) k2 (show X.A.in1.handled = none from I.ok.hd hc) (N + 1) b (Nat.ne_of_lt (Nat.lt_succ_of_lt hb)) its2.toArray) (draws_K (A := X.A.in1) k3 (show X.A.in1.handled = none from I.ok.hd hc) (N + 2) e (Nat.ne_of_lt (Nat.lt_succ_of_lt (Nat.lt_succ_of_lt he))) its3.toArray)
    obtain ⟨u, hu, ru⟩ := rv.get hx
    obtain ⟨u2, hu2, ru2⟩ := rv2.get hy
    obtain ⟨u3, hu3, ru3⟩ := rv3.get hzz
    have hi1 : i < its.length := (List.getElem?_eq_some_iff.mp hu).1
    have hi2 : i < its2.length := (List.getElem?_eq_some_iff.mp hu2).1
    have hi3 : i < its3.length := (List.getElem?_eq_some_iff.mp hu3).1
    refine W.item i s _ _ (show i < min (min its.toArray.size its2.toArray.size) its3.toArray.size from Nat.lt_min.mpr ⟨Nat.lt_min.mpr ⟨by simpa using hi1, by simpa using hi2⟩, by simpa using hi3⟩) ⟨hz, hTI, hTO, ⟨h1, p⟩, ⟨h2, p2⟩, ⟨h3, p3⟩⟩ fun T vals h' tk hv hsz hT hmid hk => ?_
    obtain ⟨v1, v2, v3, hv1, hv2, hv3, rfl⟩ := hv
    have e1 : v1 = u := by
      have hv1 : its.toArray[i]? = some v1 := hv1
      rw [List.getElem?_toArray, hu] at hv1
      exact (Option.some.inj hv1).symm
    have e2 : v2 = u2 := by
      have hv2 : its2.toArray[i]? = some v2 := hv2
      rw [List.getElem?_toArray, hu2] at hv2
      exact (Option.some.inj hv2).symm
    have e3 : v3 = u3 := by
      have hv3 : its3.toArray[i]? = some v3 := hv3
      rw [List.getElem?_toArray, hu3] at hv3
      exact (Option.some.inj hv3).symm
    subst e1 e2 e3
    refine ⟨_, rfl, W.go elts kk tpos i T _ _ _ hmid fun h'' hst hk2 => ?_⟩
    have hT2 : h''.IsTuple T #[v1, v2, v3] := by
      obtain ⟨o, e, r⟩ := hT
      exact ⟨o, hk2 T o (W.apart _ _ _ hmid) e, r⟩
    have new : ObjOk X.prog X.w (upd H T (.tup [x, y, z])) h'' T (.tup [x, y, z]) := ⟨by show 3 ≤ sizeLine; decide, [v1, v2, v3], .cons ru (.cons ru2 (.cons ru3 .nil)), hT2⟩
    have I1 : Inv X pins σ (upd H T (.tup [x, y, z])) { s with heap := h'', toks := tk } :=
      I.turnedNew (t' := tk) (ch := [N + 5, N + 3, N + 4, N, N + 1, N + 2]) (fun c o hb q => hk2 c o (fun z => hb (by simp at z ⊢; rcases z with z | z | z | z | z <;> simp [z])) (hk c o (fun z => hb (by simp at z ⊢; rcases z with z | z | z | z | z <;> simp [z])) q)) hf hsz new
    refine ⟨.ref T, _, I1, rfl, ⟨T, x, y, z, rfl, I.hok.fresh hsz, rfl, fun l hl => by rw [sqK_inj I hl hqx]; exact hx, fun l hl => by rw [sqK_inj I hl hqy]; exact hy, fun l hl => by rw [sqK_inj I hl hqz]; exact hzz⟩, ?_, fun c hcm => ?_⟩
    · obtain ⟨g1, g2, g3, g4, g5, g6⟩ := hst
      exact ⟨g1, g2, g3, g4.1, g5.1, g6.1⟩
    · have hlt : c < s.heap.objs.size := by
        have e' : c = N + 5 ∨ c = N + 3 ∨ c = N + 4 ∨ c = N ∨ c = N + 1 ∨ c = N + 2 := by simpa using hcm
        rcases e' with q | q | q | q | q | q
        · rw [q]; exact Heap.lt_size hz
        · rw [q]; exact Heap.lt_size hTI
        · rw [q]; obtain ⟨_, _, _, hTO⟩ := hTO; exact Heap.lt_size hTO
        · rw [q]; obtain ⟨_, e1, _⟩ := itK_obj h1; exact Heap.lt_size e1
        · rw [q]; obtain ⟨_, e2, _⟩ := itK_obj h2; exact Heap.lt_size e2
        · rw [q]; obtain ⟨_, e3, _⟩ := itK_obj h3; exact Heap.lt_size e3
      rw [upd_ne (Nat.ne_of_lt (Nat.lt_of_lt_of_le hlt hsz))]
      exact (hf c hcm).1
  done := by
    intro X hP hw hK hc i pins s σ H E I hf st hg
    subst hP hw hK
    obtain ⟨hz, hTI, hTO, h1, h2, h3⟩ := st
    obtain ⟨xs, ys, zs, hqx, hqy, hqz, hend⟩ := hg
    obtain ⟨its, rv, p⟩ := sqK_ct I hqx
    obtain ⟨its2, rv2, p2⟩ := sqK_ct I hqy
    obtain ⟨its3, rv3, p3⟩ := sqK_ct I hqz
    have W := WalksT.zipD3 (prog := X.prog) (w := X.w) (A := X.A) (zip_sep3 (N := N) (fp1 := [a]) (fp2 := [b]) (fp3 := [e]) (by simpa using ha) (by simpa using hb) (by simpa using he)) (draws_K (A := X.A.in1) k1 (show X.A.in1.handled = none from I.ok.hd hc) N a (Nat.ne_of_lt ha) its.toArray) (draws_K (A := X.A.in1) k2 (show X.A.in1.handled = none from I.ok.hd hc) (N + 1) b (Nat.ne_of_lt (Nat.lt_succ_of_lt hb)) its2.toArray) (draws_K (A := X.A.in1) k3 (show X.A.in1.handled = none from I.ok.hd hc) (N + 2) e (Nat.ne_of_lt (Nat.lt_succ_of_lt (Nat.lt_succ_of_lt he))) its3.toArray)
    have hi : i = min (min its.toArray.size its2.toArray.size) its3.toArray.size := by
      have l1 := rv.length
      have l2 := rv2.length
      have l3 := rv3.length
      simp
      omega
    subst hi
    exact W.done s _ _ ⟨hz, hTI, hTO, ⟨h1, p⟩, ⟨h2, p2⟩, ⟨h3, p3⟩⟩ fun h' tk hk => ⟨rfl, I.turnedL (t' := tk) (ch := [N + 5, N + 3, N + 4, N, N + 1, N + 2]) (fun c o hb q => hk c o (fun z => hb (by simp at z ⊢; rcases z with z | z | z | z | z <;> simp [z])) q) hf⟩
  self := fun A i s Q E st h => wpAny_pyIter_zip st.1 h
def iZipK3 (K : PySem.W.Frag) (ta : TA) : TI := fun σ H R => ta σ H fun vs H1 => ∃ a b c k1 k2 k3 xs ys zs, vs = [.ref a, .ref b, .ref c] ∧ sqK K k1 H1 a xs ∧ sqK K k2 H1 b ys ∧ sqK K k3 H1 c zs ∧ R (ItzK3 K k1 k2 k3 a b c) H1
theorem pi_zipK3 {X : Cx} {e e2 e3 : Expr} {ta : TA} {p pos tpos : Pos} {elts : List Expr} {kk : Nat} (hg : Gl X "zip") (hm : X.mg "zip" = none) (ha : PA X [e, e2, e3] ta)
    (hs : starEach [e, e2, e3] X.env = (false, eval e X.env) :: starEach [e2, e3] X.env) (hpl : (backTo pos (starEach [e2, e3] X.env)).any (·.1) = false) :
    PI X (.Tuple elts kk tpos) (.Call (.Name "zip" p) [e, e2, e3] [] pos) (iZipK3 X.K ta) := by
  refine ⟨fun pins s σ H R I h => ?_⟩
  refine Call_ (ld_blt I hg hm PyProof.Rows.boot_zip (PyProof.Rows.callWith_type1 (thn (ha.run pos pins s σ H _ I h) fun us s1 ⟨vs, H1, I1, r1, q1⟩ => ?_) hs hpl))
  obtain ⟨a, b, c, k1, k2, k3, xs, ys, zs, ex, hqx, hqy, hqz, q⟩ := q1
  subst ex
  cases r1 with
  | cons r rr =>
    cases rr with
    | cons r' rr =>
      cases rr with
      | cons r'' rr =>
        cases rr
        cases r
        cases r'
        cases r''
        obtain ⟨its, rv, p1⟩ := sqK_ct I1 hqx
        obtain ⟨its2, rv2, p2⟩ := sqK_ct I1 hqy
        obtain ⟨its3, rv3, p3⟩ := sqK_ct I1 hqz
        refine zip_begins3 (begins_K k1 a its.toArray) (begins_K k2 b its2.toArray) (begins_K k3 c its3.toArray) p1 p2 p3 fun h' hz hTI hTO e1 e2 e3 hsz hk => wpAny_pyIter_zip hz ?_
        have I2 : Inv X pins σ H1 { s1 with heap := h' } := I1.kept (t' := s1.toks) hk
        refine ⟨s1.heap.objs.size + 5, [s1.heap.objs.size + 5, s1.heap.objs.size + 3, s1.heap.objs.size + 4, s1.heap.objs.size, s1.heap.objs.size + 1, s1.heap.objs.size + 2], _, _, H1, rfl, I2, turn_zipK3 (ctK_lt p1) (ctK_lt p2) (ctK_lt p3), ⟨hz, hTI, ⟨_, _, _, hTO⟩, itK_new e1, itK_new e2, itK_new e3⟩, fun c hcm => ?_, q⟩
        have e' : c = s1.heap.objs.size + 5 ∨ c = s1.heap.objs.size + 3 ∨ c = s1.heap.objs.size + 4 ∨ c = s1.heap.objs.size ∨ c = s1.heap.objs.size + 1 ∨ c = s1.heap.objs.size + 2 := by simpa using hcm
        have hle : s1.heap.objs.size ≤ c := by
          rcases e' with z | z | z | z | z | z
          · rw [z]; exact Nat.le_add_right _ _
          · rw [z]; exact Nat.le_add_right _ _
          · rw [z]; exact Nat.le_add_right _ _
          · rw [z]; exact Nat.le_refl _
          · rw [z]; exact Nat.le_add_right _ _
          · rw [z]; exact Nat.le_add_right _ _
        exact I1.fpOk hle (I1.hok.fresh hle)
section
variable {K : PySem.W.Frag} {H : Hp} {th : Th} {S : Store}
theorem zip3L_len : ∀ (xs ys zs : List D), (zip3L xs ys zs).length = min (min xs.length ys.length) zs.length
  | [], _, _ => by simp [zip3L]
  | _ :: _, [], _ => by simp [zip3L]
  | _ :: _, _ :: _, [] => by simp [zip3L]
  | x :: xs, y :: ys, z :: zs => by
    show (zip3L xs ys zs).length + 1 = _
    rw [zip3L_len xs ys zs]
    simp only [List.length_cons]
    omega
theorem zip3L_get : ∀ {xs ys zs : List D} {i : Nat} {it : D}, (zip3L xs ys zs)[i]? = some it → ∃ x y z, xs[i]? = some x ∧ ys[i]? = some y ∧ zs[i]? = some z ∧ it = .tup [x, y, z]
  | [], _, _, _, _, h => by simp [zip3L] at h
  | _ :: _, [], _, _, _, h => by simp [zip3L] at h
  | _ :: _, _ :: _, [], _, _, h => by simp [zip3L] at h
  | x :: xs, y :: ys, z :: zs, 0, it, h => by
    simp [zip3L] at h
    exact ⟨x, y, z, rfl, rfl, rfl, h.symm⟩
  | x :: xs, y :: ys, z :: zs, i + 1, it, h => by
    have h : (zip3L xs ys zs)[i]? = some it := by simpa [zip3L] using h
    obtain ⟨a, b, c, h1, h2, h3, h4⟩ := zip3L_get h
    exact ⟨a, b, c, by simpa using h1, by simpa using h2, by simpa using h3, h4⟩
theorem walk_zip3 {d1 d2 d3 : D} {v1 v2 v3 : V} {xs ys zs : List D} {a b c : Addr} (h1 : getSeq S d1 = some xs) (h2 : getSeq S d2 = some ys) (h3 : getSeq S d3 = some zs) (e1 : v1 = .ref a) (e2 : v2 = .ref b) (e3 : v3 = .ref c) : WalkR K (ItzK3 K (kOf d1) (kOf d2) (kOf d3) a b c) (zip3L xs ys zs) (guardOf S d1 ++ guardOf S d2 ++ guardOf S d3) [d1, d2, d3] [v1, v2, v3] := by
  intro H' th' S' s r g
  obtain ⟨g12, g3⟩ := guard_app g
  obtain ⟨g1, g2⟩ := guard_app g12
  have l1 := seq_later h1 g1
  have l2 := seq_later h2 g2
  have l3 := seq_later h3 g3
  cases r with
  | cons r1 rr =>
    cases rr with
    | cons r2 rr =>
      cases rr with
      | cons r3 rn =>
        obtain ⟨a', vs, q1, sq1, rx⟩ := seqK s r1 l1
        obtain ⟨b', ws, q2, sq2, ry⟩ := seqK s r2 l2
        obtain ⟨c', us, q3, sq3, rz⟩ := seqK s r3 l3
        rw [e1] at q1
        rw [e2] at q2
        rw [e3] at q3
        cases q1
        cases q2
        cases q3
        refine ⟨fun i hi => ?_, ⟨vs, ws, us, sq1, sq2, sq3, by rw [zip3L_len, rx.length, ry.length, rz.length]⟩, fun i x H'' it hit y => ?_⟩
        · rw [zip3L_len, rx.length, ry.length, rz.length] at hi
          have hi1 : i < vs.length := by omega
          have hi2 : i < ws.length := by omega
          have hi3 : i < us.length := by omega
          exact ⟨vs, ws, us, vs[i], ws[i], us[i], sq1, sq2, sq3, List.getElem?_eq_getElem hi1, List.getElem?_eq_getElem hi2, List.getElem?_eq_getElem hi3⟩
        · obtain ⟨T, p, q, t, rfl, hT, rfl, f1, f2, f3⟩ := y
          have f1 := f1 vs sq1
          have f2 := f2 ws sq2
          have f3 := f3 us sq3
          obtain ⟨dx, dy, dz, hx, hy, hz, rfl⟩ := zip3L_get hit
          obtain ⟨p', hp', rp⟩ := rx.get hx
          obtain ⟨q', hq', rq⟩ := ry.get hy
          obtain ⟨t', ht', rt⟩ := rz.get hz
          rw [f1] at hp'
          rw [f2] at hq'
          rw [f3] at ht'
          cases hp'
          cases hq'
          cases ht'
          exact ⟨Ext.laid hT _, s.laid hT _, Rep.laidT hT (.cons rp (.cons rq (.cons rt .nil)))⟩
end
section
variable {X : Cx} {sc ls : Scope} {nm : Nms} {cv : Nat → Value} {F : Nat → List D → Store → R D} {E : XK}
theorem ev_three {ia ib ic : Ex} {ρ : PV.Env} {S S1 : Store} {as : List D} (hx : ev F (.acons ia (.acons ib (.acons ic .anil))) ρ S = .ok (.tup as) S1) : ∃ x y z, as = [x, y, z] := by
  have hx' : (ev F ia ρ S).bind (fun x S1 => (ev F (.acons ib (.acons ic .anil)) ρ S1).bind fun z S2 => (match z with | PV.D.tup ys => PV.R.ok (PV.D.tup (x :: ys)) S2 | _ => PV.R.err)) = PV.R.ok (PV.D.tup as) S1 := hx
  cases h1 : ev F ia ρ S with
  | ok x Sa =>
    rw [h1, bind_ok] at hx'
    cases h2 : ev F (.acons ib (.acons ic .anil)) ρ Sa with
    | ok d Sb =>
      rw [h2, bind_ok] at hx'
      obtain ⟨ds, rfl⟩ := ev_args rfl h2
      obtain ⟨u, w, rfl⟩ := ev_two h2
      cases hx'
      exact ⟨x, u, w, rfl⟩
    | exc c Sb => rw [h2] at hx'; cases hx'
    | err => rw [h2] at hx'; cases hx'
  | exc c Sa => rw [h1] at hx'; cases hx'
  | err => rw [h1] at hx'; cases hx'
theorem s_izip3 {ia ib ic : Ex} {a b c : Expr} {pos p tpos : Pos} {elts : List Expr} {kk : Nat} (g : Good X sc ls nm cv F E) (hg : glB sc "zip" = true) (hp : plainA a = true) (hp2 : plainA b = true) (hp3 : plainA c = true) (ha : PA X [a, b, c] (tA X.K cv F E (.acons ia (.acons ib (.acons ic .anil))))) :
    PI X (.Tuple elts kk tpos) (.Call (.Name "zip" p) [a, b, c] [] pos) (iW X.K cv F E .zip (.acons ia (.acons ib (.acons ic .anil)))) := by
  refine PI.weak (pi_zipK3 (glB_of g.sc hg) (g.blt _ (by decide +kernel)) ha (star_of hp) (any_star (by simp [hp2, hp3]))) fun σ H R ⟨th, S, ρ, s, re, h⟩ => ⟨th, S, ρ, s, re, ?_⟩
  cases hx : ev F (.acons ia (.acons ib (.acons ic .anil))) ρ S with
  | err => rw [hx] at h; exact h
  | exc c S1 => rw [hx] at h; exact h
  | ok d S1 =>
    rw [hx] at h
    obtain ⟨as, its, gd, rfl, hw, h⟩ := h
    refine ⟨as, rfl, fun vs H1 th1 e1 s1 r1 => ?_⟩
    obtain ⟨d1, d2, d3, rfl⟩ := ev_three hx
    have hw : (match getSeq S1 d1, getSeq S1 d2, getSeq S1 d3 with | some xs, some ys, some zs => some (zip3L xs ys zs, guardOf S1 d1 ++ guardOf S1 d2 ++ guardOf S1 d3) | _, _, _ => none) = some (its, gd) := hw
    cases q1 : getSeq S1 d1 with
    | none => rw [q1] at hw; cases hw
    | some xs =>
      cases q2 : getSeq S1 d2 with
      | none => rw [q1, q2] at hw; cases hw
      | some ys =>
        cases q3 : getSeq S1 d3 with
        | none => rw [q1, q2, q3] at hw; cases hw
        | some zs =>
          rw [q1, q2, q3] at hw
          cases hw
          have r1' := r1
          cases r1' with
          | cons ra rr =>
            cases rr with
            | cons rb rr =>
              cases rr with
              | cons rc rn =>
                cases rn
                obtain ⟨a', ws, e2, sq1, rx⟩ := seqK s1 ra q1
                obtain ⟨b', us, e3, sq2, ry⟩ := seqK s1 rb q2
                obtain ⟨c', ts, e4, sq3, rz⟩ := seqK s1 rc q3
                exact ⟨a', b', c', kOf d1, kOf d2, kOf d3, ws, us, ts, by rw [e2, e3, e4], sq1, sq2, sq3, h _ H1 th1 _ e1 s1 r1 (walk_zip3 q1 q2 q3 e2 e3 e4)⟩
end
end PV
end
section
set_option Elab.async false
set_option linter.all false
set_option maxRecDepth 100000
set_option maxHeartbeats 4000000
namespace PV
open PySem PySem.Spec PyProof.Rows L2
set_option maxHeartbeats 1000000 in
theorem meets_enum1 {v : Value} {o : Obj} {H : Heap → Prop} (B : Begins v o H) :
    Meets (Builtin.«enumerate.__new__» ⟨[.type "enumerate", v], []⟩) (fun _ R s => H s.heap ∧
      R (.ok (.ret (.ref (s.heap.push o).objs.size))) { s with heap := (s.heap.push o).push { cls := .type "enumerate", data := .fields #[.none, .bool false, .ref s.heap.objs.size, rawInt 0, .none, .none] } }) :=
  .of_wp fun prog w A R s h => by
    obtain ⟨hp, g, d, tk, os⟩ := s; obtain ⟨h1, h⟩ := h
    have hsub := sub_enumerate
    have q1 : ∀ {A' : Around} {E : Value → Shared → Prop} {Q : Value → Shared → Prop}, Q (.ref hp.objs.size) ⟨hp.push o, g, d, tk, os⟩ → wpAny (model prog w) A' (pyIter v) Q E ⟨hp, g, d, tk, os⟩ :=
      fun q => B.iter prog w _ _ ⟨hp, g, d, tk, os⟩ _ h1 q
    wp_walk using q1
    refine wpAny_stack_any fun st => wpAny_pure ?_
    split
    · rename_i c _ _ _ _ _
      cases (c == Value.type "enumerate")
      · wp_walk using q1
        exact ⟨_, rfl, h⟩
      · wp_walk using q1
        exact ⟨_, rfl, h⟩
    · wp_walk using q1
      exact ⟨_, rfl, h⟩
def ItnK (K : PySem.W.Frag) (k : Bool) (a : Addr) : It :=
  ⟨fun i H => ∃ (xs : List V) (x : V), sqK K k H a xs ∧ xs[i]? = some x,
    fun i H v H' => ∃ T x, v = .ref T ∧ H T = none ∧ H' = upd H T (.tup [.int i, x]) ∧ ∀ xs, sqK K k H a xs → xs[i]? = some x,
    fun i H => ∃ xs : List V, sqK K k H a xs ∧ xs.length = i⟩
theorem turn_enumK {P : Program} {w : World} {K : PySem.W.Frag} {elts : List Expr} {kk : Nat} {tpos : Pos} {k : Bool} {a : Addr} {N : Nat} (ha : a < N) :
    Turn P w K (.Tuple elts kk tpos) (ItnK K k a) [N + 1, N] (N + 1) (fun i h => (∃ old, IsEnum h (N + 1) N (0 + (i : Int)) old) ∧ itK k N a i h) where
  mem := by simp
  obj := fun i h st c hc => by
    obtain ⟨⟨old, hz⟩, h1⟩ := st
    have e' : c = N + 1 ∨ c = N := by simpa using hc
    rcases e' with q | q
    · rw [q]; exact ⟨_, hz, fun v q => nomatch q⟩
    · rw [q]; exact itK_obj h1
  keep := fun i h h' st k => by
    obtain ⟨⟨old, hz⟩, h1⟩ := st
    exact ⟨⟨old, k _ (by simp) _ hz⟩, itK_at h1 fun o q => k N (by simp) o q⟩
  item := by
    intro X hP hw hK hc i pins s σ H E I hf st hg
    subst hP hw hK
    obtain ⟨hz, h1⟩ := st
    obtain ⟨xs, x, hqx, hx⟩ := hg
    obtain ⟨its, rv, p⟩ := sqK_ct I hqx
    have W := WalksT.enumFrom (prog := X.prog) (w := X.w) (A := X.A) 0 (draws_K (A := X.A.in1) k (show X.A.in1.handled = none from I.ok.hd hc) N a (Nat.ne_of_lt ha) its.toArray) (N + 1) (Nat.succ_ne_self N) (by simp; exact Nat.ne_of_gt (Nat.lt_succ_of_lt ha)) (by simp)
    obtain ⟨u, hu, ru⟩ := rv.get hx
    have hi1 : i < its.length := (List.getElem?_eq_some_iff.mp hu).1
    refine W.item i s _ _ (by simpa using hi1) ⟨hz, ⟨h1, p⟩⟩ fun T vals h' tk hv hsz hT hmid hk => ?_
    obtain ⟨t, v1, hv1, rfl⟩ := hv
    have e1 : v1 = u := by
      have hv1 : its.toArray[i]? = some v1 := hv1
      rw [List.getElem?_toArray, hu] at hv1
      exact (Option.some.inj hv1).symm
    subst e1
    refine ⟨_, rfl, W.go elts kk tpos i T _ _ _ hmid fun h'' hst hk2 => ?_⟩
    have hT2 : h''.IsTuple T #[.int (0 + (i : Int)) t, v1] := by
      obtain ⟨o, e, r⟩ := hT
      exact ⟨o, hk2 T o (W.apart _ _ _ hmid) e, r⟩
    rw [Int.zero_add] at hT2
    have new : ObjOk X.prog X.w (upd H T (.tup [.int i, x])) h'' T (.tup [.int i, x]) := ⟨by show 2 ≤ sizeLine; decide, [.int i t, v1], .cons ⟨t, rfl⟩ (.cons ru .nil), hT2⟩
    have I1 : Inv X pins σ (upd H T (.tup [.int i, x])) { s with heap := h'', toks := tk } :=
      I.turnedNew (t' := tk) (ch := [N + 1, N]) (fun c o hb q => hk2 c o hb (hk c o hb q)) hf hsz new
    refine ⟨.ref T, _, I1, rfl, ⟨T, x, rfl, I.hok.fresh hsz, rfl, fun l hl => by rw [sqK_inj I hl hqx]; exact hx⟩, ?_, fun c hcm => ?_⟩
    · obtain ⟨g1, g2⟩ := hst
      exact ⟨g1, g2.1⟩
    · have hlt : c < s.heap.objs.size := by
        have e' : c = N + 1 ∨ c = N := by simpa using hcm
        rcases e' with q | q
        · rw [q]; obtain ⟨_, hz⟩ := hz; exact Heap.lt_size hz
        · rw [q]; obtain ⟨_, e1, _⟩ := itK_obj h1; exact Heap.lt_size e1
      rw [upd_ne (Nat.ne_of_lt (Nat.lt_of_lt_of_le hlt hsz))]
      exact (hf c hcm).1
  done := by
    intro X hP hw hK hc i pins s σ H E I hf st hg
    subst hP hw hK
    obtain ⟨hz, h1⟩ := st
    obtain ⟨xs, hqx, hend⟩ := hg
    obtain ⟨its, rv, p⟩ := sqK_ct I hqx
    have W := WalksT.enumFrom (prog := X.prog) (w := X.w) (A := X.A) 0 (draws_K (A := X.A.in1) k (show X.A.in1.handled = none from I.ok.hd hc) N a (Nat.ne_of_lt ha) its.toArray) (N + 1) (Nat.succ_ne_self N) (by simp; exact Nat.ne_of_gt (Nat.lt_succ_of_lt ha)) (by simp)
    have hi : i = its.toArray.size := by
      have l1 := rv.length
      simp
      omega
    subst hi
    exact W.done s _ _ ⟨hz, ⟨h1, p⟩⟩ fun h' tk hk => ⟨rfl, I.turnedL (t' := tk) (ch := [N + 1, N]) (fun c o hb q => hk c o hb q) hf⟩
  self := fun A i s Q E st h => by
    obtain ⟨⟨old, hz⟩, _⟩ := st
    exact wpAny_pyIter_enum hz h
theorem enum_begins1 {prog : Program} {w : World} {A : Around} {E : Value → Shared → Prop} {s : Shared} {v : Value} {o : Obj} {H : Heap → Prop} {Q : Value → Shared → Prop} (B : Begins v o H) (h1 : H s.heap)
    (h : ∀ h', IsEnum h' (s.heap.objs.size + 1) s.heap.objs.size 0 .none → h'.get? s.heap.objs.size = some o → h'.objs.size = s.heap.objs.size + 2 →
      (∀ b o, s.heap.get? b = some o → h'.get? b = some o) → Q (.ref (s.heap.objs.size + 1)) { s with heap := h' }) :
    wpAny (model prog w) A (call (.type "enumerate") [v]) Q E s := by
  refine callType_new F.called_enumerate (by decide) (F.typeCall_enumerate_1 _) (F.newCall_enumerate_1 _) (fun obj => F.args_object_init_2 obj _) F.entry_enumerate_new
    (meets_enum1 B) ⟨h1, ?_⟩
  have hz : (s.heap.push o).objs.size = s.heap.objs.size + 1 := Heap.size_push ..
  show _ ∧ _
  rw [hz]
  have he : IsEnum ((s.heap.push o).push { cls := .type "enumerate", data := .fields #[.none, .bool false, .ref s.heap.objs.size, rawInt 0, .none, .none] }) (s.heap.objs.size + 1) s.heap.objs.size 0 .none := by
    have := Heap.get?_push_size (s.heap.push o) (o := { cls := .type "enumerate", data := .fields #[.none, .bool false, .ref s.heap.objs.size, rawInt 0, .none, .none] }) rfl
    rw [hz] at this; exact this
  refine ⟨⟨_, he, rfl⟩, h _ he (Heap.get?_push_of_some _ (Heap.get?_push_size _ B.free)) (by rw [Heap.size_push, hz]) fun b o x => Heap.get?_push_of_some _ (Heap.get?_push_of_some _ x)⟩
def iEnumK (K : PySem.W.Frag) (ta : TA) : TI := fun σ H R => ta σ H fun vs H1 => ∃ a k xs, vs = [.ref a] ∧ sqK K k H1 a xs ∧ R (ItnK K k a) H1
theorem pi_enumK {X : Cx} {e : Expr} {ta : TA} {p pos tpos : Pos} {elts : List Expr} {kk : Nat} (hg : Gl X "enumerate") (hm : X.mg "enumerate" = none) (ha : PA X [e] ta)
    (hs : starEach [e] X.env = (false, eval e X.env) :: starEach [] X.env) :
    PI X (.Tuple elts kk tpos) (.Call (.Name "enumerate" p) [e] [] pos) (iEnumK X.K ta) := by
  refine ⟨fun pins s σ H R I h => ?_⟩
  refine Call_ (ld_blt I hg hm PyProof.Rows.boot_enumerate (PyProof.Rows.callWith_type1 (thn (ha.run pos pins s σ H _ I h) fun us s1 ⟨vs, H1, I1, r1, q1⟩ => ?_) hs rfl))
  obtain ⟨a, k, xs, ex, hqx, q⟩ := q1
  subst ex
  cases r1 with
  | cons r rr =>
    cases rr
    cases r
    obtain ⟨its, rv, p1⟩ := sqK_ct I1 hqx
    refine enum_begins1 (begins_K k a its.toArray) p1 fun h' hz e1 hsz hk => wpAny_pyIter_enum hz ?_
    have I2 : Inv X pins σ H1 { s1 with heap := h' } := I1.kept (t' := s1.toks) hk
    refine ⟨s1.heap.objs.size + 1, [s1.heap.objs.size + 1, s1.heap.objs.size], _, _, H1, rfl, I2, turn_enumK (ctK_lt p1), ⟨⟨_, hz⟩, itK_new e1⟩, fun c hcm => ?_, q⟩
    have e' : c = s1.heap.objs.size + 1 ∨ c = s1.heap.objs.size := by simpa using hcm
    have hle : s1.heap.objs.size ≤ c := by
      rcases e' with z | z
      · rw [z]; exact Nat.le_add_right _ _
      · rw [z]; exact Nat.le_refl _
    exact I1.fpOk hle (I1.hok.fresh hle)
section
variable {K : PySem.W.Frag} {H : Hp} {th : Th} {S : Store}
theorem enumL_len (xs : List D) : (enumL xs).length = xs.length := by simp [enumL]
theorem walk_enum {d : D} {v : V} {xs : List D} {a : Addr} (h1 : getSeq S d = some xs) (e1 : v = .ref a) : WalkR K (ItnK K (kOf d) a) (enumL xs) (guardOf S d) [d] [v] := by
  intro H' th' S' s r g
  have l1 := seq_later h1 g
  cases r with
  | cons r1 rr =>
    obtain ⟨a', vs, q1, sq1, rx⟩ := seqK s r1 l1
    rw [e1] at q1
    cases q1
    refine ⟨fun i hi => ?_, ⟨vs, sq1, by rw [enumL_len, rx.length]⟩, fun i x H'' it hit y => ?_⟩
    · rw [enumL_len, rx.length] at hi
      exact ⟨vs, vs[i], sq1, List.getElem?_eq_getElem hi⟩
    · obtain ⟨T, p, rfl, hT, rfl, f1⟩ := y
      have f1 := f1 vs sq1
      unfold enumL at hit
      rw [List.getElem?_map, List.getElem?_zipIdx] at hit
      cases hx : xs[i]? with
      | none => rw [hx] at hit; cases hit
      | some dx =>
        rw [hx] at hit
        simp at hit
        subst hit
        obtain ⟨p', hp', rp⟩ := rx.get hx
        rw [f1] at hp'
        cases hp'
        exact ⟨Ext.laid hT _, s.laid hT _, Rep.laidT hT (.cons (.int _) (.cons rp .nil))⟩
end
section
variable {X : Cx} {sc ls : Scope} {nm : Nms} {cv : Nat → Value} {F : Nat → List D → Store → R D} {E : XK}
theorem s_ienum {ia : Ex} {a : Expr} {pos p tpos : Pos} {elts : List Expr} {kk : Nat} (g : Good X sc ls nm cv F E) (hg : glB sc "enumerate" = true) (hp : plainA a = true) (ha : PA X [a] (tA X.K cv F E (.acons ia .anil))) :
    PI X (.Tuple elts kk tpos) (.Call (.Name "enumerate" p) [a] [] pos) (iW X.K cv F E .enum (.acons ia .anil)) := by
  refine PI.weak (pi_enumK (glB_of g.sc hg) (g.blt _ (by decide +kernel)) ha (star_of hp)) fun σ H R ⟨th, S, ρ, s, re, h⟩ => ⟨th, S, ρ, s, re, ?_⟩
  cases hx : ev F (.acons ia .anil) ρ S with
  | err => rw [hx] at h; exact h
  | exc c S1 => rw [hx] at h; exact h
  | ok d S1 =>
    rw [hx] at h
    obtain ⟨as, its, gd, rfl, hw, h⟩ := h
    refine ⟨as, rfl, fun vs H1 th1 e1 s1 r1 => ?_⟩
    have hlen : ∃ x, as = [x] := by
      have hx' : (ev F ia ρ S).bind (fun x S1 => PV.R.ok (PV.D.tup [x]) S1) = PV.R.ok (PV.D.tup as) S1 := hx
      cases h1 : ev F ia ρ S with
      | ok x Sa => rw [h1, bind_ok] at hx'; cases hx'; exact ⟨x, rfl⟩
      | exc c Sa => rw [h1] at hx'; cases hx'
      | err => rw [h1] at hx'; cases hx'
    obtain ⟨d1, rfl⟩ := hlen
    have hw : (getSeq S1 d1).map (fun xs => (enumL xs, guardOf S1 d1)) = some (its, gd) := hw
    cases q1 : getSeq S1 d1 with
    | none => rw [q1] at hw; cases hw
    | some xs =>
      rw [q1] at hw
      cases hw
      have r1' := r1
      cases r1' with
      | cons ra rr =>
        cases rr
        obtain ⟨a', ws, e2, sq1, rx⟩ := seqK s1 ra q1
        exact ⟨a', kOf d1, ws, by rw [e2], sq1, h _ H1 th1 _ e1 s1 r1 (walk_enum q1 e2)⟩
end
end PV
end
section
set_option Elab.async false
set_option linter.all false
set_option maxRecDepth 100000
set_option maxHeartbeats 4000000
namespace PV
open PySem PySem.Spec PyProof.Rows L2
section
variable {X : Cx} {sc ls : Scope} {nm : Nms} {cv : Nat → Value} {F : Nat → List D → Store → R D} {E : XK}
variable {ia ib ic : Ex} {a b c : Expr} {pos : Pos}
/-! ### joined texts -/
theorem strs_of {K : PySem.W.Frag} {H : Hp} {th : Th} : ∀ {ds : List D} {vs : List V} {ys : List Str}, RepL K H th ds vs → allStr ds = some ys → vs = ys.map V.str
  | _, _, _, .nil, h => by cases h; rfl
  | _, _, _, .cons (d := d) r t, h => by
    cases r with
    | str s =>
      unfold allStr at h
      cases hr : allStr _ with
      | none => rw [hr] at h; cases h
      | some zs =>
        rw [hr] at h
        cases h
        rw [strs_of t hr]
        rfl
    | _ => cases h
theorem s_join {ap cp : Pos} (hl : (ap.endLine == cp.line) = true) (h0 : notCall0 a = true) (hp : plainA b = true) (ha : PE X a (tE X.K cv F E ia)) (hb : PE X b (tE X.K cv F E ib)) :
    PE X (.Call (.Attribute a "join" ap) [b] [] cp) (tE X.K cv F E (.join ia ib)) := by
  refine PE.weak (pe_m1 PySem.F.slot_str_join PySem.F.type_str_join mt_join ha hb (by rw [star_of hp]; rfl) (base_of h0) hl) fun σ H Q ⟨th, S, ρ, s, re, h⟩ => ?_
  refine ⟨th, S, ρ, s, re, Post.bind h fun d1 S1 v1 H1 th1 _ e1 s1 r1 h1 => ?_⟩
  cases r1 with
  | str x =>
    refine ⟨⟨x, rfl⟩, th1, S1, ρ, s1, re.mono e1, Post.bind h1 fun d2 S2 v2 H2 th2 _ e2 s2 r2 h2 => ?_⟩
    unfold joinD at h2
    cases hg : getSeq S2 d2 with
    | none => rw [hg] at h2; exact h2.elim
    | some xs =>
      rw [hg] at h2
      cases hy : allStr xs with
      | none => simp only [Option.bind_some, hy] at h2; exact h2.elim
      | some ys =>
        simp only [Option.bind_some, hy] at h2
        split at h2
        · rename_i hz
          obtain ⟨p, vs, rfl, g1, g2⟩ := getSeq_ok s2 r2 hg
          have e := strs_of g2 hy
          subst e
          refine ⟨x, p, ys, rfl, rfl, g1, hz, ?_⟩
          rw [show Txt.join x ys = Str.join x ys from StrLaws.glued_eq_join x ys]
          exact h2.ok s2 (.str _)
        · exact h2.elim
  | _ => exact h1.elim
/-! ### attributes -/
theorem s_fld {cl f : Str} (g : Good X sc ls nm cv F E) (hm : (cl, f) ∈ nm.a) (h0 : notCall0 a = true) (ha : PE X a (tE X.K cv F E ia)) : PE X (.Attribute a f pos) (tE X.K cv F E (.fld cl ia f)) := by
  obtain ⟨c1, c2⟩ := g.attr _ hm
  refine PE.weak (pe_fld ha (base_of h0)) fun σ H Q ⟨th, S, ρ, s, re, h⟩ => ?_
  refine ⟨th, S, ρ, s, re, Post.bind h fun d1 S1 v1 H1 th1 _ e1 s1 r1 h1 => ?_⟩
  cases hf : fldD cl f d1 S1 with
  | none => rw [hf] at h1; exact h1.elim
  | some d =>
    rw [hf] at h1
    unfold fldD at hf
    cases hi : PV.insAt cl d1 S1 with
    | none => rw [hi] at hf; cases hf
    | some fs =>
      rw [hi] at hf
      obtain ⟨n, p, dx, vs, rfl, rfl, h2, h3, h4⟩ := s1.insAt r1 hi
      obtain ⟨v, k1, k2⟩ := (h4.lookup f).2 d hf
      exact ⟨p, _, dx, vs, v, rfl, h3, c1, c2, k1, h1.ok s1 k2⟩
/-! ### methods -/
theorem meth_no {cl m : Str} {d : D} {S : Store} (h : hasM cl m d S = true) : ∃ fs, PV.insAt cl d S = some fs ∧ fs.lookup m = none := by
  unfold hasM at h
  cases hi : PV.insAt cl d S with
  | none => rw [hi] at h; cases h
  | some fs =>
    rw [hi] at h
    exact ⟨fs, rfl, by simpa using h⟩
theorem mm_of {K : PySem.W.Frag} {mg : Str → Option Value} {c m : Str} {f : Addr} (h : MM K mg c m f) (hm : m ≠ "__init__") : Meth K (He.ga K c) m f := by
  unfold MM at h
  rw [if_neg hm] at h
  exact h
theorem mm_init {K : PySem.W.Frag} {mg : Str → Option Value} {c : Str} {f : Addr} (h : MM K mg c "__init__" f) : Mk K (He.ga K c) f ∧ mg c = some (.ref (He.ga K c)) := by
  unfold MM at h
  rw [if_pos rfl] at h
  exact h
/-- a method call's tree -/
def plOf (o : Expr) (env : PySem.Env) : Sem Bool := do return (← importBound o env).getD true
theorem all_star {pos : Pos} {env : PySem.Env} : ∀ {es : List Expr}, es.all plainA = true → (backTo pos (starEach es env)).all (!·.1) = true := fun {es} h => by
  have := any_star (pos := pos) (env := env) h
  rw [List.any_eq_false] at this
  rw [List.all_eq_true]
  intro p hp
  have := this p hp
  simpa using this
theorem mcall_at {o : Expr} {m : Str} {apos : Pos} {es : List Expr} {env : PySem.Env} (hb : attributeBase o m env (eval o env) = eval o env) (hl : (apos.endLine == pos.line) = true) (hp : es.all plainA = true) (hn : es.length < 30) :
    eval (.Call (.Attribute o m apos) es [] pos) env = (do
      let ov ← eval o env
      standAt apos.atName
      let (f, first) ← holding [ov] (getMethod ov m (plOf o env))
      callWith pos f first (backTo pos (starEach es env)) (backToKw pos (keywordEach [] env))) := by
  refine L2.mcall_of hb fun ov => ?_
  have hf : methodCallForm (es.length + ([] : List Keyword).length) (backTo pos (starEach es env)) (backToKw pos (keywordEach [] env)) = true := by
    unfold methodCallForm
    rw [all_star hp]
    show (true && true && decide (es.length + 0 + 0 < 30)) = true
    rw [decide_eq_true (by omega)]
    rfl
  unfold methodCall
  rw [hf]
  have hpos : methodCallPos true o env apos pos = pure pos := by
    unfold methodCallPos
    rw [hl]
    rfl
  rw [hpos]
  rfl
theorem s_meth {gn : Nat} {cl m : Str} {ap : Pos} {es : List Expr} (g : Good X sc ls nm cv F E) (hm : nm.m gn = some (cl, m)) (hi : m ≠ "__init__") (hl : (ap.endLine == pos.line) = true) (h0 : notCall0 a = true) (ha : PE X a (tE X.K cv F E ia))
    (hr : args ib = true) (hp : (b :: es).all plainA = true) (hn : (b :: es).length < 30) (hb : PA X (b :: es) (tA X.K cv F E ib)) : PE X (.Call (.Attribute a m ap) (b :: es) [] pos) (tE X.K cv F E (.meth gn cl m ia ib)) := by
  obtain ⟨k, f, fd, ps, hF, hroom, hbi, c1, c2⟩ := (g.meth gn cl m hm).ok
  have ht := mcall_at (o := a) (m := m) (apos := ap) (pos := pos) (es := b :: es) (env := X.env) (base_of h0) hl hp hn
  simp only [List.all_cons, Bool.and_eq_true] at hp
  refine PE.weak (pe_meth ha c1 (mm_of c2 hi) hF (hroom.mono (Nat.le_succ _)) hbi .nil g.pass hb (star_of hp.1) (any_star hp.2) ht) fun σ H Q ⟨th, S, ρ, s, re, h⟩ => ?_
  refine ⟨th, S, ρ, s, re, Post.bind h fun d1 S1 v1 H1 th1 _ e1 s1 r1 h1 => ?_⟩
  split at h1
  · rename_i hM
    obtain ⟨fs, i1, i2⟩ := meth_no hM
    obtain ⟨n, p, dx, vs, rfl, rfl, h2, h3, h4⟩ := s1.insAt r1 i1
    refine ⟨p, dx, vs, rfl, h3, (h4.lookup m).1 i2, th1, S1, ρ, s1, re.mono e1, Post.bindA h1 (fun d S' q => ev_args hr q) fun ds S2 ws H2 th2 _ e2 s2 r2 h5 => ?_⟩
    exact ⟨th2, S2, .loc n :: ds, s2, by rw [List.append_nil]; exact .cons (.loc (e2.get h2)) r2, h5⟩
  · exact h1.elim
theorem s_meth0 {gn : Nat} {cl m : Str} {ap : Pos} (g : Good X sc ls nm cv F E) (hm : nm.m gn = some (cl, m)) (hi : m ≠ "__init__") (hl : (ap.endLine == pos.line) = true) (h0 : notCall0 a = true) (ha : PE X a (tE X.K cv F E ia)) :
    PE X (.Call (.Attribute a m ap) [] [] pos) (tE X.K cv F E (.meth gn cl m ia .anil)) := by
  obtain ⟨k, f, fd, ps, hF, hroom, hbi, c1, c2⟩ := (g.meth gn cl m hm).ok
  have ht := mcall_at (o := a) (m := m) (apos := ap) (pos := pos) (es := []) (env := X.env) (base_of h0) hl rfl (by decide)
  refine PE.weak (pe_meth0 ha c1 (mm_of c2 hi) hF (hroom.mono (Nat.le_succ _)) hbi .nil g.pass ht) fun σ H Q ⟨th, S, ρ, s, re, h⟩ => ?_
  refine ⟨th, S, ρ, s, re, Post.bind h fun d1 S1 v1 H1 th1 _ e1 s1 r1 h1 => ?_⟩
  split at h1
  · rename_i hM
    obtain ⟨fs, i1, i2⟩ := meth_no hM
    obtain ⟨n, p, dx, vs, rfl, rfl, h2, h3, h4⟩ := s1.insAt r1 i1
    exact ⟨p, dx, vs, rfl, h3, (h4.lookup m).1 i2, th1, S1, [.loc n], s1, .one (.loc h2), h1⟩
  · exact h1.elim
/-! ### a new instance -/
theorem s_new {gn : Nat} {cl : Str} {p : Pos} {es : List Expr} (g : Good X sc ls nm cv F E) (hm : nm.m gn = some (cl, ("__init__" : Str))) (hg : glB sc cl = true) (hk : nameOk cl = true) (hr : args ib = true) (hp : (b :: es).all plainA = true)
    (hb : PA X (b :: es) (tA X.K cv F E ib)) : PE X (.Call (.Name cl p) (b :: es) [] pos) (tE X.K cv F E (.new gn cl ib)) := by
  obtain ⟨k, f, fd, ps, hF, hroom, hbi, c1, c2⟩ := (g.meth gn cl _ hm).ok
  obtain ⟨m1, m2⟩ := mm_init c2
  simp only [List.all_cons, Bool.and_eq_true] at hp
  refine PE.weak (pe_make m1 hF hroom (glB_of g.sc hg) m2 hbi .nil g.pass hb (nameOk_of hk).1 (star_of hp.1) (any_star hp.2)) fun σ H Q ⟨th, S, ρ, s, re, h⟩ => ?_
  refine ⟨th, S, ρ, s, re, Post.bindA h (fun d S' q => ev_args hr q) fun ds S1 vs H1 th1 _ e1 s1 r1 h1 => ?_⟩
  intro x dx hx hd hne
  have e2 : Ext H1 th1 (upd (upd H1 dx (.own x)) x (.ins (He.ga X.K cl) dx [])) (th1.add x) := Ext.newI hx hd
  have hloc : (th1.add x).c[S1.length]? = some x := by
    show (th1.c ++ [x])[S1.length]? = some x
    rw [← s1.len]
    simp
  refine ⟨th1.add x, S1 ++ [.ins cl []], .loc S1.length :: ds, s1.newI hx hd, by rw [List.append_nil]; exact .cons (.loc hloc) (r1.mono e2), ?_⟩
  have h1 : Post X.K cv E H1 th1 (newR S1.length (F gn (.loc S1.length :: ds) (S1 ++ [.ins cl []]))) Q := h1
  cases hF2 : F gn (.loc S1.length :: ds) (S1 ++ [.ins cl []]) with
  | err => rw [hF2] at h1; exact h1.elim
  | exc c S2 =>
    rw [hF2] at h1
    exact fun H3 th3 e3 s3 => h1 H3 th3 (e2.trans e3) s3
  | ok d S2 =>
    rw [hF2] at h1
    intro v H3 th3 e3 s3 r3
    cases r3 with
    | none => exact ⟨rfl, h1 _ H3 th3 (e2.trans e3) s3 (.loc (e3.get hloc))⟩
    | _ => exact h1.elim
/-! ### a length that a method tells -/
def rLenO (C : Addr) (sp : Sp) (E : XK) : List V → Hp → VK → Prop := fun xs H Q => ∃ a dx fs, xs = [V.ref a] ∧ H a = some (.ins C dx fs) ∧ sp [.ref a] H (fun z H' => ∃ i, z = .int i ∧ (0 ≤ i ∧ i < 2 ^ 63) ∧ Q z H') E
theorem run_at {A : Around} {pins : List (Addr × Obj)} {σ : L2.St} {H : Hp} {s : Shared} {k : Nat} {f : Addr} {fd : FuncData} {ps : List Str} {sp : Sp} {Q : VK} {us : List Value} {vs : List V} (F : FnOk X.prog X.w X.K X.mg X.base (L2.CX X.prog X.w) k f fd ps sp) (hr : Room k A) (e0 : Env0 X.prog X.w X.K X.mg X.base A X.stack s H)
    (hb : Binds X.K fd ps []) (hx : Passes (L2.CX X.prog X.w) X E) (I : Inv X pins σ H s) (r : Vals vs us) (h : sp vs H Q E) : wpAny (model X.prog X.w) A (call (.ref f) us) (EP X pins σ Q) X.xe s := by
  have hl : us.length = ps.length := by rw [← r.length]; exact F.len _ _ _ _ h
  have hb' := hb s us I.kIn (by rw [List.append_nil]; exact hl)
  rw [List.append_nil] at hb'
  refine wpAny_call (codeAny_mono (F.run A X.stack s H ⟨us, []⟩ us vs Q E hr e0 hb' r h) fun r s' hq => ?_)
  cases r with
  | error e => exact hx pins σ H s e s' I hq
  | ok fl =>
    cases fl with
    | ret u => exact I.after hq
    | next => exact False.elim hq
    | brk => exact False.elim hq
    | cont => exact False.elim hq
theorem cr_lenO {C f : Addr} {fd : FuncData} {ps : List Str} {k : Nat} {sp : Sp} (hm : Meth X.K C "__len__" f) (hF : FnOk X.prog X.w X.K X.mg X.base (L2.CX X.prog X.w) k f fd ps sp) (hr : Room (k + 1) X.A) (hb : Binds X.K fd ps []) (hx : Passes (L2.CX X.prog X.w) X E) : CallR X (.builtin "len") (rLenO C sp E) := by
  intro pins s σ H xs us Q I r h
  obtain ⟨a, dx, fs, rfl, ha, q⟩ := h
  rw [Vals.ref1 r]
  obtain ⟨mA, O, _⟩ := ins_get I.hok ha
  obtain ⟨od, J, _⟩ := O.look
  obtain ⟨m, hFr⟩ := I.fr
  refine PySem.W.len_K hFr I.ok.mod.kin J hm.at_ hm.fn (wpAny_mono (run_at (us := [.ref a]) (vs := [.ref a]) hF hr.in1 I.env0.in1 hb hx I (.cons rfl .nil) q) (fun w s' z => ?_) fun _ _ x => x)
  obtain ⟨z', H', I', rz, i, ei, hi, qz⟩ := z
  subst ei
  obtain ⟨t, e⟩ := (show ∃ t, w = Value.int i t from rz)
  cases e
  exact ⟨hi, .int i, H', I'.tok _, ⟨_, rfl⟩, qz⟩
theorem s_lenO {gn : Nat} {cl : Str} {p : Pos} (g : Good X sc ls nm cv F E) (hm : nm.m gn = some (cl, ("__len__" : Str))) (hg : glB sc "len" = true) (hp : plainA a = true) (ha : PE X a (tE X.K cv F E ia)) :
    PE X (.Call (.Name "len" p) [a] [] pos) (tE X.K cv F E (.lenO gn cl ia)) := by
  obtain ⟨k, f, fd, ps, hF, hroom, hbi, c1, c2⟩ := (g.meth gn cl _ hm).ok
  refine PE.weak (pe_callB (cr_lenO (mm_of c2 (by decide)) hF hroom hbi g.pass) (glB_of g.sc hg) (g.blt _ (by decide +kernel)) (by decide +kernel) (pa_cons ha pa_nil (star_of hp)) (by decide) (by decide) (star_of hp)) fun σ H Q ⟨th, S, ρ, s, re, h⟩ => ?_
  refine ⟨th, S, ρ, s, re, Post.bind h fun d1 S1 v1 H1 th1 _ e1 s1 r1 h1 => ?_⟩
  split at h1
  · rename_i hi
    obtain ⟨fs, hi⟩ := Option.isSome_iff_exists.mp hi
    obtain ⟨n, p, dx, vs, rfl, rfl, h2, h3, h4⟩ := s1.insAt r1 hi
    refine ⟨p, dx, vs, rfl, h3, th1, S1, [.loc n], s1, .one r1, ?_⟩
    cases hF2 : F gn [.loc n] S1 with
    | err => rw [hF2] at h1; exact h1.elim
    | exc c S2 => rw [hF2] at h1; exact h1
    | ok d S2 =>
      rw [hF2] at h1
      intro v H3 th3 e3 s3 r3
      cases r3 with
      | int i =>
        unfold lenR at h1
        dsimp only at h1
        split at h1
        · rename_i hi
          exact ⟨i, rfl, hi, h1 _ H3 th3 e3 s3 (.int i)⟩
        · exact h1.elim
      | _ => exact h1.elim
  · exact h1.elim
end
end PV
end
section
set_option Elab.async false
set_option linter.all false
set_option maxRecDepth 100000
set_option maxHeartbeats 4000000
namespace PV
open PySem PySem.Spec PyProof.Rows L2
/-! ### x != y where the class has its own == -/
section
variable {prog : Program} {w : World} {A : Around} {E : Value → Shared → Prop} {s : Shared} {K : PySem.W.Frag} {x C L f : Addr} {h₀ : Heap} {m : Str → Option Value} {ox : Obj} {od : Option Obj} {b tb : Value}
open PySem.W Builtin in
theorem objNe_entry (X : K.In s.heap) (I : InstAt s.heap x ox C od) (hu : A.units < cLine) (hs : findIn K (.ref C) "__eq__" = some (some (.ref f))) (hf : isFn K (.ref f) = true) {Q : Fin → Shared → Prop}
    (hcall : wpAny (model prog w) A (call (.ref f) [.ref x, b]) (fun v s' => ∃ k, v = .bool k ∧ Q (.done (.ret (.bool (!k)))) s') E s) :
    wpAny (model prog w) A (Builtin.«object.__ne__» ⟨[.ref x, b], []⟩) Q E s := by
  unfold Builtin.«object.__ne__»
  repeat (first
    | with_reducible refine wpAny_cRoomFor hu ?_
    | (refine wpAny_bind (m := callSpecialIfBound? (.ref x) (Str.ofString "__eq__") [b])
        (ifBound_K X I hs hf (wpAny_mono hcall (fun r s' hr => by
          obtain ⟨k, rfl, hq⟩ := hr
          repeat (first | exact hq | exact wpAny_pure hq | exact wpAny_truthy_bool hq | (refine wpAny_bind (m := truthy (.bool _)) (wpAny_truthy_bool ?_)) | wp_step)) fun _ _ e => e)))
    | wp_step)
open PySem.W Builtin in
theorem ifBound_objNe {M : Model} {args : List Value} {Q : Option Value → Shared → Prop} (X : K.In s.heap) (I : InstAt s.heap x ox C od) (hs : findIn K (.ref C) "__ne__" = some (some (.builtin "object.__ne__")))
    (h : wpAny M A (call (.builtin "object.__ne__") (.ref x :: args)) (fun v => Q (some v)) E s) : wpAny M A (callSpecialIfBound? (.ref x) "__ne__" args) Q E s := by
  simp only [callSpecialIfBound?, bindSpecialIfBound?]
  refine wpAny_holding (wpAny_bind (wpAny_bind (wpAny_bind (I.type.here ((looks_findIn X hs).here ?_)))))
  refine wpAny_bind (wpAny_askSetting (wpAny_ite ?_))
  have fin : wpAny M A (call (.builtin "object.__ne__") ([.ref x] ++ args) >>= fun v => pure (some v)) Q E s := wpAny_bind (wpAny_mono h (fun v s' h' => wpAny_pure h') fun _ _ h' => h')
  split
  · exact wpAny_bind (wpAny_of_eq (F.cmp_object.ne.bind _) (wpAny_pure (by exact fin)))
  · exact wpAny_tryCatch (wpAny_bind (wpAny_of_eq (F.cmp_object.ne.bind _) (wpAny_pure (by exact fin))))
open PySem.W Builtin in
theorem call_objNe {Q : Value → Shared → Prop} (X : K.In s.heap) (I : InstAt s.heap x ox C od) (hm : mroIn K C (.type "object") = some true) (hu : A.units + 1 < cLine) (hs : findIn K (.ref C) "__eq__" = some (some (.ref f))) (hf : isFn K (.ref f) = true)
    (hcall : wpAny (model prog w) A.in1 (call (.ref f) [.ref x, b]) (fun v s' => ∃ k, v = .bool k ∧ Q (.bool (!k)) s') E s) :
    wpAny (model prog w) A (call (.builtin "object.__ne__") [.ref x, b]) Q E s :=
  wpAny_call (codeAny_call_builtin F.cmp_object.ne.plain F.cmpEntry_ne (check_slot F.cmpKind_ne F.cmpSplit_ne (I.type.andThen (looks_mroIn X hm)) (F.cmpArgs_ne _ _) (objNe_entry (A := A.in1) X I hu hs hf hcall)))
open PySem.W Builtin in
theorem cmp_ne_K {Q : Value → Shared → Prop} (hu : A.units + 1 < cLine) (F0 : Fr h₀ L s.heap m) (X₀ : K.In h₀) (I : InstAt s.heap x ox C od) (hb : Looks (model prog w) s.heap (typeOf b) tb) (hn : notFirst K C tb = true) (hne : findIn K (.ref C) "__ne__" = some (some (.builtin "object.__ne__")))
    (hm : mroIn K C (.type "object") = some true) (hs : findIn K (.ref C) "__eq__" = some (some (.ref f))) (hf : isFn K (.ref f) = true)
    (h : wpAny (model prog w) A.in1 (call (.ref f) [.ref x, b]) (fun v s' => ∃ k, v = .bool k ∧ Q (.bool (!k)) s') E s) : wpAny (model prog w) A (richCompare .NotEq (.ref x) b) Q E s := by
  have X := X₀.keeps F0.keep
  have one : wpAny (model prog w) A (tryCompare (.ref x) "__ne__" b) (fun r s' => ∃ v, r = some v ∧ Q v s') E s := by
    unfold tryCompare
    refine wpAny_bind (ifBound_objNe X I hne (call_objNe X I hm hu hs hf (wpAny_mono h (fun v s' hv => ?_) fun _ _ e => e)))
    obtain ⟨k, rfl, hq⟩ := hv
    exact ⟨k, rfl, wpAny_pure ⟨_, rfl, hq⟩⟩
  unfold richCompare
  simp only [oneThing_ref]
  refine wpAny_holding (wpAny_bind (wpAny_cRoomFor (Nat.lt_of_succ_lt hu) ?_))
  refine wpAny_bind (I.type.here (wpAny_bind (hb.here ?_)))
  split
  · rename_i q
    have e : subIn K tb (.ref C) = some false := by
      rcases Bool.or_eq_true_iff.mp hn with e | e
      · rw [beq_iff_eq.mp e] at q; simp at q
      · exact beq_iff_eq.mp e
    refine wpAny_bind ((looks_subIn X e).here ?_)
    simp only [Bool.false_eq_true, if_false]
    refine wpAny_bind (wpAny_mono one (fun r s' z => ?_) fun _ _ e => e)
    obtain ⟨v, rfl, hq⟩ := z
    exact wpAny_pure hq
  · refine wpAny_bind (wpAny_pure ?_)
    simp only [Bool.false_eq_true, if_false]
    refine wpAny_bind (wpAny_mono one (fun r s' z => ?_) fun _ _ e => e)
    obtain ⟨v, rfl, hq⟩ := z
    exact wpAny_pure hq
theorem sub_list : PySem.W.subIn K (.type "list") (.ref C) = some false := by
  have e : fastBuiltinMro "list" = some [.type "list", .type "object"] := by decide +kernel
  show (fastBuiltinMro "list").map (·.contains (.ref C)) = some false
  rw [e]
  first
    | rfl
    | simp
end
section
variable {X : Cx} {sc ls : Scope} {nm : Nms} {cv : Nat → Value} {F : Nat → List D → Store → R D} {E : XK}
variable {ia ib ic : Ex} {a b c : Expr} {pos : Pos}
/-! ### isinstance of a class of the text -/
def rIsc (K : PySem.W.Frag) (C : Addr) : List V → Hp → VK → Prop := fun xs H Q => (∃ p dx fs, xs = [.ref p, .ref C] ∧ H p = some (.ins C dx fs) ∧ Q (.bl true) H) ∨ ∃ p vs, xs = [.ref p, .ref C] ∧ H p = some (.lst vs) ∧ Q (.bl false) H
theorem cr_isc {C : Addr} (h : InsX X.K C) : CallR X (.builtin "isinstance") (rIsc X.K C) := by
  intro pins s σ H xs us Q I r q
  rcases q with q | ⟨p, vs, rfl, hp, q⟩
  · exact C8.call_isC h.ins pins s σ H xs us Q I r q
  · obtain ⟨u, w', rfl, ru, rw'⟩ := vals2 r
    cases rw'
    exact isinst_ok I ru (TyOf.lst hp) h.ls fun tk => ⟨.bl false, H, I.tok _, rfl, q⟩
theorem s_isc {cl : Str} {p p2 : Pos} (g : Good X sc ls nm cv F E) (hm : cl ∈ nm.q) (hg : glB sc "isinstance" = true) (hg2 : glB sc cl = true) (hk : nameOk cl = true) (hp : plainA a = true) (ha : PE X a (tE X.K cv F E ia)) :
    PE X (.Call (.Name "isinstance" p) [a, .Name cl p2] [] pos) (tE X.K cv F E (.isc cl ia)) := by
  obtain ⟨i1, i2⟩ := g.insc cl hm
  refine PE.weak (pe_callB (cr_isc i1) (glB_of g.sc hg) (g.blt _ (by decide +kernel)) boot_isinstance (pa_cons ha (pa_cons (pe_glob (v := .ref (He.ga X.K cl)) (glB_of g.sc hg2) i2 rfl (nameOk_of hk).1) pa_nil) (star_of hp)) (by decide) (by decide) (star_of hp)) fun σ H Q ⟨th, S, ρ, s, re, h⟩ => ?_
  refine ⟨th, S, ρ, s, re, Post.bind h fun d1 S1 v1 H1 th1 _ e1 s1 r1 h1 => ?_⟩
  obtain ⟨k, hk, q⟩ := opt_bool s1 h1
  unfold iscD at hk
  split at hk
  · rename_i hi
    cases hk
    obtain ⟨fs, hi⟩ := Option.isSome_iff_exists.mp hi
    obtain ⟨n, p, dx, vs, rfl, rfl, h2, h3, h4⟩ := s1.insAt r1 hi
    exact .inl ⟨p, dx, vs, rfl, h3, q⟩
  · split at hk
    · rename_i hl
      cases hk
      obtain ⟨xs, hl⟩ := Option.isSome_iff_exists.mp hl
      obtain ⟨p, vs, rfl, g1, g2⟩ := getList_ok s1 r1 hl
      exact .inr ⟨p, vs, rfl, g1, q⟩
    · cases hk
/-! ### == and != of the text's own -/
def rEqO (C : Addr) (ne : Bool) (sp : Sp) (E : XK) : R2 := fun x y H Q => ∃ p dx fs r, x = .ref p ∧ y = .ref r ∧ H p = some (.ins C dx fs) ∧ ((∃ dy gs, H r = some (.ins C dy gs)) ∨ ∃ vs, H r = some (.lst vs)) ∧ sp [x, y] H (fun v H' => ∃ k, v = .bl k ∧ Q (.bl (xor ne k)) H') E
theorem op_eqO {C f : Addr} {fd : FuncData} {ps : List Str} {k : Nat} {sp : Sp} {ne : Bool} (hi : InsX X.K C) (hm : Meth X.K C "__eq__" f) (hF : FnOk X.prog X.w X.K X.mg X.base (L2.CX X.prog X.w) k f fd ps sp) (hr : Room (k + 1) X.A) (hb : Binds X.K fd ps []) (hx : Passes (L2.CX X.prog X.w) X E) :
    OpR X (compareOp (if ne then .NotEq else .Eq)) (rEqO C ne sp E) := by
  intro pins s σ H x y v u Q I rx ry h
  obtain ⟨p, dx, fs, r, rfl, rfl, hp, hy, q⟩ := h
  cases (show v = Value.ref p from rx)
  cases (show u = Value.ref r from ry)
  obtain ⟨mA, O, _⟩ := ins_get I.hok hp
  obtain ⟨od, J, _⟩ := O.look
  obtain ⟨m, hFr⟩ := I.fr
  have htb : ∃ tb, PySem.W.Looks (model X.prog X.w) s.heap (typeOf (.ref r)) tb ∧ PySem.W.notFirst X.K C tb = true := by
    rcases hy with ⟨dy, gs, hy⟩ | ⟨vs, hy⟩
    · obtain ⟨mB, O', _⟩ := ins_get I.hok hy
      obtain ⟨od', J', _⟩ := O'.look
      exact ⟨.ref C, J'.type, by simp [PySem.W.notFirst]⟩
    · obtain ⟨_, its, n, _, ho⟩ := (show ObjOk X.prog X.w H s.heap r (.lst vs) from I.hok r _ hy)
      exact ⟨.type "list", (PySem.W.Looks.ld ho).andThen .now, by unfold PySem.W.notFirst; rw [sub_list]; simp⟩
  obtain ⟨tb, ht, hn⟩ := htb
  cases ne with
  | false =>
    show wpAny _ _ (richCompare .Eq (.ref p) (.ref r)) _ _ _
    refine PySem.W.cmp_K (op := .Eq) hr.units0 hFr I.ok.mod.kin J ht hn hm.at_ hm.fn (wpAny_mono (run_at (us := [.ref p, .ref r]) (vs := [.ref p, .ref r]) hF (hr.mono (Nat.le_succ _)) I.env0 hb hx I (.cons rfl (.cons rfl .nil)) q) (fun w s' z => ?_) fun _ _ x => x)
    obtain ⟨z', H', I', rz, b, eb, qz⟩ := z
    subst eb
    cases (show w = Value.bool b from rz)
    exact ⟨.bl b, H', I', rfl, by simpa using qz⟩
  | true =>
    show wpAny _ _ (richCompare .NotEq (.ref p) (.ref r)) _ _ _
    refine cmp_ne_K (by have := hr.un; omega) hFr I.ok.mod.kin J ht hn hi.ne hi.ins.hm hm.at_ hm.fn (wpAny_mono (run_at (us := [.ref p, .ref r]) (vs := [.ref p, .ref r]) hF hr.in1 I.env0.in1 hb hx I (.cons rfl (.cons rfl .nil)) q) (fun w s' z => ?_) fun _ _ x => x)
    obtain ⟨z', H', I', rz, b, eb, qz⟩ := z
    subst eb
    cases (show w = Value.bool b from rz)
    exact ⟨b, rfl, .bl (!b), H', I', rfl, by simpa using qz⟩
theorem w_eqO {ne : Bool} {gn : Nat} {cl : Str} {C : Addr} {σ : L2.St} {H : Hp} {Q Q' : VK} (hC : C = He.ga X.K cl) (h : tE X.K cv F E (.eqO ne gn cl ia ib) σ H Q) (hq : ∀ k H', Q (.bl k) H' → Q' (.bl k) H') :
    tOp (rEqO C ne (spOf X.K cv (F gn)) E) (tE X.K cv F E ia) (tE X.K cv F E ib) σ H Q' := by
  subst hC
  obtain ⟨th, S, ρ, s, re, h⟩ := h
  refine ⟨th, S, ρ, s, re, Post.bind h fun d1 S1 v1 H1 th1 _ e1 s1 r1 h1 => ?_⟩
  refine ⟨th1, S1, ρ, s1, re.mono e1, Post.bind h1 fun d2 S2 v2 H2 th2 _ e2 s2 r2 h2 => ?_⟩
  split at h2
  · rename_i hk
    obtain ⟨k1, k2⟩ := band hk
    obtain ⟨fs, hi⟩ := Option.isSome_iff_exists.mp k1
    obtain ⟨n, p, dx, vs, rfl, rfl, q2, q3, q4⟩ := s2.insAt (r1.mono e2) hi
    have hr : ∃ r, v2 = .ref r ∧ ((∃ dy gs, H2 r = some (.ins (He.ga X.K cl) dy gs)) ∨ ∃ vs, H2 r = some (.lst vs)) := by
      unfold iscD at k2
      split at k2
      · rename_i hi2
        obtain ⟨fs2, hi2⟩ := Option.isSome_iff_exists.mp hi2
        obtain ⟨n2, p2, dx2, vs2, rfl, rfl, w2, w3, w4⟩ := s2.insAt r2 hi2
        exact ⟨p2, rfl, .inl ⟨_, _, w3⟩⟩
      · split at k2
        · rename_i hl
          obtain ⟨xs, hl⟩ := Option.isSome_iff_exists.mp hl
          obtain ⟨p2, vs2, rfl, g1, g2⟩ := getList_ok s2 r2 hl
          exact ⟨p2, rfl, .inr ⟨_, g1⟩⟩
        · cases k2
    obtain ⟨r, rfl, hy⟩ := hr
    refine ⟨p, dx, vs, r, rfl, rfl, q3, hy, th2, S2, [.loc n, d2], s2, .cons (.loc q2) (.one r2), ?_⟩
    cases hF2 : F gn [.loc n, d2] S2 with
    | err => rw [hF2] at h2; exact h2.elim
    | exc c S3 => rw [hF2] at h2; exact h2
    | ok d S3 =>
      rw [hF2] at h2
      intro v H3 th3 e3 s3 r3
      cases r3 with
      | bool k => exact ⟨k, rfl, hq _ _ (h2 _ H3 th3 e3 s3 (.bool _))⟩
      | _ => exact h2.elim
  · exact h2.elim
theorem s_eqO {ne : Bool} {gn : Nat} {cl : Str} (g : Good X sc ls nm cv F E) (hm : nm.m gn = some (cl, ("__eq__" : Str))) (hq : cl ∈ nm.q) (ha : PE X a (tE X.K cv F E ia)) (hb : PE X b (tE X.K cv F E ib)) (hbm : behindInMarks (if ne then .NotEq else .Eq) b = false) :
    PE X (.Compare a [if ne then .NotEq else .Eq] [b] pos) (tE X.K cv F E (.eqO ne gn cl ia ib)) := by
  obtain ⟨i1, i2⟩ := g.insc cl hq
  obtain ⟨k, f, fd, ps, hF, hroom, hbi, c1, c2⟩ := (g.meth gn cl _ hm).ok
  exact PE.weak (pe_cmpR (op_eqO (ne := ne) i1 (mm_of c2 (by decide)) hF hroom hbi g.pass) ha hb hbm) fun σ H Q h => w_eqO rfl h fun _ _ q => q
theorem s_eqOT {ne : Bool} {gn : Nat} {cl : Str} (g : Good X sc ls nm cv F E) (hm : nm.m gn = some (cl, ("__eq__" : Str))) (hq : cl ∈ nm.q) (ha : PE X a (tE X.K cv F E ia)) (hb : PE X b (tE X.K cv F E ib)) (hbm : behindInMarks (if ne then .NotEq else .Eq) b = false) :
    PT X (.Compare a [if ne then .NotEq else .Eq] [b] pos) (tT X.K cv F E (.eqO ne gn cl ia ib)) := by
  obtain ⟨i1, i2⟩ := g.insc cl hq
  obtain ⟨k, f, fd, ps, hF, hroom, hbi, c1, c2⟩ := (g.meth gn cl _ hm).ok
  exact PT.weak (pt_cmpR (op_eqO (ne := ne) i1 (mm_of c2 (by decide)) hF hroom hbi g.pass) ha hb hbm) fun σ H Q h => w_eqO rfl (tT_tE h) fun k H' ⟨k', e, q⟩ => ⟨k, rfl, by have e : k' = k := e; rw [← e]; exact q⟩
end
end PV
end
section
set_option Elab.async false
set_option linter.all false
set_option maxRecDepth 100000
set_option maxHeartbeats 4000000
namespace PV
open PySem PySem.Spec PyProof.Rows L2
section
variable {X : Cx} {sc ls : Scope} {nm : Nms} {cv : Nat → Value} {F : Nat → List D → Store → R D} {E : XK} {tg : Expr}
variable {ia ib ic : Ex} {a b c : Expr} {pos : Pos}
/-! ### and, or -/
theorem s_and {b : Expr} {rest : List Expr} (ha : PE X a (tE X.K cv F E ia)) (hb : PE X (.BoolOp .And (b :: rest) pos) (tE X.K cv F E ib)) : PE X (.BoolOp .And (a :: b :: rest) pos) (tE X.K cv F E (.and ia ib)) :=
  PE.weak (pe_andT ha hb) fun σ H Q ⟨th, S, ρ, s, re, h⟩ => ⟨th, S, ρ, s, re, Post.bind h fun d1 S1 v1 H1 th1 _ e1 s1 r1 h1 => by
    cases hk : truth S1 d1 with
    | none => rw [hk] at h1; exact h1.elim
    | some k =>
      rw [hk] at h1
      refine ⟨k, truth_ok s1 r1 hk, ?_⟩
      cases k with
      | true => rw [if_pos rfl]; exact ⟨th1, S1, ρ, s1, re.mono e1, h1⟩
      | false => rw [if_neg (by decide)]; exact Post.ok h1 s1 r1⟩
theorem s_or {b : Expr} {rest : List Expr} (ha : PE X a (tE X.K cv F E ia)) (hb : PE X (.BoolOp .Or (b :: rest) pos) (tE X.K cv F E ib)) : PE X (.BoolOp .Or (a :: b :: rest) pos) (tE X.K cv F E (.or ia ib)) :=
  PE.weak (pe_orT ha hb) fun σ H Q ⟨th, S, ρ, s, re, h⟩ => ⟨th, S, ρ, s, re, Post.bind h fun d1 S1 v1 H1 th1 _ e1 s1 r1 h1 => by
    cases hk : truth S1 d1 with
    | none => rw [hk] at h1; exact h1.elim
    | some k =>
      rw [hk] at h1
      refine ⟨k, truth_ok s1 r1 hk, ?_⟩
      cases k with
      | false => rw [if_neg (by decide)]; exact ⟨th1, S1, ρ, s1, re.mono e1, h1⟩
      | true => rw [if_pos rfl]; exact Post.ok h1 s1 r1⟩
theorem PW.weak {e : Expr} {t t' : TT} (h : PW X e t) (w : ∀ σ H Q, t' σ H Q → t σ H Q) : PW X e t' := ⟨fun wh pins s σ H Q I q => h.run wh pins s σ H Q I (w σ H Q q)⟩
theorem s_andW {b : Expr} {rest : List Expr} (ha : PT X a (tT X.K cv F E ia)) (hb : PW X (.BoolOp .And (b :: rest) pos) (tT X.K cv F E ib)) : PW X (.BoolOp .And (a :: b :: rest) pos) (tT X.K cv F E (.and ia ib)) :=
  PW.weak (pw_and ha hb) fun σ H Q ⟨th, S, ρ, s, re, h⟩ => by
    refine ⟨th, S, ρ, s, re, ?_⟩
    have h : PostT X.K cv E H th (((ev F ia ρ S).bind fun x S1 => (match truth S1 x with | some true => ev F ib ρ S1 | some false => .ok x S1 | none => .err)).bind fun x S1 => ofOpt S1 (truth S1 x)) Q := h
    show PostT X.K cv E H th ((ev F ia ρ S).bind fun x S1 => ofOpt S1 (truth S1 x)) _
    cases hx : ev F ia ρ S with
    | ok d S1 =>
      rw [hx] at h
      simp only [bind_ok] at h ⊢
      cases hk : truth S1 d with
      | none => rw [hk] at h; exact h.elim
      | some k =>
        rw [hk] at h
        intro H1 th1 e1 s1
        cases k with
        | true => rw [if_pos rfl]; exact ⟨th1, S1, ρ, s1, re.mono e1, PostT.back e1 h⟩
        | false =>
          rw [if_neg (by decide)]
          simp only [bind_ok, hk] at h
          exact h H1 th1 e1 s1
    | exc c S1 => rw [hx] at h; exact h
    | err => rw [hx] at h; exact h
theorem s_orW {b : Expr} {rest : List Expr} (ha : PT X a (tT X.K cv F E ia)) (hb : PW X (.BoolOp .Or (b :: rest) pos) (tT X.K cv F E ib)) : PW X (.BoolOp .Or (a :: b :: rest) pos) (tT X.K cv F E (.or ia ib)) :=
  PW.weak (pw_or ha hb) fun σ H Q ⟨th, S, ρ, s, re, h⟩ => by
    refine ⟨th, S, ρ, s, re, ?_⟩
    have h : PostT X.K cv E H th (((ev F ia ρ S).bind fun x S1 => (match truth S1 x with | some true => .ok x S1 | some false => ev F ib ρ S1 | none => .err)).bind fun x S1 => ofOpt S1 (truth S1 x)) Q := h
    show PostT X.K cv E H th ((ev F ia ρ S).bind fun x S1 => ofOpt S1 (truth S1 x)) _
    cases hx : ev F ia ρ S with
    | ok d S1 =>
      rw [hx] at h
      simp only [bind_ok] at h ⊢
      cases hk : truth S1 d with
      | none => rw [hk] at h; exact h.elim
      | some k =>
        rw [hk] at h
        intro H1 th1 e1 s1
        cases k with
        | false => rw [if_neg (by decide)]; exact ⟨th1, S1, ρ, s1, re.mono e1, PostT.back e1 h⟩
        | true =>
          rw [if_pos rfl]
          simp only [bind_ok, hk] at h
          exact h H1 th1 e1 s1
    | exc c S1 => rw [hx] at h; exact h
    | err => rw [hx] at h; exact h
theorem s_pop {ap cp : Pos} (hl : (ap.endLine == cp.line) = true) (h0 : notCall0 a = true) (ha : PE X a (tE X.K cv F E ia)) :
    PE X (.Call (.Attribute a "pop" ap) [] [] cp) (tE X.K cv F E (.pop ia)) := by
  refine PE.weak (pe_bm0 PySem.F.plainAttrs_list PySem.F.slot_list_pop PySem.F.type_list_pop mt_pop ha (base_of h0) hl) fun σ H Q ⟨th, S, ρ, s, re, h⟩ => ?_
  refine ⟨th, S, ρ, s, re, Post.bind h fun d1 S1 v1 H1 th1 _ e1 s1 r1 h1 => ?_⟩
  cases r1 with
  | @loc p n hn =>
    have h1 : Post X.K cv E H1 th1 (match S1[n]? with
      | some (.lst xs) => (match xs[xs.length - 1]? with | some d => .ok d (S1.set n (.lst xs.dropLast)) | none => .err)
      | _ => .err) Q := h1
    split at h1
    · rename_i ys he
      obtain ⟨p', ws, k1, k2, k3⟩ := s1.at he
      rw [hn] at k1; cases k1
      cases hd : ys[ys.length - 1]? with
      | none => rw [hd] at h1; exact h1.elim
      | some d =>
        rw [hd] at h1
        obtain ⟨w, hw, rw'⟩ := k3.get hd
        refine ⟨.inl ⟨rfl, ws, SqL.of k2⟩, p, ws, w, rfl, rfl, k2, by rw [← k3.length]; exact hw, ?_⟩
        have e : Ext H1 th1 (upd H1 p (.lst ws.dropLast)) th1 := Ext.wrote (List.mem_of_getElem? hn) k2 _
        exact h1 _ _ _ e (s1.wrote hn k2 k3.dropLast) (rw'.mono e)
    · exact h1.elim
  | _ => exact h1.elim
theorem RepL.erase {K : PySem.W.Frag} {H : Hp} {th : Th} : ∀ {ds : List D} {vs : List V}, RepL K H th ds vs → ∀ j : Nat, RepL K H th (ds.eraseIdx j) (vs.eraseIdx j)
  | _, _, .nil, _ => .nil
  | _, _, .cons _ r, 0 => r
  | _, _, .cons a r, j + 1 => .cons a (RepL.erase r j)
theorem s_popi {ap cp : Pos} (hl : (ap.endLine == cp.line) = true) (h0 : notCall0 a = true) (hp : plainA b = true) (ha : PE X a (tE X.K cv F E ia)) (hb : PE X b (tE X.K cv F E ib)) :
    PE X (.Call (.Attribute a "pop" ap) [b] [] cp) (tE X.K cv F E (.popi ia ib)) := by
  refine PE.weak (pe_bm PySem.F.plainAttrs_list PySem.F.slot_list_pop PySem.F.type_list_pop mt_popAt ha (pa_cons hb pa_nil (star_of hp)) (base_of h0) (by rw [star_of hp]; rfl) hl (star_of hp) rfl) fun σ H Q ⟨th, S, ρ, s, re, h⟩ => ?_
  refine ⟨th, S, ρ, s, re, Post.bind h fun d1 S1 v1 H1 th1 _ e1 s1 r1 h1 => ?_⟩
  split at h1
  · rename_i hg
    obtain ⟨xs, hg⟩ := Option.isSome_iff_exists.mp hg
    obtain ⟨p, vs, rfl, g1, g2⟩ := getList_ok s1 r1 hg
    refine ⟨.inl ⟨rfl, vs, SqL.of g1⟩, th1, S1, ρ, s1, re.mono e1, Post.bind h1 fun d2 S2 v2 H2 th2 _ e2 s2 r2 h2 => ?_⟩
    cases r1 with
    | @loc _ n hn =>
      cases r2 with
      | int k =>
        have h2 : Post X.K cv E H2 th2 (match S2[n]? with
          | some (.lst xs) => (match PV.ixN xs.length k with
            | some j => (match xs[j]? with | some d => if PV.smallI k then .ok d (S2.set n (.lst (xs.eraseIdx j))) else .err | none => .err)
            | none => .err)
          | _ => .err) Q := h2
        split at h2
        · rename_i ys he
          obtain ⟨p', ws, k1, k2, k3⟩ := s2.at he
          rw [e2.get hn] at k1; cases k1
          cases hj : PV.ixN ys.length k with
          | none => rw [hj] at h2; exact h2.elim
          | some j =>
            rw [hj] at h2
            dsimp only at h2
            cases hd : ys[j]? with
            | none => rw [hd] at h2; exact h2.elim
            | some d =>
              rw [hd] at h2
              dsimp only at h2
              split at h2
              · rename_i hsm
                obtain ⟨w, hw, rw'⟩ := k3.get hd
                have b1 := of_decide_eq_true hsm
                refine ⟨p, ws, k, j, w, rfl, rfl, k2, by omega, by omega, ?_, hw, ?_⟩
                · rw [← k3.length]
                  exact (L2.ixN_seq (show L2.ixN ys.length k = some j from hj)).1
                · have e : Ext H2 th2 (upd H2 p (.lst (ws.eraseIdx j))) th2 := Ext.wrote (List.mem_of_getElem? (e2.get hn)) k2 _
                  exact h2 _ _ _ e (s2.wrote (e2.get hn) k2 (k3.erase j)) (rw'.mono e)
              · exact h2.elim
        · exact h2.elim
      | _ => exact h2.elim
    | _ => exact h2.elim
  · exact h1.elim
/-! ### list(range(..)) -/
theorem rg_rep {i j : Int} {th : Th} {H : Hp} : RepL X.K H th (rangeL i j) (rgV i j) := by
  unfold rangeL rgV
  generalize List.range (j - i).toNat = l
  induction l with
  | nil => exact .nil
  | cons k l ih => exact .cons (.int _) ih
theorem s_lrg1 {m : Bool} {p p2 pos2 : Pos} (g : Good X sc ls nm cv F E) (h1 : glB sc "list" = true) (h2 : glB sc "range" = true) (hp : plainA a = true) (ha : PE X a (tE X.K cv F E ia)) :
    PE X (.Call (.Name "list" p) [.Call (.Name "range" p2) [a] [] pos2] [] pos) (tE X.K cv F E (.lrg1 m ia)) := by
  refine PE.weak (pe_listRg g.calm (glB_of g.sc h1) (g.blt _ (by decide +kernel)) (prg_1 (glB_of g.sc h2) (g.blt _ (by decide +kernel)) ha (star_of hp)) rfl) fun σ H Q ⟨th, S, ρ, s, re, h⟩ => ⟨th, S, ρ, s, re, Post.bind h fun d S1 v H1 th1 _ e1 s1 r1 h1 => ?_⟩
  cases r1 with
  | int j =>
    dsimp only at h1
    split at h1
    · rename_i hj
      obtain ⟨hl, hq⟩ := newL_ok s1 (rg_rep (X := X)) h1
      have hle : (j - 0).toNat ≤ 2 ^ 24 := by
        unfold newL at h1
        split at h1
        · rename_i hl2
          have : (rangeL 0 j).length = (j - 0).toNat := by unfold rangeL; rw [List.length_map, List.length_range]
          rw [this] at hl2
          exact hl2
        · exact h1.elim
      exact ⟨j, rfl, ⟨by decide, by decide, (small_of hj).1, (small_of hj).2, hle⟩, hq⟩
    · exact h1.elim
  | _ => exact h1.elim
theorem s_lrg2 {m : Bool} {p p2 pos2 : Pos} (g : Good X sc ls nm cv F E) (h1 : glB sc "list" = true) (h2 : glB sc "range" = true) (hp : plainA a = true) (hp2 : plainA b = true) (ha : PE X a (tE X.K cv F E ia)) (hb : PE X b (tE X.K cv F E ib)) :
    PE X (.Call (.Name "list" p) [.Call (.Name "range" p2) [a, b] [] pos2] [] pos) (tE X.K cv F E (.lrg2 m ia ib)) := by
  refine PE.weak (pe_listRg g.calm (glB_of g.sc h1) (g.blt _ (by decide +kernel)) (prg_2 (glB_of g.sc h2) (g.blt _ (by decide +kernel)) ha hb (star_of hp) (star_of hp2) (by rw [star_of hp2]; rfl)) rfl) fun σ H Q ⟨th, S, ρ, s, re, h⟩ => ⟨th, S, ρ, s, re, Post.bind h fun d S1 v H1 th1 _ e1 s1 r1 h1 => ⟨th1, S1, ρ, s1, re.mono e1, Post.bind h1 fun d2 S2 v2 H2 th2 _ e2 s2 r2 h2 => ?_⟩⟩
  cases r1 with
  | int i =>
    cases r2 with
    | int j =>
      dsimp only at h2
      split at h2
      · rename_i hj
        obtain ⟨k1, k2⟩ := band hj
        obtain ⟨hl, hq⟩ := newL_ok s2 (rg_rep (X := X)) h2
        have hle : (j - i).toNat ≤ 2 ^ 24 := by
          unfold newL at h2
          split at h2
          · rename_i hl2
            have : (rangeL i j).length = (j - i).toNat := by unfold rangeL; rw [List.length_map, List.length_range]
            rw [this] at hl2
            exact hl2
          · exact h2.elim
        exact ⟨i, j, rfl, rfl, ⟨(small_of k1).1, (small_of k1).2, (small_of k2).1, (small_of k2).2, hle⟩, hq⟩
      · exact h2.elim
    | _ => exact h2.elim
  | _ => cases r2 <;> exact h2.elim
/-! ### the look is right, for expressions -/
/-- what is to be shown of a term -/
structure SndE (N : List Str) (nm : Nms) (cv : Nat → Value) (F : Nat → List D → Store → R D) (ie : Ex) : Prop where
  e : ∀ (X : Cx) (sc ls : Scope) (E : XK), X.N = N → Good X sc ls nm cv F E → ∀ e, chkE N nm ie sc e = true → PE X e (tE X.K cv F E ie) ∧ (notIf e = true → PT X e (tT X.K cv F E ie))
  a : ∀ (X : Cx) (sc ls : Scope) (E : XK), X.N = N → Good X sc ls nm cv F E → ∀ es, chkA N nm ie sc es = true → PA X es (tA X.K cv F E ie) ∧ args ie = true ∧ es.all plainA = true
  b : ∀ (X : Cx) (sc ls : Scope) (E : XK), X.N = N → Good X sc ls nm cv F E → ∀ op es pos, chkB N nm op ie sc es = true → PE X (.BoolOp op es pos) (tE X.K cv F E ie) ∧ PW X (.BoolOp op es pos) (tT X.K cv F E ie)
  o : ∀ (X : Cx) (sc ls : Scope) (E : XK), X.N = N → Good X sc ls nm cv F E → ∀ o, chkO N nm ie sc o = true → PO X o (tO X.K cv F E ie)
  i : ∀ (X : Cx) (sc ls : Scope) (E : XK), X.N = N → Good X sc ls nm cv F E → ∀ k iter tg, chkI N nm k ie sc iter = true → ikTg k tg = true → PI X tg iter (iW X.K cv F E k ie) ∧ ∀ x, foldedSetIterable iter X.env x = pure x
theorem band_and3 {a b : Bool} (h : a = true) (k : b = true) : (a && b && true) = true := by rw [h, k]; rfl
theorem not_set {iter : Expr} {env : PySem.Env} (h : notSet iter = true) : ∀ x, foldedSetIterable iter env x = pure x := by
  intro x
  cases iter <;> first | rfl | (cases h)
/-- the parts of a comprehension -/
structure LcParts (X : Cx) (cv : Nat → Value) (F : Nat → List D → Store → R D) (E : XK) (k : Ik) (src : Ex) (tgt : Tg) (own : List Nat) (tst : Bool) (ic ie : Ex) (m : Bool) (elt t iter : Expr) (ifs : List Expr) (scope : Scope) : Prop where
  hi : PI X t iter (iW X.K cv F E k src)
  hs : ∀ x, foldedSetIterable iter X.env x = pure x
  ok : BlkOk X.N X.env.scope scope (own.map fun i => (X.N.getD i Str.empty, i))
  hg : Blks X scope fun Y => PG Y t (gOf X.K tgt)
  ht : Blks X scope fun Y => PTs Y ifs (tC1 X.K cv F E tst ic)
  he : Blks X scope fun Y => PE Y elt (tE X.K cv F E ie)
  w : ∀ σ H Q, tE X.K cv F E (.comp k src tgt own tst ic ie m) σ H Q → tLc (iW X.K cv F E k src) (gOf X.K tgt) (tC1 X.K cv F E tst ic) (tE X.K cv F E ie) ((own.map fun i => (X.N.getD i Str.empty, i)).map (·.2)) σ H Q
theorem s_lists {N : List Str} {ie : Ex} (h : ∀ sc es, chkA N nm ie sc es = false) (h2 : ∀ sc op es, chkB N nm op ie sc es = false) (h3 : ∀ sc o, chkO N nm ie sc o = false) (h4 : ∀ sc k it, chkI N nm k ie sc it = false)
    (he : ∀ (X : Cx) (sc ls : Scope) (E : XK), X.N = N → Good X sc ls nm cv F E → ∀ e, chkE N nm ie sc e = true → PE X e (tE X.K cv F E ie) ∧ (notIf e = true → PT X e (tT X.K cv F E ie))) : SndE N nm cv F ie :=
  ⟨he, fun X sc ls E _ _ es q => (by rw [h sc es] at q; cases q), fun X sc ls E _ _ op es pos q => (by rw [h2 sc op es] at q; cases q), fun X sc ls E _ _ o q => (by rw [h3 sc o] at q; cases q), fun X sc ls E _ _ k iter tg q => (by rw [h4 sc k iter] at q; cases q)⟩
theorem s_plain {ie : Ex} {e : Expr} (h : PE X e (tE X.K cv F E ie)) (he : ∀ whole, isTrue e X.env whole = (do let v ← whole; standAt e.pos; holding [v] (truthy v))) : PE X e (tE X.K cv F E ie) ∧ (notIf e = true → PT X e (tT X.K cv F E ie)) := ⟨h, fun _ => s_plainT h he⟩
theorem comp_parts {k : Ik} {src : Ex} {tgt : Tg} {own : List Nat} {tst : Bool} {ic ie : Ex} {m : Bool} {z : Expr} (ihs : SndE X.N nm cv F src) (ihc : SndE X.N nm cv F ic) (ihe : SndE X.N nm cv F ie) (g : Good X sc ls nm cv F E)
    (h : chkE X.N nm (.comp k src tgt own tst ic ie m) sc z = true) : ∃ elt t iter ifs scope pos, z = .ListComp elt [⟨t, iter, ifs, 0⟩] scope pos ∧ LcParts X cv F E k src tgt own tst ic ie m elt t iter ifs scope := by
  unfold chkE at h
  try dsimp only at h
  split at h
  · rename_i elt t iter ifs scope pos
    obtain ⟨h1, h6⟩ := band h
    obtain ⟨h1, h5⟩ := band h1
    obtain ⟨h1, h4⟩ := band h1
    obtain ⟨h1, h3⟩ := band h1
    obtain ⟨h1, h2⟩ := band h1
    obtain ⟨h0, h1⟩ := band h1
    obtain ⟨k1, k2⟩ := ihs.i X sc ls E rfl g k iter t h1 h0
    have ok : BlkOk X.N X.env.scope scope (own.map fun i => (X.N.getD i Str.empty, i)) := by rw [g.sc]; exact blkOk_by h2
    have gb := good_blkE g ok.kind
    have hg : Blks X scope fun Y => PG Y t (gOf X.K tgt) := fun pins σ s H fp cl I f => by
      obtain ⟨e1, e2, gy⟩ := gb pins σ s H fp cl I f
      exact s_tg gy h3
    have he : Blks X scope fun Y => PE Y elt (tE X.K cv F E ie) := fun pins σ s H fp cl I f => by
      obtain ⟨e1, e2, gy⟩ := gb pins σ s H fp cl I f
      exact (ihe.e _ _ _ _ e1 gy elt h6).1
    have ht : Blks X scope fun Y => PTs Y ifs (tC1 X.K cv F E tst ic) := fun pins σ s H fp cl I f => by
      obtain ⟨e1, e2, gy⟩ := gb pins σ s H fp cl I f
      split at h5
      · cases tst with
        | true => cases h5
        | false => exact pts_nil
      · obtain ⟨h5, h8⟩ := band h5
        obtain ⟨h5, h7⟩ := band h5
        subst h5
        exact pts_one ((ihc.e _ _ _ _ e1 gy _ h8).2 h7)
      · cases h5
    refine ⟨elt, t, iter, ifs, scope, pos, rfl, k1, k2, ok, hg, ht, he, ?_⟩
    have eo : (own.map fun i => (X.N.getD i Str.empty, i)).map (·.2) = own := by simp [Function.comp_def]
    rw [eo]
    exact s_comp (m := m) h4
  · cases h
/-- the parts of a comprehension of two clauses -/
structure Lc2Parts (X : Cx) (cv : Nat → Value) (F : Nat → List D → Store → R D) (E : XK) (k : Ik) (src : Ex) (tgt : Tg) (own : List Nat) (k1 : Ik) (src1 : Ex) (tg1 : Tg) (own1 : List Nat) (ie : Ex) (m : Bool) (elt t iter t1 iter1 : Expr) (scope : Scope) : Prop where
  hi : PI X t iter (iW X.K cv F E k src)
  hs : ∀ x, foldedSetIterable iter X.env x = pure x
  hs1 : ∀ env x, foldedSetIterable iter1 env x = pure x
  ok : BlkOk X.N X.env.scope scope (own.map fun i => (X.N.getD i Str.empty, i))
  hv : ∀ i ∈ own1, i ∈ (own.map fun i => (X.N.getD i Str.empty, i)).map (·.2)
  hg : ∀ (s : Shared) (H : Hp) (C : Addr) (cl : List (Str × Addr)) (fp : List Addr), PG (X.blk s H scope (compEnvC scope cl C X.env) fp) t (gOf X.K tgt)
  hg1 : ∀ (s : Shared) (H : Hp) (C : Addr) (cl : List (Str × Addr)) (fp : List Addr), PG (X.blk s H scope (compEnvC scope cl C X.env) fp) t1 (gOf X.K tg1)
  hi1 : ∀ (s : Shared) (H : Hp) (C : Addr) (cl : List (Str × Addr)) (fp : List Addr), PI (X.blk s H scope (compEnvC scope cl C X.env) fp) t1 iter1 (iW X.K cv F E0 k1 src1)
  he : ∀ (s : Shared) (H : Hp) (C : Addr) (cl : List (Str × Addr)) (fp : List Addr), PE (X.blk s H scope (compEnvC scope cl C X.env) fp) elt (tE X.K cv F E0 ie)
  w : ∀ σ H Q, tE X.K cv F E (.comp2 k src tgt own k1 src1 tg1 own1 ie m) σ H Q → tLc2 (iW X.K cv F E k src) (gOf X.K tgt) tYes (iW X.K cv F E0 k1 src1) (gOf X.K tg1) tYes (tE X.K cv F E0 ie) ((own.map fun i => (X.N.getD i Str.empty, i)).map (·.2)) own1 σ H Q
theorem comp2_parts {k k1 : Ik} {src src1 : Ex} {tgt tg1 : Tg} {own own1 : List Nat} {ie : Ex} {m : Bool} {z : Expr} (ihs : SndE X.N nm cv F src) (ihs1 : SndE X.N nm cv F src1) (ihe : SndE X.N nm cv F ie) (g : Good X sc ls nm cv F E)
    (h : chkE X.N nm (.comp2 k src tgt own k1 src1 tg1 own1 ie m) sc z = true) : ∃ elt t iter t1 iter1 scope pos, z = .ListComp elt [⟨t, iter, [], 0⟩, ⟨t1, iter1, [], 0⟩] scope pos ∧ Lc2Parts X cv F E k src tgt own k1 src1 tg1 own1 ie m elt t iter t1 iter1 scope := by
  unfold chkE at h
  try dsimp only at h
  split at h
  · rename_i elt t iter t1 iter1 scope pos
    obtain ⟨h1, c11⟩ := band h
    obtain ⟨h1, c10⟩ := band h1
    obtain ⟨h1, c9⟩ := band h1
    obtain ⟨h1, c8⟩ := band h1
    obtain ⟨h1, c7⟩ := band h1
    obtain ⟨h1, c6⟩ := band h1
    obtain ⟨h1, c5⟩ := band h1
    obtain ⟨h1, c4⟩ := band h1
    obtain ⟨h1, c3⟩ := band h1
    obtain ⟨c1, c2⟩ := band h1
    obtain ⟨k1', k2⟩ := ihs.i X sc ls E rfl g k iter t c2 c1
    have ok : BlkOk X.N X.env.scope scope (own.map fun i => (X.N.getD i Str.empty, i)) := by rw [g.sc]; exact blkOk_by c3
    have eo : (own.map fun i => (X.N.getD i Str.empty, i)).map (·.2) = own := by simp [Function.comp_def]
    refine ⟨elt, t, iter, t1, iter1, scope, pos, rfl, k1', k2, ?_, ok, ?_, fun s H C cl fp => s_tg (good_blk g ok.kind s H C cl fp) c4, fun s H C cl fp => s_tg (good_blk g ok.kind s H C cl fp) c8, fun s H C cl fp => (ihs1.i (X.blk s H scope (compEnvC scope cl C X.env) fp) _ _ _ rfl (good_blk g ok.kind s H C cl fp) _ iter1 t1 c7 c6).1, fun s H C cl fp => (ihe.e (X.blk s H scope (compEnvC scope cl C X.env) fp) _ _ _ rfl (good_blk g ok.kind s H C cl fp) elt c11).1, ?_⟩
    · have hns : notSet iter1 = true := by
        unfold chkI at c7
        split at c7
        · exact (band c7).1
        · cases c7
      exact fun env x => not_set hns x
    · rw [eo]
      intro i hi
      have := List.all_eq_true.mp c10 i hi
      simpa using this
    · rw [eo]
      exact s_comp2 (m := m) c5 c9
  · cases h
theorem snd_all (N : List Str) (nm : Nms) (cv : Nat → Value) (F : Nat → List D → Store → R D) (ie : Ex) : SndE N nm cv F ie := by
  induction ie with
  | var i =>
    refine s_lists (fun _ _ => rfl) (fun _ _ _ => rfl) (fun _ _ => rfl) (fun _ _ _ => rfl) fun X sc ls E hN g e h => ?_
    subst hN
    cases e <;> first | (cases h; done) | skip
    rename_i x p
    obtain ⟨h1, h3⟩ := band h
    obtain ⟨h1, h2⟩ := band h1
    exact s_plain (s_var g (of_decide_eq_true h1) h2 h3) (fun _ => rfl)
  | int i =>
    refine s_lists (fun _ _ => rfl) (fun _ _ _ => rfl) (fun _ _ => rfl) (fun _ _ _ => rfl) fun X sc ls E hN g e h => ?_
    cases e <;> first | (cases h; done) | skip
    rename_i c k p
    cases c <;> first | (cases h; done) | skip
    have := of_decide_eq_true h
    subst this
    exact s_plain (PE.weak pe_int fun σ H Q ⟨th, S, ρ, s, re, h⟩ => Post.ok h s (.int i)) (fun _ => rfl)
  | bool i =>
    refine s_lists (fun _ _ => rfl) (fun _ _ _ => rfl) (fun _ _ => rfl) (fun _ _ _ => rfl) fun X sc ls E hN g e h => ?_
    cases e <;> first | (cases h; done) | skip
    rename_i c k p
    cases c <;> first | (cases h; done) | skip
    have := of_decide_eq_true h
    subst this
    exact s_plain (PE.weak pe_bl fun σ H Q ⟨th, S, ρ, s, re, h⟩ => Post.ok h s (.bool i)) (fun _ => rfl)
  | str i =>
    refine s_lists (fun _ _ => rfl) (fun _ _ _ => rfl) (fun _ _ => rfl) (fun _ _ _ => rfl) fun X sc ls E hN g e h => ?_
    cases e <;> first | (cases h; done) | skip
    rename_i c k p
    cases c <;> first | (cases h; done) | skip
    have := of_decide_eq_true h
    subst this
    exact s_plain (PE.weak pe_str fun σ H Q ⟨th, S, ρ, s, re, h⟩ => Post.ok h s (.str i)) (fun _ => rfl)
  | none =>
    refine ⟨fun X sc ls E hN g e h => ?_, fun X sc ls E _ _ es q => (by cases q), fun X sc ls E _ _ op es pos q => (by cases q), fun X sc ls E _ _ o q => ?_, fun X sc ls E _ _ k iter tg q _ => (by cases q)⟩
    · cases e <;> first | (cases h; done) | skip
      rename_i c k p
      cases c <;> first | (cases h; done) | skip
      exact s_plain (PE.weak pe_non fun σ H Q ⟨th, S, ρ, s, re, h⟩ => Post.ok h s .none) (fun _ => rfl)
    · cases o with
      | none => exact s_ono
      | some e => cases q
  | bin op m a b iha ihb =>
    refine s_lists (fun _ _ => rfl) (fun _ _ _ => rfl) (fun _ _ => rfl) (fun _ _ _ => rfl) fun X sc ls E hN g e h => ?_
    cases e <;> first | (cases h; done) | skip
    rename_i l o r p
    obtain ⟨h1, h3⟩ := band h
    obtain ⟨h1, h2⟩ := band h1
    have := of_decide_eq_true h1
    subst this
    exact s_plain (s_bin (iha.e X sc ls E hN g l h2).1 (ihb.e X sc ls E hN g r h3).1) (fun _ => rfl)
  | neg a iha =>
    refine s_lists (fun _ _ => rfl) (fun _ _ _ => rfl) (fun _ _ => rfl) (fun _ _ _ => rfl) fun X sc ls E hN g e h => ?_
    cases e <;> first | (cases h; done) | skip
    rename_i o l p
    cases o <;> first | (cases h; done) | skip
    exact s_plain (s_neg (iha.e X sc ls E hN g l h).1) (fun _ => rfl)
  | not a iha =>
    refine s_lists (fun _ _ => rfl) (fun _ _ _ => rfl) (fun _ _ => rfl) (fun _ _ _ => rfl) fun X sc ls E hN g e h => ?_
    cases e <;> first | (cases h; done) | skip
    rename_i o l p
    cases o <;> first | (cases h; done) | skip
    obtain ⟨h1, h2⟩ := band h
    obtain ⟨k1, k2⟩ := iha.e X sc ls E hN g l h2
    exact ⟨s_not k1, fun _ => s_notT (k2 h1)⟩
  | and a b iha ihb =>
    refine ⟨fun X sc ls E hN g e h => ?_, fun X sc ls E _ _ es q => (by cases q), fun X sc ls E hN g op es pos h => ?_, fun X sc ls E _ _ o q => (by cases q), fun X sc ls E _ _ k iter tg q _ => (by cases q)⟩
    · cases e <;> first | (cases h; done) | skip
      rename_i o es p
      cases o <;> first | (cases h; done) | skip
      rcases es with _ | ⟨l, _ | ⟨l2, rest⟩⟩ <;> first | (cases h; done) | skip
      obtain ⟨h1, h3⟩ := band h
      obtain ⟨h1, h2⟩ := band h1
      obtain ⟨k1, k2⟩ := iha.e X sc ls E hN g l h2
      obtain ⟨m1, m2⟩ := ihb.b X sc ls E hN g .And (l2 :: rest) p h3
      exact ⟨s_and k1 m1, fun _ => (s_andW (k2 h1) m2).pt⟩
    · rcases es with _ | ⟨l, _ | ⟨l2, rest⟩⟩ <;> first | (cases h; done) | skip
      obtain ⟨h1, h3⟩ := band h
      obtain ⟨h1, h2⟩ := band h1
      obtain ⟨h0, h1⟩ := band h1
      have := of_decide_eq_true h0
      subst this
      obtain ⟨k1, k2⟩ := iha.e X sc ls E hN g l h2
      obtain ⟨m1, m2⟩ := ihb.b X sc ls E hN g .And (l2 :: rest) pos h3
      exact ⟨s_and k1 m1, s_andW (k2 h1) m2⟩
  | or a b iha ihb =>
    refine ⟨fun X sc ls E hN g e h => ?_, fun X sc ls E _ _ es q => (by cases q), fun X sc ls E hN g op es pos h => ?_, fun X sc ls E _ _ o q => (by cases q), fun X sc ls E _ _ k iter tg q _ => (by cases q)⟩
    · cases e <;> first | (cases h; done) | skip
      rename_i o es p
      cases o <;> first | (cases h; done) | skip
      rcases es with _ | ⟨l, _ | ⟨l2, rest⟩⟩ <;> first | (cases h; done) | skip
      obtain ⟨h1, h3⟩ := band h
      obtain ⟨h1, h2⟩ := band h1
      obtain ⟨k1, k2⟩ := iha.e X sc ls E hN g l h2
      obtain ⟨m1, m2⟩ := ihb.b X sc ls E hN g .Or (l2 :: rest) p h3
      exact ⟨s_or k1 m1, fun _ => (s_orW (k2 h1) m2).pt⟩
    · rcases es with _ | ⟨l, _ | ⟨l2, rest⟩⟩ <;> first | (cases h; done) | skip
      obtain ⟨h1, h3⟩ := band h
      obtain ⟨h1, h2⟩ := band h1
      obtain ⟨h0, h1⟩ := band h1
      have := of_decide_eq_true h0
      subst this
      obtain ⟨k1, k2⟩ := iha.e X sc ls E hN g l h2
      obtain ⟨m1, m2⟩ := ihb.b X sc ls E hN g .Or (l2 :: rest) pos h3
      exact ⟨s_or k1 m1, s_orW (k2 h1) m2⟩
  | cmp op a b iha ihb =>
    refine s_lists (fun _ _ => rfl) (fun _ _ _ => rfl) (fun _ _ => rfl) (fun _ _ _ => rfl) fun X sc ls E hN g e h => ?_
    cases e <;> first | (cases h; done) | skip
    rename_i l os rs p
    rcases os with _ | ⟨o, _ | ⟨_, _⟩⟩ <;> first | (cases h; done) | skip
    · rcases rs with _ | ⟨r, _ | ⟨_, _⟩⟩ <;> first | (cases h; done) | skip
      obtain ⟨h1, h4⟩ := band h
      obtain ⟨h1, h3⟩ := band h1
      obtain ⟨h1, h2⟩ := band h1
      have := of_decide_eq_true h1
      subst this
      have hm : behindInMarks (copOf op) r = false := by simpa using h4
      exact ⟨s_cmp g (iha.e X sc ls E hN g l h2).1 (ihb.e X sc ls E hN g r h3).1 hm, fun _ => s_cmpT g (iha.e X sc ls E hN g l h2).1 (ihb.e X sc ls E hN g r h3).1 hm⟩
  | chain op op' a b c iha ihb ihc =>
    refine s_lists (fun _ _ => rfl) (fun _ _ _ => rfl) (fun _ _ => rfl) (fun _ _ _ => rfl) fun X sc ls E hN g e h => ?_
    cases e <;> first | (cases h; done) | skip
    rename_i l os rs p
    rcases os with _ | ⟨o, _ | ⟨o', _ | ⟨_, _⟩⟩⟩ <;> first | (cases h; done) | skip
    rcases rs with _ | ⟨r, _ | ⟨r', _ | ⟨_, _⟩⟩⟩ <;> first | (cases h; done) | skip
    obtain ⟨h1, h6⟩ := band h
    obtain ⟨h1, h5⟩ := band h1
    obtain ⟨h1, h4⟩ := band h1
    obtain ⟨h1, h3⟩ := band h1
    obtain ⟨h1, h2⟩ := band h1
    have e1 := of_decide_eq_true h1
    have e2 := of_decide_eq_true h2
    subst e1 e2
    have hm : lastMarks [copOf op, copOf op'] [r, r'] = false := by simpa using h6
    exact ⟨s_chain g (iha.e X sc ls E hN g l h3).1 (ihb.e X sc ls E hN g r h4).1 (ihc.e X sc ls E hN g r' h5).1 hm, fun _ => s_chainT g (iha.e X sc ls E hN g l h3).1 (ihb.e X sc ls E hN g r h4).1 (ihc.e X sc ls E hN g r' h5).1 hm⟩
  | ife c a b ihc iha ihb =>
    refine s_lists (fun _ _ => rfl) (fun _ _ _ => rfl) (fun _ _ => rfl) (fun _ _ _ => rfl) fun X sc ls E hN g e h => ?_
    cases e <;> first | (cases h; done) | skip
    rename_i t l r p
    obtain ⟨h1, h4⟩ := band h
    obtain ⟨h1, h3⟩ := band h1
    obtain ⟨h1, h2⟩ := band h1
    exact ⟨s_ife ((ihc.e X sc ls E hN g t h2).2 h1) (iha.e X sc ls E hN g l h3).1 (ihb.e X sc ls E hN g r h4).1, fun q => by cases q⟩
  | anil =>
    refine ⟨fun X sc ls E hN g e h => (by cases h), fun X sc ls E _ _ es q => ?_, fun X sc ls E hN g op es pos h => (by cases h), fun X sc ls E _ _ o q => (by cases q), fun X sc ls E _ _ k iter tg q _ => (by cases q)⟩
    cases es with
    | nil => exact ⟨s_anil, rfl, rfl⟩
    | cons _ _ => cases q
  | acons a r iha ihr =>
    refine ⟨fun X sc ls E hN g e h => (by cases h), fun X sc ls E hN g es h => ?_, fun X sc ls E hN g op es pos h => (by cases h), fun X sc ls E _ _ o q => (by cases q), fun X sc ls E hN g k iter tg h ht => ?_⟩
    · cases es with
      | nil => cases h
      | cons e es =>
        obtain ⟨h1, h3⟩ := band h
        obtain ⟨h1, h2⟩ := band h1
        obtain ⟨k1, k2, k3⟩ := ihr.a X sc ls E hN g es h3
        exact ⟨s_acons h1 k2 (iha.e X sc ls E hN g e h2).1 k1, rfl, by simp [h1, k3]⟩
    · unfold chkI at h
      obtain ⟨h0, h⟩ := band h
      refine ⟨?_, not_set h0⟩
      cases k with
      | seq =>
        cases r <;> first | (cases h; done) | skip
        exact s_iseq (iha.e X sc ls E hN g iter h).1
      | range =>
        dsimp only at h
        split at h
        · obtain ⟨h1, h4⟩ := band h
          obtain ⟨h1, h3⟩ := band h1
          obtain ⟨h1, h5⟩ := band h1
          obtain ⟨h1, h2⟩ := band h1
          have e1 := of_decide_eq_true h1
          subst e1
          cases r <;> first | (cases h4; done) | skip
          exact s_irange1 g h2 h5 (iha.e X sc ls E hN g _ h3).1
        · obtain ⟨h1, h4⟩ := band h
          obtain ⟨h1, h6⟩ := band h1
          obtain ⟨h1, h3⟩ := band h1
          obtain ⟨h1, h5⟩ := band h1
          obtain ⟨h1, h2⟩ := band h1
          have e1 := of_decide_eq_true h1
          subst e1
          cases r with
          | acons b r2 =>
            cases r2 with
            | anil =>
              obtain ⟨q1, q2, _⟩ := ihr.a X sc ls E hN g [_] (band_and3 h6 h4)
              exact s_irange2 g h2 h5 h6 (s_acons h5 q2 (iha.e X sc ls E hN g _ h3).1 q1)
            | _ => cases h4
          | _ => cases h4
        · cases h
      | enum =>
        dsimp only at h
        split at h
        · obtain ⟨h1, h4⟩ := band h
          obtain ⟨h1, h3⟩ := band h1
          obtain ⟨h1, h5⟩ := band h1
          obtain ⟨h1, h2⟩ := band h1
          have e1 := of_decide_eq_true h1
          subst e1
          cases tg <;> first | (cases ht; done) | skip
          cases r <;> first | (cases h4; done) | skip
          obtain ⟨q1, q2, _⟩ := ihr.a X sc ls E hN g [] rfl
          exact s_ienum g h2 h5 (s_acons h5 q2 (iha.e X sc ls E hN g _ h3).1 q1)
        · cases h
      | zip =>
        dsimp only at h
        split at h
        · obtain ⟨h1, h4⟩ := band h
          obtain ⟨h1, h6⟩ := band h1
          obtain ⟨h1, h3⟩ := band h1
          obtain ⟨h1, h5⟩ := band h1
          obtain ⟨h1, h2⟩ := band h1
          have e1 := of_decide_eq_true h1
          subst e1
          cases tg <;> first | (cases ht; done) | skip
          cases r with
          | acons b r2 =>
            cases r2 with
            | anil =>
              obtain ⟨q1, q2, _⟩ := ihr.a X sc ls E hN g [_] (band_and3 h6 h4)
              exact s_izip g h2 h5 h6 (s_acons h5 q2 (iha.e X sc ls E hN g _ h3).1 q1)
            | _ => cases h4
          | _ => cases h4
        · obtain ⟨h1, h4⟩ := band h
          obtain ⟨h1, h6⟩ := band h1
          obtain ⟨h1, h3⟩ := band h1
          obtain ⟨h1, h5⟩ := band h1
          obtain ⟨h1, h2⟩ := band h1
          have e1 := of_decide_eq_true h1
          subst e1
          cases tg <;> first | (cases ht; done) | skip
          obtain ⟨q1, q2, q3⟩ := ihr.a X sc ls E hN g [_, _] h6
          cases r with
          | acons b r2 =>
            cases r2 with
            | acons c r3 =>
              cases r3 with
              | anil =>
                simp only [List.all_cons, List.all_nil, Bool.and_true, Bool.and_eq_true] at q3
                exact s_izip3 g h2 h5 q3.1 q3.2 (s_acons h5 q2 (iha.e X sc ls E hN g _ h3).1 q1)
              | _ => cases h4
            | _ => cases h4
          | _ => cases h4
        · cases h
  | tup a iha =>
    refine s_lists (fun _ _ => rfl) (fun _ _ _ => rfl) (fun _ _ => rfl) (fun _ _ _ => rfl) fun X sc ls E hN g e h => ?_
    cases e <;> first | (cases h; done) | skip
    rename_i es k p
    obtain ⟨k1, k2, k3⟩ := iha.a X sc ls E hN g es h
    exact s_plain (s_tup k2 k1) (fun _ => rfl)
  | lst m a iha =>
    refine s_lists (fun _ _ => rfl) (fun _ _ _ => rfl) (fun _ _ => rfl) (fun _ _ _ => rfl) fun X sc ls E hN g e h => ?_
    cases e <;> first | (cases h; done) | skip
    rename_i es p
    obtain ⟨k1, k2, k3⟩ := iha.a X sc ls E hN g es h
    exact s_plain (s_lst k2 k1) (fun _ => rfl)
  | idx a i iha ihi =>
    refine s_lists (fun _ _ => rfl) (fun _ _ _ => rfl) (fun _ _ => rfl) (fun _ _ _ => rfl) fun X sc ls E hN g e h => ?_
    cases e <;> first | (cases h; done) | skip
    rename_i l j p
    obtain ⟨h1, h3⟩ := band h
    obtain ⟨h1, h2⟩ := band h1
    exact s_plain (s_idx h1 (iha.e X sc ls E hN g l h2).1 (ihi.e X sc ls E hN g j h3).1) (fun _ => rfl)
  | sli m a lo hi iha ihl ihh =>
    refine s_lists (fun _ _ => rfl) (fun _ _ _ => rfl) (fun _ _ => rfl) (fun _ _ _ => rfl) fun X sc ls E hN g e h => ?_
    cases e <;> first | (cases h; done) | skip
    rename_i l j p
    cases j <;> first | (cases h; done) | skip
    rename_i p1 p2 st p3
    cases st <;> first | (cases h; done) | skip
    obtain ⟨h1, h3⟩ := band h
    obtain ⟨h1, h2⟩ := band h1
    exact s_plain (s_sli (iha.e X sc ls E hN g l h1).1 (ihl.o X sc ls E hN g p1 h2) (ihh.o X sc ls E hN g p2 h3)) (fun _ => rfl)
  | rev m a iha =>
    refine s_lists (fun _ _ => rfl) (fun _ _ _ => rfl) (fun _ _ => rfl) (fun _ _ _ => rfl) fun X sc ls E hN g e h => ?_
    unfold chkE at h
    try dsimp only at h
    split at h
    · exact s_plain (s_rev (iha.e X sc ls E hN g _ h).1) (fun _ => rfl)
    · cases h
  | call f a iha =>
    refine s_lists (fun _ _ => rfl) (fun _ _ _ => rfl) (fun _ _ => rfl) (fun _ _ _ => rfl) fun X sc ls E hN g e h => ?_
    unfold chkE at h
    try dsimp only at h
    split at h
    · obtain ⟨h1, h4⟩ := band h
      obtain ⟨h1, h3⟩ := band h1
      obtain ⟨h1, h2⟩ := band h1
      obtain ⟨k1, k2, k3⟩ := iha.a X sc ls E hN g _ h4
      exact s_plain (s_call g (of_decide_eq_true h1) h2 h3 k2 k3 k1) (fun _ => rfl)
    · cases h
  | bi b m a iha =>
    refine s_lists (fun _ _ => rfl) (fun _ _ _ => rfl) (fun _ _ => rfl) (fun _ _ _ => rfl) fun X sc ls E hN g e h => ?_
    unfold chkE at h
    try dsimp only at h
    split at h
    · obtain ⟨h1, h3⟩ := band h
      obtain ⟨h1, h2⟩ := band h1
      obtain ⟨k1, k2, k3⟩ := iha.a X sc ls E hN g _ h3
      exact s_plain (s_bi g (of_decide_eq_true h1) h2 k2 k3 k1) (fun _ => rfl)
    · cases h
  | isi a t iha =>
    refine s_lists (fun _ _ => rfl) (fun _ _ _ => rfl) (fun _ _ => rfl) (fun _ _ _ => rfl) fun X sc ls E hN g e h => ?_
    unfold chkE at h
    try dsimp only at h
    split at h
    · obtain ⟨h1, h6⟩ := band h
      obtain ⟨h1, h5⟩ := band h1
      obtain ⟨h1, h4⟩ := band h1
      obtain ⟨h1, h3⟩ := band h1
      obtain ⟨h1, h2⟩ := band h1
      have e1 := of_decide_eq_true h1
      subst e1
      exact s_plain (s_isi g h2 (of_decide_eq_true h3) h4 h5 (iha.e X sc ls E hN g _ h6).1) (fun _ => rfl)
    · cases h
  | comp k src tg own tst c e m ihs ihc ihe =>
    refine s_lists (fun _ _ => rfl) (fun _ _ _ => rfl) (fun _ _ => rfl) (fun _ _ _ => rfl) fun X sc ls E hN g z h => ?_
    subst hN
    obtain ⟨elt, t, iter, ifs, scope, pos, rfl, P⟩ := comp_parts ihs ihc ihe g h
    exact s_plain (PE.weak (peE_lc g.calm g.nd P.hi P.ok P.hg P.ht P.he P.hs) P.w) (fun _ => rfl)
  | any =>
    exact ⟨fun X sc ls E hN g e h => ⟨⟨fun _ _ _ _ _ _ ⟨_, _, _, _, _, h⟩ => h.elim⟩, fun _ => ⟨fun _ _ _ _ _ _ ⟨_, _, _, _, _, h⟩ => h.elim⟩⟩, fun X sc ls E _ _ es q => (by cases q), fun X sc ls E _ _ op es pos q => (by cases q), fun X sc ls E _ _ o q => (by cases q), fun X sc ls E _ _ k iter tg q _ => (by cases q)⟩
  | comp2 k src tg own k1 src1 tg1 own1 e m ihs ihs1 ihe =>
    refine s_lists (fun _ _ => rfl) (fun _ _ _ => rfl) (fun _ _ => rfl) (fun _ _ _ => rfl) fun X sc ls E hN g z h => ?_
    subst hN
    obtain ⟨elt, t, iter, t1, iter1, scope, pos, rfl, P⟩ := comp2_parts ihs ihs1 ihe g h
    exact s_plain (PE.weak (pe_lc2 g.calm g.nd P.hi P.ok P.hv P.hg (fun _ _ _ _ _ => pts_nil) P.hi1 P.hg1 (fun _ _ _ _ _ => pts_nil) P.he P.hs P.hs1) P.w) (fun _ => rfl)
  | join o e iho ihe =>
    refine s_lists (fun _ _ => rfl) (fun _ _ _ => rfl) (fun _ _ => rfl) (fun _ _ _ => rfl) fun X sc ls E hN g z h => ?_
    unfold chkE at h
    try dsimp only at h
    split at h
    · obtain ⟨h1, h6⟩ := band h
      obtain ⟨h1, h5⟩ := band h1
      obtain ⟨h1, h4⟩ := band h1
      obtain ⟨h1, h3⟩ := band h1
      obtain ⟨h1, h2⟩ := band h1
      have e1 := of_decide_eq_true h1
      subst e1
      exact s_plain (s_join h2 h3 h4 (iho.e X sc ls E hN g _ h5).1 (ihe.e X sc ls E hN g _ h6).1) (fun _ => rfl)
    · cases h
  | fld c a f iha =>
    refine s_lists (fun _ _ => rfl) (fun _ _ _ => rfl) (fun _ _ => rfl) (fun _ _ _ => rfl) fun X sc ls E hN g z h => ?_
    unfold chkE at h
    try dsimp only at h
    split at h
    · obtain ⟨h1, h4⟩ := band h
      obtain ⟨h1, h3⟩ := band h1
      obtain ⟨h1, h2⟩ := band h1
      have e1 := of_decide_eq_true h1
      subst e1
      exact s_plain (s_fld g (of_decide_eq_true h2) h3 (iha.e X sc ls E hN g _ h4).1) (fun _ => rfl)
    · cases h
  | meth gn c m o a iho iha =>
    refine s_lists (fun _ _ => rfl) (fun _ _ _ => rfl) (fun _ _ => rfl) (fun _ _ _ => rfl) fun X sc ls E hN g z h => ?_
    unfold chkE at h
    try dsimp only at h
    split at h
    · rename_i l x ap es cp
      obtain ⟨h1, h8⟩ := band h
      obtain ⟨h1, h7⟩ := band h1
      obtain ⟨h1, h6⟩ := band h1
      obtain ⟨h1, h5⟩ := band h1
      obtain ⟨h1, h4⟩ := band h1
      obtain ⟨h1, h3⟩ := band h1
      obtain ⟨h1, h2⟩ := band h1
      have e1 := of_decide_eq_true h1
      subst e1
      obtain ⟨k1, k2, k3⟩ := iha.a X sc ls E hN g _ h8
      cases es with
      | nil =>
        cases a with
        | anil => exact s_plain (s_meth0 g (of_decide_eq_true h2) (of_decide_eq_true h3) h4 h5 (iho.e X sc ls E hN g _ h7).1) (fun _ => rfl)
        | acons _ _ => cases h8
        | _ => cases k2
      | cons b es => exact s_plain (s_meth g (of_decide_eq_true h2) (of_decide_eq_true h3) h4 h5 (iho.e X sc ls E hN g _ h7).1 k2 k3 (of_decide_eq_true h6) k1) (fun _ => rfl)
    · cases h
  | new gn c a iha =>
    refine s_lists (fun _ _ => rfl) (fun _ _ _ => rfl) (fun _ _ => rfl) (fun _ _ _ => rfl) fun X sc ls E hN g z h => ?_
    unfold chkE at h
    try dsimp only at h
    split at h
    · obtain ⟨h1, h5⟩ := band h
      obtain ⟨h1, h4⟩ := band h1
      obtain ⟨h1, h3⟩ := band h1
      obtain ⟨h1, h2⟩ := band h1
      have e1 := of_decide_eq_true h1
      subst e1
      obtain ⟨k1, k2, k3⟩ := iha.a X sc ls E hN g _ h5
      exact s_plain (s_new g (of_decide_eq_true h2) h3 h4 k2 k3 k1) (fun _ => rfl)
    · cases h
  | lenO gn c a iha =>
    refine s_lists (fun _ _ => rfl) (fun _ _ _ => rfl) (fun _ _ => rfl) (fun _ _ _ => rfl) fun X sc ls E hN g z h => ?_
    unfold chkE at h
    try dsimp only at h
    split at h
    · obtain ⟨h1, h5⟩ := band h
      obtain ⟨h1, h4⟩ := band h1
      obtain ⟨h1, h3⟩ := band h1
      obtain ⟨h1, h2⟩ := band h1
      have e1 := of_decide_eq_true h1
      subst e1
      exact s_plain (s_lenO g (of_decide_eq_true h2) h3 h4 (iha.e X sc ls E hN g _ h5).1) (fun _ => rfl)
    · cases h
  | isc c a iha =>
    refine s_lists (fun _ _ => rfl) (fun _ _ _ => rfl) (fun _ _ => rfl) (fun _ _ _ => rfl) fun X sc ls E hN g z h => ?_
    unfold chkE at h
    try dsimp only at h
    split at h
    · obtain ⟨h1, h8⟩ := band h
      obtain ⟨h1, h7⟩ := band h1
      obtain ⟨h1, h6⟩ := band h1
      obtain ⟨h1, h5⟩ := band h1
      obtain ⟨h1, h4⟩ := band h1
      obtain ⟨h1, h3⟩ := band h1
      obtain ⟨h1, h2⟩ := band h1
      have e1 := of_decide_eq_true h1
      have e2 := of_decide_eq_true h2
      subst e1 e2
      exact s_plain (s_isc g (of_decide_eq_true h3) h4 h5 h6 h7 (iha.e X sc ls E hN g _ h8).1) (fun _ => rfl)
    · cases h
  | eqO ne gn c a b iha ihb =>
    refine s_lists (fun _ _ => rfl) (fun _ _ _ => rfl) (fun _ _ => rfl) (fun _ _ _ => rfl) fun X sc ls E hN g z h => ?_
    unfold chkE at h
    try dsimp only at h
    split at h
    · obtain ⟨h1, h6⟩ := band h
      obtain ⟨h1, h5⟩ := band h1
      obtain ⟨h1, h4⟩ := band h1
      obtain ⟨h1, h3⟩ := band h1
      obtain ⟨h1, h2⟩ := band h1
      have e1 := of_decide_eq_true h1
      subst e1
      rw [Bool.not_eq_true'] at h6
      exact ⟨s_eqO g (of_decide_eq_true h2) (of_decide_eq_true h3) (iha.e X sc ls E hN g _ h4).1 (ihb.e X sc ls E hN g _ h5).1 h6, fun _ => s_eqOT g (of_decide_eq_true h2) (of_decide_eq_true h3) (iha.e X sc ls E hN g _ h4).1 (ihb.e X sc ls E hN g _ h5).1 h6⟩
    · cases h
  | app o e iho ihe =>
    refine s_lists (fun _ _ => rfl) (fun _ _ _ => rfl) (fun _ _ => rfl) (fun _ _ _ => rfl) fun X sc ls E hN g z h => ?_
    unfold chkE at h
    try dsimp only at h
    split at h
    · obtain ⟨h1, h6⟩ := band h
      obtain ⟨h1, h5⟩ := band h1
      obtain ⟨h1, h4⟩ := band h1
      obtain ⟨h1, h3⟩ := band h1
      obtain ⟨h1, h2⟩ := band h1
      have e1 := of_decide_eq_true h1
      subst e1
      exact s_plain (s_app h2 h3 h4 (iho.e X sc ls E hN g _ h5).1 (ihe.e X sc ls E hN g _ h6).1) (fun _ => rfl)
    · cases h
  | pop o iho =>
    refine s_lists (fun _ _ => rfl) (fun _ _ _ => rfl) (fun _ _ => rfl) (fun _ _ _ => rfl) fun X sc ls E hN g z h => ?_
    unfold chkE at h
    try dsimp only at h
    split at h
    · obtain ⟨h1, h4⟩ := band h
      obtain ⟨h1, h3⟩ := band h1
      obtain ⟨h1, h2⟩ := band h1
      have e1 := of_decide_eq_true h1
      subst e1
      exact s_plain (s_pop h2 h3 (iho.e X sc ls E hN g _ h4).1) (fun _ => rfl)
    · cases h
  | popi o i iho ihi =>
    refine s_lists (fun _ _ => rfl) (fun _ _ _ => rfl) (fun _ _ => rfl) (fun _ _ _ => rfl) fun X sc ls E hN g z h => ?_
    unfold chkE at h
    try dsimp only at h
    split at h
    · obtain ⟨h1, h6⟩ := band h
      obtain ⟨h1, h5⟩ := band h1
      obtain ⟨h1, h4⟩ := band h1
      obtain ⟨h1, h3⟩ := band h1
      obtain ⟨h1, h2⟩ := band h1
      have e1 := of_decide_eq_true h1
      subst e1
      exact s_plain (s_popi h2 h3 h4 (iho.e X sc ls E hN g _ h5).1 (ihi.e X sc ls E hN g _ h6).1) (fun _ => rfl)
    · cases h
  | split m o e iho ihe =>
    refine s_lists (fun _ _ => rfl) (fun _ _ _ => rfl) (fun _ _ => rfl) (fun _ _ _ => rfl) fun X sc ls E hN g z h => ?_
    unfold chkE at h
    try dsimp only at h
    split at h
    · obtain ⟨h1, h6⟩ := band h
      obtain ⟨h1, h5⟩ := band h1
      obtain ⟨h1, h4⟩ := band h1
      obtain ⟨h1, h3⟩ := band h1
      obtain ⟨h1, h2⟩ := band h1
      have e1 := of_decide_eq_true h1
      subst e1
      exact s_plain (s_split h2 h3 h4 (iho.e X sc ls E hN g _ h5).1 (ihe.e X sc ls E hN g _ h6).1) (fun _ => rfl)
    · cases h
  | starts o e iho ihe =>
    refine s_lists (fun _ _ => rfl) (fun _ _ _ => rfl) (fun _ _ => rfl) (fun _ _ _ => rfl) fun X sc ls E hN g z h => ?_
    unfold chkE at h
    try dsimp only at h
    split at h
    · obtain ⟨h1, h6⟩ := band h
      obtain ⟨h1, h5⟩ := band h1
      obtain ⟨h1, h4⟩ := band h1
      obtain ⟨h1, h3⟩ := band h1
      obtain ⟨h1, h2⟩ := band h1
      have e1 := of_decide_eq_true h1
      subst e1
      exact s_plain (s_starts h2 h3 h4 (iho.e X sc ls E hN g _ h5).1 (ihe.e X sc ls E hN g _ h6).1) (fun _ => rfl)
    · cases h
  | repl o y z iho =>
    refine s_lists (fun _ _ => rfl) (fun _ _ _ => rfl) (fun _ _ => rfl) (fun _ _ _ => rfl) fun X sc ls E hN g z h => ?_
    cases h
  | opt a iha =>
    refine ⟨fun X sc ls E hN g e h => (by cases h), fun X sc ls E hN g es h => (by cases h), fun X sc ls E hN g op es pos h => (by cases h), fun X sc ls E hN g o h => ?_, fun X sc ls E hN g k iter tg h => (by cases h)⟩
    cases o with
    | none => cases h
    | some e => exact s_osome (iha.e X sc ls E hN g e h).1
  | last a iha =>
    refine ⟨fun X sc ls E hN g e h => (by cases h), fun X sc ls E hN g es h => (by cases h), fun X sc ls E hN g op es pos h => ?_, fun X sc ls E hN g o h => (by cases h), fun X sc ls E hN g k iter tg h => (by cases h)⟩
    rcases es with _ | ⟨e, _ | ⟨_, _⟩⟩ <;> first | (cases h; done) | skip
    obtain ⟨h1, h2⟩ := band h
    obtain ⟨k1, k2⟩ := iha.e X sc ls E hN g e h2
    refine ⟨pe_one k1, ?_⟩
    cases op with
    | And => exact pw_and1 (k2 h1)
    | Or => exact pw_or1 (k2 h1)
  | lrg1 m a iha =>
    refine s_lists (fun _ _ => rfl) (fun _ _ _ => rfl) (fun _ _ => rfl) (fun _ _ _ => rfl) fun X sc ls E hN g z h => ?_
    unfold chkE at h
    try dsimp only at h
    split at h
    · obtain ⟨h1, h6⟩ := band h
      obtain ⟨h1, h5⟩ := band h1
      obtain ⟨h1, h4⟩ := band h1
      obtain ⟨h1, h3⟩ := band h1
      obtain ⟨h1, h2⟩ := band h1
      have e1 := of_decide_eq_true h1
      have e2 := of_decide_eq_true h2
      subst e1 e2
      exact s_plain (s_lrg1 g h3 h4 h5 (iha.e X sc ls E hN g _ h6).1) (fun _ => rfl)
    · cases h
  | lrg2 m a b iha ihb =>
    refine s_lists (fun _ _ => rfl) (fun _ _ _ => rfl) (fun _ _ => rfl) (fun _ _ _ => rfl) fun X sc ls E hN g z h => ?_
    unfold chkE at h
    try dsimp only at h
    split at h
    · obtain ⟨h1, h8⟩ := band h
      obtain ⟨h1, h7⟩ := band h1
      obtain ⟨h1, h6⟩ := band h1
      obtain ⟨h1, h5⟩ := band h1
      obtain ⟨h1, h4⟩ := band h1
      obtain ⟨h1, h3⟩ := band h1
      obtain ⟨h1, h2⟩ := band h1
      have e1 := of_decide_eq_true h1
      have e2 := of_decide_eq_true h2
      subst e1 e2
      exact s_plain (s_lrg2 g h3 h4 h5 h6 (iha.e X sc ls E hN g _ h7).1 (ihb.e X sc ls E hN g _ h8).1) (fun _ => rfl)
    · cases h
end
end PV
end
section
set_option Elab.async false
set_option linter.all false
set_option maxRecDepth 100000
set_option maxHeartbeats 4000000
namespace PV
open PySem PySem.Spec PyProof.Rows L2
/-! ### exceptions: raise C(), and try: return e except C: return 'text' -/
section
variable {X : Cx} {C : Addr} {x : Str} {p pos : Pos}
theorem pmk0 {bmB : List Value} {B newId initId : String} (F : ExcBaseFacts B newId initId bmB) (q : PySem.W.excIn X.K C bmB newId = true) (gC : X.mg x = some (.ref C)) (kC : PySem.W.keepIn X.K (.ref C) = true) (r : Raises X (.ref C)) (hg : Gl X x)
    (hdb : (x == ("__debug__" : Str)) = false) : PMk X (.Call (.Name x p) [] [] pos) (fun _ H Q => Q (.ref C) none H) := by
  intro pins s σ H Q I h
  refine wpAny_Call_Name_kw (ld_glob I hg gC ?_ hdb)
  refine PySem.W.callWith_K0 I.kIn kC ?_
  obtain ⟨bm, N, nm, qn, bs, hdct, sn, sub, ab, col, dd, k0, k1, k2, k3, k5, mN, hC, hN, hni, T⟩ := exc_obj I.kIn q
  show wpAny _ _ (call (.ref C) []) _ _ _
  refine wpAny_call_exc_subT F T hC hN hni (fun h' e hm => ?_) (by show 0 ≤ sizeLine; omega)
  exact mk_of I hm r h (I.hok.gone hm.new)
end
structure ClsFacts (K : PySem.W.Frag) (mg : Str → Option Value) (cv : Nat → Value) (nc : Nat → Option Str) : Prop where
  cls : ∀ c x, nc c = some x → ∃ C, cv c = .ref C ∧ mg x = some (.ref C) ∧ PySem.W.excIn K C He.veBase "ValueError.__new__" = true ∧ PySem.W.keepIn K (.ref C) = true ∧ PySem.W.subIn K (.ref C) (.type "BaseException") = some true ∧ PySem.W.typeIn K (.ref C) = some (.type "type")
  exm : ∀ c c' x x', nc c = some x → nc c' = some x' → PySem.W.exmOne K (cv c) (cv c') = some (decide (c = c'))
/-- what statements may use besides -/
structure GoodX (X : Cx) (cv : Nat → Value) (nc : Nat → Option Str) (E : XK) : Prop where
  take : Takes X (fun cls d _ H => E cls d H)
  stk : X.stack = X.env :: X.outer
  frm : X.env.frame = some X.env.locals
  cf : ClsFacts X.K X.mg cv nc
  own : PassesOwn (model X.prog X.w) X.A X.env X.xe
section
variable {X : Cx} {sc : Scope} {nm : Nms} {nc : Nat → Option Str} {cv : Nat → Value} {F : Nat → List D → Store → R D} {E : XK}
theorem s_raise {c : Nat} {x : Str} {p pos pos' : Pos} (g : Good X sc sc nm cv F E) (gx : GoodX X cv nc E) (hn : nc c = some x) (hg : glB sc x = true) (hk : nameOk x = true) : PS X (.Raise (some (.Call (.Name x p) [] [] pos)) none pos') (tS X.K cv F E (.raise c)) := by
  obtain ⟨C, h1, h2, h3, h4, h5, h6⟩ := gx.cf.cls c x hn
  refine PS.weak (ps_raise g.calm gx.take (pmk0 PySem.F.excBase_ValueError h3 h2 h4 (raises_own h5 h6) (glB_of g.sc hg) (nameOk_of hk).1)) fun D σ H ⟨th, S, ρ, s, re, h⟩ => ?_
  have := h H th .refl s
  rw [h1] at this
  exact this
def chkH (nc : Nat → Option Str) (sc : Scope) : List (Nat × Str) → List ExceptHandler → Bool
  | [], [] => true
  | (c, s) :: hs, .ExceptHandler (some (.Name x _)) none [.Return (some (.Constant (.str z) _ _)) _] _ :: r => decide (nc c = some x) && (glB sc x && (nameOk x && (decide (s = z) && chkH nc sc hs r)))
  | _, _ => false
def hTS (s : Str) : Addr → Value → Option Addr → TS := fun _ _ _ D _ H => D.rt (.str s) H
theorem hds_ok (g : Good X sc sc nm cv F E) (gx : GoodX X cv nc E) : ∀ (hs : List (Nat × Str)) (r : List ExceptHandler), chkH nc sc hs r = true → HdsOk X r (hs.map fun p => (cv p.1, hTS p.2)) ∧ ∀ p, p ∈ hs → ∃ x, nc p.1 = some x
  | [], r, h => by
    cases r with
    | nil => exact ⟨.nil, fun p hp => nomatch hp⟩
    | cons _ _ => cases h
  | (c, s) :: hs, r, h => by
    unfold chkH at h
    split at h
    · rename_i e; cases e
    · rename_i c' s' hs' x np z j pc pr ph r' e
      cases e
      simp only [Bool.and_eq_true, decide_eq_true_eq] at h
      obtain ⟨h1, h2, h3, rfl, h5⟩ := h
      obtain ⟨k1, k2⟩ := hds_ok g gx hs r' h5
      obtain ⟨C, q1, q2, _⟩ := gx.cf.cls c x h1
      refine ⟨?_, fun p hp => ?_⟩
      · refine HdsOk.cons ⟨glB_of g.sc h2, (nameOk_of h3).1, .inl (by rw [q2, q1])⟩ (fun a oe cls d pn _ _ => ?_) k1
        exact PSs.weak (pss_one (ps_ret pe_str)) fun D σ H h => h
      · rcases List.mem_cons.mp hp with rfl | hp
        · exact ⟨x, h1⟩
        · exact k2 p hp
    · cases h
theorem many_ok (gx : GoodX X cv nc E) {D : Ends} {c : Nat} {x : Str} {H : Hp} {p : Nat × Str} (hc : nc c = some x) {Wout : WX} (hD : D.rt (.str p.2) H) : ∀ (hs : List (Nat × Str)), (∀ p, p ∈ hs → ∃ x, nc p.1 = some x) → hs.find? (fun p => p.1 == c) = some p → ∀ σ, wMany X.K Wout D (hs.map fun p => (cv p.1, hTS p.2)) (cv c) none σ H
  | [], _, h, σ => by cases h
  | q :: hs, hn, h, σ => by
    obtain ⟨y, hy⟩ := hn q List.mem_cons_self
    have he := gx.cf.exm c q.1 x y hc hy
    refine ⟨_, he, fun hb a ha => ?_, fun hb => ?_⟩
    · have hb := of_decide_eq_true hb
      rw [List.find?_cons_of_pos (by simp [hb])] at h
      cases h
      exact hD
    · have hb := of_decide_eq_false hb
      rw [List.find?_cons_of_neg (by simp; exact fun z => hb z.symm)] at h
      exact many_ok gx hc hD hs (fun p hp => hn p (List.mem_cons_of_mem _ hp)) h σ
theorem Good.toTry (g : Good X sc sc nm cv F E) (gx : GoodX X cv nc E) {pn : List (Addr × Obj)} {xe : Value → Shared → Prop} {W : WX} (tk : Takes (X.tr pn xe) W) : Good (X.tr pn xe) sc sc nm cv F (fun cls d H => ∀ σ, W cls d σ H) :=
  ⟨g.sc, g.kind, g.calm, g.nd, fun f x h => ⟨(g.call f x h).ok⟩, fun f c m h => ⟨(g.meth f c m h).ok⟩, g.insc, g.attr, passes_call tk (fun _ _ σ _ h => h σ), Fly.of_takes gx.stk gx.frm (tk.imp fun _ _ σ _ h => h σ), g.units, g.blt, g.st⟩
theorem s_try {ie : Ex} {hs : List (Nat × Str)} {e : Expr} {rp pos : Pos} {h₀ : ExceptHandler} {hds : List ExceptHandler} (g : Good X sc sc nm cv F E) (gx : GoodX X cv nc E)
    (he : ∀ (X' : Cx) (E' : XK), X'.N = X.N → Good X' sc sc nm cv F E' → PE X' e (tE X'.K cv F E' ie)) (hh : chkH nc sc hs (h₀ :: hds) = true) :
    PS X (.Try [.Return (some e) rp] (h₀ :: hds) [] [] pos) (tS X.K cv F E (.tryR ie hs)) := by
  obtain ⟨hk, hn⟩ := hds_ok g gx hs (h₀ :: hds) hh
  refine PS.weak (ps_try_many (tb := fun W D σ H => tE X.K cv F (fun cls d H => ∀ σ, W cls d σ H) ie σ H D.rt) gx.stk gx.frm gx.take (fun W pn xe tk po => ?_) hk) fun D σ H ⟨th, S, ρ, s, re, h⟩ => ?_
  · exact PSs.weak (pss_one (ps_ret (he (X.tr pn xe) _ rfl (g.toTry gx tk)))) fun D σ H h => h
  · refine ⟨th, S, ρ, s, re, ?_⟩
    have h : PostS X.K cv E H th (match ev F ie ρ S with
      | .ok d S1 => .ret d S1
      | .exc c S1 => (match hs.find? (fun p => p.1 == c) with | some p => .ret (.str p.2) S1 | none => .err)
      | .err => .err) (RepE X.K) D := h
    cases hx : ev F ie ρ S with
    | ok d S1 => rw [hx] at h; exact h
    | err => rw [hx] at h; exact h.elim
    | exc c S1 =>
      rw [hx] at h
      dsimp only at h
      cases hf : hs.find? (fun p => p.1 == c) with
      | none => rw [hf] at h; exact h.elim
      | some p =>
        rw [hf] at h
        intro H' th' e' s'
        have hp := List.mem_of_find?_eq_some hf
        have hpc : p.1 = c := by have := List.find?_some hf; simpa using this
        obtain ⟨x, hx⟩ := hn p hp
        rw [hpc] at hx
        exact many_ok gx hx (h (.str p.2) H' th' e' s' (.str _)) hs hn hf
end
end PV
end
section
set_option Elab.async false
set_option linter.all false
set_option maxRecDepth 100000
set_option maxHeartbeats 4000000
namespace PV
open PySem PySem.Spec PyProof.Rows L2
/-! ### the look, for statements -/
def notComp : Expr → Bool
  | .ListComp .. => false
  | .SetComp .. => false
  | .DictComp .. => false
  | _ => true
def isComp : Ex → Bool
  | .comp .. => true
  | .comp2 .. => true
  | _ => false
def isLoc (sc : Scope) (x : Str) : Bool := match sc.names.lookup x with | some .local => true | _ => false
/-- y = [..] where the store is part of the comprehension -/
def swapB (sc : Scope) (y : Str) (py : Pos) : Expr → Bool
  | .ListComp _ _ scope pos => isLoc sc y && (py.line == pos.line) && !(scope.names.any fun (n, k) => n == y && (k == .local || k == .cell))
  | _ => false
def isCel (sc : Scope) (x : Str) : Bool := match sc.names.lookup x with | some .cell => true | _ => false
/-- a list whose first item is a text: a token is out behind it -/
def tokS : PV.St → Stmt → Bool
  | .set _ (.lst false (.acons (.str _) _)), .Assign [.Name _ _] (.List (.Constant (.str _) _ _ :: _) _) _ => true
  | _, _ => false
section
variable (N : List Str) (nm : Nms) (nc : Nat → Option Str)
/-- a list and a text with a sign replaced -/
def chkRI : Ex → Scope → Expr → Bool
  | .acons (.bin .add false l (.lst false (.acons (.repl o y z) .anil))) .anil, sc, .BinOp el .Add (.List [.Call (.Attribute eo x ap) [.Constant (.str y') _ _, .Constant (.str z') _ _] [] cp] _) _ =>
      decide (x = ("replace" : Str)) && decide (y' = y) && decide (z' = z) && !(y == z) && (ap.endLine == cp.line) && notCall0 eo && chkE N nm l sc el && chkE N nm o sc eo
  | _, _, _ => false
mutual
def chkS : PV.St → Scope → Stmt → Bool
  | .set i e, sc, st => (match st with
    | .Assign [.Name x px] v _ => decide (N[i]? = some x) && locB sc x && chkE N nm e sc v && ((notComp v || isCel sc x) || (swapB sc x px v && isComp e))
    | _ => false)
  | .unp is e, sc, st => (match st with
    | .Assign [.Tuple ts _ _] v _ => chkNames N sc is ts && chkE N nm e sc v && notComp v && (match v with
        | .Tuple vs _ _ => (match is, ts, vs, e with
          | [i, j], [.Name x px, .Name y py], [a, b], .tup (.acons ia (.acons ib .anil)) =>
              if isLoc sc x && isLoc sc y && (py.line == px.line) && !(vs.all (foldedForSure 8)) then !(vs.all (constantsAlone 8)) && decide (i ≠ j) && decide (x ≠ y) && plainA a && plainA b
              else (!(isLoc sc x && (px.line == px.line)) || !(isLoc sc y && (py.line == px.line)) || vs.all (foldedForSure 8)) && plainA a && plainA b && decide (x ≠ y)
          | [i, j, l], [.Name x px, .Name y py, .Name z pz], [a, b, c], .tup (.acons ia (.acons ib (.acons ic .anil))) =>
              vs.all (foldedForSure 8) || (!(isLoc sc x && (isLoc sc y && isLoc sc z)) && (plainA a && (plainA b && plainA c))) || (isLoc sc x && (isLoc sc y && (isLoc sc z && ((py.line == px.line) && ((pz.line == px.line) && (!(vs.all (foldedForSure 8)) && (!(vs.all (constantsAlone 8)) && (decide (i ≠ j) && (decide (i ≠ l) && (decide (j ≠ l) && (decide (x ≠ y) && (decide (x ≠ z) && (decide (y ≠ z) && (plainA a && (plainA b && plainA c)))))))))))))))
          | [_, _, _, _], [_, _, _, _], [_, _, _, _], .tup _ => true
          | _, _, _, _ => false)
        | _ => true)
    | _ => false)
  | .setI o i e, sc, st => (match st with
    | .Assign [.Subscript eo ei _] v _ => notSl ei && chkE N nm o sc eo && chkE N nm i sc ei && chkE N nm e sc v
    | _ => false)
  | .expr e, sc, st => (match st with | .Expr v _ => notComp v && chkE N nm e sc v | _ => false)
  | .ret e, sc, st => (match st with | .Return (some v) _ => chkE N nm e sc v | _ => false)
  | .ifs c a b, sc, st => (match st with | .If t p q _ => notIf t && chkE N nm c sc t && chkSs a sc p && chkSs b sc q | _ => false)
  | .for_ k src tg b, sc, st => (match st with | .For t iter body [] _ => ikTg k t && chkI N nm k src sc iter && chkTg N sc tg t && chkSs b sc body | _ => false)
  | .while_ _ c b, sc, st => (match st with | .While t body [] _ => notIf t && chkE N nm c sc t && chkSs b sc body | _ => false)
  | .raise c, sc, st => (match st with | .Raise (some (.Call (.Name x _) [] [] _)) none _ => decide (nc c = some x) && (glB sc x && nameOk x) | _ => false)
  | .tryR e hs, sc, st => (match st with | .Try [.Return (some v) _] (h0 :: hds) [] [] _ => chkE N nm e sc v && chkH nc sc hs (h0 :: hds) | _ => false)
  | .setI2 o i o' i' e, sc, st => (match st with
    | .Assign [.Tuple [.Subscript eo ei _, .Subscript eo' ei' _] _ _] v _ => notSl ei && notSl ei' && chkE N nm o sc eo && chkE N nm i sc ei && chkE N nm o' sc eo' && chkE N nm i' sc ei' && chkE N nm e sc v && notComp v
    | _ => false)
  | .any, _, _ => true
  | .setF c o f e, sc, st => (match st with | .Assign [.Attribute eo x _] v _ => decide (x = f) && decide ((c, f) ∈ nm.a) && chkE N nm o sc eo && chkE N nm e sc v && notComp v | _ => false)
  | .setSl o lo hi e, sc, st => (match st with
    | .Assign [.Subscript eo (.Slice (some el) (some eh) none _) _] v _ => chkE N nm o sc eo && chkO N nm lo sc (some el) && chkO N nm hi sc (some eh) && chkE N nm e sc v && notComp v
    | _ => false)
  | .skip, _, _ => false
  | .seq _ _, _, _ => false
def chkT : PV.St → Scope → Stmt → Bool
  | .for_ .seq src tg b, sc, st => (match st with | .For t iter body [] _ => chkRI N nm src sc iter && chkTg N sc tg t && chkSs b sc body | _ => false)
  | _, _, _ => false
def chkSsT : PV.St → Scope → List Stmt → Bool
  | .seq a b, sc, sts => (match sts with | st :: r => chkT a sc st && chkSs b sc r | _ => false)
  | _, _, _ => false
def chkSs : PV.St → Scope → List Stmt → Bool
  | .skip, _, sts => (match sts with | [] => true | _ => false)
  | .seq a b, sc, sts => (match sts with | st :: r => (chkS a sc st && chkSs b sc r) || (tokS a st && (chkS a sc st && chkSsT b sc r)) | _ => false)
  | _, _, _ => false
end
end
section
variable {X : Cx} {sc : Scope} {nm : Nms} {cv : Nat → Value} {F : Nat → List D → Store → R D} {E : XK} {tg : Expr}
variable {ia ib ic : Ex} {a b c : Expr} {pos : Pos}
theorem swaps_not {v : Expr} {t : Option Expr} {l : Nat} {env : PySem.Env} (h : notComp v = true) : swapsWith v t l env = pure false := by
  cases v <;> first | rfl | (cases h)
theorem PostS.nx {K : PySem.W.Frag} {H : Hp} {th : Th} {S : Store} {ρ : PV.Env} {σ : L2.St} {D : Ends} (h : PostS K cv E H th (.nx ρ S) (RepE K) D) (s : Sim K H th S) (r : RepE K H th ρ σ) : D.nx σ H := h σ H th .refl s r
/-- from an expression to a statement -/
theorem PostS.ofE {K : PySem.W.Frag} {H : Hp} {th : Th} {D : Ends} {r : R PV.D} {f : PV.D → Store → SR} (h : PostS K cv E H th (match r with | .ok d S1 => f d S1 | .exc c S1 => .exc c S1 | .err => .err) (RepE K) D)
    {Q : VK} (hq : ∀ d S1 v H1 th1, Ext H th H1 th1 → Sim K H1 th1 S1 → Rep K H1 th1 d v → PostS K cv E H1 th1 (f d S1) (RepE K) D → Q v H1) : Post K cv E H th r Q := by
  cases r with
  | ok d S1 => exact fun v H1 th1 e1 s1 r1 => hq d S1 v H1 th1 e1 s1 r1 (PostS.back e1 h)
  | exc c S1 => exact h
  | err => exact h
theorem s_set {i : Nat} {x : Str} {px : Pos} {e : Ex} {v : Expr} (g : Good X sc sc nm cv F E) (h1 : X.N[i]? = some x) (h2 : locB sc x = true) (hv : PE X v (tE X.K cv F E e)) (hs : swapsWith v (some (.Name x px)) pos.line X.env = pure false) :
    PS X (.Assign [.Name x px] v pos) (tS X.K cv F E (.set i e)) := by
  obtain ⟨l1, l2⟩ := g.st x (locB_of h2)
  refine PS.weak (ps_set g.nd h1 l1 hv hs l2) fun D σ H ⟨th, S, ρ, s, re, h⟩ => ?_
  exact ⟨th, S, ρ, s, re, PostS.ofE (f := fun d S1 => .nx (ρ.set i (some d)) S1) h fun d S1 v H1 th1 e1 s1 r1 h1 => PostS.nx h1 s1 ((re.mono e1).set i r1)⟩
theorem s_unp {is : List Nat} {ts : List Expr} {k : Nat} {pt : Pos} {e : Ex} {v : Expr} (g : Good X sc sc nm cv F E) (h1 : chkNames X.N sc is ts = true) (hv : PE X v (tE X.K cv F E e)) (hn : notComp v = true) (hw : swappedStores [.Tuple ts k pt] v X.env = pure none) :
    PS X (.Assign [.Tuple ts k pt] v pos) (tS X.K cv F E (.unp is e)) := by
  have hg : PG X (.Tuple ts k pt) (gOf X.K (.tup is)) := s_tg g h1
  refine PS.weak (ps_asg hv hg (by show swapsWith v (some (.Tuple ts k pt)) pos.line X.env = pure false; exact swaps_not hn) hw rfl) fun D σ H ⟨th, S, ρ, s, re, h⟩ => ?_
  refine ⟨th, S, ρ, s, re, PostS.ofE (f := fun d S1 => (match put (.tup is) d ρ with | some ρ1 => .nx ρ1 S1 | none => .err)) h fun d S1 v H1 th1 e1 s1 r1 h1 => ?_⟩
  cases hp : put (.tup is) d ρ with
  | none => rw [hp] at h1; exact h1.elim
  | some ρ1 => rw [hp] at h1; exact put_ok hp r1 (re.mono e1) fun σ1 rs _ => PostS.nx h1 s1 rs
theorem s_expr {e : Ex} {v : Expr} (hv : PE X v (tE X.K cv F E e)) (hn : notComp v = true) : PS X (.Expr v pos) (tS X.K cv F E (.expr e)) := by
  refine PS.weak (ps_expr hv (swaps_not hn)) fun D σ H ⟨th, S, ρ, s, re, h⟩ => ?_
  exact ⟨th, S, ρ, s, re, PostS.ofE (f := fun d S1 => .nx ρ S1) h fun d S1 v H1 th1 e1 s1 r1 h1 => PostS.nx h1 s1 (re.mono e1)⟩
theorem s_ret {e : Ex} {v : Expr} (hv : PE X v (tE X.K cv F E e)) : PS X (.Return (some v) pos) (tS X.K cv F E (.ret e)) := by
  refine PS.weak (ps_ret hv) fun D σ H ⟨th, S, ρ, s, re, h⟩ => ?_
  exact ⟨th, S, ρ, s, re, PostS.ofE (f := fun d S1 => .ret d S1) h fun d S1 v H1 th1 e1 s1 r1 h1 => h1 v H1 th1 .refl s1 r1⟩
theorem s_ifs {ib ic' : PV.St} {p q : List Stmt} (hc : PT X c (tT X.K cv F E ic)) (hp : PSs X p (tS X.K cv F E ib)) (hq : PSs X q (tS X.K cv F E ic')) : PS X (.If c p q pos) (tS X.K cv F E (.ifs ic ib ic')) := by
  refine PS.weak (ps_if hc hp hq) fun D σ H ⟨th, S, ρ, s, re, h⟩ => ?_
  refine ⟨th, S, ρ, s, re, ?_⟩
  have h : PostS X.K cv E H th (match evT F ic ρ S with | .ok true S1 => ex F ib ρ S1 | .ok false S1 => ex F ic' ρ S1 | .exc c S1 => .exc c S1 | .err => .err) (RepE X.K) D := h
  cases hx : evT F ic ρ S with
  | ok k S1 =>
    rw [hx] at h
    intro H1 th1 e1 s1
    cases k with
    | true => rw [if_pos rfl]; exact ⟨th1, S1, ρ, s1, re.mono e1, PostS.back e1 h⟩
    | false => rw [if_neg (by decide)]; exact ⟨th1, S1, ρ, s1, re.mono e1, PostS.back e1 h⟩
  | exc c S1 => rw [hx] at h; exact h
  | err => rw [hx] at h; exact h
theorem s_nil : PSs X [] (tS X.K cv F E .skip) := PSs.weak pss_nil fun D σ H ⟨th, S, ρ, s, re, h⟩ => PostS.nx h s re
theorem s_seq {is it : PV.St} {st : Stmt} {r : List Stmt} (h1 : PS X st (tS X.K cv F E is)) (h2 : PSs X r (tS X.K cv F E it)) : PSs X (st :: r) (tS X.K cv F E (.seq is it)) := by
  refine PSs.weak (pss_cons h1 h2) fun D σ H ⟨th, S, ρ, s, re, h⟩ => ?_
  refine ⟨th, S, ρ, s, re, ?_⟩
  have h : PostS X.K cv E H th (match ex F is ρ S with | .nx ρ1 S1 => ex F it ρ1 S1 | r => r) (RepE X.K) D := h
  cases hx : ex F is ρ S with
  | nx ρ1 S1 =>
    rw [hx] at h
    exact fun σ1 H1 th1 e1 s1 r1 => ⟨th1, S1, ρ1, s1, r1, PostS.back e1 h⟩
  | ret d S1 => rw [hx] at h; exact h
  | exc c S1 => rw [hx] at h; exact h
  | err => rw [hx] at h; exact h
theorem s_setI {o i e : Ex} {eo ei v : Expr} {pt : Pos} (hsl : notSl ei = true) (ho : PE X eo (tE X.K cv F E o)) (hi : PE X ei (tE X.K cv F E i)) (hv : PE X v (tE X.K cv F E e)) : PS X (.Assign [.Subscript eo ei pt] v pos) (tS X.K cv F E (.setI o i e)) := by
  have hg := pg_sub (pos := pt) ho hi (set_list (X := X)) (by intro v; cases ei <;> first | rfl | (cases hsl))
  refine PS.weak (ps_asg hv hg (by cases v <;> rfl) (by rfl) (by rfl)) fun D σ H ⟨th, S, ρ, s, re, h⟩ => ?_
  refine ⟨th, S, ρ, s, re, ?_⟩
  have h : PostS X.K cv E H th (match (ev F e ρ S).bind fun d S1 => (ev F o ρ S1).bind fun x S2 => (ev F i ρ S2).bind fun y S3 => (match setD x y d S3 with | some S4 => .ok () S4 | none => .err) with
    | .ok _ S4 => .nx ρ S4 | .exc c S1 => .exc c S1 | .err => .err) (RepE X.K) D := h
  cases hx : ev F e ρ S with
  | exc c S1 => rw [hx] at h; exact h
  | err => rw [hx] at h; exact h
  | ok d S1 =>
    rw [hx] at h
    simp only [bind_ok] at h
    intro v H1 th1 e1 s1 r1
    refine ⟨th1, S1, ρ, s1, re.mono e1, ?_⟩
    cases hy : ev F o ρ S1 with
    | exc c S2 => rw [hy] at h; exact fun H2 th2 e2 s2 => h H2 th2 (e1.trans e2) s2
    | err => rw [hy] at h; exact h
    | ok x S2 =>
      rw [hy] at h
      simp only [bind_ok] at h
      intro vo H2 th2 e2 s2 r2
      refine ⟨th2, S2, ρ, s2, (re.mono e1).mono e2, ?_⟩
      cases hz : ev F i ρ S2 with
      | exc c S3 => rw [hz] at h; exact fun H3 th3 e3 s3 => h H3 th3 (e1.trans (e2.trans e3)) s3
      | err => rw [hz] at h; exact h
      | ok y S3 =>
        rw [hz] at h
        simp only [bind_ok] at h
        intro vi H3 th3 e3 s3 r3
        cases hd : setD x y d S3 with
        | none => rw [hd] at h; exact h.elim
        | some S4 =>
          rw [hd] at h
          have h : PostS X.K cv E H th (.nx ρ S4) (RepE X.K) D := h
          have r2 := r2.mono e3
          cases r2 with
          | @loc p n hn =>
            cases r3 with
            | int k =>
              have hd : (match S3[n]? with
                | some (.lst xs) => (match PV.ixN xs.length k with | some j => some (S3.set n (.lst (xs.set j d))) | none => none)
                | _ => none) = some S4 := hd
              cases hs : S3[n]? with
              | none => rw [hs] at hd; cases hd
              | some cl =>
                rw [hs] at hd
                cases cl with
                | ins c fs => cases hd
                | lst xs =>
                  dsimp only at hd
                  cases hj : PV.ixN xs.length k with
                  | none => rw [hj] at hd; cases hd
                  | some j =>
                    rw [hj] at hd
                    cases hd
                    obtain ⟨p', ws, k1, k2, k3⟩ := s3.at hs
                    rw [hn] at k1; cases k1
                    refine ⟨p, ws, k, j, rfl, rfl, k2, by rw [← k3.length]; exact hj, ?_⟩
                    have rr := (r1.mono e2).mono e3
                    have e4 : Ext H3 th3 (upd H3 p (.lst (ws.set j v))) th3 := Ext.wrote (List.mem_of_getElem? hn) k2 _
                    exact h σ _ th3 (e1.trans (e2.trans (e3.trans e4))) (s3.wrote hn k2 (k3.set rr j)) (((re.mono e1).mono e2).mono (e3.trans e4))
            | _ => cases hd
          | _ => cases hd
/-- an item is stored to -/
theorem g_item {o i : Ex} {d : PV.D} {v : V} {σ : L2.St} {H : Hp} {th : Th} {S : Store} {ρ : PV.Env} {Q : L2.St → Hp → Prop} (s : Sim X.K H th S) (re : RepE X.K H th ρ σ) (rd : Rep X.K H th d v)
    (h : (match (ev F o ρ S).bind fun x S2 => (ev F i ρ S2).bind fun y S3 => putR x y d S3 with
      | .ok _ S4 => ∀ H' th', Ext H th H' th' → Sim X.K H' th' S4 → Q σ H'
      | .exc c S4 => ∀ H' th', Ext H th H' th' → Sim X.K H' th' S4 → E (cv c) none H'
      | .err => False)) : gSub (tE X.K cv F E o) (tE X.K cv F E i) rSetL v σ H Q := by
  refine ⟨th, S, ρ, s, re, ?_⟩
  cases hy : ev F o ρ S with
  | exc c S2 => rw [hy] at h; exact h
  | err => rw [hy] at h; exact h
  | ok x S2 =>
    rw [hy] at h
    simp only [bind_ok] at h
    intro vo H2 th2 e2 s2 r2
    refine ⟨th2, S2, ρ, s2, re.mono e2, ?_⟩
    cases hz : ev F i ρ S2 with
    | exc c S3 => rw [hz] at h; exact fun H3 th3 e3 s3 => h H3 th3 (e2.trans e3) s3
    | err => rw [hz] at h; exact h
    | ok y S3 =>
      rw [hz] at h
      simp only [bind_ok] at h
      intro vi H3 th3 e3 s3 r3
      unfold putR at h
      cases hd : setD x y d S3 with
      | none => rw [hd] at h; exact h.elim
      | some S4 =>
        rw [hd] at h
        dsimp only at h
        have r2 := r2.mono e3
        cases r2 with
        | @loc p n hn =>
          cases r3 with
          | int k =>
            have hd : (match S3[n]? with
              | some (.lst xs) => (match PV.ixN xs.length k with | some j => some (S3.set n (.lst (xs.set j d))) | none => none)
              | _ => none) = some S4 := hd
            cases hs : S3[n]? with
            | none => rw [hs] at hd; cases hd
            | some cl =>
              rw [hs] at hd
              cases cl with
              | ins c fs => cases hd
              | lst xs =>
                dsimp only at hd
                cases hj : PV.ixN xs.length k with
                | none => rw [hj] at hd; cases hd
                | some j =>
                  rw [hj] at hd
                  cases hd
                  obtain ⟨p', ws, k1, k2, k3⟩ := s3.at hs
                  rw [hn] at k1; cases k1
                  refine ⟨p, ws, k, j, rfl, rfl, k2, by rw [← k3.length]; exact hj, ?_⟩
                  have rr := (rd.mono e2).mono e3
                  have e4 : Ext H3 th3 (upd H3 p (.lst (ws.set j v))) th3 := Ext.wrote (List.mem_of_getElem? hn) k2 _
                  exact h _ th3 (e2.trans (e3.trans e4)) (s3.wrote hn k2 (k3.set rr j))
          | _ => cases hd
        | _ => cases hd
theorem s_setF {o e : Ex} {cl f : Str} {eo v : Expr} {pt : Pos} (g : Good X sc sc nm cv F E) (hm : (cl, f) ∈ nm.a) (ho : PE X eo (tE X.K cv F E o)) (hv : PE X v (tE X.K cv F E e)) (hn : notComp v = true) : PS X (.Assign [.Attribute eo f pt] v pos) (tS X.K cv F E (.setF cl o f e)) := by
  obtain ⟨c1, c2⟩ := g.attr _ hm
  refine PS.weak (ps_fld ho hv (swaps_not hn)) fun D σ H ⟨th, S, ρ, s, re, h⟩ => ?_
  refine ⟨th, S, ρ, s, re, ?_⟩
  have h : PostS X.K cv E H th (match (ev F e ρ S).bind fun d S1 => (ev F o ρ S1).bind fun x S2 => (match setFD cl f x d S2 with | some S4 => .ok () S4 | none => .err) with
    | .ok _ S4 => .nx ρ S4 | .exc c S1 => .exc c S1 | .err => .err) (RepE X.K) D := h
  cases hx : ev F e ρ S with
  | exc c S1 => rw [hx] at h; exact h
  | err => rw [hx] at h; exact h
  | ok d S1 =>
    rw [hx] at h
    simp only [bind_ok] at h
    intro v H1 th1 e1 s1 r1
    refine ⟨th1, S1, ρ, s1, re.mono e1, ?_⟩
    cases hy : ev F o ρ S1 with
    | exc c S2 => rw [hy] at h; exact fun H2 th2 e2 s2 => h H2 th2 (e1.trans e2) s2
    | err => rw [hy] at h; exact h
    | ok x S2 =>
      rw [hy] at h
      simp only [bind_ok] at h
      intro vo H2 th2 e2 s2 r2
      cases hd : setFD cl f x d S2 with
      | none => rw [hd] at h; exact h.elim
      | some S4 =>
        rw [hd] at h
        cases hi : PV.insAt cl x S2 with
        | none =>
          unfold setFD at hd
          cases x <;> first | (cases hd; done) | (rw [hi] at hd; cases hd)
        | some fs =>
          obtain ⟨n, p, dx, vs, rfl, rfl, h2, h3, h4⟩ := s2.insAt r2 hi
          unfold setFD at hd
          rw [hi] at hd
          dsimp only at hd
          split at hd
          · rename_i hl
            cases hd
            have rr := r1.mono e2
            have e4 : Ext H2 th2 (upd H2 p (.ins (He.ga X.K cl) dx (L2.putF f v vs))) th2 := Ext.wroteI (List.mem_of_getElem? h2) h3 _
            refine ⟨p, _, dx, vs, rfl, h3, c1, c2, by rw [← h4.length]; exact hl, ?_⟩
            exact h _ _ th2 (e1.trans (e2.trans e4)) (s2.wroteI h2 h3 (h4.put f rr)) (((re.mono e1).mono e2).mono e4)
          · cases hd
/-- o[lo:hi] = .. -/
def rSetSl : V → Option Int → Option Int → V → Hp → (Hp → Prop) → Prop := fun o l u v H Q => ∃ p b xs ys a c, o = .ref p ∧ v = .ref b ∧ l = some a ∧ u = some c ∧ H p = some (.lst xs) ∧ H b = some (.lst ys) ∧ p ≠ b ∧ 0 ≤ a ∧ a ≤ c ∧ c ≤ xs.length ∧ xs.length + ys.length ≤ sizeLine ∧ Q (upd H p (.lst (xs.take a.toNat ++ ys ++ xs.drop c.toNat)))
def gSl (to : TE) (tl th : TO) : TG := fun v σ H Q => to σ H fun o H1 => tl σ H1 fun l H2 => th σ H2 fun u H3 => rSetSl o l u v H3 fun H4 => Q σ H4
theorem pg_sl {o : Expr} {lo hi : Option Expr} {to : TE} {tl th : TO} {p2 : Pos} (ho : PE X o to) (hl : PO X lo tl) (hh : PO X hi th)
    (ha : ∀ v, assign (.Subscript o (.Slice lo hi none p2) pos) X.env v = (do
      let ov ← holding [v] (eval o X.env)
      let iv ← holding [v, ov] (eval (.Slice lo hi none p2) X.env)
      standAt pos
      holding [v, ov, iv] (setItem ov iv v)
      release [iv, v, ov] []) := by intro _; rfl) : PG X (.Subscript o (.Slice lo hi none p2) pos) (gSl to tl th) := by
  refine ⟨fun pins s σ H v u Q I r h => ?_⟩
  rw [ha]
  refine wpAny_bind (wpAny_holding (thn (ho.run pins s σ H _ I h) fun ov s1 ⟨x, H1, I1, r1, q1⟩ => ?_))
  refine wpAny_bind (wpAny_holding ?_)
  refine wpAny_Slice (thn (hl.run pins s1 σ H1 _ I1 q1) fun vl s2 ⟨l, H2, I2, pl, q2⟩ => thn (hh.run pins s2 σ H2 _ I2 q2) fun vu s3 ⟨w, H3, I3, pu, q3⟩ => ?_)
  rw [evalPart_none]
  refine wpAny_pure ?_
  have I4 : Inv X pins σ H3 { s3 with heap := s3.heap.push { cls := .type "slice", data := .fields #[vl, vu, .none] } } := I3.kept (t' := s3.toks) fun b ob q => Heap.get?_push_of_some _ q
  obtain ⟨p, b, xs, ys, a, c, rfl, rfl, rfl, rfl, hp, hb, hne, h0, hac, hc, hz, q3⟩ := q3
  cases r1
  cases r
  cases pl with
  | int _ ta => cases pu with
    | int _ tc =>
      refine wpAny_bind (wpAny_standAt (wpAny_bind (wpAny_holding ?_)))
      refine set_slice I4 hp hb hne (Heap.IsSliceOf.new _ _ _ _) ⟨ta, rfl⟩ ⟨tc, rfl⟩ h0 hac hc hz fun s5 I5 => ?_
      exact wpAny_release ⟨σ, _, I5, q3⟩
theorem s_setSl {o lo hi e : Ex} {eo v : Expr} {el eh : Option Expr} {pt p2 : Pos} (ho : PE X eo (tE X.K cv F E o)) (hl : PO X el (tO X.K cv F E lo)) (hh : PO X eh (tO X.K cv F E hi)) (hv : PE X v (tE X.K cv F E e)) (hn : notComp v = true) : PS X (.Assign [.Subscript eo (.Slice el eh none p2) pt] v pos) (tS X.K cv F E (.setSl o lo hi e)) := by
  have hg := pg_sl (pos := pt) (p2 := p2) ho hl hh (by intro v; rfl)
  refine PS.weak (ps_asg hv hg (by cases v <;> rfl) (by rfl) (by rfl)) fun D σ H ⟨th, S, ρ, s, re, h⟩ => ?_
  refine ⟨th, S, ρ, s, re, ?_⟩
  have h : PostS X.K cv E H th (match (ev F e ρ S).bind fun d S1 => (ev F o ρ S1).bind fun x S2 => (ev F lo ρ S2).bind fun l S3 => (ev F hi ρ S3).bind fun h S4 => (match setSlD x l h d S4 with | some S5 => .ok () S5 | none => .err) with
    | .ok _ S5 => .nx ρ S5 | .exc c S1 => .exc c S1 | .err => .err) (RepE X.K) D := h
  cases hx : ev F e ρ S with
  | exc c S1 => rw [hx] at h; exact h
  | err => rw [hx] at h; exact h
  | ok d S1 =>
    rw [hx] at h
    simp only [bind_ok] at h
    intro v H1 th1 e1 s1 r1
    refine ⟨th1, S1, ρ, s1, re.mono e1, ?_⟩
    cases hy : ev F o ρ S1 with
    | exc c S2 => rw [hy] at h; exact fun H2 th2 e2 s2 => h H2 th2 (e1.trans e2) s2
    | err => rw [hy] at h; exact h
    | ok x S2 =>
      rw [hy] at h
      simp only [bind_ok] at h
      intro vo H2 th2 e2 s2 r2
      refine ⟨th2, S2, ρ, s2, (re.mono e1).mono e2, ?_⟩
      cases hz : ev F lo ρ S2 with
      | exc c S3 => rw [hz] at h; exact fun H3 th3 e3 s3 => h H3 th3 (e1.trans (e2.trans e3)) s3
      | err => rw [hz] at h; exact h
      | ok dl S3 =>
        rw [hz] at h
        simp only [bind_ok] at h
        intro l H3 th3 hol e3 s3
        refine ⟨th3, S3, ρ, s3, ((re.mono e1).mono e2).mono e3, ?_⟩
        cases hw : ev F hi ρ S3 with
        | exc c S4 => rw [hw] at h; exact fun H4 th4 e4 s4 => h H4 th4 (e1.trans (e2.trans (e3.trans e4))) s4
        | err => rw [hw] at h; exact h
        | ok dh S4 =>
          rw [hw] at h
          simp only [bind_ok] at h
          intro u H4 th4 hou e4 s4
          cases hd : setSlD x dl dh d S4 with
          | none => rw [hd] at h; exact h.elim
          | some S5 =>
            rw [hd] at h
            have h : PostS X.K cv E H th (.nx ρ S5) (RepE X.K) D := h
            have r2 := (r2.mono e3).mono e4
            have r1 := ((r1.mono e2).mono e3).mono e4
            cases r2 with
            | @loc p n hn =>
              cases dl with
              | int i => cases dh with
                | int j => cases r1 with
                  | @lst b ys vs hb hb1 hb2 rl =>
                    have hd : (match S4[n]? with
                      | some (.lst xs) => if 0 ≤ i ∧ i ≤ j ∧ j ≤ xs.length ∧ xs.length + ys.length ≤ line then some (S4.set n (.lst (xs.take i.toNat ++ ys ++ xs.drop j.toNat))) else none
                      | _ => none) = some S5 := hd
                    cases hs : S4[n]? with
                    | none => rw [hs] at hd; cases hd
                    | some cl =>
                      rw [hs] at hd
                      cases cl with
                      | ins c fs => cases hd
                      | lst xs =>
                        dsimp only at hd
                        split at hd
                        · rename_i hc
                          cases hd
                          obtain ⟨c1, c2, c3, c4⟩ := hc
                          cases hol
                          cases hou
                          obtain ⟨p', ws, k1, k2, k3⟩ := s4.at hs
                          rw [hn] at k1; cases k1
                          have hne : p ≠ b := fun z => hb1 (by rw [← z]; exact List.mem_of_getElem? hn)
                          refine ⟨p, b, ws, vs, i, j, rfl, rfl, rfl, rfl, k2, hb, hne, c1, c2, by rw [← k3.length]; exact c3, by rw [line_eq, ← k3.length, ← rl.length]; exact c4, ?_⟩
                          have e5 : Ext H4 th4 (upd H4 p (.lst (ws.take i.toNat ++ vs ++ ws.drop j.toNat))) th4 := Ext.wrote (List.mem_of_getElem? hn) k2 _
                          exact h σ _ th4 (e1.trans (e2.trans (e3.trans (e4.trans e5)))) (s4.wrote hn k2 (((k3.take _).append rl).append (k3.drop _))) ((((re.mono e1).mono e2).mono e3).mono (e4.trans e5))
                        · cases hd
                  | _ => cases hd
                | _ => cases hd
              | _ => cases hd
            | _ => cases hd
theorem sw_sub {env : PySem.Env} {v a b c d : Expr} {p1 p2 pt : Pos} {kt : Nat} : swappedStores [.Tuple [.Subscript a b p1, .Subscript c d p2] kt pt] v env = pure none := by
  cases v with
  | Tuple vs k p =>
    unfold swappedStores
    dsimp only
    repeat (first | rfl | split)
  | _ => rfl
theorem s_setI2 {o i o' i' e : Ex} {eo ei eo' ei' v : Expr} {p1 p2 pt : Pos} {kt : Nat} (g : Good X sc sc nm cv F E) (h1 : notSl ei = true) (h2 : notSl ei' = true) (ho : PE X eo (tE X.K cv F E o)) (hi : PE X ei (tE X.K cv F E i)) (ho' : PE X eo' (tE X.K cv F E o')) (hi' : PE X ei' (tE X.K cv F E i')) (hv : PE X v (tE X.K cv F E e)) (hn : notComp v = true) :
    PS X (.Assign [.Tuple [.Subscript eo ei p1, .Subscript eo' ei' p2] kt pt] v pos) (tS X.K cv F E (.setI2 o i o' i' e)) := by
  have hg := pg_sub (pos := p1) ho hi (set_list (X := X)) (by intro v; cases ei <;> first | rfl | (cases h1))
  have hg' := pg_sub (pos := p2) ho' hi' (set_list (X := X)) (by intro v; cases ei' <;> first | rfl | (cases h2))
  have hT := pg_tup (pos := pt) (k := kt) g.calm (pgs_cons hg (pgs_cons hg' pgs_nil))
  refine PS.weak (ps_asg hv hT (by show swapsWith v (some (.Tuple [.Subscript eo ei p1, .Subscript eo' ei' p2] kt pt)) pos.line X.env = pure false; exact swaps_not hn) sw_sub (by rfl)) fun D σ H ⟨th, S, ρ, s, re, h⟩ => ?_
  refine ⟨th, S, ρ, s, re, ?_⟩
  have h : PostS X.K cv E H th (match ev F e ρ S with
    | .ok (.tup [u, v]) S1 => (match (ev F o ρ S1).bind fun x S2 => (ev F i ρ S2).bind fun y S3 => putR x y u S3 with
      | .ok _ S4 => (match (ev F o' ρ S4).bind fun x S2 => (ev F i' ρ S2).bind fun y S3 => putR x y v S3 with
        | .ok _ S5 => .nx ρ S5
        | .exc c S5 => .exc c S5
        | .err => .err)
      | .exc c S4 => .exc c S4
      | .err => .err)
    | .exc c S1 => .exc c S1
    | _ => .err) (RepE X.K) D := h
  cases hx : ev F e ρ S with
  | exc c S1 => rw [hx] at h; exact h
  | err => rw [hx] at h; exact h
  | ok d S1 =>
    rw [hx] at h
    intro v H1 th1 e1 s1 r1
    cases r1 with
    | @tup pa xs vs t1 t2 =>
      cases t2 with
      | nil => exact h.elim
      | cons q1 t2 =>
        cases t2 with
        | nil => exact h.elim
        | cons q2 t2 =>
          cases t2 with
          | cons _ _ => exact h.elim
          | nil =>
            dsimp only at h
            refine ⟨pa, _, rfl, SqT.of t1, rfl, _, _, rfl, g_item s1 (re.mono e1) q1 ?_⟩
            revert h
            cases (ev F o ρ S1).bind fun x S2 => (ev F i ρ S2).bind fun y S3 => putR x y _ S3 with
            | exc c S4 => exact fun h H2 th2 e2 s2 => h H2 th2 (e1.trans e2) s2
            | err => exact fun h => h
            | ok z S4 =>
              intro h H2 th2 e2 s2
              dsimp only at h
              refine ⟨_, _, rfl, g_item s2 ((re.mono e1).mono e2) (q2.mono e2) ?_⟩
              revert h
              cases (ev F o' ρ S4).bind fun x S2 => (ev F i' ρ S2).bind fun y S3 => putR x y _ S3 with
              | exc c S5 => exact fun h H3 th3 e3 s3 => h H3 th3 (e1.trans (e2.trans e3)) s3
              | err => exact fun h => h
              | ok z S5 => exact fun h H3 th3 e3 s3 => ⟨rfl, h σ H3 th3 (e1.trans (e2.trans e3)) s3 (((re.mono e1).mono e2).mono e3)⟩
    | _ => exact h.elim
/-! ### loops -/
theorem for_w {k : Ik} {src : Ex} {t : Tg} {ib : PV.St} (D : Ends) (σ : L2.St) (H : Hp) (h : tS X.K cv F E (.for_ k src t ib) D σ H) : tFor (iW X.K cv F E k src) (gOf X.K t) (tS X.K cv F E ib) D σ H := by
  obtain ⟨th, S, ρ, s, re, h⟩ := h
  refine ⟨th, S, ρ, s, re, ?_⟩
  have h : PostS X.K cv E H th (match ev F src ρ S with
    | .ok (.tup as) S1 => (match walkD k as S1 with
      | some (its, g) => forR t (ex F ib) g its ρ S1
      | none => .err)
    | .exc c S1 => .exc c S1
    | _ => .err) (RepE X.K) D := h
  cases hx : ev F src ρ S with
  | exc c S1 => rw [hx] at h; exact h
  | err => rw [hx] at h; exact h
  | ok d S1 =>
    rw [hx] at h
    cases d with
    | tup as =>
      dsimp only at h
      cases hw : walkD k as S1 with
      | none => rw [hw] at h; exact h.elim
      | some p =>
        obtain ⟨its, gd⟩ := p
        rw [hw] at h
        dsimp only at h
        refine ⟨as, its, gd, rfl, hw, fun J H1 th1 avs e1 s1 ra wk => ?_⟩
        obtain ⟨NX, hNX⟩ : ∃ NX : Nat → L2.St → Hp → Prop, ∀ i σc Hc, NX i σc Hc ↔ ∃ (thc : Th) (Sc : Store) (ρc : PV.Env), Sim X.K Hc thc Sc ∧ RepL X.K Hc thc as avs ∧ RepE X.K Hc thc ρc σc ∧ PostS X.K cv E Hc thc (forR t (ex F ib) gd (its.drop i) ρc Sc) (RepE X.K) D := ⟨_, fun _ _ _ => Iff.rfl⟩
        refine ⟨fun i m σc Hc => m = its.length - i ∧ i ≤ its.length ∧ NX i σc Hc, ⟨its.length, by simp, Nat.zero_le _, (hNX _ _ _).mpr ⟨th1, S1, ρ, s1, ra, re.mono e1, PostS.back e1 h⟩⟩, ?_⟩
        rintro i m σc Hc ⟨rfl, hi', nx⟩
        obtain ⟨thc, Sc, ρc, sc', ras, rec, hp⟩ := (hNX _ _ _).mp nx
        have gok : gd.ok Sc = true := by
          cases hd : its.drop i with
          | nil =>
            rw [hd] at hp
            unfold forR at hp
            split at hp
            · assumption
            · exact hp.elim
          | cons y r =>
            rw [hd] at hp
            unfold forR at hp
            split at hp
            · assumption
            · exact hp.elim
        obtain ⟨wg, ws, wy⟩ := wk Hc thc Sc sc' ras gok
        by_cases hlt : i < its.length
        · refine .inr ⟨wg i hlt, NX (i + 1), fun σ' H' z => ⟨its.length - (i + 1), by omega, rfl, hlt, z⟩, fun x H2 y => ?_⟩
          have hdrop : its.drop i = its[i] :: its.drop (i + 1) := List.drop_eq_getElem_cons hlt
          rw [hdrop] at hp
          unfold forR at hp
          rw [if_pos gok] at hp
          obtain ⟨f1, f2, f3⟩ := wy i x H2 its[i] (List.getElem?_eq_getElem hlt) y
          cases hput : put t its[i] ρc with
          | none => rw [hput] at hp; exact hp.elim
          | some ρ1 =>
            rw [hput] at hp
            dsimp only at hp
            refine put_ok hput f3 (rec.mono f1) fun σ1 rs1 _ => ⟨thc, Sc, ρ1, f2, rs1, ?_⟩
            have hp := PostS.back f1 hp
            cases hb0 : ex F ib ρ1 Sc with
            | nx ρ2 S2 =>
              rw [hb0] at hp
              exact fun σ3 H3 th3 e3 s3 r3 => (hNX _ _ _).mpr ⟨th3, S2, ρ2, s3, (ras.mono f1).mono e3, r3, PostS.back e3 hp⟩
            | ret d S2 => rw [hb0] at hp; exact hp
            | exc c S2 => rw [hb0] at hp; exact hp
            | err => rw [hb0] at hp; exact hp
        · have ei : i = its.length := by omega
          subst ei
          rw [List.drop_length] at hp
          unfold forR at hp
          rw [if_pos gok] at hp
          exact .inl ⟨ws, PostS.nx hp sc' rec⟩
    | _ => exact h.elim
theorem s_for {k : Ik} {src : Ex} {t : Tg} {ib : PV.St} {iter : Expr} {body : List Stmt} (g : Good X sc sc nm cv F E) (po : PassesOwn (model X.prog X.w) X.A X.env X.xe) (hi : PI X tg iter (iW X.K cv F E k src)) (hset : ∀ x, foldedSetIterable iter X.env x = pure x) (ht : PG X tg (gOf X.K t)) (hb : PSs X body (tS X.K cv F E ib)) :
    PS X (.For tg iter body [] pos) (tS X.K cv F E (.for_ k src t ib)) := by
  exact PS.weak (ps_for po g.calm hi ht hb hset) for_w
theorem s_while {mu : PV.Env → Store → Nat} {ib : PV.St} {body : List Stmt} (g : Good X sc sc nm cv F E) (po : PassesOwn (model X.prog X.w) X.A X.env X.xe) (hc : PT X c (tT X.K cv F E ic)) (hb : PSs X body (tS X.K cv F E ib)) :
    PS X (.While c body [] pos) (tS X.K cv F E (.while_ mu ic ib)) := by
  refine PS.weak (ps_while po hc hb) fun D σ H ⟨th, S, ρ, s, re, h⟩ => ?_
  have h : PostS X.K cv E H th (whileR (evT F ic) (ex F ib) (mu ρ S) ρ S) (RepE X.K) D := h
  refine ⟨fun m σc Hc => ∃ (thc : Th) (Sc : Store) (ρc : PV.Env), Sim X.K Hc thc Sc ∧ RepE X.K Hc thc ρc σc ∧ PostS X.K cv E Hc thc (whileR (evT F ic) (ex F ib) m ρc Sc) (RepE X.K) D, ⟨mu ρ S, th, S, ρ, s, re, h⟩, ?_⟩
  rintro m σc Hc ⟨thc, Sc, ρc, sc', rec, hp⟩
  cases m with
  | zero => exact hp.elim
  | succ m =>
    unfold whileR at hp
    refine ⟨thc, Sc, ρc, sc', rec, ?_⟩
    cases hx : evT F ic ρc Sc with
    | exc c S1 => rw [hx] at hp; exact hp
    | err => rw [hx] at hp; exact hp
    | ok k S1 =>
      rw [hx] at hp
      intro H1 th1 e1 s1
      have hp := PostS.back e1 hp
      cases k with
      | false => rw [if_neg (by decide)]; exact PostS.nx hp s1 (rec.mono e1)
      | true =>
        rw [if_pos rfl]
        refine ⟨fun σ' H' => ∃ (thc : Th) (Sc : Store) (ρc : PV.Env), Sim X.K H' thc Sc ∧ RepE X.K H' thc ρc σ' ∧ PostS X.K cv E H' thc (whileR (evT F ic) (ex F ib) m ρc Sc) (RepE X.K) D, fun σ' H' z => ⟨m, Nat.lt_succ_self _, z⟩, th1, S1, ρc, s1, rec.mono e1, ?_⟩
        dsimp only at hp
        cases hb0 : ex F ib ρc S1 with
        | nx ρ2 S2 =>
          rw [hb0] at hp
          exact fun σ3 H3 th3 e3 s3 r3 => ⟨th3, S2, ρ2, s3, r3, PostS.back e3 hp⟩
        | ret d S2 => rw [hb0] at hp; exact hp
        | exc c S2 => rw [hb0] at hp; exact hp
        | err => rw [hb0] at hp; exact hp
/-! ### two stores at once -/
theorem isLoc_of {x : Str} (h : isLoc sc x = true) : sc.names.lookup x = some .local := by
  unfold isLoc at h
  split at h
  · assumption
  · cases h
theorem isLoc_iff {x : Str} : (sc.names.lookup x == some NameKind.local) = isLoc sc x := by
  unfold isLoc
  cases h : sc.names.lookup x with
  | none => rfl
  | some k => cases k <;> rfl
def isStar : Expr → Bool
  | .Starred .. => true
  | _ => false
theorem starred_no {a : Expr} (h : plainA a = true) : isStar a = false := by
  cases a <;> first | rfl | (cases h)
theorem sw_two {env : PySem.Env} {x y : Str} {px py pt pt2 : Pos} {kt k2 : Nat} (hk : env.scope.kind = .function) (he : env.scope = sc) (hx : isLoc sc x = true) (hy : isLoc sc y = true) (hl : (py.line == px.line) = true) (hxy : x ≠ y) (ha : plainA a = true) (hb : plainA b = true)
    (hf : [a, b].all (foldedForSure 8) = false) (hc : [a, b].all (constantsAlone 8) = false) : swappedStores [.Tuple [.Name x px, .Name y py] kt pt] (.Tuple [a, b] k2 pt2) env = pure (some [x, y]) := by
  have hbk : env.blockKind = .function := by unfold Env.blockKind; rw [hk]; rfl
  have kx : (env.kindOf x == some NameKind.local) = true := by
    show (env.scope.names.lookup x == some NameKind.local) = true
    rw [he, isLoc_iff]; exact hx
  have ky : (env.kindOf y == some NameKind.local) = true := by
    show (env.scope.names.lookup y == some NameKind.local) = true
    rw [he, isLoc_iff]; exact hy
  have hst : [a, b].any isStar = false := by
    simp only [List.any_cons, List.any_nil, Bool.or_false]
    rw [starred_no ha, starred_no hb]; rfl
  have hd : [x, y].eraseDups.length = 2 := by
    have : (y == x) = false := by simpa using fun e => hxy e.symm
    simp [List.eraseDups_cons, List.filter, this]
  have hdx : ([x, y].eraseDups.length != [x, y].length) = false := by rw [hd]; rfl
  have e : swappedStores [.Tuple [.Name x px, .Name y py] kt pt] (.Tuple [a, b] k2 pt2) env = (do
      if env.blockKind != .function then return none
      if [a, b].any isStar then return none
      let names := [Expr.Name x px, Expr.Name y py].filterMap fun
        | .Name id pos => if env.kindOf id == some .local && pos.line == px.line then some id else none
        | _ => none
      if names.length != 2 || names.eraseDups.length != names.length then return none
      if [a, b].all (foldedForSure 8) then return none
      if [a, b].all (constantsAlone 8) then unsupported "assign.tuple-of-constant-expressions:order-of-the-stores"
      return some names) := rfl
  rw [e]
  have en : ([Expr.Name x px, Expr.Name y py].filterMap fun
        | .Name id pos => if env.kindOf id == some .local && pos.line == px.line then some id else none
        | _ => none) = [x, y] := by
    simp only [List.filterMap_cons, List.filterMap_nil, kx, ky, hl, Bool.and_self, beq_self_eq_true, if_true]
  simp only [en, hbk, hst, hdx, hf, hc]
  rfl
theorem sw_three {env : PySem.Env} {x y z : Str} {px py pz pt pt2 : Pos} {kt k2 : Nat} (hk : env.scope.kind = .function) (he : env.scope = sc) (hx : isLoc sc x = true) (hy : isLoc sc y = true) (hz : isLoc sc z = true) (hl : (py.line == px.line) = true) (hl2 : (pz.line == px.line) = true) (hxy : x ≠ y) (hxz : x ≠ z) (hyz : y ≠ z) (ha : plainA a = true) (hb : plainA b = true) (hcc : plainA c = true)
    (hf : [a, b, c].all (foldedForSure 8) = false) (hc : [a, b, c].all (constantsAlone 8) = false) : swappedStores [.Tuple [.Name x px, .Name y py, .Name z pz] kt pt] (.Tuple [a, b, c] k2 pt2) env = pure (some [x, y, z]) := by
  have hbk : env.blockKind = .function := by unfold Env.blockKind; rw [hk]; rfl
  have kk : ∀ v, isLoc sc v = true → (env.kindOf v == some NameKind.local) = true := fun v hv => by
    show (env.scope.names.lookup v == some NameKind.local) = true
    rw [he, isLoc_iff]; exact hv
  have kx := kk x hx
  have ky := kk y hy
  have kz := kk z hz
  have hst : [a, b, c].any isStar = false := by
    simp only [List.any_cons, List.any_nil, Bool.or_false]
    rw [starred_no ha, starred_no hb, starred_no hcc]; rfl
  have hd : [x, y, z].eraseDups.length = 3 := by
    have h1 : (y == x) = false := by simpa using fun e => hxy e.symm
    have h2 : (z == x) = false := by simpa using fun e => hxz e.symm
    have h3 : (z == y) = false := by simpa using fun e => hyz e.symm
    simp [List.eraseDups_cons, List.filter, h1, h2, h3]
  have hdx : ([x, y, z].eraseDups.length != [x, y, z].length) = false := by rw [hd]; rfl
  have e : swappedStores [.Tuple [.Name x px, .Name y py, .Name z pz] kt pt] (.Tuple [a, b, c] k2 pt2) env = (do
      if env.blockKind != .function then return none
      if [a, b, c].any isStar then return none
      let names := [Expr.Name x px, Expr.Name y py, Expr.Name z pz].filterMap fun
        | .Name id pos => if env.kindOf id == some .local && pos.line == px.line then some id else none
        | _ => none
      if names.length != 3 || names.eraseDups.length != names.length then return none
      if [a, b, c].all (foldedForSure 8) then return none
      if [a, b, c].all (constantsAlone 8) then unsupported "assign.tuple-of-constant-expressions:order-of-the-stores"
      return some names) := rfl
  rw [e]
  have en : ([Expr.Name x px, Expr.Name y py, Expr.Name z pz].filterMap fun
        | .Name id pos => if env.kindOf id == some .local && pos.line == px.line then some id else none
        | _ => none) = [x, y, z] := by
    simp only [List.filterMap_cons, List.filterMap_nil, kx, ky, kz, hl, hl2, Bool.and_self, beq_self_eq_true, if_true]
  simp only [en, hbk, hst, hdx, hf, hc]
  rfl
theorem sw_none4 {env : PySem.Env} {t1 t2 t3 t4 v1 v2 v3 v4 : Expr} {pt pt2 : Pos} {kt k2 : Nat} : swappedStores [.Tuple [t1, t2, t3, t4] kt pt] (.Tuple [v1, v2, v3, v4] k2 pt2) env = pure none := rfl
theorem sw_none2 {env : PySem.Env} {x y : Str} {px py pt pt2 : Pos} {kt k2 : Nat} (hk : env.scope.kind = .function) (he : env.scope = sc) (ha : plainA a = true) (hb : plainA b = true)
    (h : (!(isLoc sc x && (px.line == px.line)) || !(isLoc sc y && (py.line == px.line)) || [a, b].all (foldedForSure 8)) = true) : swappedStores [.Tuple [.Name x px, .Name y py] kt pt] (.Tuple [a, b] k2 pt2) env = pure none := by
  have hbk : env.blockKind = .function := by unfold Env.blockKind; rw [hk]; rfl
  have hst : [a, b].any isStar = false := by
    simp only [List.any_cons, List.any_nil, Bool.or_false]
    rw [starred_no ha, starred_no hb]; rfl
  have kx : ∀ z, (env.kindOf z == some NameKind.local) = isLoc sc z := fun z => by
    show (env.scope.names.lookup z == some NameKind.local) = _
    rw [he, isLoc_iff]
  have e : swappedStores [.Tuple [.Name x px, .Name y py] kt pt] (.Tuple [a, b] k2 pt2) env = (do
      if env.blockKind != .function then return none
      if [a, b].any isStar then return none
      let names := [Expr.Name x px, Expr.Name y py].filterMap fun
        | .Name id pos => if env.kindOf id == some .local && pos.line == px.line then some id else none
        | _ => none
      if names.length != 2 || names.eraseDups.length != names.length then return none
      if [a, b].all (foldedForSure 8) then return none
      if [a, b].all (constantsAlone 8) then unsupported "assign.tuple-of-constant-expressions:order-of-the-stores"
      return some names) := rfl
  rw [e]
  have en : ([Expr.Name x px, Expr.Name y py].filterMap fun
        | .Name id pos => if env.kindOf id == some .local && pos.line == px.line then some id else none
        | _ => none) = (if isLoc sc x && (px.line == px.line) then [x] else []) ++ (if isLoc sc y && (py.line == px.line) then [y] else []) := by
    simp only [List.filterMap_cons, List.filterMap_nil, kx]
    cases isLoc sc x && (px.line == px.line) <;> cases isLoc sc y && (py.line == px.line) <;> rfl
  simp only [en, hbk, hst]
  cases h1 : isLoc sc x && (px.line == px.line) with
  | false => cases h2 : isLoc sc y && (py.line == px.line) <;> rfl
  | true =>
    cases h2 : isLoc sc y && (py.line == px.line) with
    | false => rfl
    | true =>
      rw [h1, h2] at h
      have h : [a, b].all (foldedForSure 8) = true := h
      simp only [if_true, h]
      cases hq : (([x] ++ [y]).length != 2 || ([x] ++ [y]).eraseDups.length != ([x] ++ [y]).length) <;> rfl
theorem sw_none3 {env : PySem.Env} {ts : List Expr} {pt pt2 : Pos} {kt k2 : Nat} (hk : env.scope.kind = .function) (h : [a, b, c].all (foldedForSure 8) = true) : swappedStores [.Tuple ts kt pt] (.Tuple [a, b, c] k2 pt2) env = pure none := by
  unfold swappedStores
  simp only [h]
  repeat (first | rfl | split)
theorem sw_none3l {env : PySem.Env} {x y z : Str} {px py pz pt pt2 : Pos} {kt k2 : Nat} (hk : env.scope.kind = .function) (he : env.scope = sc) (ha : plainA a = true) (hb : plainA b = true) (hcc : plainA c = true)
    (h : (isLoc sc x && (isLoc sc y && isLoc sc z)) = false) : swappedStores [.Tuple [.Name x px, .Name y py, .Name z pz] kt pt] (.Tuple [a, b, c] k2 pt2) env = pure none := by
  have hbk : env.blockKind = .function := by unfold Env.blockKind; rw [hk]; rfl
  have hst : [a, b, c].any isStar = false := by
    simp only [List.any_cons, List.any_nil, Bool.or_false]
    rw [starred_no ha, starred_no hb, starred_no hcc]; rfl
  have kx : ∀ z, (env.kindOf z == some NameKind.local) = isLoc sc z := fun z => by
    show (env.scope.names.lookup z == some NameKind.local) = _
    rw [he, isLoc_iff]
  have e : swappedStores [.Tuple [.Name x px, .Name y py, .Name z pz] kt pt] (.Tuple [a, b, c] k2 pt2) env = (do
      if env.blockKind != .function then return none
      if [a, b, c].any isStar then return none
      let names := [Expr.Name x px, Expr.Name y py, Expr.Name z pz].filterMap fun
        | .Name id pos => if env.kindOf id == some .local && pos.line == px.line then some id else none
        | _ => none
      if names.length != 3 || names.eraseDups.length != names.length then return none
      if [a, b, c].all (foldedForSure 8) then return none
      if [a, b, c].all (constantsAlone 8) then unsupported "assign.tuple-of-constant-expressions:order-of-the-stores"
      return some names) := rfl
  rw [e]
  have en : ([Expr.Name x px, Expr.Name y py, Expr.Name z pz].filterMap fun
        | .Name id pos => if env.kindOf id == some .local && pos.line == px.line then some id else none
        | _ => none) = (if isLoc sc x && (px.line == px.line) then [x] else []) ++ ((if isLoc sc y && (py.line == px.line) then [y] else []) ++ (if isLoc sc z && (pz.line == px.line) then [z] else [])) := by
    simp only [List.filterMap_cons, List.filterMap_nil, kx]
    cases isLoc sc x && (px.line == px.line) <;> cases isLoc sc y && (py.line == px.line) <;> cases isLoc sc z && (pz.line == px.line) <;> rfl
  simp only [en, hbk, hst]
  have hl : (((if isLoc sc x && (px.line == px.line) then [x] else []) ++ ((if isLoc sc y && (py.line == px.line) then [y] else []) ++ (if isLoc sc z && (pz.line == px.line) then [z] else []))).length != 3) = true := by
    cases h1 : isLoc sc x <;> cases h2 : isLoc sc y <;> cases h3 : isLoc sc z <;> rw [h1, h2, h3] at h <;> first
      | (cases h; done)
      | (cases (px.line == px.line) <;> cases (py.line == px.line) <;> cases (pz.line == px.line) <;> rfl)
  simp only [hl, Bool.true_or, if_true]
  rfl
end
end PV
end
section
set_option Elab.async false
set_option linter.all false
set_option maxRecDepth 100000
set_option maxHeartbeats 4000000
namespace PV
open PySem PySem.Spec PyProof.Rows L2
section
variable {X : Cx} {sc ls : Scope} {nm : Nms} {cv : Nat → Value} {F : Nat → List D → Store → R D} {E : XK} {tg : Expr}
variable {ia ib ic : Ex} {a b c : Expr} {pos : Pos}
/-! ### what wants a token -/
theorem acons_w (hr : args ib = true) {σ : L2.St} {H : Hp} {Q : List V → Hp → Prop} (h : tA X.K cv F E (.acons ia ib) σ H Q) : tCons (tE X.K cv F E ia) (tA X.K cv F E ib) σ H Q := by
  obtain ⟨th, S, ρ, s, re, h⟩ := h
  exact ⟨th, S, ρ, s, re, PostA.bind h fun d1 S1 v1 H1 th1 _ e1 s1 r1 h1 => ⟨th1, S1, ρ, s1, re.mono e1, by
    cases hx : ev F ib ρ S1 with
    | ok y S2 =>
      obtain ⟨ds, rfl⟩ := ev_args hr hx
      rw [hx] at h1
      obtain ⟨es', e, h1⟩ := h1
      cases e
      exact ⟨ds, rfl, fun vs H2 th2 e2 s2 r2 => h1 (v1 :: vs) H2 th2 e2 s2 (.cons (r1.mono e2) r2)⟩
    | exc c S2 => rw [hx] at h1; exact h1
    | err => rw [hx] at h1; exact h1⟩⟩
theorem lst_w {m : Bool} (hr : args ia = true) {σ : L2.St} {H : Hp} {Q : VK} (h : tE X.K cv F E (.lst m ia) σ H Q) : tLst (tA X.K cv F E ia) σ H Q := by
  obtain ⟨th, S, ρ, s, re, h⟩ := h
  exact ⟨th, S, ρ, s, re, Post.bindA h (fun d S' q => ev_args hr q) fun ds S1 vs H1 th1 _ e1 s1 r1 h1 => newL_ok s1 r1 h1⟩
theorem set_w {i : Nat} {e : Ex} {D : Ends} {σ : L2.St} {H : Hp} (h : tS X.K cv F E (.set i e) D σ H) : tAsg (tE X.K cv F E e) (gName i) D σ H := by
  obtain ⟨th, S, ρ, s, re, h⟩ := h
  exact ⟨th, S, ρ, s, re, PostS.ofE (f := fun d S1 => .nx (ρ.set i (some d)) S1) h fun d S1 v H1 th1 e1 s1 r1 h1 => PostS.nx h1 s1 ((re.mono e1).set i r1)⟩
theorem seq_w {is it : PV.St} {D : Ends} {σ : L2.St} {H : Hp} (h : tS X.K cv F E (.seq is it) D σ H) : tSeq (tS X.K cv F E is) (tS X.K cv F E it) D σ H := by
  obtain ⟨th, S, ρ, s, re, h⟩ := h
  refine ⟨th, S, ρ, s, re, ?_⟩
  have h : PostS X.K cv E H th (match ex F is ρ S with | .nx ρ1 S1 => ex F it ρ1 S1 | r => r) (RepE X.K) D := h
  cases hx : ex F is ρ S with
  | nx ρ1 S1 =>
    rw [hx] at h
    exact fun σ1 H1 th1 e1 s1 r1 => ⟨th1, S1, ρ1, s1, r1, PostS.back e1 h⟩
  | ret d S1 => rw [hx] at h; exact h
  | exc c S1 => rw [hx] at h; exact h
  | err => rw [hx] at h; exact h
/-- behind a list that begins with a text a token is out -/
theorem pss_tok {i j : Nat} {x z : Str} {es : List Expr} {ta : TA} {rest : List Stmt} {u : TS} {c0 p0 px : Pos} (hN : X.N.Nodup) (hi : X.N[i]? = some x) (hx : Loc X.env.scope x) (hes : PA X es ta) (h2 : PSsT X rest u)
    (hf : X.fn x = true ∨ X.env.scope.names.lookup x = some .local) : PSs X (.Assign [.Name x px] (.List (.Constant (.str z) j c0 :: es) p0) pos :: rest) (tSeq (tAsg (tLst fun σ H Q => ta σ H fun xs H2 => Q (.str z :: xs) H2) (gName i)) u) := by
  refine ⟨fun pins s σ H D I h => ?_⟩
  refine wpAny_execs_cons (wpAny_Assign_Name (wpAny_List_spliced ?_) (by rfl))
  show wpAny _ _ (spliced ((false, eval (.Constant (.str z) j c0) X.env) :: backTo p0 (starEach es X.env))) _ _ s
  refine Calls.spliced_cons (Calls.Constant_str ?_)
  refine wpAny_mono (PySem.wpAny_toks (hes.run p0 pins { s with toks := s.toks + 1 } σ H _ (I.tok _) h)) (fun us s1 q => ?_) fun _ _ z => z.2
  obtain ⟨hk, xs, H1, I1, r, zl, q⟩ := q
  have hk : s.toks + 1 ≤ s1.toks := hk
  have r' : Vals (.str z :: xs) (Value.str z s.toks :: us) := .cons ⟨s.toks, rfl⟩ r
  refine ⟨by rw [← r'.length]; exact zl, ?_⟩
  have hf0 : H1 s1.heap.objs.size = none := I1.hok.fresh (Nat.le_refl _)
  have I2 : Inv X pins σ (upd H1 s1.heap.objs.size (.lst (.str z :: xs))) { s1 with heap := s1.heap.push { cls := .type "list", data := .seq (Value.str z s.toks :: us).toArray } } :=
    I1.laid (t' := s1.toks) (fun b u e => Heap.get?_push_of_some _ e) (Nat.le_refl _) ⟨zl, _, 0, r', Heap.get?_push_size _ rfl⟩
  refine wpAny_mono (PySem.wpAny_toks (store_ok (v := .ref s1.heap.objs.size) (u := .ref s1.heap.objs.size) (Q := fun _ s2 => Inv X pins (σ.set i (some (.ref s1.heap.objs.size))) (upd H1 s1.heap.objs.size (.lst (.str z :: xs))) s2) I2 hN hi hx rfl (fun _ I3 => I3) hf)) (fun _ s2 q2 => ?_) fun _ _ z => z.2
  have hk2 : s1.toks ≤ s2.toks := q2.1
  exact h2 pins s2 _ _ D (by omega) q2.2 (q _ hf0)
theorem PET.weak {e : Expr} {t t' : TE} (h : PET X e t) (w : ∀ σ H Q, t' σ H Q → t σ H Q) : PET X e t' := fun pins s σ H Q h0 I q => h pins s σ H Q h0 I (w σ H Q q)
theorem s_repl {y z : Str} {j1 j2 : Nat} {c1 c2 ap cp : Pos} (hyz : (y == z) = false) (h0 : notCall0 a = true) (hl : (ap.endLine == cp.line) = true) (ha : PE X a (tE X.K cv F E ia)) :
    PET X (.Call (.Attribute a "replace" ap) [.Constant (.str y) j1 c1, .Constant (.str z) j2 c2] [] cp) (tE X.K cv F E (.repl ia y z)) := by
  refine PET.weak (CwR.pet_replC ha hyz (by rfl) (base_of h0) hl) fun σ H Q ⟨th, S, ρ, s, re, h⟩ => ⟨th, S, ρ, s, re, Post.bind h fun d1 S1 v1 H1 th1 _ e1 s1 r1 h1 => ?_⟩
  cases r1 with
  | str x =>
    replace h1 : Post X.K cv E H1 th1 (match y.cps.toList with
      | [c] => if x.length + (x.length + 1) * z.length ≤ 16777216 && !(y == z) then .ok (.str (Str.join z (splitS c x))) S1 else .err
      | _ => .err) Q := h1
    split at h1
    · rename_i c hc
      split at h1
      · rename_i hz
        simp only [Bool.and_eq_true, decide_eq_true_eq] at hz
        have ey := str_one hc
        subst ey
        refine ⟨x, rfl, hz.1, ?_⟩
        rw [StrLaws.replace_one, split_eq]
        exact h1.ok s1 (.str _)
      · exact h1.elim
    · exact h1.elim
  | _ => exact h1.elim
/-- a list and [a text replaced] -/
theorem s_src {y z : Str} {j1 j2 : Nat} {c1 c2 ap cp p3 p4 : Pos} {il : Ex} {l : Expr} (hyz : (y == z) = false) (h0 : notCall0 a = true) (hl : (ap.endLine == cp.line) = true) (hv : PE X l (tE X.K cv F E il)) (ha : PE X a (tE X.K cv F E ia)) :
    PET X (.BinOp l .Add (.List [.Call (.Attribute a "replace" ap) [.Constant (.str y) j1 c1, .Constant (.str z) j2 c2] [] cp] p3) p4) (tE X.K cv F E (.bin .add false il (.lst false (.acons (.repl ia y z) .anil)))) := by
  have h1 := s_repl (X := X) (cv := cv) (F := F) (E := E) (j1 := j1) (j2 := j2) (c1 := c1) (c2 := c2) hyz h0 hl ha
  have h2 : PET X (.List [.Call (.Attribute a "replace" ap) [.Constant (.str y) j1 c1, .Constant (.str z) j2 c2] [] cp] p3) (tE X.K cv F E (.lst false (.acons (.repl ia y z) .anil))) := by
    refine PET.weak (pet_lst (pat_cons h1 pat_nil)) fun σ H Q h => ?_
    obtain ⟨th, S, ρ, s, re, h⟩ := h
    refine ⟨th, S, ρ, s, re, ?_⟩
    have h : Post X.K cv E H th (((ev F (.repl ia y z) ρ S).bind fun x S1 => (R.ok (D.tup []) S1).bind fun y S2 => (match y with | D.tup ys => R.ok (D.tup (x :: ys)) S2 | _ => R.err)).bind fun x S1 => (match x with | .tup xs => newL false xs S1 | _ => .err)) Q := h
    cases hx : ev F (.repl ia y z) ρ S with
    | ok d S1 =>
      rw [hx] at h
      simp only [bind_ok] at h
      intro v H1 th1 e1 s1 r1
      have h := Post.back e1 h
      exact newL_ok s1 (.one r1) h
    | exc c S1 => rw [hx] at h; exact h
    | err => rw [hx] at h; exact h
  refine PET.weak (CwR.pet_op (op_of .add) (CwR.PET.of hv) h2) fun σ H Q ⟨th, S, ρ, s, re, h⟩ => ⟨th, S, ρ, s, re, Post.bind h fun d1 S1 v1 H1 th1 _ e1 s1 r1 h1 => ⟨th1, S1, ρ, s1, re.mono e1, Post.bind h1 fun d2 S2 v2 H2 th2 _ e2 s2 r2 h2 => bin_ok s2 (r1.mono e2) r2 h2⟩⟩
theorem pit_any {l : Expr} {tl : TE} (hl : PET X l tl) : PIT X tg l (iAny X.K tl) := by
  intro pins s σ H R h0 I h
  refine thn (hl pins s σ H _ h0 I h) fun v s1 ⟨x, H1, I1, r1, q1⟩ => ?_
  rcases q1 with ⟨a, e, ⟨xs, hq⟩, q⟩ | ⟨a, e, ⟨xs, hq⟩, q⟩ | ⟨z, e, q⟩
  · subst e
    cases r1
    obtain ⟨its, rv, p, hz⟩ := I1.list hq
    refine wpAny_pyIter_list p.isList ?_
    exact pi_one (tk := s1.toks) I1 _ (turn_list a _) ⟨_, Heap.get?_push_size _ rfl, rfl, rfl⟩ q
  · subst e
    cases r1
    obtain ⟨its, rv, p, hz⟩ := I1.tuple hq
    refine wpAny_pyIter_tuple (show s1.heap.IsTuple a its.toArray from p) ?_
    exact pi_one (tk := s1.toks) I1 _ (turn_tuple a _) ⟨_, Heap.get?_push_size _ rfl, rfl, rfl⟩ q
  · subst e
    obtain ⟨t, rfl⟩ := r1
    cases ha : z.cps.all (· < 128)
    · exact wpAny_pyIter_wide ha (pi_one (tk := s1.toks) I1 _ (turn_str _ z t "str_iterator" (.inr rfl)) ⟨_, Heap.get?_push_size _ rfl, rfl, rfl⟩ q)
    · exact wpAny_pyIter_ascii ha (pi_one (tk := s1.toks) I1 _ (turn_str _ z t "str_ascii_iterator" (.inl rfl)) ⟨_, Heap.get?_push_size _ rfl, rfl, rfl⟩ q)
theorem s_iseqT (ha : PET X a (tE X.K cv F E ia)) : PIT X tg a (iW X.K cv F E .seq (.acons ia .anil)) := by
  have hp := pit_any (tg := tg) ha
  intro pins s0 σ H R h0 I hw0
  refine hp pins s0 σ H R h0 I ?_
  exact iseq_w hw0
end
end PV
end
section
set_option Elab.async false
set_option linter.all false
set_option maxRecDepth 100000
set_option maxHeartbeats 4000000
namespace PV
open PySem PySem.Spec PyProof.Rows L2
theorem band4 {a b c d : Bool} (h : (a && b && c && d) = true) : a = true ∧ b = true ∧ c = true ∧ d = true := by simpa [Bool.and_eq_true, and_assoc] using h
theorem band5 {a b c d e : Bool} (h : (a && b && c && d && e) = true) : a = true ∧ b = true ∧ c = true ∧ d = true ∧ e = true := by simpa [Bool.and_eq_true, and_assoc] using h
theorem bnot {a : Bool} (h : (!a) = true) : a = false := by simpa using h
section
variable {X : Cx} {sc : Scope} {nm : Nms} {cv : Nat → Value} {F : Nat → List D → Store → R D} {E : XK}
theorem swaps_lc {y : Str} {py : Pos} {v : Expr} {l : Nat} (g : Good X sc sc nm cv F E) (h : swapB sc y py v = true) : swapsWith v (some (.Name y py)) l X.env = pure true ∧ X.env.scope.names.lookup y = some .local := by
  unfold swapB at h
  split at h
  · obtain ⟨h1, h3⟩ := band h
    obtain ⟨h1, h2⟩ := band h1
    have hl : X.env.scope.names.lookup y = some .local := by rw [g.sc]; exact isLoc_of h1
    exact ⟨sw_true g.kind hl h2 (by simpa using h3), hl⟩
  · cases h
theorem swaps_cel {y : Str} {py : Pos} {v : Expr} {l : Nat} (g : Good X sc sc nm cv F E) (h : isCel sc y = true) : swapsWith v (some (.Name y py)) l X.env = pure false := by
  have hl : X.env.scope.names.lookup y = some .cell := by
    rw [g.sc]
    unfold isCel at h
    split at h
    · assumption
    · cases h
  have hk : (X.env.kindOf y == some .local) = false := by
    show (X.env.scope.names.lookup y == some .local) = false
    rw [hl]; rfl
  unfold swapsWith
  cases v <;> first
    | rfl
    | (dsimp only; rw [hk, Bool.and_false, Bool.false_and, Bool.false_and])
theorem s_setLc {i : Nat} {x : Str} {px pos pos' : Pos} {k : Ik} {src : Ex} {tgt : Tg} {own : List Nat} {tst : Bool} {ic ie : Ex} {m : Bool} {elt t iter : Expr} {ifs : List Expr} {scope : Scope} (g : Good X sc sc nm cv F E) (h1 : X.N[i]? = some x)
    (hl : X.env.scope.names.lookup x = some .local) (hs : swapsWith (.ListComp elt [⟨t, iter, ifs, 0⟩] scope pos') (some (.Name x px)) pos.line X.env = pure true) (P : LcParts X cv F E k src tgt own tst ic ie m elt t iter ifs scope) :
    PS X (.Assign [.Name x px] (.ListComp elt [⟨t, iter, ifs, 0⟩] scope pos') pos) (tS X.K cv F E (.set i (.comp k src tgt own tst ic ie m))) := by
  refine PS.weak (psE_setLc g.calm g.nd h1 hl hs P.hi P.ok P.hg P.ht P.he P.hs) fun D σ H ⟨th, S, ρ, s, re, h⟩ => ?_
  refine P.w σ H _ ⟨th, S, ρ, s, re, PostS.ofE (f := fun d S1 => .nx (ρ.set i (some d)) S1) h fun d S1 v H1 th1 e1 s1 r1 h1 => PostS.nx h1 s1 ((re.mono e1).set i r1)⟩
theorem s_setLc2 {i : Nat} {x : Str} {px pos pos' : Pos} {k k1 : Ik} {src src1 : Ex} {tgt tg1 : Tg} {own own1 : List Nat} {ie : Ex} {m : Bool} {elt t iter t1 iter1 : Expr} {scope : Scope} (g : Good X sc sc nm cv F E) (h1 : X.N[i]? = some x)
    (hl : X.env.scope.names.lookup x = some .local) (hs : swapsWith (.ListComp elt [⟨t, iter, [], 0⟩, ⟨t1, iter1, [], 0⟩] scope pos') (some (.Name x px)) pos.line X.env = pure true) (P : Lc2Parts X cv F E k src tgt own k1 src1 tg1 own1 ie m elt t iter t1 iter1 scope) :
    PS X (.Assign [.Name x px] (.ListComp elt [⟨t, iter, [], 0⟩, ⟨t1, iter1, [], 0⟩] scope pos') pos) (tS X.K cv F E (.set i (.comp2 k src tgt own k1 src1 tg1 own1 ie m))) := by
  refine PS.weak (ps_setLc2 g.calm g.nd h1 hl hs P.hi P.ok P.hv P.hg (fun _ _ _ _ _ => pts_nil) P.hi1 P.hg1 (fun _ _ _ _ _ => pts_nil) P.he P.hs P.hs1) fun D σ H ⟨th, S, ρ, s, re, h⟩ => ?_
  refine P.w σ H _ ⟨th, S, ρ, s, re, PostS.ofE (f := fun d S1 => .nx (ρ.set i (some d)) S1) h fun d S1 v H1 th1 e1 s1 r1 h1 => PostS.nx h1 s1 ((re.mono e1).set i r1)⟩
theorem s_par {i j : Nat} {x y : Str} {px py pt pt2 pos : Pos} {kt k2 : Nat} {a b : Expr} {ia ib : Ex} (g : Good X sc sc nm cv F E) (hi : X.N[i]? = some x) (hj : X.N[j]? = some y) (hij : i ≠ j) (hx : isLoc sc x = true) (hy : isLoc sc y = true)
    (hl : (py.line == px.line) = true) (hxy : x ≠ y) (pa : plainA a = true) (pb : plainA b = true) (hf : [a, b].all (foldedForSure 8) = false) (hc : [a, b].all (constantsAlone 8) = false) (ha : PA X [a, b] (tA X.K cv F E (.acons ia (.acons ib .anil)))) :
    PS X (.Assign [.Tuple [.Name x px, .Name y py] kt pt] (.Tuple [a, b] k2 pt2) pos) (tS X.K cv F E (.unp [i, j] (.tup (.acons ia (.acons ib .anil))))) := by
  refine PS.weak (ps_par g.calm g.nd hi hj hij (by rw [g.sc]; exact isLoc_of hx) (by rw [g.sc]; exact isLoc_of hy) ha (sw_two g.kind g.sc hx hy hl hxy pa pb hf hc)) fun D σ H ⟨th, S, ρ, s, re, h⟩ => ?_
  refine ⟨th, S, ρ, s, re, ?_⟩
  have e : ev F (.tup (.acons ia (.acons ib .anil))) ρ S = (ev F (.acons ia (.acons ib .anil)) ρ S).bind fun x S1 => (match x with | .tup xs => if xs.length ≤ line then .ok (.tup xs) S1 else .err | _ => .err) := rfl
  have h : PostS X.K cv E H th (match ev F (.tup (.acons ia (.acons ib .anil))) ρ S with | .ok d S1 => (match put (.tup [i, j]) d ρ with | some ρ1 => .nx ρ1 S1 | none => .err) | .exc c S1 => .exc c S1 | .err => .err) (RepE X.K) D := h
  rw [e] at h
  cases hx : ev F (.acons ia (.acons ib .anil)) ρ S with
  | exc c S1 => rw [hx] at h; exact h
  | err => rw [hx] at h; exact h
  | ok d S1 =>
    obtain ⟨ds, rfl⟩ := ev_args rfl hx
    obtain ⟨u, w, rfl⟩ := ev_two hx
    rw [hx] at h
    refine ⟨_, rfl, fun vs H1 th1 e1 s1 r1 => ?_⟩
    cases r1 with
    | cons r1 t =>
      cases t with
      | cons r2 t2 =>
        cases t2
        refine ⟨_, _, rfl, ?_⟩
        exact h _ H1 th1 e1 s1 (((re.mono e1).set i r1).set j r2)
theorem ev_threeQ {ρ : PV.Env} {S S' : Store} {as : List D} {ia ib ic : Ex} (h : ev F (.acons ia (.acons ib (.acons ic .anil))) ρ S = .ok (.tup as) S') : ∃ x y z, as = [x, y, z] := by
  have h : ((ev F ia ρ S).bind fun x S1 => (ev F (.acons ib (.acons ic .anil)) ρ S1).bind fun y S2 => (match y with | D.tup ys => R.ok (D.tup (x :: ys)) S2 | _ => R.err)) = .ok (.tup as) S' := h
  cases hx : ev F ia ρ S with
  | ok d S1 =>
    rw [hx] at h
    simp only [bind_ok] at h
    cases hy : ev F (.acons ib (.acons ic .anil)) ρ S1 with
    | ok d2 S2 =>
      obtain ⟨ds, rfl⟩ := ev_args rfl hy
      obtain ⟨u, w, rfl⟩ := ev_two hy
      rw [hy] at h
      cases h
      exact ⟨_, _, _, rfl⟩
    | exc c S2 => rw [hy] at h; cases h
    | err => rw [hy] at h; cases h
  | exc c S1 => rw [hx] at h; cases h
  | err => rw [hx] at h; cases h
theorem s_par3 {i j l : Nat} {x y z : Str} {px py pz pt pt2 pos : Pos} {kt k2 : Nat} {a b c : Expr} {ia ib ic : Ex} (g : Good X sc sc nm cv F E) (hi : X.N[i]? = some x) (hj : X.N[j]? = some y) (hk : X.N[l]? = some z) (hij : i ≠ j) (hil : i ≠ l) (hjl : j ≠ l) (hx : isLoc sc x = true) (hy : isLoc sc y = true) (hz : isLoc sc z = true)
    (hw : swappedStores [.Tuple [.Name x px, .Name y py, .Name z pz] kt pt] (.Tuple [a, b, c] k2 pt2) X.env = pure (some [x, y, z])) (ha : PA X [a, b, c] (tA X.K cv F E (.acons ia (.acons ib (.acons ic .anil))))) :
    PS X (.Assign [.Tuple [.Name x px, .Name y py, .Name z pz] kt pt] (.Tuple [a, b, c] k2 pt2) pos) (tS X.K cv F E (.unp [i, j, l] (.tup (.acons ia (.acons ib (.acons ic .anil)))))) := by
  refine PS.weak (ps_par3 g.calm g.nd hi hj hk hij hil hjl (by rw [g.sc]; exact isLoc_of hx) (by rw [g.sc]; exact isLoc_of hy) (by rw [g.sc]; exact isLoc_of hz) ha hw) fun D σ H ⟨th, S, ρ, s, re, h⟩ => ?_
  refine ⟨th, S, ρ, s, re, ?_⟩
  have e : ev F (.tup (.acons ia (.acons ib (.acons ic .anil)))) ρ S = (ev F (.acons ia (.acons ib (.acons ic .anil))) ρ S).bind fun x S1 => (match x with | .tup xs => if xs.length ≤ line then .ok (.tup xs) S1 else .err | _ => .err) := rfl
  have h : PostS X.K cv E H th (match ev F (.tup (.acons ia (.acons ib (.acons ic .anil)))) ρ S with | .ok d S1 => (match put (.tup [i, j, l]) d ρ with | some ρ1 => .nx ρ1 S1 | none => .err) | .exc c S1 => .exc c S1 | .err => .err) (RepE X.K) D := h
  rw [e] at h
  cases hx : ev F (.acons ia (.acons ib (.acons ic .anil))) ρ S with
  | exc c S1 => rw [hx] at h; exact h
  | err => rw [hx] at h; exact h
  | ok d S1 =>
    obtain ⟨ds, rfl⟩ := ev_args rfl hx
    obtain ⟨u, w, v, rfl⟩ := ev_threeQ hx
    rw [hx] at h
    refine ⟨_, rfl, fun vs H1 th1 e1 s1 r1 => ?_⟩
    cases r1 with
    | cons r1 t =>
      cases t with
      | cons r2 t2 =>
        cases t2 with
        | cons r3 t3 =>
          cases t3
          refine ⟨_, _, _, rfl, ?_⟩
          exact h _ H1 th1 e1 s1 ((((re.mono e1).set i r1).set j r2).set l r3)
/-- a for over a list and a text replaced, a token being out -/
theorem s_forT (N : List Str) (nm : Nms) (nc : Nat → Option Str) (cv : Nat → Value) (F : Nat → List D → Store → R D) {X : Cx} {sc : Scope} {E : XK} (g : Good X sc sc nm cv F E) (po : PassesOwn (model X.prog X.w) X.A X.env X.xe) {k : Ik} {src : Ex} {tg : Tg} {b : PV.St} {st : Stmt}
    (h : chkT X.N nm nc (.for_ k src tg b) sc st = true) (hb : ∀ body, chkSs X.N nm nc b sc body = true → PSs X body (tS X.K cv F E b)) : PST X st (tS X.K cv F E (.for_ k src tg b)) := by
  cases k with
  | seq =>
    cases st with
    | For t iter body orelse pos =>
      cases orelse with
      | nil =>
        have h : (chkRI X.N nm src sc iter && chkTg X.N sc tg t && chkSs X.N nm nc b sc body) = true := h
        obtain ⟨h1, h3⟩ := band h
        obtain ⟨h1, h2⟩ := band h1
        unfold chkRI at h1
        split at h1
        · rename_i l o y z el eo x ap y' j1 c1 z' j2 c2 cp p3 p4 hh1 hh2
          obtain ⟨h1, k8⟩ := band h1
          obtain ⟨h1, k7⟩ := band h1
          obtain ⟨h1, k6⟩ := band h1
          obtain ⟨h1, k5⟩ := band h1
          obtain ⟨h1, k4⟩ := band h1
          obtain ⟨h1, k3⟩ := band h1
          obtain ⟨h1, k2⟩ := band h1
          have e1 := of_decide_eq_true h1
          have e2 := of_decide_eq_true k2
          have e3 := of_decide_eq_true k3
          subst e1 e2 e3
          have hyz : (y' == z') = false := by simpa using k4
          have hi := s_iseqT (tg := t) (s_src (j1 := j1) (j2 := j2) (c1 := c1) (c2 := c2) (p3 := p3) (p4 := p4) hyz k6 k5 ((snd_all X.N nm cv F l).e X sc sc E rfl g _ k7).1 ((snd_all X.N nm cv F o).e X sc sc E rfl g _ k8).1)
          exact fun pins s σ H D h0 I q => pst_for po g.calm hi (s_tg g h2) (hb body h3) (by intro _; rfl) pins s σ H D h0 I (for_w D σ H q)
        · cases h1
      | cons _ _ => cases h
    | _ => cases h
  | _ => cases h
theorem s_tok (N : List Str) (nm : Nms) (nc : Nat → Option Str) (cv : Nat → Value) (F : Nat → List D → Store → R D) {X : Cx} {sc : Scope} {E : XK} (g : Good X sc sc nm cv F E) {a b : PV.St} {st : Stmt} {r : List Stmt}
    (h0 : tokS a st = true) (h1 : chkS X.N nm nc a sc st = true) (h2 : PSsT X r (tS X.K cv F E b)) : PSs X (st :: r) (tS X.K cv F E (.seq a b)) := by
  unfold tokS at h0
  split at h0
  · rename_i i z ra x px z' j c0 es p0 pos
    have h1 : (decide (X.N[i]? = some x) && locB sc x && chkE X.N nm (.lst false (.acons (.str z) ra)) sc (.List (.Constant (.str z') j c0 :: es) p0) && _) = true := h1
    obtain ⟨k1, k2, k3, _⟩ := band4 h1
    have k3 : (plainA (.Constant (.str z') j c0) && decide (z = z') && chkA X.N nm ra sc es) = true := k3
    obtain ⟨k3, k5⟩ := band k3
    obtain ⟨_, k4⟩ := band k3
    have ez := of_decide_eq_true k4
    subst ez
    obtain ⟨pa, ar, _⟩ := (snd_all X.N nm cv F ra).a X sc sc E rfl g es k5
    obtain ⟨l1, l2⟩ := g.st x (locB_of k2)
    refine PSs.weak (pss_tok (pos := pos) g.nd (of_decide_eq_true k1) l1 pa h2 l2) fun D σ H q => ?_
    have q := lst_w (show args ((Ex.str z).acons ra) = true from rfl) (set_w (seq_w q))
    obtain ⟨th, S, ρ, s, re, q⟩ := acons_w ar q
    exact (q.ok s (.str z))
  · cases h0
theorem snd_S (N : List Str) (nm : Nms) (nc : Nat → Option Str) (cv : Nat → Value) (F : Nat → List D → Store → R D) (is : PV.St) :
    (∀ (X : Cx) (sc : Scope) (E : XK), X.N = N → Good X sc sc nm cv F E → GoodX X cv nc E → ∀ st, chkS N nm nc is sc st = true → PS X st (tS X.K cv F E is)) ∧
    (∀ (X : Cx) (sc : Scope) (E : XK), X.N = N → Good X sc sc nm cv F E → GoodX X cv nc E → ∀ sts, chkSs N nm nc is sc sts = true → PSs X sts (tS X.K cv F E is)) ∧
    (∀ (X : Cx) (sc : Scope) (E : XK), X.N = N → Good X sc sc nm cv F E → GoodX X cv nc E → ∀ st, chkT N nm nc is sc st = true → PST X st (tS X.K cv F E is)) ∧
    (∀ (X : Cx) (sc : Scope) (E : XK), X.N = N → Good X sc sc nm cv F E → GoodX X cv nc E → ∀ sts, chkSsT N nm nc is sc sts = true → PSsT X sts (tS X.K cv F E is)) := by
  induction is with
  | skip =>
    refine ⟨fun X sc E _ _ _ st h => (by cases h), fun X sc E _ _ _ sts h => ?_, fun X sc E _ _ _ st h => (by cases h), fun X sc E _ _ _ sts h => (by cases h)⟩
    cases sts with
    | nil => exact s_nil
    | cons _ _ => cases h
  | seq a b iha ihb =>
    refine ⟨fun X sc E _ _ _ st h => (by cases h), fun X sc E hN g gx sts h => ?_, fun X sc E _ _ _ st h => (by cases h), fun X sc E hN g gx sts h => ?_⟩
    · cases sts with
      | nil => cases h
      | cons st r =>
        have h : ((chkS N nm nc a sc st && chkSs N nm nc b sc r) || (tokS a st && (chkS N nm nc a sc st && chkSsT N nm nc b sc r))) = true := h
        rw [Bool.or_eq_true] at h
        rcases h with h | h
        · obtain ⟨h1, h2⟩ := band h
          exact s_seq (iha.1 X sc E hN g gx st h1) (ihb.2.1 X sc E hN g gx r h2)
        · obtain ⟨h0, h⟩ := band h
          obtain ⟨h1, h2⟩ := band h
          subst hN
          exact s_tok X.N nm nc cv F g h0 h1 (ihb.2.2.2 X sc E rfl g gx r h2)
    · cases sts with
      | nil => cases h
      | cons st r =>
        have h : (chkT N nm nc a sc st && chkSs N nm nc b sc r) = true := h
        obtain ⟨h1, h2⟩ := band h
        exact fun pins s σ H D h0 I q => psst_cons (iha.2.2.1 X sc E hN g gx st h1) (PSsT.of (ihb.2.1 X sc E hN g gx r h2)) pins s σ H D h0 I (seq_w q)
  | set i e =>
    refine ⟨fun X sc E hN g gx st h => ?_, fun X sc E _ _ _ sts h => (by cases h), fun X sc E _ _ _ st h => (by cases h), fun X sc E _ _ _ sts h => (by cases h)⟩
    subst hN
    unfold chkS at h
    split at h
    · obtain ⟨h1, h2, h3, h4⟩ := band4 h
      rw [Bool.or_eq_true] at h4
      rcases h4 with h4 | h4
      · rw [Bool.or_eq_true] at h4
        rcases h4 with h4 | h4
        · exact s_set g (of_decide_eq_true h1) h2 ((snd_all X.N nm cv F e).e X sc sc E rfl g _ h3).1 (swaps_not h4)
        · exact s_set g (of_decide_eq_true h1) h2 ((snd_all X.N nm cv F e).e X sc sc E rfl g _ h3).1 (swaps_cel g h4)
      · obtain ⟨h5, h6⟩ := band h4
        obtain ⟨s1, s2⟩ := swaps_lc (l := _) g h5
        cases e with
        | comp k src tgt own tst ic ie m =>
          obtain ⟨elt, t, iter, ifs, scope, pos, rfl, P⟩ := comp_parts (snd_all X.N nm cv F src) (snd_all X.N nm cv F ic) (snd_all X.N nm cv F ie) g h3
          exact s_setLc g (of_decide_eq_true h1) s2 s1 P
        | comp2 k src tgt own k1 src1 tg1 own1 ie m =>
          obtain ⟨elt, t, iter, t1, iter1, scope, pos, rfl, P⟩ := comp2_parts (snd_all X.N nm cv F src) (snd_all X.N nm cv F src1) (snd_all X.N nm cv F ie) g h3
          exact s_setLc2 g (of_decide_eq_true h1) s2 s1 P
        | _ => cases h6
    · cases h
  | any =>
    exact ⟨fun X sc E _ _ _ st h => ⟨fun _ _ _ _ _ _ ⟨_, _, _, _, _, h⟩ => h.elim⟩, fun X sc E _ _ _ sts h => (by cases h), fun X sc E _ _ _ st h => (by cases h), fun X sc E _ _ _ sts h => (by cases h)⟩
  | unp is e =>
    refine ⟨fun X sc E hN g gx st h => ?_, fun X sc E _ _ _ sts h => (by cases h), fun X sc E _ _ _ st h => (by cases h), fun X sc E _ _ _ sts h => (by cases h)⟩
    subst hN
    unfold chkS at h
    split at h
    · rename_i ts kt pt v pos
      obtain ⟨h1, h2, h3, h4⟩ := band4 h
      clear h
      have hv := ((snd_all X.N nm cv F e).e X sc sc E rfl g v h2).1
      split at h4
      · rename_i vs k2 p2
        split at h4
        · rename_i i j x px y py a b ia ib
          obtain ⟨q1, q2⟩ := band h1
          obtain ⟨q3, _⟩ := band q2
          split at h4
          · rename_i hc
            obtain ⟨c1, c2, c3, c4⟩ := band4 hc
            obtain ⟨d1, d2, d3, d4, d5⟩ := band5 h4
            have ha := ((snd_all X.N nm cv F (.acons ia (.acons ib .anil))).a X sc sc E rfl g [a, b] h2).1
            exact s_par g (of_decide_eq_true (band q1).1) (of_decide_eq_true (band q3).1) (of_decide_eq_true d2) c1 c2 c3 (of_decide_eq_true d3) d4 d5 (bnot c4) (bnot d1) ha
          · obtain ⟨d1, d2, d3, d4⟩ := band4 h4
            exact s_unp g h1 hv h3 (sw_none2 g.kind g.sc d2 d3 d1)
        · rename_i i j l x px y py z pz a b c ia ib ic
          rw [Bool.or_eq_true, Bool.or_eq_true] at h4
          rcases h4 with (h4 | h4) | h4
          · exact s_unp g h1 hv h3 (sw_none3 g.kind h4)
          · simp only [Bool.and_eq_true, Bool.not_eq_true'] at h4
            exact s_unp g h1 hv h3 (sw_none3l g.kind g.sc h4.2.1 h4.2.2.1 h4.2.2.2 h4.1)
          · simp only [Bool.and_eq_true, decide_eq_true_eq] at h4
            obtain ⟨c1, c2, c3, c4, c5, c6, c7, c8, c9, c10, c11, c12, c13, c14, c15, c16⟩ := h4
            obtain ⟨q1, q2⟩ := band h1
            obtain ⟨q3, q4⟩ := band q2
            obtain ⟨q5, _⟩ := band q4
            have ha := ((snd_all X.N nm cv F (.acons ia (.acons ib (.acons ic .anil)))).a X sc sc E rfl g [a, b, c] h2).1
            exact s_par3 g (of_decide_eq_true (band q1).1) (of_decide_eq_true (band q3).1) (of_decide_eq_true (band q5).1) c8 c9 c10 c1 c2 c3 (sw_three g.kind g.sc c1 c2 c3 c4 c5 c11 c12 c13 c14 c15 c16 (bnot c6) (bnot c7)) ha
        · exact s_unp g h1 hv h3 sw_none4
        · cases h4
      · refine s_unp g h1 hv h3 ?_
        rename_i hnt
        cases v <;> first | rfl | exact absurd rfl (hnt _ _ _)
    · cases h
  | setI o i e =>
    refine ⟨fun X sc E hN g gx st h => ?_, fun X sc E _ _ _ sts h => (by cases h), fun X sc E _ _ _ st h => (by cases h), fun X sc E _ _ _ sts h => (by cases h)⟩
    subst hN
    unfold chkS at h
    split at h
    · obtain ⟨h1, h4⟩ := band h
      obtain ⟨h1, h3⟩ := band h1
      obtain ⟨h1, h2⟩ := band h1
      exact s_setI h1 ((snd_all X.N nm cv F o).e X sc sc E rfl g _ h2).1 ((snd_all X.N nm cv F i).e X sc sc E rfl g _ h3).1 ((snd_all X.N nm cv F e).e X sc sc E rfl g _ h4).1
    · cases h
  | setI2 o i o' i' e =>
    refine ⟨fun X sc E hN g gx st h => ?_, fun X sc E _ _ _ sts h => (by cases h), fun X sc E _ _ _ st h => (by cases h), fun X sc E _ _ _ sts h => (by cases h)⟩
    subst hN
    unfold chkS at h
    split at h
    · obtain ⟨h1, h8⟩ := band h
      obtain ⟨h1, h7⟩ := band h1
      obtain ⟨h1, h6⟩ := band h1
      obtain ⟨h1, h5⟩ := band h1
      obtain ⟨h1, h4⟩ := band h1
      obtain ⟨h1, h3⟩ := band h1
      obtain ⟨h1, h2⟩ := band h1
      have S := fun ie => snd_all X.N nm cv F ie
      exact s_setI2 g h1 h2 ((S o).e X sc sc E rfl g _ h3).1 ((S i).e X sc sc E rfl g _ h4).1 ((S o').e X sc sc E rfl g _ h5).1 ((S i').e X sc sc E rfl g _ h6).1 ((S e).e X sc sc E rfl g _ h7).1 h8
    · cases h
  | setF c o f e =>
    refine ⟨fun X sc E hN g gx st h => ?_, fun X sc E _ _ _ sts h => (by cases h), fun X sc E _ _ _ st h => (by cases h), fun X sc E _ _ _ sts h => (by cases h)⟩
    subst hN
    unfold chkS at h
    split at h
    · obtain ⟨h1, h5⟩ := band h
      obtain ⟨h1, h4⟩ := band h1
      obtain ⟨h1, h3⟩ := band h1
      obtain ⟨h1, h2⟩ := band h1
      have e1 := of_decide_eq_true h1
      subst e1
      exact s_setF g (of_decide_eq_true h2) ((snd_all X.N nm cv F o).e X sc sc E rfl g _ h3).1 ((snd_all X.N nm cv F e).e X sc sc E rfl g _ h4).1 h5
    · cases h
  | setSl o lo hi e =>
    refine ⟨fun X sc E hN g gx st h => ?_, fun X sc E _ _ _ sts h => (by cases h), fun X sc E _ _ _ st h => (by cases h), fun X sc E _ _ _ sts h => (by cases h)⟩
    subst hN
    unfold chkS at h
    split at h
    · obtain ⟨h1, h5⟩ := band h
      obtain ⟨h1, h4⟩ := band h1
      obtain ⟨h1, h3⟩ := band h1
      obtain ⟨h1, h2⟩ := band h1
      exact s_setSl ((snd_all X.N nm cv F o).e X sc sc E rfl g _ h1).1 ((snd_all X.N nm cv F lo).o X sc sc E rfl g _ h2) ((snd_all X.N nm cv F hi).o X sc sc E rfl g _ h3) ((snd_all X.N nm cv F e).e X sc sc E rfl g _ h4).1 h5
    · cases h
  | expr e =>
    refine ⟨fun X sc E hN g gx st h => ?_, fun X sc E _ _ _ sts h => (by cases h), fun X sc E _ _ _ st h => (by cases h), fun X sc E _ _ _ sts h => (by cases h)⟩
    subst hN
    unfold chkS at h
    split at h
    · obtain ⟨h1, h2⟩ := band h
      exact s_expr ((snd_all X.N nm cv F e).e X sc sc E rfl g _ h2).1 h1
    · cases h
  | ret e =>
    refine ⟨fun X sc E hN g gx st h => ?_, fun X sc E _ _ _ sts h => (by cases h), fun X sc E _ _ _ st h => (by cases h), fun X sc E _ _ _ sts h => (by cases h)⟩
    subst hN
    unfold chkS at h
    split at h
    · exact s_ret ((snd_all X.N nm cv F e).e X sc sc E rfl g _ h).1
    · cases h
  | ifs c a b iha ihb =>
    refine ⟨fun X sc E hN g gx st h => ?_, fun X sc E _ _ _ sts h => (by cases h), fun X sc E _ _ _ st h => (by cases h), fun X sc E _ _ _ sts h => (by cases h)⟩
    subst hN
    unfold chkS at h
    split at h
    · obtain ⟨h1, h4⟩ := band h
      obtain ⟨h1, h3⟩ := band h1
      obtain ⟨h1, h2⟩ := band h1
      exact s_ifs (((snd_all X.N nm cv F c).e X sc sc E rfl g _ h2).2 h1) (iha.2.1 X sc E rfl g gx _ h3) (ihb.2.1 X sc E rfl g gx _ h4)
    · cases h
  | for_ k src tg b ihb =>
    refine ⟨fun X sc E hN g gx st h => ?_, fun X sc E _ _ _ sts h => (by cases h), fun X sc E hN g gx st h => ?_, fun X sc E _ _ _ sts h => (by cases h)⟩
    rotate_left
    · subst hN
      exact s_forT X.N nm nc cv F g gx.own h (fun body hb => ihb.2.1 X sc E rfl g gx body hb)
    subst hN
    unfold chkS at h
    split at h
    · rename_i t iter body pos
      obtain ⟨h1, h3⟩ := band h
      obtain ⟨h1, h2⟩ := band h1
      obtain ⟨h0, h1⟩ := band h1
      obtain ⟨k1, k2⟩ := (snd_all X.N nm cv F src).i X sc sc E rfl g k iter t h1 h0
      exact s_for g gx.own k1 k2 (s_tg g h2) (ihb.2.1 X sc E rfl g gx _ h3)
    · cases h
  | while_ mu c b ihb =>
    refine ⟨fun X sc E hN g gx st h => ?_, fun X sc E _ _ _ sts h => (by cases h), fun X sc E _ _ _ st h => (by cases h), fun X sc E _ _ _ sts h => (by cases h)⟩
    subst hN
    unfold chkS at h
    split at h
    · obtain ⟨h1, h3⟩ := band h
      obtain ⟨h1, h2⟩ := band h1
      exact s_while g gx.own (((snd_all X.N nm cv F c).e X sc sc E rfl g _ h2).2 h1) (ihb.2.1 X sc E rfl g gx _ h3)
    · cases h
  | raise c =>
    refine ⟨fun X sc E hN g gx st h => ?_, fun X sc E _ _ _ sts h => (by cases h), fun X sc E _ _ _ st h => (by cases h), fun X sc E _ _ _ sts h => (by cases h)⟩
    subst hN
    unfold chkS at h
    split at h
    · obtain ⟨h1, h2⟩ := band h
      obtain ⟨h2, h3⟩ := band h2
      exact s_raise g gx (of_decide_eq_true h1) h2 h3
    · cases h
  | tryR e hs =>
    refine ⟨fun X sc E hN g gx st h => ?_, fun X sc E _ _ _ sts h => (by cases h), fun X sc E _ _ _ st h => (by cases h), fun X sc E _ _ _ sts h => (by cases h)⟩
    subst hN
    unfold chkS at h
    split at h
    · obtain ⟨h1, h2⟩ := band h
      exact s_try g gx (fun X' E' hN' g' => ((snd_all X.N nm cv F e).e X' sc sc E' hN' g' _ h1).1) h2
    · cases h
end
/-! ### a def called -/
section
variable {K : PySem.W.Frag} {H : Hp} {th : Th} {S : Store}
mutual
theorem Rep.under : ∀ {d : D} {v : V}, Rep K H th d v → d.under th.c.length = true
  | _, _, .none => rfl
  | _, _, .bool _ => rfl
  | _, _, .int _ => rfl
  | _, _, .str _ => rfl
  | _, _, .tup _ r => RepL.under r
  | _, _, .lst _ _ _ r => RepL.under r
  | _, _, .scr _ => rfl
  | _, _, .loc h => decide_eq_true (List.getElem?_eq_some_iff.mp h).1
theorem RepL.under : ∀ {ds : List D} {vs : List V}, RepL K H th ds vs → D.underL th.c.length ds = true
  | _, _, .nil => rfl
  | _, _, .cons r t => by simp only [D.underL, Rep.under r, RepL.under t, Bool.and_self]
end
mutual
theorem Rep.cut {n : Nat} : ∀ {d : D} {v : V}, Rep K H th d v → d.under n = true → Rep K H ⟨th.c.take n, th.g⟩ d v
  | _, _, .none, _ => .none
  | _, _, .bool b, _ => .bool b
  | _, _, .int i, _ => .int i
  | _, _, .str s, _ => .str s
  | _, _, .tup h r, u => .tup h (RepL.cut r u)
  | _, _, .lst h m g r, u => .lst h (fun z => m (List.mem_of_mem_take z)) g (RepL.cut r u)
  | _, _, .scr h, _ => .scr h
  | _, _, .loc h, u => .loc (by
      have u := of_decide_eq_true u
      show (th.c.take n)[_]? = some _
      rw [List.getElem?_take_of_lt u]; exact h)
theorem RepL.cut {n : Nat} : ∀ {ds : List D} {vs : List V}, RepL K H th ds vs → D.underL n ds = true → RepL K H ⟨th.c.take n, th.g⟩ ds vs
  | _, _, .nil, _ => .nil
  | _, _, .cons r t, u => .cons (Rep.cut r (band u).1) (RepL.cut t (band u).2)
end
mutual
theorem Rep.froze {n : Nat} {go : List D → List D} (s : Sim K H th S) (ih : ∀ {ds : List D} {vs : List V}, RepL K H th ds vs → D.underL n (go ds) = true → RepL K H ⟨th.c.take n, th.g⟩ (go ds) vs) :
    ∀ {d : D} {v : V}, Rep K H th d v → (D.frz1 n S go d).under n = true → Rep K H ⟨th.c.take n, th.g⟩ (D.frz1 n S go d) v
  | _, _, .none, _ => .none
  | _, _, .bool b, _ => .bool b
  | _, _, .int i, _ => .int i
  | _, _, .str s, _ => .str s
  | _, _, .tup h r, u => .tup h (RepL.froze s ih r u)
  | _, _, .lst h m g r, u => .lst h (fun z => m (List.mem_of_mem_take z)) g (RepL.froze s ih r u)
  | _, _, .scr h, _ => .scr h
  | _, _, .loc (a := a) (n := m) h, u => by
    unfold D.frz1 at u ⊢
    by_cases hm : n ≤ m
    · rw [if_pos hm] at u ⊢
      cases hs : S[m]? with
      | none => rw [hs] at u; simp only [D.under] at u; exact absurd (of_decide_eq_true u) (by omega)
      | some c =>
        cases c with
        | ins c fs => rw [hs] at u; simp only [D.under] at u; exact absurd (of_decide_eq_true u) (by omega)
        | lst xs =>
          rw [hs] at u
          obtain ⟨b, vs, h1, h2, h3⟩ := s.at hs
          rw [h] at h1; cases h1
          refine .lst h2 (fun z => ?_) (fun z => (s.gh a z).2 (List.mem_of_getElem? h)) (ih h3 u)
          obtain ⟨j, hj, e⟩ := List.getElem_of_mem z
          have hj' : j < n := by
            have := hj
            simp at this
            omega
          have e' : th.c[j]? = some a := by
            rw [← List.getElem?_take_of_lt hj']
            exact (List.getElem?_eq_getElem hj).trans (congrArg some e)
          have := (List.getElem?_inj (by exact (List.getElem?_eq_some_iff.mp h).1) s.nd).mp (h.trans e'.symm)
          omega
    · rw [if_neg hm] at u ⊢
      refine .loc ?_
      show (th.c.take n)[m]? = some a
      rw [List.getElem?_take_of_lt (by omega)]; exact h
theorem RepL.froze {n : Nat} {go : List D → List D} (s : Sim K H th S) (ih : ∀ {ds : List D} {vs : List V}, RepL K H th ds vs → D.underL n (go ds) = true → RepL K H ⟨th.c.take n, th.g⟩ (go ds) vs) :
    ∀ {ds : List D} {vs : List V}, RepL K H th ds vs → D.underL n (D.frz1L n S go ds) = true → RepL K H ⟨th.c.take n, th.g⟩ (D.frz1L n S go ds) vs
  | _, _, .nil, _ => .nil
  | _, _, .cons r t, u => .cons (Rep.froze s ih r (band u).1) (RepL.froze s ih t (band u).2)
end
theorem froze_L {n : Nat} (s : Sim K H th S) : ∀ (k : Nat) {ds : List D} {vs : List V}, RepL K H th ds vs → D.underL n (D.frzL n S k ds) = true → RepL K H ⟨th.c.take n, th.g⟩ (D.frzL n S k ds) vs
  | 0, _, _, r, u => r.cut u
  | k + 1, _, _, r, u => RepL.froze s (fun r u => froze_L s k r u) r u
theorem froze_D {n : Nat} (s : Sim K H th S) (k : Nat) {d : D} {v : V} (r : Rep K H th d v) (u : (D.frz n S k d).under n = true) : Rep K H ⟨th.c.take n, th.g⟩ (D.frz n S k d) v := Rep.froze s (fun r u => froze_L s k r u) r u
theorem sameOr_at {n : Nat} : ∀ {S S' : Store}, sameOr n S S' = true → S.length = S'.length ∧ ∀ (i : Nat) (c' : Cell), S'[i]? = some c' → S[i]? = some c' ∨ c'.under n = true
  | [], [], _ => ⟨rfl, fun i c' h => by simp at h⟩
  | [], _ :: _, h => by cases h
  | _ :: _, [], h => by cases h
  | c :: r, c1 :: r', h => by
    obtain ⟨h1, h2⟩ := band h
    obtain ⟨k1, k2⟩ := sameOr_at h2
    refine ⟨by simp [k1], fun i c' hc => ?_⟩
    cases i with
    | zero =>
      simp at hc
      subst hc
      rw [Bool.or_eq_true] at h1
      rcases h1 with h1 | h1
      · left; simp [of_decide_eq_true h1]
      · exact .inr h1
    | succ i =>
      simp at hc
      rcases k2 i c' hc with q | q
      · left; simpa using q
      · exact .inr q
theorem CellOk.under {c : Cell} {a : Addr} (h : CellOk K H th c a) : c.under th.c.length = true := by
  cases c with
  | lst xs =>
    obtain ⟨vs, _, r⟩ := h
    exact r.under
  | ins c fs =>
    obtain ⟨dx, vs, _, r⟩ := h
    have := r.val.under
    show (fs.all fun p => D.under th.c.length p.2) = true
    clear r
    induction fs with
    | nil => rfl
    | cons p fs ih =>
      obtain ⟨u1, u2⟩ := band this
      rw [List.all_cons, u1]
      exact ih u2
theorem CellOk.cut {c : Cell} {a : Addr} {n : Nat} (h : CellOk K H th c a) (u : c.under n = true) : CellOk K H ⟨th.c.take n, th.g⟩ c a := by
  cases c with
  | lst xs =>
    obtain ⟨vs, h1, r⟩ := h
    exact ⟨vs, h1, r.cut u⟩
  | ins c fs =>
    obtain ⟨dx, vs, h1, r⟩ := h
    refine ⟨dx, vs, h1, r.key, r.val.cut ?_⟩
    have u : (fs.all fun p => D.under n p.2) = true := u
    clear h1 r
    induction fs with
    | nil => rfl
    | cons p fs ih =>
      rw [List.all_cons] at u
      obtain ⟨u1, u2⟩ := band u
      show (D.under n p.2 && D.underL n (fs.map (·.2))) = true
      rw [u1, Bool.true_and]
      exact ih u2 u2
/-- behind a call: the cells that it made are dropped -/
theorem clean_ok {H1 : Hp} {th1 : Th} {S1 : Store} {d : D} {d' : D} {S2 : Store} (s : Sim K H th S) (e : Ext H th H1 th1) (s1 : Sim K H1 th1 S1) (h : clean S d S1 = .ok d' S2) :
    Ext H th H1 th ∧ Sim K H1 th S2 ∧ ∀ v, Rep K H1 th1 d v → Rep K H1 th d' v := by
  unfold clean at h
  dsimp only at h
  split at h
  · rename_i hk
    obtain ⟨u, so⟩ := band hk
    cases h
    obtain ⟨more, hm⟩ := e.pre
    have hc : th1.c.take S.length = th.c := by
      rw [hm, ← s.len]; simp
    have hth : (⟨th1.c.take S.length, th1.g⟩ : Th) = th := by rw [hc, e.gh]
    refine ⟨⟨e.tup, e.lst, e.frz, ⟨[], by simp⟩, rfl, fun a h n => absurd h n, e.there⟩, ?_, fun v r => ?_⟩
    · obtain ⟨k1, k2⟩ := sameOr_at so
      refine ⟨by rw [s.len]; exact k1, s.nd, fun n c a h1 h2 => ?_, fun a h => ⟨(s1.gh a (by rw [e.gh]; exact h)).1, (s.gh a h).2⟩⟩
      have hn : n < S.length := by
        have := (List.getElem?_eq_some_iff.mp h2).1
        rw [s.len] at this
        exact this
      have h1' : S1[n]? = some c := by rw [← List.getElem?_take_of_lt hn]; exact h1
      have q := s1.cell n c a h1' (e.get h2)
      have uc : c.under S.length = true := by
        rcases k2 n c h1 with z | z
        · rw [← s.len]; exact (s.cell n c a z h2).under
        · exact z
      have q := q.cut uc
      rw [hth] at q
      exact q
    · have q := froze_D s1 3 r u
      rw [hth] at q
      exact q
  · cases h
theorem repE_start {N : List Str} {ds : List D} {vs : List V} (r : RepL K H th ds vs) : RepE K H th (startE N.length ds) (L2.start N vs) := by
  unfold startE L2.start
  refine ⟨by simp [r.length], fun i d h => ?_⟩
  by_cases hi : i < ds.length
  · rw [List.getElem?_append_left (by simpa using hi), List.getElem?_map] at h
    cases hd : ds[i]? with
    | none => rw [hd] at h; cases h
    | some d0 =>
      rw [hd] at h
      cases h
      obtain ⟨v, h1, h2⟩ := r.get hd
      refine ⟨v, ?_, h2⟩
      rw [List.getElem?_append_left (by rw [List.length_map, ← r.length]; exact hi), List.getElem?_map, h1]
      rfl
  · rw [List.getElem?_append_right (by simpa using hi), List.getElem?_replicate] at h
    split at h <;> cases h
end
section
variable {P : Program} {w : World} {K : PySem.W.Frag} {mg : Str → Option Value} {base : Heap} {nm : Nms} {nc : Nat → Option Str} {cv : Nat → Value} {F : Nat → List D → Store → R D}
/-- what is known of a def that may be called, at level k -/
structure Def1 (P : Program) (w : World) (K : PySem.W.Frag) (mg : Str → Option Value) (base : Heap) (cv : Nat → Value) (k : Nat) (x : Str) (G : List D → Store → R D) : Prop where
  ok : ∃ (f : Addr) (fd : FuncData) (ps : List Str), FnOk P w K mg base (L2.CX P w) k f fd ps (spOf K cv G) ∧ mg x = some (.ref f) ∧ PySem.W.keepIn K (.ref f) = true ∧ Binds K fd ps []
/-- what is known of a method that may be called, at level k -/
structure DefM (P : Program) (w : World) (K : PySem.W.Frag) (mg : Str → Option Value) (base : Heap) (cv : Nat → Value) (k : Nat) (c m : Str) (G : List D → Store → R D) : Prop where
  ok : ∃ (j : Nat) (f : Addr) (fd : FuncData) (ps : List Str), j + 1 ≤ k ∧ FnOk P w K mg base (L2.CX P w) j f fd ps (spOf K cv G) ∧ Binds K fd ps [] ∧ Cls K (He.ga K c) ∧ MM K mg c m f
/-- THE RULE: a def whose text bears the term fn does what the term does -/
theorem def_fn {x qn : Str} {k : Nat} {params : Arguments} {body : List Stmt} {scope : Scope} {kws : List (Str × V)} {f : Addr} {fd : FuncData} {N ps : List Str} {fn : Fn} (D0 : FunD K x qn params body scope [] kws f fd) (Sc : FnScope N ps scope)
    (hnp : fn.np = ps.length) (hnn : fn.nn = N.length) (hblt : ∀ y ∈ bltNames, mg y = none)
    (hcf : ClsFacts K mg cv nc) (hcalls : ∀ g y, nm g = some y → Def1 P w K mg base cv k y (F g)) (hmeths : ∀ g c m, nm.m g = some (c, m) → DefM P w K mg base cv k c m (F g)) (hinsc : ∀ c, c ∈ nm.q → InsX K (He.ga K c) ∧ mg c = some (.ref (He.ga K c))) (hattr : ∀ p, p ∈ nm.a → Cls K (He.ga K p.1) ∧ NoAttr K (He.ga K p.1) p.2) (hc : chkSs N nm nc fn.body scope body = true) : FnOk P w K mg base (L2.CX P w) (k + 1) f fd ps (spOf K cv (runF F fn)) := by
  refine D0.ok Sc (fun vs H Q E h => ?_) (fun cdv A outer s H vs Q E hr h => ?_)
  · obtain ⟨th, S, ds, s, r, h⟩ := h
    unfold runF at h
    split at h
    · rename_i hl
      rw [← r.length, hl, hnp]
    · exact h.elim
  · have tk : Takes (cxOf (L2.CX P w) P w K mg base N qn scope f cdv A outer s H E) (fun cls d _ H => E cls d H) := takes_of rfl rfl rfl rfl
    have g : Good (cxOf (L2.CX P w) P w K mg base N qn scope f cdv A outer s H E) scope scope nm cv F E := by
      refine ⟨rfl, Sc.kind, rfl, Sc.nd, fun n y hn => ?_, fun n c m hn => ?_, hinsc, hattr, passes_call tk (fun _ _ _ _ q => q), Fly.of_takes rfl rfl tk, hr.units, hblt, fun y hy => ⟨hy, .inl rfl⟩⟩
      · obtain ⟨f', fd', ps', k1, k2, k3, k4⟩ := (hcalls n y hn).ok
        exact ⟨k, f', fd', ps', k1, hr, k2, k3, k4⟩
      · obtain ⟨j, f', fd', ps', hj, k1, k2, k3, k4⟩ := (hmeths n c m hn).ok
        exact ⟨j, f', fd', ps', k1, hr.mono hj, k2, k3, k4⟩
    refine ⟨_, (snd_S N nm nc cv F fn.body).2.1 _ scope E rfl g ⟨tk, rfl, rfl, hcf, passes_of rfl⟩ body hc, ?_⟩
    obtain ⟨th, S, ds, sm, r, h⟩ := h
    unfold runF at h
    split at h
    · refine ⟨th, S, startE fn.nn ds, sm, by rw [hnn]; exact repE_start r, ?_⟩
      cases hx : ex F fn.body (startE fn.nn ds) S with
      | nx ρ1 S1 =>
        rw [hx] at h
        intro σ1 H1 th1 e1 s1 _
        cases hcl : clean S .none S1 with
        | ok d' S2 =>
          dsimp only at h
          rw [hcl] at h
          obtain ⟨q1, q2, q3⟩ := clean_ok sm e1 s1 hcl
          exact h .non H1 th q1 q2 (q3 .non .none)
        | exc c S2 => dsimp only at h; rw [hcl] at h; unfold clean at hcl; dsimp only at hcl; split at hcl <;> cases hcl
        | err => dsimp only at h; rw [hcl] at h; exact h.elim
      | ret d S1 =>
        rw [hx] at h
        intro v H1 th1 e1 s1 r1
        cases hcl : clean S d S1 with
        | ok d' S2 =>
          dsimp only at h
          rw [hcl] at h
          obtain ⟨q1, q2, q3⟩ := clean_ok sm e1 s1 hcl
          exact h v H1 th q1 q2 (q3 v r1)
        | exc c S2 => dsimp only at h; rw [hcl] at h; unfold clean at hcl; dsimp only at hcl; split at hcl <;> cases hcl
        | err => dsimp only at h; rw [hcl] at h; exact h.elim
      | exc c S1 =>
        rw [hx] at h
        intro H1 th1 e1 s1
        cases hcl : clean S .none S1 with
        | ok d' S2 =>
          dsimp only at h
          rw [hcl] at h
          obtain ⟨q1, q2, q3⟩ := clean_ok sm e1 s1 hcl
          exact h H1 th q1 q2
        | exc c S2 => dsimp only at h; rw [hcl] at h; exact h.elim
        | err => dsimp only at h; rw [hcl] at h; exact h.elim
      | err => rw [hx] at h; exact h.elim
    · exact h.elim
theorem def_ok {x z : Str} {k : Nat} {params : Arguments} {body : List Stmt} {scope : Scope} {kws : List (Str × V)} {f : Addr} {fd : FuncData} {N ps : List Str} {fn : Fn} (D0 : FunD K z z params body scope [] kws f fd) (Sc : FnScope N ps scope)
    (hmg : mg x = some (.ref f)) (hb : Binds K fd ps []) (hnp : fn.np = ps.length) (hnn : fn.nn = N.length) (hblt : ∀ y ∈ bltNames, mg y = none)
    (hcf : ClsFacts K mg cv nc) (hcalls : ∀ g y, nm g = some y → Def1 P w K mg base cv k y (F g)) (hmeths : ∀ g c m, nm.m g = some (c, m) → DefM P w K mg base cv k c m (F g)) (hinsc : ∀ c, c ∈ nm.q → InsX K (He.ga K c) ∧ mg c = some (.ref (He.ga K c))) (hattr : ∀ p, p ∈ nm.a → Cls K (He.ga K p.1) ∧ NoAttr K (He.ga K p.1) p.2) (hc : chkSs N nm nc fn.body scope body = true) : Def1 P w K mg base cv (k + 1) x (runF F fn) :=
  ⟨f, fd, ps, def_fn D0 Sc hnp hnn hblt hcf hcalls hmeths hinsc hattr hc, hmg, D0.kp, hb⟩
theorem DefM.mono {j k : Nat} {c m : Str} {G : List D → Store → R D} (d : DefM P w K mg base cv j c m G) (h : j ≤ k) : DefM P w K mg base cv k c m G := by
  obtain ⟨i, f, fd, ps, k0, k1, k2, k3, k4⟩ := d.ok
  exact ⟨i, f, fd, ps, Nat.le_trans k0 h, k1, k2, k3, k4⟩
theorem Def1.mono {j k : Nat} {x : Str} {G : List D → Store → R D} (d : Def1 P w K mg base cv j x G) (h : j ≤ k) : Def1 P w K mg base cv k x G := by
  obtain ⟨f, fd, ps, k1, k2, k3, k4⟩ := d.ok
  exact ⟨f, fd, ps, k1.mono h, k2, k3, k4⟩
end
end PV
end
section
set_option Elab.async false
set_option linter.all false
set_option maxRecDepth 100000
set_option maxHeartbeats 4000000
namespace PV
open PySem PySem.Spec PyProof.Rows L2
section
variable {P : Program} {w : World} {K : PySem.W.Frag} {mg : Str → Option Value} {base : Heap} {cv : Nat → Value} {k : Nat}
theorem calls_of : ∀ {l : List Cal}, (∀ c, c ∈ l → Def1 P w K mg base cv k c.nm c.G) → ∀ g y, nmOf l g = some y → Def1 P w K mg base cv k y (FOf l g)
  | [], _, g, y, e => by cases e
  | c :: l, h, g, y, e => by
    unfold nmOf at e
    unfold FOf
    by_cases hc : c.id = g
    · rw [if_pos hc] at e ⊢
      cases e
      exact h c List.mem_cons_self
    · rw [if_neg hc] at e ⊢
      exact calls_of (fun d hd => h d (List.mem_cons_of_mem _ hd)) g y e
theorem cal_nil : ∀ c, c ∈ ([] : List Cal) → Def1 P w K mg base cv k c.nm c.G := fun _ h => nomatch h
theorem cal_cons {c : Cal} {l : List Cal} (h1 : Def1 P w K mg base cv k c.nm c.G) (h2 : ∀ c, c ∈ l → Def1 P w K mg base cv k c.nm c.G) : ∀ d, d ∈ c :: l → Def1 P w K mg base cv k d.nm d.G := fun d hd => by
  rcases List.mem_cons.mp hd with rfl | hd
  · exact h1
  · exact h2 d hd
/-- a def of the row's top -/
abbrev FnP (K : PySem.W.Frag) (x : Str) (st : Stmt) (f : Addr) (fd : FuncData) : Prop := FunD K x x (defArgs st) (defBody st) (defScope st) [] [] f fd
/-- what the text of a def must show -/
structure TxtOk (ncl : List (Nat × Str)) (l : List Cal) (nt : List (Nat × Str)) (N ps : List Str) (fn : Fn) (st : Stmt) : Prop where
  nte : (l.map fun c => (c.id, c.nm)) = nt
  sc : FnScope N ps (defScope st)
  np : fn.np = ps.length
  nn : fn.nn = N.length
  bd : ∀ (x qual : Str) (kV doc pm : Value) (an : Option Addr) (cdv ct : Value) (us : List Value), us.length = ps.length → bindArgs (PySem.W.fnOf x qual (defArgs st) (defBody st) (defScope st) .none kV doc pm an cdv ct) ⟨us, []⟩ = pure (ps.zip us)
  chk : chkSs N (Nms.of nt) (nmP ncl) fn.body (defScope st) (defBody st) = true
theorem def_of {ncl : List (Nat × Str)} {l : List Cal} {nt : List (Nat × Str)} {N ps : List Str} {fn : Fn} {st : Stmt} {x z : Str} {f : Addr} {fd : FuncData} (T : TxtOk ncl l nt N ps fn st) (D0 : FnP K z st f fd) (hmg : mg x = some (.ref f)) (hblt : ∀ y ∈ bltNames, mg y = none) (hcf : ClsFacts K mg cv (nmP ncl)) (hc : ∀ c, c ∈ l → Def1 P w K mg base cv k c.nm c.G) :
    Def1 P w K mg base cv (k + 1) x (runF (FOf l) fn) :=
  def_ok D0 T.sc hmg (D0.bindsN fun kV doc pm an cdv ct us hl => T.bd z z kV doc pm an cdv ct us hl) T.np T.nn hblt hcf (fun g y h => calls_of hc g y (by rw [nmOf_P, T.nte]; exact h)) (fun _ _ _ h => by cases h) (fun _ h => by cases h) (fun _ h => by cases h) T.chk
theorem fn_txt {ncl : List (Nat × Str)} {l : List Cal} {nt : List (Nat × Str)} {N ps : List Str} {fn : Fn} {st : Stmt} {x : Str} {f : Addr} {fd : FuncData} (T : TxtOk ncl l nt N ps fn st) (D0 : FnP K x st f fd) (hblt : ∀ y ∈ bltNames, mg y = none) (hcf : ClsFacts K mg cv (nmP ncl)) (hc : ∀ c, c ∈ l → Def1 P w K mg base cv k c.nm c.G) :
    FnOk P w K mg base (L2.CX P w) (k + 1) f fd ps (spOf K cv (runF (FOf l) fn)) :=
  def_fn D0 T.sc T.np T.nn hblt hcf (fun g y h => calls_of hc g y (by rw [nmOf_P, T.nte]; exact h)) (fun _ _ _ h => by cases h) (fun _ h => by cases h) (fun _ h => by cases h) T.chk
/-! ### defs with methods -/
theorem MM.meth {c m : Str} {f : Addr} (hm : m ≠ "__init__") (h1 : Meth K (He.ga K c) m f) : MM K mg c m f := by
  unfold MM
  rw [if_neg hm]
  exact h1
/-- a def of which nothing is promised -/
theorem def_err {ncl : List (Nat × Str)} {nt : List (Nat × Str)} {l : List Cal} {N ps : List Str} {fn : Fn} {st : Stmt} {x : Str} {f : Addr} {fd : FuncData} (T : TxtOk ncl l nt N ps fn st) (D0 : FnP K x st f fd) (hmg : mg x = some (.ref f)) : Def1 P w K mg base cv k x (fun _ _ => .err) := by
  refine ⟨f, fd, ps, ⟨fun vs H Q E h => ?_, fun A outer s H args us vs Q E _ _ _ _ h => ?_⟩, hmg, D0.kp, D0.bindsN fun kV doc pm an cdv ct us hl => T.bd x x kV doc pm an cdv ct us hl⟩
  · obtain ⟨_, _, _, _, _, h⟩ := h
    exact h.elim
  · obtain ⟨_, _, _, _, _, h⟩ := h
    exact h.elim
/-- the classes as values -/
def cvOf (K : PySem.W.Frag) (ncl : List (Nat × Str)) (c : Nat) : Value := match nmP ncl c with | some x => .ref (He.ga K x) | none => .none
/-! ### the facts of the classes, all at once -/
theorem says_mem {fa : List He.Fa} {fn : List He.DefD} {K : PySem.W.Frag} (c : He.SaysD fa fn K) {f : He.Fa} (h : f ∈ fa) : f.ok K = true := by
  obtain ⟨i, hi, e⟩ := List.mem_iff_getElem.mp h
  exact c.fact i (f := f) (by rw [List.getElem?_eq_getElem hi, e])
theorem nmP_mem : ∀ {l : List (Nat × Str)} {g : Nat} {x : Str}, nmP l g = some x → (g, x) ∈ l
  | [], _, _, h => by cases h
  | p :: l, g, x, h => by
    unfold nmP at h
    split at h
    · rename_i e
      cases h
      subst e
      exact List.mem_cons_self
    · exact List.mem_cons_of_mem _ (nmP_mem h)
theorem cls_facts {fa : List He.Fa} {fn : List He.DefD} {K : PySem.W.Frag} {h : Heap} {mg : Str → Option Value} {ncl : List (Nat × Str)} (X : K.In h) (G : h.Ns mainGlobals mg) (c : He.SaysD (fa ++ clsFa ncl) fn K) : ClsFacts K mg (cvOf K ncl) (nmP ncl) := by
  have at_ : ∀ {g : Nat} {x : Str}, nmP ncl g = some x → cvOf K ncl g = .ref (He.ga K x) := fun {g x} e => by unfold cvOf; rw [e]
  have fact : ∀ {g : Nat} {x : Str} {f : He.Fa}, nmP ncl g = some x → f ∈ (He.Fa.glo x :: .exc x :: ncl.map fun q => He.Fa.exm x q.2 (decide (g = q.1))) → f.ok K = true := fun {g x f} e hf =>
    says_mem c (List.mem_append_right _ (List.mem_flatMap.mpr ⟨(g, x), nmP_mem e, hf⟩))
  refine ⟨fun g x e => ?_, fun g g' x x' e e' => ?_⟩
  · obtain ⟨e1, e2, e3, e4⟩ := He.exc_ok (fact e (List.mem_cons_of_mem _ List.mem_cons_self))
    exact ⟨_, at_ e, He.glo_ok X G (fact e List.mem_cons_self), e1, e2, e3, e4⟩
  · rw [at_ e, at_ e']
    exact He.exm_ok (fact e (List.mem_cons_of_mem _ (List.mem_cons_of_mem _ (List.mem_map.mpr ⟨(g', x'), nmP_mem e', rfl⟩))))
/-- the law's end -/
theorem law_sp {G : List D → Store → R D} {n : Nat} (h : ∀ ns : List Int, ns.length ≤ n → G [.scr ns] [] = .ok (.bool true) []) (H : Hp) (a : Addr) (ns : List Int) (hl : ns.length ≤ n) (hO : Only H) (hS : SqL K H a (ns.map V.int)) :
    spOf K cv G [.ref a] H (fun v _ => v = .bl true) (fun _ _ _ => False) := by
  have hs : ScrOk K H a (ns.map V.int) := by
    rcases hS with hS | hS
    · rcases hS with hS | hS
      · rcases hO a with z | ⟨o, xs, z⟩
        · rw [hS] at z; cases z
        · rw [hS] at z; cases z
      · exact .inl hS
    · exact .inr hS
  refine ⟨⟨[], []⟩, [], [.scr ns], ⟨rfl, List.nodup_nil, fun n c a h => by simp at h, fun a h => by cases h⟩, .one (.scr hs), ?_⟩
  rw [h ns hl]
  intro v H' th' _ _ r
  cases r
  rfl
end
theorem cx_false {P : Program} {w : World} {H : Hp} {s : Shared} {e : Value} {s' : Shared} (h : L2.CX P w [] H s (fun _ _ _ => False) e s') : False := by
  obtain ⟨_, _, _, _, _, _, _, _, _, _, _, _, z⟩ := h
  exact z
/-- the end of a law over a head by facts, with defs that may raise -/
theorem walk_W {l : PySem.W.OpenLaw} {n k : Nat} {q : Program} {loose : List Str} {XP : (Str → Option Value) → Heap → Prop} {YP : World → Heap → Prop} {d : DefRec} {x : Str}
    (hn : l.most = some n) (hn2 : n ≤ sizeLine) (hdf : d.params.defaults = []) (hr : Room k callerA)
    (F : ∀ (w : World) (mg : Str → Option Value) (fa : Addr) (h : Heap), YP w h → h.Ns mainGlobals mg → mg d.name = some (.ref fa) →
      ∃ (K : PySem.W.Frag) (fd : FuncData) (sp : Sp), K.In h ∧ (∀ (s : Shared) (u : Value), BindsTo s fd ⟨[u], []⟩ [(x, u)]) ∧
        (∀ (H : Hp) (a : Addr) (ns : List Int), ns.length ≤ n → Only H → SqL K H a (ns.map V.int) → sp [.ref a] H (fun v _ => v = .bl true) fun _ _ _ => False) ∧
        ∀ base : Heap, K.In base → base.Ns mainGlobals mg → FnOk l.prog w K mg base (L2.CX l.prog w) k fa fd [x] sp) :
    PySem.W.WalkO q loose XP YP l.row.toRowW d [] (fun f vs => PySem.call f vs) := by
  refine Att.attach_call hn hdf fun w s₀ s₁ mg mb fa o pm cd doc a vs ns G Y ho hd hcd hmg hobj hints hlen hg => ?_
  obtain ⟨K, fd, sp, KX, hb, hsp, hF⟩ := F w mg fa _ Y G.T.g hmg
  exact law_call KX G.T.g G.T.b G.T.builtins G.T.nolimit hg hobj hints (Nat.le_trans hlen hn2) hr hF hb (fun H hO hS => hsp H a ns hlen hO hS) fun H e s' z => cx_false z
end PV
end
section
set_option linter.all false
set_option maxRecDepth 100000
namespace PV
open PySem (Str)
-- _law_draw: 0 script 1 state 2 many 3 k 4 cell 5 digits 6 number 7 more
def f_law_draw : Fn := ⟨3, 8,
    .seq (.ifs (.not (.var 1))
    (.seq (.expr (.app (.var 1) (.bi .max false (.acons (.bin .add false (.comp .seq (.acons (.var 0) .anil) (.name 4) [4] false .none (.bi .abs false (.acons (.var 4) .anil)) false) (.lst false (.acons (.int 0) .anil))) .anil))))
    (.skip))
    (.skip))
    (.seq (.expr (.app (.var 1) (.int 0)))
    (.seq (.set 3 (.bi .len false (.acons (.var 1) .anil)))
    (.seq (.set 4 (.ife (.var 0) (.idx (.var 0) (.bin .mod false (.var 3) (.bi .len false (.acons (.var 0) .anil)))) (.int 0)))
    (.seq (.set 5 (.bin .mod false (.idx (.var 1) (.int 0)) (.int 65536)))
    (.seq (.setI (.var 1) (.int 0) (.bin .fdiv false (.idx (.var 1) (.int 0)) (.int 65536)))
    (.seq (.set 6 (.bin .mod false (.bin .add false (.bin .add false (.var 4) (.bin .mul false (.int 40503) (.var 5))) (.bin .mul false (.int 104729) (.var 3))) (.int 4294967291)))
    (.seq (.set 6 (.bin .mod false (.bin .mul false (.bin .mod false (.bin .mul false (.var 6) (.var 6)) (.int 4294967279)) (.int 48271)) (.int 4294967291)))
    (.seq (.set 7 (.bin .mod false (.bin .mul false (.bin .mod false (.bin .mul false (.var 6) (.var 6)) (.int 4294967279)) (.int 69621)) (.int 4294967291)))
    (.seq (.ret (.bin .mod false (.bin .add false (.bin .mul false (.bin .fdiv false (.var 6) (.int 64)) (.int 67108864)) (.bin .fdiv false (.var 7) (.int 64))) (.var 2)))
    (.skip))))))))))⟩
def L_law_draw : List Cal := []
def G_law_draw : List D → Store → R D := runF (FOf L_law_draw) f_law_draw
-- _law_fraction: 0 top 1 bottom 2 one 3 other 4 sign
def f_law_fraction : Fn := ⟨2, 5,
    .seq (.unp [2, 3] (.tup (.acons (.bi .abs false (.acons (.var 0) .anil)) (.acons (.bi .abs false (.acons (.var 1) .anil)) .anil))))
    (.seq (.while_ (muAbs 3) (.var 3)
    (.seq (.unp [2, 3] (.tup (.acons (.var 3) (.acons (.bin .mod false (.var 2) (.var 3)) .anil))))
    (.skip)))
    (.seq (.set 4 (.ife (.cmp .gt (.var 1) (.int 0)) (.int 1) (.neg (.int 1))))
    (.seq (.ret (.tup (.acons (.bin .fdiv false (.bin .mul false (.var 4) (.var 0)) (.var 2)) (.acons (.bin .fdiv false (.bi .abs false (.acons (.var 1) .anil)) (.var 2)) .anil))))
    (.skip))))⟩
def L_law_fraction : List Cal := []
def G_law_fraction : List D → Store → R D := runF (FOf L_law_fraction) f_law_fraction
-- _law_spread: 0 weights 1 one
def f_law_spread : Fn := ⟨1, 2,
    .seq (.ret (.bi .tuple false (.acons (.comp .seq (.acons (.var 0) .anil) (.name 1) [1] false .none (.call 10 (.acons (.var 1) (.acons (.bi .sum false (.acons (.var 0) .anil)) .anil))) false) .anil)))
    (.skip)⟩
def L_law_spread : List Cal := [⟨10, "_law_fraction", G_law_fraction⟩]
def G_law_spread : List D → Store → R D := runF (FOf L_law_spread) f_law_spread
-- _law_model: 0 script 1 state 2 most 3 many 4 states 5 table 6 step 7 spot 8 row
def f_law_model : Fn := ⟨3, 9,
    .seq (.unp [3, 4] (.tup (.acons (.bin .add false (.int 1) (.call 7 (.acons (.var 0) (.acons (.var 1) (.acons (.var 2) .anil))))) (.acons (.bin .add false (.int 2) (.call 7 (.acons (.var 0) (.acons (.var 1) (.acons (.int 2) .anil))))) .anil))))
    (.seq (.set 5 (.lst true .anil))
    (.seq (.for_ .range (.acons (.var 4) .anil) (.name 6)
    (.seq (.expr (.app (.var 5) (.comp .range (.acons (.var 3) .anil) (.name 7) [7] false .none (.call 7 (.acons (.var 0) (.acons (.var 1) (.acons (.int 4) .anil)))) true)))
    (.skip)))
    (.seq (.for_ .range (.acons (.var 4) .anil) (.name 6)
    (.seq (.ifs (.cmp .eq (.bi .sum false (.acons (.idx (.var 5) (.var 6)) .anil)) (.int 0))
    (.seq (.setI (.idx (.var 5) (.var 6)) (.int 0) (.int 1))
    (.skip))
    (.skip))
    (.skip)))
    (.seq (.for_ .range (.acons (.var 3) .anil) (.name 7)
    (.seq (.ifs (.cmp .eq (.comp .seq (.acons (.var 5) .anil) (.name 8) [8] true (.cmp .gt (.idx (.var 8) (.var 7)) (.int 0)) (.var 8) false) (.lst false .anil))
    (.seq (.setI (.idx (.var 5) (.int 0)) (.var 7) (.int 2))
    (.skip))
    (.skip))
    (.skip)))
    (.seq (.ret (.bi .tuple false (.acons (.comp .seq (.acons (.var 5) .anil) (.name 8) [8] false .none (.call 13 (.acons (.var 8) .anil)) false) .anil)))
    (.skip))))))⟩
def L_law_model : List Cal := [⟨13, "_law_spread", G_law_spread⟩, ⟨7, "_law_draw", G_law_draw⟩]
def G_law_model : List D → Store → R D := runF (FOf L_law_model) f_law_model
-- _law_pick: 0 script 1 state 2 some
def f_law_pick : Fn := ⟨3, 3,
    .seq (.ret (.idx (.var 2) (.call 7 (.acons (.var 0) (.acons (.var 1) (.acons (.bi .len false (.acons (.var 2) .anil)) .anil))))))
    (.skip)⟩
def L_law_pick : List Cal := [⟨7, "_law_draw", G_law_draw⟩]
def G_law_pick : List D → Store → R D := runF (FOf L_law_pick) f_law_pick
-- _law_bent: 0 script 1 state 2 thing 3 at 4 some
-- common_divisor: 0 one 1 other
def f_common_divisor : Fn := ⟨2, 2,
    .seq (.while_ (muAbs 1) (.var 1)
    (.seq (.unp [0, 1] (.tup (.acons (.var 1) (.acons (.bin .mod false (.var 0) (.var 1)) .anil))))
    (.skip)))
    (.seq (.ret (.var 0))
    (.skip))⟩
def L_common_divisor : List Cal := []
def G_common_divisor : List D → Store → R D := runF (FOf L_common_divisor) f_common_divisor
-- lowest_terms: 0 top 1 bottom 2 divisor
def f_lowest_terms : Fn := ⟨2, 3,
    .seq (.ifs (.cmp .lt (.var 1) (.int 0))
    (.seq (.unp [0, 1] (.tup (.acons (.neg (.var 0)) (.acons (.neg (.var 1)) .anil))))
    (.skip))
    (.skip))
    (.seq (.set 2 (.call 0 (.acons (.bi .abs false (.acons (.var 0) .anil)) (.acons (.var 1) .anil))))
    (.seq (.ret (.tup (.acons (.bin .fdiv false (.var 0) (.var 2)) (.acons (.bin .fdiv false (.var 1) (.var 2)) .anil))))
    (.skip)))⟩
def L_lowest_terms : List Cal := [⟨0, "common_divisor", G_common_divisor⟩]
def G_lowest_terms : List D → Store → R D := runF (FOf L_lowest_terms) f_lowest_terms
-- plus: 0 one 1 other
def f_plus : Fn := ⟨2, 2,
    .seq (.ret (.call 1 (.acons (.bin .add false (.bin .mul false (.idx (.var 0) (.int 0)) (.idx (.var 1) (.int 1))) (.bin .mul false (.idx (.var 1) (.int 0)) (.idx (.var 0) (.int 1)))) (.acons (.bin .mul false (.idx (.var 0) (.int 1)) (.idx (.var 1) (.int 1))) .anil))))
    (.skip)⟩
def L_plus : List Cal := [⟨1, "lowest_terms", G_lowest_terms⟩]
def G_plus : List D → Store → R D := runF (FOf L_plus) f_plus
-- total_of: 0 fractions 1 found 2 one
def f_total_of : Fn := ⟨1, 3,
    .seq (.set 1 (.tup (.acons (.int 0) (.acons (.int 1) .anil))))
    (.seq (.for_ .seq (.acons (.var 0) .anil) (.name 2)
    (.seq (.set 1 (.call 3 (.acons (.var 1) (.acons (.var 2) .anil))))
    (.skip)))
    (.seq (.ret (.var 1))
    (.skip)))⟩
def L_total_of : List Cal := [⟨3, "plus", G_plus⟩]
def G_total_of : List D → Store → R D := runF (FOf L_total_of) f_total_of
-- is_fraction: 0 candidate 1 one
def f_is_fraction : Fn := ⟨1, 2,
    .seq (.ifs (.or (.not (.isi (.var 0) .tuple)) (.last (.cmp .ne (.bi .len false (.acons (.var 0) .anil)) (.int 2))))
    (.seq (.ret (.bool false))
    (.skip))
    (.skip))
    (.seq (.ifs (.or (.not (.bi .all false (.acons (.comp .seq (.acons (.var 0) .anil) (.name 1) [1] false .none (.and (.isi (.var 1) .int) (.last (.not (.isi (.var 1) .bool)))) false) .anil))) (.last (.cmp .lt (.idx (.var 0) (.int 1)) (.int 1))))
    (.seq (.ret (.bool false))
    (.skip))
    (.skip))
    (.seq (.ret (.cmp .eq (.call 0 (.acons (.bi .abs false (.acons (.idx (.var 0) (.int 0)) .anil)) (.acons (.idx (.var 0) (.int 1)) .anil))) (.int 1)))
    (.skip)))⟩
def L_is_fraction : List Cal := [⟨0, "common_divisor", G_common_divisor⟩]
def G_is_fraction : List D → Store → R D := runF (FOf L_is_fraction) f_is_fraction
-- are_chances: 0 candidate 1 least 2 most 3 one
def f_are_chances : Fn := ⟨3, 4,
    .seq (.ifs (.or (.not (.isi (.var 0) .tuple)) (.last (.not (.chain .le .le (.var 1) (.bi .len false (.acons (.var 0) .anil)) (.var 2)))))
    (.seq (.ret (.bool false))
    (.skip))
    (.skip))
    (.seq (.ifs (.not (.bi .all false (.acons (.comp .seq (.acons (.var 0) .anil) (.name 3) [3] false .none (.and (.call 2 (.acons (.var 3) .anil)) (.last (.cmp .ge (.idx (.var 3) (.int 0)) (.int 0)))) false) .anil)))
    (.seq (.ret (.bool false))
    (.skip))
    (.skip))
    (.seq (.ret (.cmp .eq (.call 4 (.acons (.var 0) .anil)) (.tup (.acons (.int 1) (.acons (.int 1) .anil)))))
    (.skip)))⟩
def L_are_chances : List Cal := [⟨4, "total_of", G_total_of⟩, ⟨2, "is_fraction", G_is_fraction⟩]
def G_are_chances : List D → Store → R D := runF (FOf L_are_chances) f_are_chances
-- is_model: 0 candidate 1 spot 2 row
def f_is_model : Fn := ⟨1, 3,
    .seq (.ifs (.or (.not (.isi (.var 0) .tuple)) (.last (.not (.chain .le .le (.int 2) (.bi .len false (.acons (.var 0) .anil)) (.int 3)))))
    (.seq (.ret (.bool false))
    (.skip))
    (.skip))
    (.seq (.ifs (.not (.bi .all false (.acons (.comp .seq (.acons (.var 0) .anil) (.name 2) [2] false .none (.call 5 (.acons (.var 2) (.acons (.int 1) (.acons (.int 6) .anil)))) false) .anil)))
    (.seq (.ret (.bool false))
    (.skip))
    (.skip))
    (.seq (.ifs (.not (.bi .all false (.acons (.comp .seq (.acons (.var 0) .anil) (.name 2) [2] false .none (.cmp .eq (.bi .len false (.acons (.var 2) .anil)) (.bi .len false (.acons (.idx (.var 0) (.int 0)) .anil))) false) .anil)))
    (.seq (.ret (.bool false))
    (.skip))
    (.skip))
    (.seq (.ret (.bi .all false (.acons (.comp .range (.acons (.bi .len false (.acons (.idx (.var 0) (.int 0)) .anil)) .anil) (.name 1) [1] false .none (.bi .any false (.acons (.comp .seq (.acons (.var 0) .anil) (.name 2) [2] false .none (.cmp .gt (.idx (.idx (.var 2) (.var 1)) (.int 0)) (.int 0)) false) .anil)) false) .anil)))
    (.skip))))⟩
def L_is_model : List Cal := [⟨5, "are_chances", G_are_chances⟩]
def G_is_model : List D → Store → R D := runF (FOf L_is_model) f_is_model
-- _law_plus: 0 one 1 other
-- _law_total: 0 rows 1 found 2 one
-- _law_are_chances: 0 thing 1 one 2 part
-- _law_is_model: 0 thing 1 spot 2 row
-- law: 0 script 1 state 2 one 3 half 4 none 5 things 6 k 7 thing
-- _law_losses: 0 script 1 state 2 model 3 rows 4 action 5 row
def f_law_losses : Fn := ⟨3, 6,
    .seq (.set 3 (.lst true .anil))
    (.seq (.for_ .range (.acons (.bin .add false (.int 1) (.call 7 (.acons (.var 0) (.acons (.var 1) (.acons (.int 3) .anil))))) .anil) (.name 4)
    (.seq (.expr (.app (.var 3) (.bi .tuple false (.acons (.comp .seq (.acons (.var 2) .anil) (.name 5) [5] false .none (.bin .sub false (.call 7 (.acons (.var 0) (.acons (.var 1) (.acons (.int 9) .anil)))) (.int 4)) false) .anil))))
    (.skip)))
    (.seq (.ret (.bi .tuple false (.acons (.var 3) .anil)))
    (.skip)))⟩
def L_law_losses : List Cal := [⟨7, "_law_draw", G_law_draw⟩]
def G_law_losses : List D → Store → R D := runF (FOf L_law_losses) f_law_losses
-- _law_pure: 0 losses 1 rule 2 action 3 one
-- _law_chances: 0 script 1 state 2 many 3 weights 4 step
-- _law_mixed: 0 script 1 state 2 model 3 losses 4 spot
-- require_model: 0 model
def f_require_model : Fn := ⟨1, 1,
    .seq (.ifs (.not (.call 6 (.acons (.var 0) .anil)))
    (.seq (.raise 0)
    (.skip))
    (.skip))
    (.skip)⟩
def L_require_model : List Cal := [⟨6, "is_model", G_is_model⟩]
def G_require_model : List D → Store → R D := runF (FOf L_require_model) f_require_model
-- is_integer: 0 candidate 1 least 2 most
def f_is_integer : Fn := ⟨3, 3,
    .seq (.ret (.and (.isi (.var 0) .int) (.and (.not (.isi (.var 0) .bool)) (.last (.chain .le .le (.var 1) (.var 0) (.var 2))))))
    (.skip)⟩
def L_is_integer : List Cal := []
def G_is_integer : List D → Store → R D := runF (FOf L_is_integer) f_is_integer
-- are_valid_losses: 0 model 1 candidate 2 row 3 one
def f_are_valid_losses : Fn := ⟨2, 4,
    .seq (.ifs (.or (.not (.isi (.var 1) .tuple)) (.last (.not (.chain .le .le (.int 1) (.bi .len false (.acons (.var 1) .anil)) (.int 3)))))
    (.seq (.ret (.bool false))
    (.skip))
    (.skip))
    (.seq (.for_ .seq (.acons (.var 1) .anil) (.name 2)
    (.seq (.ifs (.or (.not (.isi (.var 2) .tuple)) (.or (.cmp .ne (.bi .len false (.acons (.var 2) .anil)) (.bi .len false (.acons (.var 0) .anil))) (.last (.not (.bi .all false (.acons (.comp .seq (.acons (.var 2) .anil) (.name 3) [3] false .none (.call 18 (.acons (.var 3) (.acons (.neg (.int 99)) (.acons (.int 99) .anil)))) false) .anil))))))
    (.seq (.ret (.bool false))
    (.skip))
    (.skip))
    (.skip)))
    (.seq (.ret (.bool true))
    (.skip)))⟩
def L_are_valid_losses : List Cal := [⟨18, "is_integer", G_is_integer⟩]
def G_are_valid_losses : List D → Store → R D := runF (FOf L_are_valid_losses) f_are_valid_losses
-- require_losses: 0 model 1 losses
def f_require_losses : Fn := ⟨2, 2,
    .seq (.expr (.call 19 (.acons (.var 0) .anil)))
    (.seq (.ifs (.not (.call 20 (.acons (.var 0) (.acons (.var 1) .anil))))
    (.seq (.raise 1)
    (.skip))
    (.skip))
    (.skip))⟩
def L_require_losses : List Cal := [⟨20, "are_valid_losses", G_are_valid_losses⟩, ⟨19, "require_model", G_require_model⟩]
def G_require_losses : List D → Store → R D := runF (FOf L_require_losses) f_require_losses
-- is_valid_rule: 0 model 1 losses 2 candidate 3 one
-- is_rule: 0 model 1 losses 2 candidate
-- _law_is_rule_or: 0 model 1 losses 2 thing
-- is_valid_mixed: 0 model 1 losses 2 candidate 3 row
-- is_mixed: 0 model 1 losses 2 candidate
-- _law_is_mixed_or: 0 model 1 losses 2 thing
-- are_losses: 0 model 1 candidate
-- _law_are_losses_or: 0 model 1 thing
-- require_rule: 0 model 1 losses 2 rule
-- mixed_of: 0 losses 1 rule 2 action 3 one
-- as_mixed: 0 model 1 losses 2 rule
-- _law_as_mixed_or: 0 model 1 losses 2 rule
-- _law_refused: 0 model 1 losses 2 rule
-- _law_are_losses: 0 model 1 thing 2 row 3 one
-- _law_is_row: 0 thing 1 many 2 one 3 part
-- _law_is_mixed: 0 model 1 losses 2 thing 3 row
-- _law_is_rule: 0 model 1 losses 2 thing 3 one
-- _law_same: 0 got 1 due 2 one 3 other
def f_law_same : Fn := ⟨2, 4,
    .seq (.ifs (.cmp .is (.var 1) .none)
    (.seq (.ret (.cmp .is (.var 0) .none))
    (.skip))
    (.skip))
    (.seq (.ifs (.isi (.var 1) .bool)
    (.seq (.ret (.and (.isi (.var 0) .bool) (.last (.cmp .eq (.var 0) (.var 1)))))
    (.skip))
    (.skip))
    (.seq (.ifs (.isi (.var 1) .tuple)
    (.seq (.ifs (.or (.not (.isi (.var 0) .tuple)) (.last (.cmp .ne (.bi .len false (.acons (.var 0) .anil)) (.bi .len false (.acons (.var 1) .anil)))))
    (.seq (.ret (.bool false))
    (.skip))
    (.skip))
    (.seq (.ret (.bi .all false (.acons (.comp .zip (.acons (.var 0) (.acons (.var 1) .anil)) (.tup [2, 3]) [2, 3] false .none (.call 30 (.acons (.var 2) (.acons (.var 3) .anil))) false) .anil)))
    (.skip)))
    (.skip))
    (.seq (.ifs (.isi (.var 1) .str)
    (.seq (.ret (.and (.isi (.var 0) .str) (.last (.cmp .eq (.var 0) (.var 1)))))
    (.skip))
    (.skip))
    (.seq (.ret (.and (.isi (.var 0) .int) (.and (.not (.isi (.var 0) .bool)) (.last (.cmp .eq (.var 0) (.var 1))))))
    (.skip)))))⟩
def L_law_same (go : List D → Store → R D) : List Cal := [⟨30, "_law_same", go⟩]
def G_law_same : Nat → List D → Store → R D
  | 0 => fun _ _ => .err
  | n + 1 => runF (FOf (L_law_same (G_law_same n))) f_law_same
-- law: 0 script 1 state 2 k 3 model 4 losses 5 mixed 6 rule 7 big 8 things 9 thing 10 due 11 spot
-- _law_times: 0 one 1 other
-- _law_dot: 0 left 1 right 2 one 3 other
-- _law_risks: 0 model 1 losses 2 mixed 3 found 4 which 5 loss 6 row
-- times: 0 one 1 other
-- product_sum: 0 left 1 right 2 one 3 other
-- whole: 0 number
-- mean_losses: 0 losses 1 state 2 row 3 loss
-- risks_of: 0 model 1 losses 2 mixed 3 found 4 state 5 chances 6 parts 7 own 8 row
-- risks: 0 model 1 losses 2 rule
-- _law_risks_or: 0 model 1 losses 2 rule
-- require_mixed: 0 model 1 losses 2 mixed
-- mixed_risks: 0 model 1 losses 2 mixed
-- _law_mixed_risks_or: 0 model 1 losses 2 mixed
-- law: 0 script 1 state 2 k 3 model 4 losses 5 mixed 6 rule 7 due_h 8 wrong 9 spot
-- is_valid_belief: 0 model 1 candidate
-- require_belief: 0 model 1 belief
-- require_observation: 0 model 1 observation
-- require_all: 0 model 1 belief 2 observation
-- shares: 0 model 1 belief 2 observation 3 own 4 row
-- chance: 0 model 1 belief 2 observation
-- _law_chance_or: 0 model 1 belief 2 spot
-- over: 0 one 1 other
-- belief_after: 0 model 1 belief 2 observation 3 rows 4 own 5 one
-- after: 0 model 1 belief 2 observation
-- _law_after_or: 0 model 1 belief 2 spot
-- is_belief: 0 model 1 candidate
-- _law_is_belief_or: 0 model 1 thing
-- _law_right: 0 model 1 thing 2 one 3 part
-- law: 0 script 1 state 2 k 3 model 4 belief 5 things 6 spot 7 wrong 8 parts 9 amount 10 due 11 thing 12 own 13 row 14 part
-- _law_rules: 0 model 1 losses 2 rows 3 spot 4 longer 5 row 6 action
-- require_both: 0 model 1 losses 2 belief
-- less: 0 one 1 other
-- least_of: 0 fractions 1 found 2 one
-- find_actions: 0 losses 1 weights 2 sums 3 least 4 loss 5 action 6 own 7 one
-- find_best: 0 model 1 losses 2 belief 3 spot
-- best_rule: 0 model 1 losses 2 belief
-- best_actions: 0 model 1 losses 2 belief 3 observation
-- _law_best_actions_or: 0 model 1 losses 2 belief 3 spot
-- mean_risk: 0 model 1 losses 2 belief 3 mixed
-- _law_mean_risk_or: 0 model 1 losses 2 belief 3 mixed
-- least_of_belief: 0 model 1 losses 2 belief
-- least_risk: 0 model 1 losses 2 belief
-- _law_least_risk_or: 0 model 1 losses 2 belief
-- _law_best_rule_or: 0 model 1 losses 2 belief
-- _law_refused: 0 model 1 losses 2 belief 3 mixed 4 wrong
-- _law_below: 0 one 1 other
-- _law_actions: 0 model 1 losses 2 belief 3 spot 4 weights 5 sums 6 own 7 row 8 loss 9 action 10 one
-- law: 0 script 1 state 2 k 3 model 4 losses 5 belief 6 mixed 7 spot 8 due_j 9 best 10 rule 11 own
-- _law_adds_up: 0 model 1 belief 2 sums 3 many 4 spot 5 own 6 later 7 one 8 other
-- _law_only_best: 0 model 1 losses 2 belief 3 mixed 4 spot 5 some 6 action
-- law: 0 script 1 state 2 k 3 model 4 losses 5 belief 6 least 7 best 8 mixed 9 own 10 fine
-- _law_least: 0 rows 1 best 2 one
-- blind_of: 0 losses 1 belief 2 loss 3 one
-- blind_risk: 0 model 1 losses 2 belief
-- _law_blind_risk_or: 0 model 1 losses 2 belief
-- minus: 0 one 1 other
-- worth: 0 model 1 losses 2 belief
-- _law_worth_or: 0 model 1 losses 2 belief
-- _law_minus: 0 one 1 other
-- law: 0 script 1 state 2 k 3 model 4 losses 5 belief 6 blind 7 rows 8 rule 9 wrong 10 loss 11 one
-- _law_alike: 0 pair 1 one 2 other 3 left 4 right
-- _law_coarsest: 0 model 1 found 2 firsts 3 spot 4 group 5 place 6 pair 7 row
-- _law_grouping: 0 script 1 state 2 model 3 found 4 top 5 spot
-- is_valid_grouping: 0 model 1 candidate 2 top 3 one
-- require_grouping: 0 model 1 grouping
-- are_proportional: 0 model 1 one 2 other 3 row 4 line
-- are_sufficient: 0 model 1 grouping 2 one 3 left 4 other 5 right
-- is_sufficient: 0 model 1 grouping
-- _law_is_sufficient_or: 0 model 1 grouping
-- coarsest: 0 model 1 firsts 2 found 3 spot 4 same 5 group 6 first
-- _law_coarsest_or: 0 model
-- _law_split: 0 script 1 state 2 model 3 spot 4 share 5 rows 6 row 7 parts
-- _law_shares: 0 model 1 grouping 2 group 3 found 4 row 5 own 6 amount 7 one 8 place
-- _law_is_right: 0 model 1 grouping 2 group 3 rows 4 row
-- law: 0 script 1 state 2 k 3 model 4 step 5 due 6 grouping
-- members: 0 grouping 1 group 2 spot 3 own
-- on_groups: 0 model 1 losses 2 mixed 3 grouping 4 found 5 group 6 some 7 row 8 own 9 parts 10 sums 11 action 12 spot 13 line
-- _law_on_groups_or: 0 model 1 losses 2 mixed 3 grouping
-- _law_due: 0 model 1 losses 2 mixed 3 grouping 4 found 5 group 6 spots 7 rows 8 row 9 amount 10 parts 11 sums 12 spot 13 action
-- law: 0 script 1 state 2 k 3 plain 4 mixed 5 model 6 losses 7 grouping 8 wrong 9 due
-- _law_right: 0 model 1 thing 2 seen 3 one
-- is_grouping: 0 model 1 candidate
-- _law_is_grouping_or: 0 model 1 thing
-- grouped_of: 0 model 1 grouping 2 found 3 row 4 sums 5 group 6 spot
-- grouped: 0 model 1 grouping
-- _law_grouped_or: 0 model 1 grouping
-- law: 0 script 1 state 2 k 3 model 4 grouping 5 many 6 things 7 thing 8 due 9 row 10 good 11 sums 12 group 13 own
-- require_numbers: 0 model 1 numbers 2 one
-- cleared: 0 row 1 main 2 column 3 entry 4 top
-- eliminated: 0 rows 1 width 2 pivots 3 column 4 spots 5 place 6 main 7 row 8 spot 9 entry
-- solved: 0 matrix 1 right 2 width 3 rows 4 pivots 5 found 6 spot 7 column 8 row 9 one
-- right_estimate: 0 model 1 numbers 2 found 3 one
-- _law_numbers: 0 script 1 state 2 model 3 row
-- _law_estimate: 0 script 1 state 2 model 3 found 4 spot
-- are_fractions: 0 candidate 1 many 2 one
-- require_estimate: 0 model 1 estimate
-- means_of: 0 model 1 estimate 2 row
-- is_right: 0 model 1 numbers 2 estimate 3 one
-- _law_cleared: 0 rows 1 width 2 used 3 column 4 spots 5 first 6 main 7 spot 8 part 9 row 10 entry 11 own
-- _law_can_be_right: 0 model 1 numbers 2 rows 3 row 4 one
-- _law_right_estimate_or: 0 model 1 numbers
-- _law_is_right_or: 0 model 1 numbers 2 estimate
-- means: 0 model 1 estimate
-- _law_means_or: 0 model 1 estimate
-- _law_refused: 0 model 1 numbers 2 estimate 3 wrong
-- law: 0 script 1 state 2 k 3 model 4 numbers 5 estimate 6 due 7 found 8 row 9 one
-- barring: 0 model 1 numbers 2 rows 3 found 4 spot 5 row 6 one
-- are_barring: 0 model 1 numbers 2 candidate 3 spot 4 one 5 row
-- _law_are_barring_or: 0 model 1 numbers 2 thing
-- _law_barring_or: 0 model 1 numbers
-- _law_right: 0 model 1 numbers 2 thing 3 one 4 spot 5 part 6 row
-- law: 0 script 1 state 2 k 3 model 4 numbers 5 own 6 flat 7 things 8 thing 9 wrong 10 row 11 more 12 which 13 one
-- _law_holds: 0 model 1 numbers 2 found 3 combination
-- law: 0 script 1 state 2 k 3 model 4 one 5 other 6 left 7 right 8 small 9 free 10 rest 11 apart 12 first 13 second 14 number
-- _law_table: 0 script 1 state 2 model 3 many 4 spot
-- together: 0 one 1 other 2 rows 3 left 4 right 5 kept 6 spot 7 row 8 first 9 second
-- _law_together_or: 0 left 1 right
-- is_table: 0 model 1 candidate 2 row
-- blurred: 0 model 1 table 2 found 3 row 4 spot 5 line
-- _law_blurred_or: 0 model 1 table
-- _law_together: 0 one 1 other 2 spots 3 left 4 kept 5 right 6 found 7 row 8 line
-- _law_blurred: 0 model 1 table 2 found 3 row 4 spot 5 line
-- law: 0 script 1 state 2 k 3 wide 4 one 5 other 6 table 7 many 8 things 9 wrong
-- _law_common: 0 model 1 losses 2 belief 3 found 4 spot 5 some 6 action
-- _law_holds: 0 model 1 losses 2 belief 3 own
-- law: 0 script 1 state 2 k 3 model 4 losses 5 belief 6 other 7 both 8 turned 9 one 10 small 11 flat 12 row 13 spot
-- naive_coarsest: 0 model 1 rows 2 spot 3 row 4 group
-- _law_proportional: 0 model 1 one 2 other 3 row 4 line
-- _law_coarsest: 0 model 1 found 2 firsts 3 spot 4 some 5 group
-- all_rules: 0 model 1 losses 2 rows 3 spot 4 row 5 action
-- naive_least_risk: 0 model 1 losses 2 belief 3 rules 4 rule
-- _law_naive_least_risk_or: 0 model 1 losses 2 belief
-- _law_naive_coarsest_or: 0 model
-- law: 0 script 1 state 2 k 3 model 4 losses 5 belief 6 best 7 rule 8 own
-- law: 0 script 1 state 2 k 3 model 4 losses 5 belief
-- require_state: 0 model 1 state
-- find_best_variances: 0 model 1 numbers 2 state 3 base 4 matrix 5 row 6 found 7 estimate 8 spot 9 own 10 one 11 line 12 part 13 a 14 b 15 c
-- best_estimate: 0 model 1 numbers 2 state 3 one
-- _law_best_estimate_or: 0 model 1 numbers 2 which
-- find_best_beliefs: 0 model 1 losses 2 belief 3 spot
-- best_rule: 0 model 1 losses 2 belief
-- _law_best_rule_or: 0 model 1 losses 2 belief
-- are_better: 0 one 1 other 2 left 3 right
-- is_better: 0 model 1 losses 2 one 3 other
-- _law_is_better_or: 0 model 1 losses 2 one 3 other
-- variance: 0 model 1 estimate 2 state 3 middle 4 rest 5 one
-- _law_variance_or: 0 model 1 estimate 2 which
-- greatest_of: 0 fractions 1 found 2 one
-- worst_risk: 0 model 1 losses 2 mixed
-- _law_worst_risk_or: 0 model 1 losses 2 mixed
-- common_multiple: 0 fractions 1 found 2 top 3 bottom
-- scaled: 0 model 1 many 2 row 3 top 4 bottom
-- phase_one: 0 matrix 1 right 2 size 3 width 4 rows 5 index 6 row 7 sums 8 tableau 9 column 10 other
-- mixed_from: 0 model 1 losses 2 tableau 3 actions 4 numbers 5 rows 6 spot 7 row 8 own
-- sum_rows: 0 model 1 losses 2 many 3 actions 4 one 5 spot
-- risk_row: 0 losses 1 state 2 numbers 3 own 4 loss
-- find_safest: 0 model 1 losses 2 many 3 numbers 4 states 5 width 6 rows 7 state 8 tableau 9 goal 10 slack 11 other 12 row
-- safest: 0 model 1 losses
-- _law_safest_or: 0 model 1 losses
-- better_rule: 0 model 1 losses 2 mixed 3 own 4 many 5 numbers 6 more 7 states 8 width 9 rows 10 right 11 state 12 tableau 13 goal 14 found 15 slack 16 other 17 row 18 entry
-- _law_better_rule_or: 0 model 1 losses 2 mixed
-- least_of_belief: 0 model 1 losses 2 belief
-- worth: 0 model 1 losses 2 belief
-- _law_worth_or: 0 model 1 losses 2 belief
-- model_text: 0 model 1 lines 2 row 3 line 4 top 5 bottom
def f_model_text : Fn := ⟨1, 6,
    .seq (.set 1 (.comp .seq (.acons (.var 0) .anil) (.name 2) [2] false .none (.join (.str " ") (.comp .seq (.acons (.var 2) .anil) (.tup [4, 5]) [4, 5] false .none (.bin .add false (.bin .add false (.bi .str false (.acons (.var 4) .anil)) (.str "/")) (.bi .str false (.acons (.var 5) .anil))) false)) false))
    (.seq (.ret (.join (.str "") (.comp .seq (.acons (.var 1) .anil) (.name 3) [3] false .none (.bin .add false (.var 3) (.str "\n")) false)))
    (.skip))⟩
def L_model_text : List Cal := []
def G_model_text : List D → Store → R D := runF (FOf L_model_text) f_model_text
-- is_long: 0 number
def f_is_long : Fn := ⟨1, 1,
    .seq (.ret (.cmp .ge (.var 0) (.bi .int false (.acons (.bin .add false (.str "1") (.bin .mul false (.str "0") (.int 50))) .anil))))
    (.skip)⟩
def L_is_long : List Cal := []
def G_is_long : List D → Store → R D := runF (FOf L_is_long) f_is_long
-- format_model: 0 model 1 row 2 top 3 bottom
def f_format_model : Fn := ⟨1, 4,
    .seq (.expr (.call 19 (.acons (.var 0) .anil)))
    (.seq (.ifs (.bi .any false (.acons (.comp .seq (.acons (.var 0) .anil) (.name 1) [1] false .none (.bi .any false (.acons (.comp .seq (.acons (.var 1) .anil) (.tup [2, 3]) [2, 3] false .none (.or (.call 198 (.acons (.var 2) .anil)) (.last (.call 198 (.acons (.var 3) .anil)))) false) .anil)) false) .anil))
    (.seq (.raise 14)
    (.skip))
    (.skip))
    (.seq (.ret (.call 197 (.acons (.var 0) .anil)))
    (.skip)))⟩
def L_format_model : List Cal := [⟨197, "model_text", G_model_text⟩, ⟨198, "is_long", G_is_long⟩, ⟨19, "require_model", G_require_model⟩]
def G_format_model : List D → Store → R D := runF (FOf L_format_model) f_format_model
-- _law_format_model_or: 0 model
-- losses_text: 0 losses 1 row 2 one
def f_losses_text : Fn := ⟨1, 3,
    .seq (.ret (.join (.str "") (.comp .seq (.acons (.var 0) .anil) (.name 1) [1] false .none (.bin .add false (.join (.str " ") (.comp .seq (.acons (.var 1) .anil) (.name 2) [2] false .none (.bi .str false (.acons (.var 2) .anil)) false)) (.str "\n")) false)))
    (.skip)⟩
def L_losses_text : List Cal := []
def G_losses_text : List D → Store → R D := runF (FOf L_losses_text) f_losses_text
-- format_losses: 0 model 1 losses
def f_format_losses : Fn := ⟨2, 2,
    .seq (.expr (.call 22 (.acons (.var 0) (.acons (.var 1) .anil))))
    (.seq (.ret (.call 201 (.acons (.var 1) .anil)))
    (.skip))⟩
def L_format_losses : List Cal := [⟨201, "losses_text", G_losses_text⟩, ⟨22, "require_losses", G_require_losses⟩]
def G_format_losses : List D → Store → R D := runF (FOf L_format_losses) f_format_losses
-- _law_format_losses_or: 0 model 1 losses
-- parse_number: 0 word 1 most 2 sign
def f_parse_number : Fn := ⟨2, 3,
    .seq (.ifs (.or (.not (.chain .le .le (.int 1) (.bi .len false (.acons (.var 0) .anil)) (.var 1))) (.last (.not (.bi .all false (.acons (.comp .seq (.acons (.var 0) .anil) (.name 2) [2] false .none (.chain .le .le (.str "0") (.var 2) (.str "9")) false) .anil)))))
    (.seq (.raise 17)
    (.skip))
    (.skip))
    (.seq (.ret (.bi .int false (.acons (.var 0) .anil)))
    (.skip))⟩
def L_parse_number : List Cal := []
def G_parse_number : List D → Store → R D := runF (FOf L_parse_number) f_parse_number
-- parse_loss: 0 word
def f_parse_loss : Fn := ⟨1, 1,
    .seq (.ifs (.starts (.var 0) (.str "-"))
    (.seq (.ret (.neg (.call 200 (.acons (.sli false (.var 0) (.opt (.int 1)) .none) (.acons (.int 2) .anil)))))
    (.skip))
    (.skip))
    (.seq (.ret (.call 200 (.acons (.var 0) (.acons (.int 2) .anil))))
    (.skip))⟩
def L_parse_loss : List Cal := [⟨200, "parse_number", G_parse_number⟩]
def G_parse_loss : List D → Store → R D := runF (FOf L_parse_loss) f_parse_loss
-- parse_losses: 0 model 1 text 2 losses 3 line 4 word
def f_parse_losses : Fn := ⟨2, 5,
    .seq (.expr (.call 19 (.acons (.var 0) .anil)))
    (.seq (.ifs (.not (.isi (.var 1) .str))
    (.seq (.raise 17)
    (.skip))
    (.skip))
    (.seq (.set 2 (.bi .tuple false (.acons (.comp .seq (.acons (.sli false (.split false (.var 1) (.str "\n")) .none (.opt (.neg (.int 1)))) .anil) (.name 3) [3] false .none (.bi .tuple false (.acons (.comp .seq (.acons (.split false (.var 3) (.str " ")) .anil) (.name 4) [4] false .none (.call 203 (.acons (.var 4) .anil)) false) .anil)) false) .anil)))
    (.seq (.ifs (.or (.not (.call 20 (.acons (.var 0) (.acons (.var 2) .anil)))) (.last (.cmp .ne (.call 201 (.acons (.var 2) .anil)) (.var 1))))
    (.seq (.raise 17)
    (.skip))
    (.skip))
    (.seq (.ret (.var 2))
    (.skip)))))⟩
def L_parse_losses : List Cal := [⟨201, "losses_text", G_losses_text⟩, ⟨20, "are_valid_losses", G_are_valid_losses⟩, ⟨203, "parse_loss", G_parse_loss⟩, ⟨19, "require_model", G_require_model⟩]
def G_parse_losses : List D → Store → R D := runF (FOf L_parse_losses) f_parse_losses
-- _law_parse_losses_or: 0 model 1 text
def f_law_parse_losses_or : Fn := ⟨2, 2,
    .seq (.tryR (.call 204 (.acons (.var 0) (.acons (.var 1) .anil))) [(0, "InvalidModel"), (17, "ParseError")])
    (.skip)⟩
def L_law_parse_losses_or : List Cal := [⟨204, "parse_losses", G_parse_losses⟩]
def G_law_parse_losses_or : List D → Store → R D := runF (FOf L_law_parse_losses_or) f_law_parse_losses_or
-- _law_of_models: 0 wrong 1 model 2 found
-- _law_of_losses: 0 model 1 wrong 2 found
-- law: 0 script 1 state 2 k 3 blind 4 model 5 losses 6 things 7 wrong 8 thing 9 one
-- find_best: 0 model 1 numbers 2 state 3 base 4 matrix 5 row 6 found 7 estimate 8 spot 9 own 10 one 11 line 12 part 13 a 14 b 15 c
-- always_best: 0 model 1 numbers 2 found 3 state 4 row 5 one
-- _law_always_best_or: 0 model 1 numbers
-- best_estimate: 0 model 1 numbers 2 state 3 one
-- _law_best_estimate_or: 0 model 1 numbers 2 which
-- _law_due: 0 model 1 numbers 2 which 3 one
-- _law_is_best: 0 model 1 numbers 2 estimate 3 which 4 goal 5 rows 6 spot 7 row 8 one 9 own
-- _law_fits: 0 model 1 numbers 2 found 3 zero 4 which 5 last 6 own 7 due
-- _law_refused: 0 model 1 numbers 2 estimate 3 wrong
-- law: 0 script 1 state 2 k 3 model 4 numbers 5 estimate 6 which 7 middle 8 rest 9 due_k 10 one 11 row 12 spot
-- _law_middle: 0 one 1 other 2 left 3 right
-- _law_holds: 0 model 1 numbers 2 best 3 others 4 which 5 found 6 same 7 own 8 other 9 one
-- law: 0 script 1 state 2 k 3 model 4 numbers 5 wide 6 spot 7 which 8 plain 9 double 10 row
-- Notebook.__init__: 0 self 1 model 2 belief
-- _law_next: 0 model 1 belief 2 spot 3 parts 4 amount 5 own 6 row 7 part
-- _law_notebook_or: 0 model 1 belief
-- Notebook.belief: 0 self
-- Notebook.seen: 0 self
-- Notebook.__len__: 0 self
-- Notebook.advice: 0 self 1 losses
-- _law_advice_or: 0 book 1 losses
-- _law_first: 0 losses 1 belief 2 sums 3 loss 4 action 5 one
-- Notebook.write: 0 self 1 observation
-- Notebook.observe: 0 self 1 observation
-- _law_observe_or: 0 book 1 spot
-- law: 0 script 1 state 2 k 3 model 4 belief 5 losses 6 book 7 seen 8 step 9 wrong 10 spot 11 due
-- Notebook.__eq__: 0 self 1 other
-- _law_stands: 0 model 1 first 2 book 3 rows 4 belief 5 spot 6 again
-- Notebook.redo: 0 self
-- _law_redo_or: 0 book
-- _law_forth: 0 book 1 undone
-- Notebook.undo: 0 self
-- _law_undo_or: 0 book
-- _law_back: 0 book 1 rows
-- Notebook.copy: 0 self 1 other
-- law: 0 script 1 state 2 k 3 model 4 first 5 book 6 rows 7 undone 8 twin 9 step 10 turn 11 spot 12 row
-- law: 0 script 1 state 2 k 3 long 4 fine 5 model 6 losses 7 text 8 row 9 wrong 10 line 11 one
-- _law_no_row: 0 script 1 state 2 size 3 one 4 wrongs 5 some 6 wrong
-- _law_alone: 0 number 1 model 2 other
-- is_feasible: 0 tableau
-- supporting: 0 model 1 losses 2 mixed 3 numbers 4 states 5 rows 6 spot 7 row 8 many 9 matrix 10 right 11 place 12 tableau 13 found 14 action 15 own 16 slack 17 sign 18 loss 19 base 20 other 21 entry 22 state
-- _law_by_rules: 0 number 1 model 2 losses 3 rule 4 more
-- least_risk: 0 model 1 losses 2 belief
-- least_worst: 0 model 1 losses
-- hardest: 0 model 1 losses 2 numbers 3 states 4 many 5 actions 6 rows 7 spot 8 tableau 9 goal 10 action 11 loss 12 own 13 slack 14 state 15 place
-- _law_by_beliefs: 0 number 1 model 2 losses 3 more 4 spot
-- always_best: 0 model 1 numbers 2 found 3 state 4 row 5 one
-- _law_by_numbers: 0 number 1 model 2 numbers 3 more 4 spot
-- _law_told: 0 way 1 number 2 model 3 one 4 two 5 three
-- _law_told_or: 0 way 1 number 2 model 3 one 4 two 5 three
-- _law_all: 0 numbers 1 way 2 model 3 one 4 two 5 three 6 word 7 number
-- _law_rules_right: 0 script 1 state 2 model 3 losses 4 pure 5 mixed 6 states 7 spots 8 actions 9 belief 10 some 11 wrong 12 long 13 none
-- _law_beliefs_right: 0 script 1 state 2 model 3 losses 4 mixed 5 states 6 spots 7 belief 8 wrong
-- _law_no_model: 0 script 1 state 2 sure 3 half 4 some
-- _law_numbers_right: 0 script 1 state 2 model 3 losses 4 mixed 5 states 6 spots 7 numbers 8 estimate 9 wrong 10 sure
-- law: 0 script 1 state 2 k 3 model 4 losses 5 pure 6 mixed 7 way 8 many 9 number 10 other
-- Tableau.pivot: 0 self 1 spot 2 column 3 main 4 changed 5 index 6 row 7 factor 8 entry 9 top
-- Tableau.drive_out: 0 self 1 columns 2 spot 3 some 4 column
-- Tableau.aim: 0 self 1 goal 2 width 3 row 4 spot 5 column 6 number 7 entry 8 other
-- Tableau.leaving: 0 self 1 column 2 best 3 spot 4 row 5 new 6 old
-- Tableau.maximize: 0 self 1 columns 2 entering 3 column
-- Tableau.__init__: 0 self 1 rows 2 basis 3 objective 4 row
-- phase_one: 0 matrix 1 right 2 size 3 width 4 rows 5 index 6 row 7 sums 8 tableau 9 column 10 other
-- Tableau.values: 0 self 1 columns 2 found 3 spot 4 column
-- mixed_from: 0 model 1 losses 2 tableau 3 actions 4 numbers 5 rows 6 spot 7 row 8 own
-- find_safest: 0 model 1 losses 2 many 3 numbers 4 states 5 width 6 rows 7 state 8 tableau 9 goal 10 slack 11 other 12 row
-- least_worst: 0 model 1 losses
-- safest: 0 model 1 losses
-- hardest: 0 model 1 losses 2 numbers 3 states 4 many 5 actions 6 rows 7 spot 8 tableau 9 goal 10 action 11 loss 12 own 13 slack 14 state 15 place
-- law: 0 script 1 state 2 k 3 model 4 losses 5 value 6 found 7 belief 8 own 9 step 10 mixed 11 other 12 one 13 risk
-- _law_pair: 0 script 1 state 2 most 3 model 4 spot
-- _law_more: 0 one 1 other
-- _law_least: 0 points 1 best 2 left 3 own 4 right 5 first 6 second 7 amount 8 share
-- _law_least_worst_or: 0 model 1 losses
-- _law_safest_or: 0 model 1 losses
-- _law_hardest_or: 0 model 1 losses
-- law: 0 script 1 state 2 k 3 model 4 losses 5 mixed 6 points 7 due 8 own 9 found 10 belief 11 rule 12 one
-- better_rule: 0 model 1 losses 2 mixed 3 own 4 many 5 numbers 6 more 7 states 8 width 9 rows 10 right 11 state 12 tableau 13 goal 14 found 15 slack 16 other 17 row 18 entry
-- _law_wins: 0 one 1 other 2 left 3 right
-- _law_on_line: 0 left 1 right 2 which 3 goal 4 step 5 part 6 share 7 one 8 other
-- _law_beaten: 0 points 1 own 2 left 3 right 4 which 5 one
-- _law_better_rule_or: 0 model 1 losses 2 mixed
-- is_feasible: 0 tableau
-- supporting: 0 model 1 losses 2 mixed 3 numbers 4 states 5 rows 6 spot 7 row 8 many 9 matrix 10 right 11 place 12 tableau 13 found 14 action 15 own 16 slack 17 sign 18 loss 19 base 20 other 21 entry 22 state
-- _law_supporting_or: 0 model 1 losses 2 mixed
-- _law_refused: 0 model 1 losses 2 one 3 wrong
-- law: 0 script 1 state 2 k 3 model 4 losses 5 points 6 one 7 other 8 left 9 right 10 found 11 rule
-- _law_holds: 0 model 1 losses 2 mixed 3 found 4 belief 5 one
-- law: 0 script 1 state 2 k 3 model 4 losses 5 belief 6 best 7 mixed 8 other
-- _law_holds: 0 model 1 losses 2 mixed 3 belief 4 groups 5 small 6 found
-- _law_is_finer: 0 grouping 1 other 2 one 3 two
-- law: 0 script 1 state 2 k 3 model 4 losses 5 belief 6 step 7 spot 8 grouping
-- _law_shuffled: 0 script 1 state 2 things 3 rest 4 found
-- _law_moved: 0 losses 1 steps 2 loss 3 one 4 step
-- _law_turned: 0 rows 1 order 2 place
-- _law_stays: 0 model 1 losses 2 moved 3 belief 4 mixed 5 spot
-- _law_worst_moves: 0 model 1 losses 2 same 3 least 4 three 5 loss 6 one
-- law: 0 script 1 state 2 k 3 model 4 losses 5 belief 6 mixed 7 steps 8 moved 9 own 10 order 11 other 12 turned 13 row 14 one 15 step
-- _law_halves_hold: 0 model 1 wide 2 spot 3 belief 4 many 5 grouping 6 table 7 first 8 second 9 group 10 place
-- law: 0 script 1 state 2 k 3 model 4 losses 5 belief 6 wide 7 spot 8 rule 9 numbers 10 place
-- parse_chance: 0 word 1 part
def f_parse_chance : Fn := ⟨1, 2,
    .seq (.ret (.bi .tuple false (.acons (.comp .seq (.acons (.split false (.var 0) (.str "/")) .anil) (.name 1) [1] false .none (.call 200 (.acons (.var 1) (.acons (.int 50) .anil))) false) .anil)))
    (.skip)⟩
def L_parse_chance : List Cal := [⟨200, "parse_number", G_parse_number⟩]
def G_parse_chance : List D → Store → R D := runF (FOf L_parse_chance) f_parse_chance
-- parse_model: 0 text 1 model 2 line 3 word
def f_parse_model : Fn := ⟨1, 4,
    .seq (.ifs (.not (.isi (.var 0) .str))
    (.seq (.raise 17)
    (.skip))
    (.skip))
    (.seq (.set 1 (.bi .tuple false (.acons (.comp .seq (.acons (.sli false (.split false (.var 0) (.str "\n")) .none (.opt (.neg (.int 1)))) .anil) (.name 2) [2] false .none (.bi .tuple false (.acons (.comp .seq (.acons (.split false (.var 2) (.str " ")) .anil) (.name 3) [3] false .none (.call 323 (.acons (.var 3) .anil)) false) .anil)) false) .anil)))
    (.seq (.ifs (.or (.not (.call 6 (.acons (.var 1) .anil))) (.last (.cmp .ne (.call 197 (.acons (.var 1) .anil)) (.var 0))))
    (.seq (.raise 17)
    (.skip))
    (.skip))
    (.seq (.ret (.var 1))
    (.skip))))⟩
def L_parse_model : List Cal := [⟨197, "model_text", G_model_text⟩, ⟨6, "is_model", G_is_model⟩, ⟨323, "parse_chance", G_parse_chance⟩]
def G_parse_model : List D → Store → R D := runF (FOf L_parse_model) f_parse_model
-- _law_parse_model_or: 0 text
def f_law_parse_model_or : Fn := ⟨1, 1,
    .seq (.tryR (.call 324 (.acons (.var 0) .anil)) [(17, "ParseError")])
    (.skip)⟩
def L_law_parse_model_or : List Cal := [⟨324, "parse_model", G_parse_model⟩]
def G_law_parse_model_or : List D → Store → R D := runF (FOf L_law_parse_model_or) f_law_parse_model_or
-- _law_refused: 0 model 1 text 2 line 3 things 4 wrong
def f_law_refused_k26 : Fn := ⟨3, 5,
    .seq (.set 3 (.lst false (.acons (.str "") (.acons (.sli false (.var 1) .none (.opt (.neg (.int 1)))) (.acons (.bin .add false (.var 1) (.str "\n")) (.acons (.bin .add false (.str "\n") (.var 1)) (.acons (.bin .add false (.str " ") (.var 1)) (.acons (.bin .add false (.var 1) (.var 1)) (.acons .none (.acons (.tup .anil) (.acons (.int 5) .anil)))))))))))
    (.seq (.for_ .seq (.acons (.bin .add false (.var 3) (.lst false (.acons (.repl (.var 1) "/" ":") .anil))) .anil) (.name 4)
    (.seq (.ifs (.cmp .ne (.call 327 (.acons (.var 4) .anil)) (.str "ParseError"))
    (.seq (.ret (.bool false))
    (.skip))
    (.skip))
    (.skip)))
    (.seq (.set 3 (.lst false (.acons (.str "1/1\n") (.acons (.str "1/1\n2/2\n") (.acons (.str "1/1\n1\n") (.acons (.str "1/1\n01/1\n") (.acons (.str "1/2 1/2\n1/1\n") .anil)))))))
    (.seq (.for_ .seq (.acons (.bin .add false (.var 3) (.lst false (.acons (.str "1/1 0/1\n1/1 0/1\n") (.acons (.str "1/1\n-1/1\n") .anil)))) .anil) (.name 4)
    (.seq (.ifs (.cmp .ne (.call 327 (.acons (.var 4) .anil)) (.str "ParseError"))
    (.seq (.ret (.bool false))
    (.skip))
    (.skip))
    (.skip)))
    (.seq (.set 3 (.lst false (.acons (.str "") (.acons (.sli false (.var 2) .none (.opt (.neg (.int 1)))) (.acons (.bin .add false (.var 2) (.str "\n")) (.acons (.bin .add false (.str " ") (.var 2)) (.acons (.bin .mul false (.var 2) (.int 4)) (.acons .none (.acons (.int 5) (.acons (.str "0\n") (.acons (.str "0 0 0 0\n") .anil)))))))))))
    (.seq (.for_ .seq (.acons (.bin .add false (.var 3) (.lst false (.acons (.str "-0 0\n") (.acons (.str "100 0\n") (.acons (.str "+1 0\n") (.acons (.str "01 0\n") .anil)))))) .anil) (.name 4)
    (.seq (.ifs (.cmp .ne (.call 222 (.acons (.var 0) (.acons (.var 4) .anil))) (.str "ParseError"))
    (.seq (.ret (.bool false))
    (.skip))
    (.skip))
    (.skip)))
    (.seq (.ret (.and (.cmp .eq (.call 222 (.acons (.tup .anil) (.acons (.var 2) .anil))) (.str "InvalidModel")) (.last (.cmp .eq (.call 222 (.acons (.int 1) (.acons (.int 1) .anil))) (.str "InvalidModel")))))
    (.skip)))))))⟩
def L_law_refused_k26 : List Cal := [⟨222, "_law_parse_losses_or", G_law_parse_losses_or⟩, ⟨327, "_law_parse_model_or", G_law_parse_model_or⟩]
def G_law_refused_k26 : List D → Store → R D := runF (FOf L_law_refused_k26) f_law_refused_k26
-- _law_spoiled: 0 script 1 state 2 text 3 signs 4 at 5 turn 6 sign 7 lines 8 spot 9 words
def f_law_spoiled : Fn := ⟨4, 10,
    .seq (.unp [4, 5] (.tup (.acons (.call 7 (.acons (.var 0) (.acons (.var 1) (.acons (.bin .add false (.bi .len false (.acons (.var 2) .anil)) (.int 1)) .anil)))) (.acons (.call 7 (.acons (.var 0) (.acons (.var 1) (.acons (.int 6) .anil)))) .anil))))
    (.seq (.set 6 (.call 8 (.acons (.var 0) (.acons (.var 1) (.acons (.var 3) .anil)))))
    (.seq (.ifs (.cmp .eq (.var 5) (.int 0))
    (.seq (.ret (.bin .add false (.sli false (.var 2) .none (.opt (.var 4))) (.sli false (.var 2) (.opt (.bin .add false (.var 4) (.int 1))) .none)))
    (.skip))
    (.skip))
    (.seq (.ifs (.cmp .eq (.var 5) (.int 1))
    (.seq (.ret (.bin .add false (.bin .add false (.sli false (.var 2) .none (.opt (.var 4))) (.var 6)) (.sli false (.var 2) (.opt (.var 4)) .none)))
    (.skip))
    (.skip))
    (.seq (.ifs (.cmp .eq (.var 5) (.int 2))
    (.seq (.set 7 (.split true (.var 2) (.str "\n")))
    (.seq (.set 8 (.call 7 (.acons (.var 0) (.acons (.var 1) (.acons (.bi .len false (.acons (.var 7) .anil)) .anil)))))
    (.seq (.setSl (.var 7) (.opt (.var 8)) (.opt (.bin .add false (.var 8) (.int 1))) (.call 8 (.acons (.var 0) (.acons (.var 1) (.acons (.lst false (.acons (.lst false .anil) (.acons (.bin .mul false (.sli false (.var 7) (.opt (.var 8)) (.opt (.bin .add false (.var 8) (.int 1)))) (.int 2)) (.acons (.lst false (.acons (.var 6) .anil)) (.acons (.lst false (.acons (.var 6) (.acons (.idx (.var 7) (.var 8)) .anil))) .anil))))) .anil)))))
    (.seq (.ret (.join (.str "\n") (.var 7)))
    (.skip)))))
    (.skip))
    (.seq (.ifs (.cmp .eq (.var 5) (.int 3))
    (.seq (.set 9 (.split false (.var 2) (.str " ")))
    (.seq (.set 8 (.call 7 (.acons (.var 0) (.acons (.var 1) (.acons (.bi .len false (.acons (.var 9) .anil)) .anil)))))
    (.seq (.ret (.join (.str " ") (.bin .add false (.sli false (.var 9) .none (.opt (.var 8))) (.rev false (.sli false (.var 9) (.opt (.var 8)) .none)))))
    (.skip))))
    (.skip))
    (.seq (.ret (.bin .add false (.bin .add false (.sli false (.var 2) .none (.opt (.var 4))) (.var 6)) (.sli false (.var 2) (.opt (.bin .add false (.var 4) (.int 1))) .none)))
    (.skip)))))))⟩
def L_law_spoiled : List Cal := [⟨7, "_law_draw", G_law_draw⟩, ⟨8, "_law_pick", G_law_pick⟩]
def G_law_spoiled : List D → Store → R D := runF (FOf L_law_spoiled) f_law_spoiled
-- law: 0 script 1 state 2 signs 3 k 4 model 5 losses 6 text 7 line 8 step 9 wrong 10 other 11 found
def f_law_k26 : Fn := ⟨1, 12,
    .seq (.set 1 (.lst true .anil))
    (.seq (.set 2 (.lst false (.acons (.str "0") (.acons (.str "1") (.acons (.str "2") (.acons (.str "4") (.acons (.str " ") (.acons (.str "\n") (.acons (.str "/") (.acons (.str "-") (.acons (.str "1/2") (.acons (.str "0/1") (.acons (.str "01") (.acons (.str "a") (.acons (.str "9") (.acons (.str "  ") (.acons (.str "/1") (.acons (.str " 0") .anil))))))))))))))))))
    (.seq (.for_ .range (.acons (.int 7) .anil) (.name 3)
    (.seq (.set 4 (.call 14 (.acons (.var 0) (.acons (.var 1) (.acons (.int 5) .anil)))))
    (.seq (.set 5 (.call 32 (.acons (.var 0) (.acons (.var 1) (.acons (.var 4) .anil)))))
    (.seq (.unp [6, 7] (.tup (.acons (.call 199 (.acons (.var 4) .anil)) (.acons (.call 202 (.acons (.var 4) (.acons (.var 5) .anil))) .anil))))
    (.seq (.ifs (.or (.not (.call 30 (.acons (.call 324 (.acons (.var 6) .anil)) (.acons (.var 4) .anil)))) (.last (.not (.call 30 (.acons (.call 204 (.acons (.var 4) (.acons (.var 7) .anil))) (.acons (.var 5) .anil))))))
    (.seq (.ret (.bool false))
    (.skip))
    (.skip))
    (.seq (.for_ .range (.acons (.int 5) .anil) (.name 8)
    (.seq (.unp [9, 10] (.tup (.acons (.call 325 (.acons (.var 0) (.acons (.var 1) (.acons (.var 6) (.acons (.var 2) .anil))))) (.acons (.call 325 (.acons (.var 0) (.acons (.var 1) (.acons (.var 7) (.acons (.var 2) .anil))))) .anil))))
    (.seq (.set 11 (.call 327 (.acons (.var 9) .anil)))
    (.seq (.ifs (.isi (.var 11) .tuple)
    (.seq (.ifs (.cmp .ne (.call 199 (.acons (.var 11) .anil)) (.var 9))
    (.seq (.ret (.bool false))
    (.skip))
    (.skip))
    (.skip))
    (.seq (.ifs (.or (.cmp .ne (.var 11) (.str "ParseError")) (.last (.cmp .eq (.var 9) (.var 6))))
    (.seq (.ret (.bool false))
    (.skip))
    (.skip))
    (.skip)))
    (.seq (.set 11 (.call 222 (.acons (.var 4) (.acons (.var 10) .anil))))
    (.seq (.ifs (.isi (.var 11) .tuple)
    (.seq (.ifs (.cmp .ne (.call 202 (.acons (.var 4) (.acons (.var 11) .anil))) (.var 10))
    (.seq (.ret (.bool false))
    (.skip))
    (.skip))
    (.skip))
    (.seq (.ifs (.or (.cmp .ne (.var 11) (.str "ParseError")) (.last (.cmp .eq (.var 10) (.var 7))))
    (.seq (.ret (.bool false))
    (.skip))
    (.skip))
    (.skip)))
    (.skip)))))))
    (.seq (.ifs (.not (.call 326 (.acons (.var 4) (.acons (.var 6) (.acons (.var 7) .anil)))))
    (.seq (.ret (.bool false))
    (.skip))
    (.skip))
    (.skip))))))))
    (.seq (.ret (.bool true))
    (.skip))))⟩
def L_law_k26 : List Cal := [⟨326, "_law_refused", G_law_refused_k26⟩, ⟨202, "format_losses", G_format_losses⟩, ⟨222, "_law_parse_losses_or", G_law_parse_losses_or⟩, ⟨199, "format_model", G_format_model⟩, ⟨327, "_law_parse_model_or", G_law_parse_model_or⟩, ⟨325, "_law_spoiled", G_law_spoiled⟩, ⟨30, "_law_same", G_law_same 6⟩, ⟨204, "parse_losses", G_parse_losses⟩, ⟨324, "parse_model", G_parse_model⟩, ⟨32, "_law_losses", G_law_losses⟩, ⟨14, "_law_model", G_law_model⟩]
def G_law_k26 : List D → Store → R D := runF (FOf L_law_k26) f_law_k26
end PV
end
section
set_option Elab.async false
set_option linter.all false
set_option maxRecDepth 100000
set_option maxHeartbeats 0
namespace PV
open PySem PySem.Spec PyProof.Rows L2
theorem t_law_draw : TxtOk ncl L_law_draw [] ["script", "state", "many", "k", "cell", "digits", "number", "more"] ["script", "state", "many"] f_law_draw (top 32) := ⟨rfl, ⟨rfl, rfl, rfl, by decide +kernel, rfl, by decide +kernel, by decide +kernel⟩, rfl, rfl, fun _ _ _ _ _ _ _ _ us hl => match us, hl with | [_, _, _], _ => rfl, by decide +kernel⟩
theorem t_law_fraction : TxtOk ncl L_law_fraction [] ["top", "bottom", "one", "other", "sign"] ["top", "bottom"] f_law_fraction (top 35) := ⟨rfl, ⟨rfl, rfl, rfl, by decide +kernel, rfl, by decide +kernel, by decide +kernel⟩, rfl, rfl, fun _ _ _ _ _ _ _ _ us hl => match us, hl with | [_, _], _ => rfl, by decide +kernel⟩
theorem t_law_spread : TxtOk ncl L_law_spread [(10, "_law_fraction")] ["weights", "one"] ["weights"] f_law_spread (top 36) := ⟨rfl, ⟨rfl, rfl, rfl, by decide +kernel, rfl, by decide +kernel, by decide +kernel⟩, rfl, rfl, fun _ _ _ _ _ _ _ _ us hl => match us, hl with | [_], _ => rfl, by decide +kernel⟩
theorem t_law_model : TxtOk ncl L_law_model [(13, "_law_spread"), (7, "_law_draw")] ["script", "state", "most", "many", "states", "table", "step", "spot", "row"] ["script", "state", "most"] f_law_model (top 37) := ⟨rfl, ⟨rfl, rfl, rfl, by decide +kernel, rfl, by decide +kernel, by decide +kernel⟩, rfl, rfl, fun _ _ _ _ _ _ _ _ us hl => match us, hl with | [_, _, _], _ => rfl, by decide +kernel⟩
theorem t_law_losses : TxtOk ncl L_law_losses [(7, "_law_draw")] ["script", "state", "model", "rows", "action", "row"] ["script", "state", "model"] f_law_losses (top 38) := ⟨rfl, ⟨rfl, rfl, rfl, by decide +kernel, rfl, by decide +kernel, by decide +kernel⟩, rfl, rfl, fun _ _ _ _ _ _ _ _ us hl => match us, hl with | [_, _, _], _ => rfl, by decide +kernel⟩
theorem t_common_divisor : TxtOk ncl L_common_divisor [] ["one", "other"] ["one", "other"] f_common_divisor (top 7) := ⟨rfl, ⟨rfl, rfl, rfl, by decide +kernel, rfl, by decide +kernel, by decide +kernel⟩, rfl, rfl, fun _ _ _ _ _ _ _ _ us hl => match us, hl with | [_, _], _ => rfl, by decide +kernel⟩
theorem t_lowest_terms : TxtOk ncl L_lowest_terms [(0, "common_divisor")] ["top", "bottom", "divisor"] ["top", "bottom"] f_lowest_terms (top 8) := ⟨rfl, ⟨rfl, rfl, rfl, by decide +kernel, rfl, by decide +kernel, by decide +kernel⟩, rfl, rfl, fun _ _ _ _ _ _ _ _ us hl => match us, hl with | [_, _], _ => rfl, by decide +kernel⟩
theorem t_plus : TxtOk ncl L_plus [(1, "lowest_terms")] ["one", "other"] ["one", "other"] f_plus (top 10) := ⟨rfl, ⟨rfl, rfl, rfl, by decide +kernel, rfl, by decide +kernel, by decide +kernel⟩, rfl, rfl, fun _ _ _ _ _ _ _ _ us hl => match us, hl with | [_, _], _ => rfl, by decide +kernel⟩
theorem t_total_of : TxtOk ncl L_total_of [(3, "plus")] ["fractions", "found", "one"] ["fractions"] f_total_of (top 11) := ⟨rfl, ⟨rfl, rfl, rfl, by decide +kernel, rfl, by decide +kernel, by decide +kernel⟩, rfl, rfl, fun _ _ _ _ _ _ _ _ us hl => match us, hl with | [_], _ => rfl, by decide +kernel⟩
theorem t_is_fraction : TxtOk ncl L_is_fraction [(0, "common_divisor")] ["candidate", "one"] ["candidate"] f_is_fraction (top 9) := ⟨rfl, ⟨rfl, rfl, rfl, by decide +kernel, rfl, by decide +kernel, by decide +kernel⟩, rfl, rfl, fun _ _ _ _ _ _ _ _ us hl => match us, hl with | [_], _ => rfl, by decide +kernel⟩
theorem t_are_chances : TxtOk ncl L_are_chances [(4, "total_of"), (2, "is_fraction")] ["candidate", "least", "most", "one"] ["candidate", "least", "most"] f_are_chances (top 14) := ⟨rfl, ⟨rfl, rfl, rfl, by decide +kernel, rfl, by decide +kernel, by decide +kernel⟩, rfl, rfl, fun _ _ _ _ _ _ _ _ us hl => match us, hl with | [_, _, _], _ => rfl, by decide +kernel⟩
theorem t_is_model : TxtOk ncl L_is_model [(5, "are_chances")] ["candidate", "spot", "row"] ["candidate"] f_is_model (top 15) := ⟨rfl, ⟨rfl, rfl, rfl, by decide +kernel, rfl, by decide +kernel, by decide +kernel⟩, rfl, rfl, fun _ _ _ _ _ _ _ _ us hl => match us, hl with | [_], _ => rfl, by decide +kernel⟩
theorem t_require_model : TxtOk ncl L_require_model [(6, "is_model")] ["model"] ["model"] f_require_model (top 16) := ⟨rfl, ⟨rfl, rfl, rfl, by decide +kernel, rfl, by decide +kernel, by decide +kernel⟩, rfl, rfl, fun _ _ _ _ _ _ _ _ us hl => match us, hl with | [_], _ => rfl, by decide +kernel⟩
theorem t_model_text : TxtOk ncl L_model_text [] ["model", "lines", "row", "line", "top", "bottom"] ["model"] f_model_text (top 20) := ⟨rfl, ⟨rfl, rfl, rfl, by decide +kernel, rfl, by decide +kernel, by decide +kernel⟩, rfl, rfl, fun _ _ _ _ _ _ _ _ us hl => match us, hl with | [_], _ => rfl, by decide +kernel⟩
theorem t_is_long : TxtOk ncl L_is_long [] ["number"] ["number"] f_is_long (top 21) := ⟨rfl, ⟨rfl, rfl, rfl, by decide +kernel, rfl, by decide +kernel, by decide +kernel⟩, rfl, rfl, fun _ _ _ _ _ _ _ _ us hl => match us, hl with | [_], _ => rfl, by decide +kernel⟩
theorem t_format_model : TxtOk ncl L_format_model [(197, "model_text"), (198, "is_long"), (19, "require_model")] ["model", "row", "top", "bottom"] ["model"] f_format_model (top 22) := ⟨rfl, ⟨rfl, rfl, rfl, by decide +kernel, rfl, by decide +kernel, by decide +kernel⟩, rfl, rfl, fun _ _ _ _ _ _ _ _ us hl => match us, hl with | [_], _ => rfl, by decide +kernel⟩
theorem t_is_integer : TxtOk ncl L_is_integer [] ["candidate", "least", "most"] ["candidate", "least", "most"] f_is_integer (top 13) := ⟨rfl, ⟨rfl, rfl, rfl, by decide +kernel, rfl, by decide +kernel, by decide +kernel⟩, rfl, rfl, fun _ _ _ _ _ _ _ _ us hl => match us, hl with | [_, _, _], _ => rfl, by decide +kernel⟩
theorem t_are_valid_losses : TxtOk ncl L_are_valid_losses [(18, "is_integer")] ["model", "candidate", "row", "one"] ["model", "candidate"] f_are_valid_losses (top 17) := ⟨rfl, ⟨rfl, rfl, rfl, by decide +kernel, rfl, by decide +kernel, by decide +kernel⟩, rfl, rfl, fun _ _ _ _ _ _ _ _ us hl => match us, hl with | [_, _], _ => rfl, by decide +kernel⟩
theorem t_require_losses : TxtOk ncl L_require_losses [(20, "are_valid_losses"), (19, "require_model")] ["model", "losses"] ["model", "losses"] f_require_losses (top 18) := ⟨rfl, ⟨rfl, rfl, rfl, by decide +kernel, rfl, by decide +kernel, by decide +kernel⟩, rfl, rfl, fun _ _ _ _ _ _ _ _ us hl => match us, hl with | [_, _], _ => rfl, by decide +kernel⟩
theorem t_losses_text : TxtOk ncl L_losses_text [] ["losses", "row", "one"] ["losses"] f_losses_text (top 26) := ⟨rfl, ⟨rfl, rfl, rfl, by decide +kernel, rfl, by decide +kernel, by decide +kernel⟩, rfl, rfl, fun _ _ _ _ _ _ _ _ us hl => match us, hl with | [_], _ => rfl, by decide +kernel⟩
theorem t_format_losses : TxtOk ncl L_format_losses [(201, "losses_text"), (22, "require_losses")] ["model", "losses"] ["model", "losses"] f_format_losses (top 27) := ⟨rfl, ⟨rfl, rfl, rfl, by decide +kernel, rfl, by decide +kernel, by decide +kernel⟩, rfl, rfl, fun _ _ _ _ _ _ _ _ us hl => match us, hl with | [_, _], _ => rfl, by decide +kernel⟩
theorem t_parse_number : TxtOk ncl L_parse_number [] ["word", "most", "sign"] ["word", "most"] f_parse_number (top 23) := ⟨rfl, ⟨rfl, rfl, rfl, by decide +kernel, rfl, by decide +kernel, by decide +kernel⟩, rfl, rfl, fun _ _ _ _ _ _ _ _ us hl => match us, hl with | [_, _], _ => rfl, by decide +kernel⟩
theorem t_parse_chance : TxtOk ncl L_parse_chance [(200, "parse_number")] ["word", "part"] ["word"] f_parse_chance (top 24) := ⟨rfl, ⟨rfl, rfl, rfl, by decide +kernel, rfl, by decide +kernel, by decide +kernel⟩, rfl, rfl, fun _ _ _ _ _ _ _ _ us hl => match us, hl with | [_], _ => rfl, by decide +kernel⟩
theorem t_parse_model : TxtOk ncl L_parse_model [(197, "model_text"), (6, "is_model"), (323, "parse_chance")] ["text", "model", "line", "word"] ["text"] f_parse_model (top 25) := ⟨rfl, ⟨rfl, rfl, rfl, by decide +kernel, rfl, by decide +kernel, by decide +kernel⟩, rfl, rfl, fun _ _ _ _ _ _ _ _ us hl => match us, hl with | [_], _ => rfl, by decide +kernel⟩
theorem t_law_parse_model_or : TxtOk ncl L_law_parse_model_or [(324, "parse_model")] ["text"] ["text"] f_law_parse_model_or (top 40) := ⟨rfl, ⟨rfl, rfl, rfl, by decide +kernel, rfl, by decide +kernel, by decide +kernel⟩, rfl, rfl, fun _ _ _ _ _ _ _ _ us hl => match us, hl with | [_], _ => rfl, by decide +kernel⟩
theorem t_parse_loss : TxtOk ncl L_parse_loss [(200, "parse_number")] ["word"] ["word"] f_parse_loss (top 28) := ⟨rfl, ⟨rfl, rfl, rfl, by decide +kernel, rfl, by decide +kernel, by decide +kernel⟩, rfl, rfl, fun _ _ _ _ _ _ _ _ us hl => match us, hl with | [_], _ => rfl, by decide +kernel⟩
theorem t_parse_losses : TxtOk ncl L_parse_losses [(201, "losses_text"), (20, "are_valid_losses"), (203, "parse_loss"), (19, "require_model")] ["model", "text", "losses", "line", "word"] ["model", "text"] f_parse_losses (top 29) := ⟨rfl, ⟨rfl, rfl, rfl, by decide +kernel, rfl, by decide +kernel, by decide +kernel⟩, rfl, rfl, fun _ _ _ _ _ _ _ _ us hl => match us, hl with | [_, _], _ => rfl, by decide +kernel⟩
theorem t_law_parse_losses_or : TxtOk ncl L_law_parse_losses_or [(204, "parse_losses")] ["model", "text"] ["model", "text"] f_law_parse_losses_or (top 41) := ⟨rfl, ⟨rfl, rfl, rfl, by decide +kernel, rfl, by decide +kernel, by decide +kernel⟩, rfl, rfl, fun _ _ _ _ _ _ _ _ us hl => match us, hl with | [_, _], _ => rfl, by decide +kernel⟩
theorem t_law_refused_k26 : TxtOk ncl L_law_refused_k26 [(222, "_law_parse_losses_or"), (327, "_law_parse_model_or")] ["model", "text", "line", "things", "wrong"] ["model", "text", "line"] f_law_refused_k26 (top 39) := ⟨rfl, ⟨rfl, rfl, rfl, by decide +kernel, rfl, by decide +kernel, by decide +kernel⟩, rfl, rfl, fun _ _ _ _ _ _ _ _ us hl => match us, hl with | [_, _, _], _ => rfl, by decide +kernel⟩
theorem t_law_same (go : List D → Store → R D) : TxtOk ncl (L_law_same go) [(30, "_law_same")] ["got", "due", "one", "other"] ["got", "due"] f_law_same (top 31) := ⟨rfl, ⟨rfl, rfl, rfl, by decide +kernel, rfl, by decide +kernel, by decide +kernel⟩, rfl, rfl, fun _ _ _ _ _ _ _ _ us hl => match us, hl with | [_, _], _ => rfl, by decide +kernel⟩
theorem t_law_pick : TxtOk ncl L_law_pick [(7, "_law_draw")] ["script", "state", "some"] ["script", "state", "some"] f_law_pick (top 33) := ⟨rfl, ⟨rfl, rfl, rfl, by decide +kernel, rfl, by decide +kernel, by decide +kernel⟩, rfl, rfl, fun _ _ _ _ _ _ _ _ us hl => match us, hl with | [_, _, _], _ => rfl, by decide +kernel⟩
theorem t_law_spoiled : TxtOk ncl L_law_spoiled [(7, "_law_draw"), (8, "_law_pick")] ["script", "state", "text", "signs", "at", "turn", "sign", "lines", "spot", "words"] ["script", "state", "text", "signs"] f_law_spoiled (top 34) := ⟨rfl, ⟨rfl, rfl, rfl, by decide +kernel, rfl, by decide +kernel, by decide +kernel⟩, rfl, rfl, fun _ _ _ _ _ _ _ _ us hl => match us, hl with | [_, _, _, _], _ => rfl, by decide +kernel⟩
theorem t_law_k26 : TxtOk ncl L_law_k26 [(326, "_law_refused"), (202, "format_losses"), (222, "_law_parse_losses_or"), (199, "format_model"), (327, "_law_parse_model_or"), (325, "_law_spoiled"), (30, "_law_same"), (204, "parse_losses"), (324, "parse_model"), (32, "_law_losses"), (14, "_law_model")] ["script", "state", "signs", "k", "model", "losses", "text", "line", "step", "wrong", "other", "found"] ["script"] f_law_k26 (top 42) := ⟨rfl, ⟨rfl, rfl, rfl, by decide +kernel, rfl, by decide +kernel, by decide +kernel⟩, rfl, rfl, fun _ _ _ _ _ _ _ _ us hl => match us, hl with | [_], _ => rfl, by decide +kernel⟩
def cv (K : PySem.W.Frag) : Nat → Value := cvOf K ncl
theorem facts {P : Program} {w : World} {K : PySem.W.Frag} {h : Heap} {mg : Str → Option Value} {f : Addr} (X : K.In h) (G : h.Ns mainGlobals mg) (hf : mg ("law" : Str) = some (.ref f)) (c : He.SaysD hfa hfn K) :
    ∃ fd : FuncData, (∀ (s : Shared) (v : Value), BindsTo s fd ⟨[v], []⟩ [("script", v)]) ∧ ∀ base : Heap, K.In base → base.Ns mainGlobals mg → FnOk P w K mg base (L2.CX P w) 11 f fd ["script"] (spOf K (cv K) G_law_k26) := by
  obtain ⟨fd0, F0⟩ := c.def_ 0 (d := dd "_law_draw" 32) rfl
  have g0 := He.glo_ok X G (c.fact 0 (f := .glo "_law_draw") rfl)
  obtain ⟨fd1, F1⟩ := c.def_ 1 (d := dd "_law_fraction" 35) rfl
  have g1 := He.glo_ok X G (c.fact 1 (f := .glo "_law_fraction") rfl)
  obtain ⟨fd2, F2⟩ := c.def_ 2 (d := dd "_law_spread" 36) rfl
  have g2 := He.glo_ok X G (c.fact 2 (f := .glo "_law_spread") rfl)
  obtain ⟨fd3, F3⟩ := c.def_ 3 (d := dd "_law_model" 37) rfl
  have g3 := He.glo_ok X G (c.fact 3 (f := .glo "_law_model") rfl)
  obtain ⟨fd4, F4⟩ := c.def_ 4 (d := dd "_law_losses" 38) rfl
  have g4 := He.glo_ok X G (c.fact 4 (f := .glo "_law_losses") rfl)
  obtain ⟨fd5, F5⟩ := c.def_ 5 (d := dd "common_divisor" 7) rfl
  have g5 := He.glo_ok X G (c.fact 5 (f := .glo "common_divisor") rfl)
  obtain ⟨fd6, F6⟩ := c.def_ 6 (d := dd "lowest_terms" 8) rfl
  have g6 := He.glo_ok X G (c.fact 6 (f := .glo "lowest_terms") rfl)
  obtain ⟨fd7, F7⟩ := c.def_ 7 (d := dd "plus" 10) rfl
  have g7 := He.glo_ok X G (c.fact 7 (f := .glo "plus") rfl)
  obtain ⟨fd8, F8⟩ := c.def_ 8 (d := dd "total_of" 11) rfl
  have g8 := He.glo_ok X G (c.fact 8 (f := .glo "total_of") rfl)
  obtain ⟨fd9, F9⟩ := c.def_ 9 (d := dd "is_fraction" 9) rfl
  have g9 := He.glo_ok X G (c.fact 9 (f := .glo "is_fraction") rfl)
  obtain ⟨fd10, F10⟩ := c.def_ 10 (d := dd "are_chances" 14) rfl
  have g10 := He.glo_ok X G (c.fact 10 (f := .glo "are_chances") rfl)
  obtain ⟨fd11, F11⟩ := c.def_ 11 (d := dd "is_model" 15) rfl
  have g11 := He.glo_ok X G (c.fact 11 (f := .glo "is_model") rfl)
  obtain ⟨fd12, F12⟩ := c.def_ 12 (d := dd "require_model" 16) rfl
  have g12 := He.glo_ok X G (c.fact 12 (f := .glo "require_model") rfl)
  obtain ⟨fd13, F13⟩ := c.def_ 13 (d := dd "model_text" 20) rfl
  have g13 := He.glo_ok X G (c.fact 13 (f := .glo "model_text") rfl)
  obtain ⟨fd14, F14⟩ := c.def_ 14 (d := dd "is_long" 21) rfl
  have g14 := He.glo_ok X G (c.fact 14 (f := .glo "is_long") rfl)
  obtain ⟨fd15, F15⟩ := c.def_ 15 (d := dd "format_model" 22) rfl
  have g15 := He.glo_ok X G (c.fact 15 (f := .glo "format_model") rfl)
  obtain ⟨fd16, F16⟩ := c.def_ 16 (d := dd "is_integer" 13) rfl
  have g16 := He.glo_ok X G (c.fact 16 (f := .glo "is_integer") rfl)
  obtain ⟨fd17, F17⟩ := c.def_ 17 (d := dd "are_valid_losses" 17) rfl
  have g17 := He.glo_ok X G (c.fact 17 (f := .glo "are_valid_losses") rfl)
  obtain ⟨fd18, F18⟩ := c.def_ 18 (d := dd "require_losses" 18) rfl
  have g18 := He.glo_ok X G (c.fact 18 (f := .glo "require_losses") rfl)
  obtain ⟨fd19, F19⟩ := c.def_ 19 (d := dd "losses_text" 26) rfl
  have g19 := He.glo_ok X G (c.fact 19 (f := .glo "losses_text") rfl)
  obtain ⟨fd20, F20⟩ := c.def_ 20 (d := dd "format_losses" 27) rfl
  have g20 := He.glo_ok X G (c.fact 20 (f := .glo "format_losses") rfl)
  obtain ⟨fd21, F21⟩ := c.def_ 21 (d := dd "parse_number" 23) rfl
  have g21 := He.glo_ok X G (c.fact 21 (f := .glo "parse_number") rfl)
  obtain ⟨fd22, F22⟩ := c.def_ 22 (d := dd "parse_chance" 24) rfl
  have g22 := He.glo_ok X G (c.fact 22 (f := .glo "parse_chance") rfl)
  obtain ⟨fd23, F23⟩ := c.def_ 23 (d := dd "parse_model" 25) rfl
  have g23 := He.glo_ok X G (c.fact 23 (f := .glo "parse_model") rfl)
  obtain ⟨fd24, F24⟩ := c.def_ 24 (d := dd "_law_parse_model_or" 40) rfl
  have g24 := He.glo_ok X G (c.fact 24 (f := .glo "_law_parse_model_or") rfl)
  obtain ⟨fd25, F25⟩ := c.def_ 25 (d := dd "parse_loss" 28) rfl
  have g25 := He.glo_ok X G (c.fact 25 (f := .glo "parse_loss") rfl)
  obtain ⟨fd26, F26⟩ := c.def_ 26 (d := dd "parse_losses" 29) rfl
  have g26 := He.glo_ok X G (c.fact 26 (f := .glo "parse_losses") rfl)
  obtain ⟨fd27, F27⟩ := c.def_ 27 (d := dd "_law_parse_losses_or" 41) rfl
  have g27 := He.glo_ok X G (c.fact 27 (f := .glo "_law_parse_losses_or") rfl)
  obtain ⟨fd28, F28⟩ := c.def_ 28 (d := dd "_law_refused" 39) rfl
  have g28 := He.glo_ok X G (c.fact 28 (f := .glo "_law_refused") rfl)
  obtain ⟨fd29, F29⟩ := c.def_ 29 (d := dd "_law_same" 31) rfl
  have g29 := He.glo_ok X G (c.fact 29 (f := .glo "_law_same") rfl)
  obtain ⟨fd30, F30⟩ := c.def_ 30 (d := dd "_law_pick" 33) rfl
  have g30 := He.glo_ok X G (c.fact 30 (f := .glo "_law_pick") rfl)
  obtain ⟨fd31, F31⟩ := c.def_ 31 (d := dd "_law_spoiled" 34) rfl
  have g31 := He.glo_ok X G (c.fact 31 (f := .glo "_law_spoiled") rfl)
  obtain ⟨fd32, F32⟩ := c.def_ 32 (d := dd "law" 42) rfl
  have g32 := He.glo_ok X G (c.fact 32 (f := .glo "law") rfl)
  have hb : ∀ y ∈ bltNames, mg y = none := by
    intro y hy
    simp only [bltNames, List.mem_cons, List.not_mem_nil, or_false] at hy
    rcases hy with rfl | rfl | rfl | rfl | rfl | rfl | rfl | rfl | rfl | rfl | rfl | rfl | rfl | rfl | rfl | rfl
    · exact He.free_ok X G (c.fact 33 (f := .free "len") rfl)
    · exact He.free_ok X G (c.fact 34 (f := .free "abs") rfl)
    · exact He.free_ok X G (c.fact 35 (f := .free "all") rfl)
    · exact He.free_ok X G (c.fact 36 (f := .free "any") rfl)
    · exact He.free_ok X G (c.fact 37 (f := .free "max") rfl)
    · exact He.free_ok X G (c.fact 38 (f := .free "min") rfl)
    · exact He.free_ok X G (c.fact 39 (f := .free "sum") rfl)
    · exact He.free_ok X G (c.fact 40 (f := .free "tuple") rfl)
    · exact He.free_ok X G (c.fact 41 (f := .free "list") rfl)
    · exact He.free_ok X G (c.fact 42 (f := .free "int") rfl)
    · exact He.free_ok X G (c.fact 43 (f := .free "str") rfl)
    · exact He.free_ok X G (c.fact 44 (f := .free "bool") rfl)
    · exact He.free_ok X G (c.fact 45 (f := .free "isinstance") rfl)
    · exact He.free_ok X G (c.fact 46 (f := .free "range") rfl)
    · exact He.free_ok X G (c.fact 47 (f := .free "enumerate") rfl)
    · exact He.free_ok X G (c.fact 48 (f := .free "zip") rfl)
  have hcf : ClsFacts K mg (cv K) (nmP ncl) := cls_facts (fa := hfb) X G c
  have e := hf.symm.trans g32
  cases e
  have b := FunD.bindsA (ps := ["script"]) F32 fun _ _ _ _ _ _ us hl => match us, hl with | [_], _ => rfl
  refine ⟨fd32, fun s v => b s [v] rfl, fun base _ _ => ?_⟩
  have D_law_draw : Def1 P w K mg base (cv K) 1 "_law_draw" G_law_draw := def_of t_law_draw F0 g0 hb hcf cal_nil
  have D_law_fraction : Def1 P w K mg base (cv K) 1 "_law_fraction" G_law_fraction := def_of t_law_fraction F1 g1 hb hcf cal_nil
  have D_law_spread : Def1 P w K mg base (cv K) 2 "_law_spread" G_law_spread := def_of t_law_spread F2 g2 hb hcf (cal_cons (D_law_fraction.mono (by decide)) cal_nil)
  have D_law_model : Def1 P w K mg base (cv K) 3 "_law_model" G_law_model := def_of t_law_model F3 g3 hb hcf (cal_cons (D_law_spread.mono (by decide)) (cal_cons (D_law_draw.mono (by decide)) cal_nil))
  have D_law_losses : Def1 P w K mg base (cv K) 2 "_law_losses" G_law_losses := def_of t_law_losses F4 g4 hb hcf (cal_cons (D_law_draw.mono (by decide)) cal_nil)
  have D_common_divisor : Def1 P w K mg base (cv K) 1 "common_divisor" G_common_divisor := def_of t_common_divisor F5 g5 hb hcf cal_nil
  have D_lowest_terms : Def1 P w K mg base (cv K) 2 "lowest_terms" G_lowest_terms := def_of t_lowest_terms F6 g6 hb hcf (cal_cons (D_common_divisor.mono (by decide)) cal_nil)
  have D_plus : Def1 P w K mg base (cv K) 3 "plus" G_plus := def_of t_plus F7 g7 hb hcf (cal_cons (D_lowest_terms.mono (by decide)) cal_nil)
  have D_total_of : Def1 P w K mg base (cv K) 4 "total_of" G_total_of := def_of t_total_of F8 g8 hb hcf (cal_cons (D_plus.mono (by decide)) cal_nil)
  have D_is_fraction : Def1 P w K mg base (cv K) 2 "is_fraction" G_is_fraction := def_of t_is_fraction F9 g9 hb hcf (cal_cons (D_common_divisor.mono (by decide)) cal_nil)
  have D_are_chances : Def1 P w K mg base (cv K) 5 "are_chances" G_are_chances := def_of t_are_chances F10 g10 hb hcf (cal_cons (D_total_of.mono (by decide)) (cal_cons (D_is_fraction.mono (by decide)) cal_nil))
  have D_is_model : Def1 P w K mg base (cv K) 6 "is_model" G_is_model := def_of t_is_model F11 g11 hb hcf (cal_cons (D_are_chances.mono (by decide)) cal_nil)
  have D_require_model : Def1 P w K mg base (cv K) 7 "require_model" G_require_model := def_of t_require_model F12 g12 hb hcf (cal_cons (D_is_model.mono (by decide)) cal_nil)
  have D_model_text : Def1 P w K mg base (cv K) 1 "model_text" G_model_text := def_of t_model_text F13 g13 hb hcf cal_nil
  have D_is_long : Def1 P w K mg base (cv K) 1 "is_long" G_is_long := def_of t_is_long F14 g14 hb hcf cal_nil
  have D_format_model : Def1 P w K mg base (cv K) 8 "format_model" G_format_model := def_of t_format_model F15 g15 hb hcf (cal_cons (D_model_text.mono (by decide)) (cal_cons (D_is_long.mono (by decide)) (cal_cons (D_require_model.mono (by decide)) cal_nil)))
  have D_is_integer : Def1 P w K mg base (cv K) 1 "is_integer" G_is_integer := def_of t_is_integer F16 g16 hb hcf cal_nil
  have D_are_valid_losses : Def1 P w K mg base (cv K) 2 "are_valid_losses" G_are_valid_losses := def_of t_are_valid_losses F17 g17 hb hcf (cal_cons (D_is_integer.mono (by decide)) cal_nil)
  have D_require_losses : Def1 P w K mg base (cv K) 8 "require_losses" G_require_losses := def_of t_require_losses F18 g18 hb hcf (cal_cons (D_are_valid_losses.mono (by decide)) (cal_cons (D_require_model.mono (by decide)) cal_nil))
  have D_losses_text : Def1 P w K mg base (cv K) 1 "losses_text" G_losses_text := def_of t_losses_text F19 g19 hb hcf cal_nil
  have D_format_losses : Def1 P w K mg base (cv K) 9 "format_losses" G_format_losses := def_of t_format_losses F20 g20 hb hcf (cal_cons (D_losses_text.mono (by decide)) (cal_cons (D_require_losses.mono (by decide)) cal_nil))
  have D_parse_number : Def1 P w K mg base (cv K) 1 "parse_number" G_parse_number := def_of t_parse_number F21 g21 hb hcf cal_nil
  have D_parse_chance : Def1 P w K mg base (cv K) 2 "parse_chance" G_parse_chance := def_of t_parse_chance F22 g22 hb hcf (cal_cons (D_parse_number.mono (by decide)) cal_nil)
  have D_parse_model : Def1 P w K mg base (cv K) 7 "parse_model" G_parse_model := def_of t_parse_model F23 g23 hb hcf (cal_cons (D_model_text.mono (by decide)) (cal_cons (D_is_model.mono (by decide)) (cal_cons (D_parse_chance.mono (by decide)) cal_nil)))
  have D_law_parse_model_or : Def1 P w K mg base (cv K) 8 "_law_parse_model_or" G_law_parse_model_or := def_of t_law_parse_model_or F24 g24 hb hcf (cal_cons (D_parse_model.mono (by decide)) cal_nil)
  have D_parse_loss : Def1 P w K mg base (cv K) 2 "parse_loss" G_parse_loss := def_of t_parse_loss F25 g25 hb hcf (cal_cons (D_parse_number.mono (by decide)) cal_nil)
  have D_parse_losses : Def1 P w K mg base (cv K) 8 "parse_losses" G_parse_losses := def_of t_parse_losses F26 g26 hb hcf (cal_cons (D_losses_text.mono (by decide)) (cal_cons (D_are_valid_losses.mono (by decide)) (cal_cons (D_parse_loss.mono (by decide)) (cal_cons (D_require_model.mono (by decide)) cal_nil))))
  have D_law_parse_losses_or : Def1 P w K mg base (cv K) 9 "_law_parse_losses_or" G_law_parse_losses_or := def_of t_law_parse_losses_or F27 g27 hb hcf (cal_cons (D_parse_losses.mono (by decide)) cal_nil)
  have D_law_refused_k26 : Def1 P w K mg base (cv K) 10 "_law_refused" G_law_refused_k26 := def_of t_law_refused_k26 F28 g28 hb hcf (cal_cons (D_law_parse_losses_or.mono (by decide)) (cal_cons (D_law_parse_model_or.mono (by decide)) cal_nil))
  have D_law_same_0 : Def1 P w K mg base (cv K) 0 "_law_same" (G_law_same 0) := def_err (t_law_same fun _ _ => .err) F29 g29
  have D_law_same_1 : Def1 P w K mg base (cv K) 1 "_law_same" (G_law_same 1) := def_of (t_law_same _) F29 g29 hb hcf (cal_cons (D_law_same_0) cal_nil)
  have D_law_same_2 : Def1 P w K mg base (cv K) 2 "_law_same" (G_law_same 2) := def_of (t_law_same _) F29 g29 hb hcf (cal_cons (D_law_same_1) cal_nil)
  have D_law_same_3 : Def1 P w K mg base (cv K) 3 "_law_same" (G_law_same 3) := def_of (t_law_same _) F29 g29 hb hcf (cal_cons (D_law_same_2) cal_nil)
  have D_law_same_4 : Def1 P w K mg base (cv K) 4 "_law_same" (G_law_same 4) := def_of (t_law_same _) F29 g29 hb hcf (cal_cons (D_law_same_3) cal_nil)
  have D_law_same_5 : Def1 P w K mg base (cv K) 5 "_law_same" (G_law_same 5) := def_of (t_law_same _) F29 g29 hb hcf (cal_cons (D_law_same_4) cal_nil)
  have D_law_same_6 : Def1 P w K mg base (cv K) 6 "_law_same" (G_law_same 6) := def_of (t_law_same _) F29 g29 hb hcf (cal_cons (D_law_same_5) cal_nil)
  have D_law_same := D_law_same_6
  have D_law_pick : Def1 P w K mg base (cv K) 2 "_law_pick" G_law_pick := def_of t_law_pick F30 g30 hb hcf (cal_cons (D_law_draw.mono (by decide)) cal_nil)
  have D_law_spoiled : Def1 P w K mg base (cv K) 3 "_law_spoiled" G_law_spoiled := def_of t_law_spoiled F31 g31 hb hcf (cal_cons (D_law_draw.mono (by decide)) (cal_cons (D_law_pick.mono (by decide)) cal_nil))
  exact fn_txt t_law_k26 F32 hb hcf (cal_cons (D_law_refused_k26.mono (by decide)) (cal_cons (D_format_losses.mono (by decide)) (cal_cons (D_law_parse_losses_or.mono (by decide)) (cal_cons (D_format_model.mono (by decide)) (cal_cons (D_law_parse_model_or.mono (by decide)) (cal_cons (D_law_spoiled.mono (by decide)) (cal_cons (D_law_same.mono (by decide)) (cal_cons (D_parse_losses.mono (by decide)) (cal_cons (D_parse_model.mono (by decide)) (cal_cons (D_law_losses.mono (by decide)) (cal_cons (D_law_model.mono (by decide)) cal_nil)))))))))))
end PV
end
section
set_option linter.all false
set_option maxRecDepth 100000
namespace PV
open PySem (Str)
/-! ### plain data: no cell inside -/
mutual
def D.pure : D → Bool
  | .tup xs => D.pureL xs | .lst xs => D.pureL xs
  | .loc _ => false
  | _ => true
def D.pureL : List D → Bool
  | [] => true
  | x :: xs => D.pure x && D.pureL xs
end
mutual
theorem frz_pure {n : Nat} {S : Store} {go : List D → List D} : ∀ {d : D}, d.pure = true → D.frz1 n S go d = d
  | .none, _ => rfl
  | .bool _, _ => rfl
  | .int _, _ => rfl
  | .str _, _ => rfl
  | .scr _, _ => rfl
  | .loc _, h => by simp [D.pure] at h
  | .tup xs, h => by simp only [D.frz1, frz_pureL (xs := xs) h]
  | .lst xs, h => by simp only [D.frz1, frz_pureL (xs := xs) h]
theorem frz_pureL {n : Nat} {S : Store} {go : List D → List D} : ∀ {xs : List D}, D.pureL xs = true → D.frz1L n S go xs = xs
  | [], _ => rfl
  | x :: xs, h => by
    simp only [D.pureL, Bool.and_eq_true] at h
    simp only [D.frz1L, frz_pure h.1, frz_pureL h.2]
end
mutual
theorem under_pure {n : Nat} : ∀ {d : D}, d.pure = true → d.under n = true
  | .none, _ => rfl
  | .bool _, _ => rfl
  | .int _, _ => rfl
  | .str _, _ => rfl
  | .scr _, _ => rfl
  | .loc _, h => by simp [D.pure] at h
  | .tup xs, h => under_pureL (xs := xs) h
  | .lst xs, h => under_pureL (xs := xs) h
theorem under_pureL {n : Nat} : ∀ {xs : List D}, D.pureL xs = true → D.underL n xs = true
  | [], _ => rfl
  | x :: xs, h => by
    simp only [D.pureL, Bool.and_eq_true] at h
    simp only [D.underL, under_pure h.1, under_pureL h.2, Bool.and_self]
end
theorem sameOr_refl (n : Nat) : ∀ S : Store, sameOr n S S = true
  | [] => rfl
  | c :: r => by simp [sameOr, sameOr_refl n r]
theorem clean_app {S T : Store} {d : D} (h : d.pure = true) : clean S d (S ++ T) = .ok d S := by
  unfold clean
  simp only [D.frz, frz_pure h, under_pure h, List.take_left, sameOr_refl, Bool.and_self, if_true]
theorem clean_same {S : Store} {d : D} (h : d.pure = true) : clean S d S = .ok d S := by
  have := clean_app (S := S) (T := []) h
  rwa [List.append_nil] at this
theorem sameOr_set {n : Nat} {c : Cell} (h : c.under n = true) : ∀ (S : Store) (k : Nat), sameOr n S (S.set k c) = true
  | [], _ => rfl
  | _ :: r, 0 => by simp [sameOr, h, sameOr_refl]
  | _ :: r, k + 1 => by simp [sameOr, sameOr_set h r k]
theorem clean_set {S T : Store} {k : Nat} {c : Cell} {d : D} (h : d.pure = true) (hc : c.under S.length = true) : clean S d (S.set k c ++ T) = .ok d (S.set k c) := by
  unfold clean
  have e : (S.set k c ++ T).take S.length = S.set k c := by
    have : (S.set k c).length = S.length := by simp
    rw [← this, List.take_left]
  simp only [D.frz, frz_pure h, under_pure h, e, sameOr_set hc, Bool.and_self, if_true]
/-! ### what each construct does, step by step -/
section
variable {F : Nat → List D → Store → R D} {ρ : Env} {S : Store}
@[simp] theorem ev_var (i : Nat) : ev F (.var i) ρ S = (match ρ[i]? with | some (some d) => .ok d S | _ => .err) := (rfl)
@[simp] theorem ev_int (i : Int) : ev F (.int i) ρ S = .ok (.int i) S := (rfl)
@[simp] theorem ev_bool (i : Bool) : ev F (.bool i) ρ S = .ok (.bool i) S := (rfl)
@[simp] theorem ev_str (i : Str) : ev F (.str i) ρ S = .ok (.str i) S := (rfl)
@[simp] theorem ev_none : ev F .none ρ S = .ok .none S := (rfl)
@[simp] theorem ev_bin (op : Bop) (m : Bool) (a b : Ex) : ev F (.bin op m a b) ρ S = (ev F a ρ S).bind fun x S1 => (ev F b ρ S1).bind fun y S2 => binD m op x y S2 := (rfl)
def negD (x : D) (S : Store) : R D := match x with | .int i => .ok (.int (-i)) S | _ => .err
@[simp] theorem negD_int (i : Int) : negD (.int i) S = .ok (.int (-i)) S := (rfl)
@[simp] theorem ev_neg (a : Ex) : ev F (.neg a) ρ S = (ev F a ρ S).bind negD := (rfl)
@[simp] theorem ev_not (a : Ex) : ev F (.not a) ρ S = (ev F a ρ S).bind fun x S1 => ofOpt S1 ((truth S1 x).map fun b => D.bool (!b)) := (rfl)
def iteO (o : Option Bool) (a b : R D) : R D := match o with | some true => a | some false => b | none => .err
@[simp] theorem iteO_t (a b : R D) : iteO (some true) a b = a := (rfl)
@[simp] theorem iteO_f (a b : R D) : iteO (some false) a b = b := (rfl)
@[simp] theorem ev_and (a b : Ex) : ev F (.and a b) ρ S = (ev F a ρ S).bind fun x S1 => iteO (truth S1 x) (ev F b ρ S1) (.ok x S1) := (rfl)
@[simp] theorem ev_or (a b : Ex) : ev F (.or a b) ρ S = (ev F a ρ S).bind fun x S1 => iteO (truth S1 x) (.ok x S1) (ev F b ρ S1) := (rfl)
@[simp] theorem ev_cmp (op : Cop) (a b : Ex) : ev F (.cmp op a b) ρ S = (ev F a ρ S).bind fun x S1 => (ev F b ρ S1).bind fun y S2 => ofOpt S2 ((cmpD op x y S2).map D.bool) := (rfl)
@[simp] theorem ev_chain (op op' : Cop) (a b c : Ex) : ev F (.chain op op' a b c) ρ S = (ev F a ρ S).bind fun x S1 => (ev F b ρ S1).bind fun y S2 => iteO (cmpD op x y S2) ((ev F c ρ S2).bind fun z S3 => ofOpt S3 ((cmpD op' y z S3).map D.bool)) (.ok (.bool false) S2) := (rfl)
@[simp] theorem ev_ife (c a b : Ex) : ev F (.ife c a b) ρ S = (ev F c ρ S).bind fun x S1 => iteO (truth S1 x) (ev F a ρ S1) (ev F b ρ S1) := (rfl)
@[simp] theorem ev_anil : ev F .anil ρ S = .ok (.tup []) S := (rfl)
def consD (x y : D) (S : Store) : R D := match y with | .tup ys => .ok (.tup (x :: ys)) S | _ => .err
@[simp] theorem consD_tup (x : D) (ys : List D) : consD x (.tup ys) S = .ok (.tup (x :: ys)) S := (rfl)
@[simp] theorem ev_acons (a r : Ex) : ev F (.acons a r) ρ S = (ev F a ρ S).bind fun x S1 => (ev F r ρ S1).bind fun y S2 => consD x y S2 := (rfl)
def tupD (x : D) (S : Store) : R D := match x with | .tup xs => if xs.length ≤ line then .ok (.tup xs) S else .err | _ => .err
@[simp] theorem ev_tup (a : Ex) : ev F (.tup a) ρ S = (ev F a ρ S).bind tupD := (rfl)
def lstD (m : Bool) (x : D) (S : Store) : R D := match x with | .tup xs => newL m xs S | _ => .err
@[simp] theorem lstD_tup (m : Bool) (xs : List D) : lstD m (.tup xs) S = newL m xs S := (rfl)
@[simp] theorem ev_lst (m : Bool) (a : Ex) : ev F (.lst m a) ρ S = (ev F a ρ S).bind (lstD m) := (rfl)
@[simp] theorem ev_idx (a i : Ex) : ev F (.idx a i) ρ S = (ev F a ρ S).bind fun x S1 => (ev F i ρ S1).bind fun y S2 => ofOpt S2 (idxD x y S2) := (rfl)
@[simp] theorem ev_sli (m : Bool) (a lo hi : Ex) : ev F (.sli m a lo hi) ρ S = (ev F a ρ S).bind fun x S1 => (ev F lo ρ S1).bind fun l S2 => (ev F hi ρ S2).bind fun h S3 => sliD m x l h S3 := (rfl)
@[simp] theorem ev_rev (m : Bool) (a : Ex) : ev F (.rev m a) ρ S = (ev F a ρ S).bind fun x S1 => revD m x S1 := (rfl)
def callD (g : List D → Store → R D) (x : D) (S : Store) : R D := match x with | .tup xs => g xs S | _ => .err
@[simp] theorem callD_tup (g : List D → Store → R D) (xs : List D) : callD g (.tup xs) S = g xs S := (rfl)
@[simp] theorem ev_call (f : Nat) (a : Ex) : ev F (.call f a) ρ S = (ev F a ρ S).bind (callD (F f)) := (rfl)
@[simp] theorem ev_bi (b : Bi) (m : Bool) (a : Ex) : ev F (.bi b m a) ρ S = (ev F a ρ S).bind (callD (biD m b)) := (rfl)
@[simp] theorem ev_isi (a : Ex) (t : Ty) : ev F (.isi a t) ρ S = (ev F a ρ S).bind fun x S1 => ofOpt S1 ((PV.isi S1 x t).map D.bool) := (rfl)
/-- a turn of a comprehension -/
def turn1 (F : Nat → List D → Store → R D) (ρ : Env) (tg : Tg) (own : List Nat) (tst : Bool) (c e : Ex) (it : D) (S2 : Store) : R (Option D) :=
  match put tg it (wipeE ρ own) with
  | some ρ1 => (if tst then (ev F c ρ1 S2).bind fun v S3 => (match truth S3 v with
      | some true => (ev F e ρ1 S3).bind fun y S4 => .ok (some y) S4
      | some false => .ok none S3
      | none => .err)
    else (ev F e ρ1 S2).bind fun y S4 => .ok (some y) S4)
  | none => .err
def compD (F : Nat → List D → Store → R D) (ρ : Env) (k : Ik) (tg : Tg) (own : List Nat) (tst : Bool) (c e : Ex) (m : Bool) (x : D) (S1 : Store) : R D :=
  match x with
  | .tup as => (match walkD k as S1 with
    | some (its, g) => ((mapR (turn1 F ρ tg own tst c e) g its S1).few its.length).bind fun ys S5 => newL m ys S5
    | none => .err)
  | _ => .err
theorem ev_comp_p (k : Ik) (src : Ex) (tg : Tg) (own : List Nat) (tst : Bool) (c e : Ex) (m : Bool) : ev F (.comp k src tg own tst c e m) ρ S = (ev F src ρ S).bind (compD F ρ k tg own tst c e m) := (rfl)
def appG (x : D) (S1 : Store) (r : R D) : R D := if (getList S1 x).isSome then r else .err
@[simp] theorem ev_app (o e : Ex) : ev F (.app o e) ρ S = (ev F o ρ S).bind fun x S1 => appG x S1 ((ev F e ρ S1).bind fun y S2 => appD x y S2) := (rfl)
@[simp] theorem ev_pop (o : Ex) : ev F (.pop o) ρ S = (ev F o ρ S).bind fun x S1 => popD x S1 := (rfl)
@[simp] theorem ev_popi (o i : Ex) : ev F (.popi o i) ρ S = (ev F o ρ S).bind fun x S1 => appG x S1 ((ev F i ρ S1).bind fun y S2 => popiD x y S2) := (rfl)
def optD (x : D) (S : Store) : R D := match x with | .int i => .ok (.int i) S | _ => .err
@[simp] theorem optD_int (i : Int) : optD (.int i) S = .ok (.int i) S := (rfl)
@[simp] theorem ev_opt (a : Ex) : ev F (.opt a) ρ S = (ev F a ρ S).bind optD := (rfl)
@[simp] theorem ev_last (a : Ex) : ev F (.last a) ρ S = ev F a ρ S := (rfl)
def lrg1D (m : Bool) (x : D) (S1 : Store) : R D := match x with | .int j => if smallI j then newL m (rangeL 0 j) S1 else .err | _ => .err
@[simp] theorem ev_lrg1 (m : Bool) (a : Ex) : ev F (.lrg1 m a) ρ S = (ev F a ρ S).bind (lrg1D m) := (rfl)
def lrg2D (m : Bool) (x y : D) (S1 : Store) : R D := match x, y with | .int i, .int j => if smallI i && smallI j then newL m (rangeL i j) S1 else .err | _, _ => .err
@[simp] theorem ev_lrg2 (m : Bool) (a b : Ex) : ev F (.lrg2 m a b) ρ S = (ev F a ρ S).bind fun x S1 => (ev F b ρ S1).bind fun y S2 => lrg2D m x y S2 := (rfl)
/-- what follows -/
def SR.seq (r : SR) (f : Env → Store → SR) : SR := match r with | .nx ρ1 S1 => f ρ1 S1 | r => r
@[simp] theorem seq_nx (ρ : Env) (S : Store) (f : Env → Store → SR) : (SR.nx ρ S).seq f = f ρ S := (rfl)
@[simp] theorem seq_ret (d : D) (S : Store) (f : Env → Store → SR) : (SR.ret d S).seq f = .ret d S := (rfl)
@[simp] theorem seq_exc (d : Nat) (S : Store) (f : Env → Store → SR) : (SR.exc d S).seq f = .exc d S := (rfl)
@[simp] theorem seq_err (f : Env → Store → SR) : (SR.err).seq f = .err := (rfl)
def toS {α : Type} (r : R α) (f : α → Store → SR) : SR := match r with | .ok d S1 => f d S1 | .exc c S1 => .exc c S1 | .err => .err
@[simp] theorem toS_ok {α : Type} (d : α) (f : α → Store → SR) : toS (R.ok d S) f = f d S := (rfl)
@[simp] theorem toS_exc {α : Type} (d : Nat) (f : α → Store → SR) : toS (R.exc d S) f = .exc d S := (rfl)
@[simp] theorem toS_err {α : Type} (f : α → Store → SR) : toS (R.err) f = .err := (rfl)
@[simp] theorem ex_skip : ex F .skip ρ S = .nx ρ S := (rfl)
@[simp] theorem ex_seq (a b : St) : ex F (.seq a b) ρ S = (ex F a ρ S).seq (ex F b) := (rfl)
@[simp] theorem ex_set (i : Nat) (e : Ex) : ex F (.set i e) ρ S = toS (ev F e ρ S) fun d S1 => .nx (ρ.set i (some d)) S1 := by unfold ex; cases ev F e ρ S <;> rfl
def unpS (is : List Nat) (ρ : Env) (d : D) (S1 : Store) : SR := match put (.tup is) d ρ with | some ρ1 => .nx ρ1 S1 | none => .err
@[simp] theorem ex_unp (is : List Nat) (e : Ex) : ex F (.unp is e) ρ S = toS (ev F e ρ S) (unpS is ρ) := by unfold ex; cases ev F e ρ S <;> rfl
def setS (o i d : D) (S : Store) : R Unit := match setD o i d S with | some S4 => .ok () S4 | none => .err
@[simp] theorem ex_setI (o i e : Ex) : ex F (.setI o i e) ρ S = toS ((ev F e ρ S).bind fun d S1 => (ev F o ρ S1).bind fun x S2 => (ev F i ρ S2).bind fun y S3 => setS x y d S3) fun _ S4 => .nx ρ S4 := by
  unfold ex setS
  cases ((ev F e ρ S).bind fun d S1 => (ev F o ρ S1).bind fun x S2 => (ev F i ρ S2).bind fun y S3 => (match setD x y d S3 with | some S4 => R.ok () S4 | none => R.err)) <;> rfl
def two (d : D) : Option (D × D) := match d with | .tup [u, v] => some (u, v) | _ => none
@[simp] theorem ex_setI2 (o i o' i' e : Ex) : ex F (.setI2 o i o' i' e) ρ S = toS (ev F e ρ S) fun d S1 => (match two d with
    | some (u, v) => toS ((ev F o ρ S1).bind fun x S2 => (ev F i ρ S2).bind fun y S3 => putR x y u S3) fun _ S4 => toS ((ev F o' ρ S4).bind fun x S2 => (ev F i' ρ S2).bind fun y S3 => putR x y v S3) fun _ S5 => .nx ρ S5
    | none => .err) := by
  show (match ev F e ρ S with
    | .ok (.tup [u, v]) S1 => (match (ev F o ρ S1).bind fun x S2 => (ev F i ρ S2).bind fun y S3 => putR x y u S3 with
      | .ok _ S4 => (match (ev F o' ρ S4).bind fun x S2 => (ev F i' ρ S2).bind fun y S3 => putR x y v S3 with
        | .ok _ S5 => SR.nx ρ S5
        | .exc c S5 => .exc c S5
        | .err => .err)
      | .exc c S4 => .exc c S4
      | .err => .err)
    | .exc c S1 => .exc c S1
    | _ => .err) = _
  cases ev F e ρ S with
  | ok d S1 =>
    rw [toS_ok]
    cases h : two d with
    | none =>
      unfold two at h
      split at h
      · cases h
      · rename_i hn
        dsimp only
        split
        · rename_i u v S2 e
          cases e
          exact absurd rfl (hn u v)
        · rename_i e; cases e
        · rfl
    | some p =>
      obtain ⟨u, v⟩ := p
      unfold two at h
      split at h
      · cases h
        dsimp only
        cases (ev F o ρ S1).bind fun x S2 => (ev F i ρ S2).bind fun y S3 => putR x y u S3 with
        | ok a S4 =>
          rw [toS_ok]
          dsimp only
          cases (ev F o' ρ S4).bind fun x S2 => (ev F i' ρ S2).bind fun y S3 => putR x y v S3 <;> rfl
        | exc c S4 => rfl
        | err => rfl
      · cases h
  | exc c S1 => rfl
  | err => rfl
@[simp] theorem ex_expr (e : Ex) : ex F (.expr e) ρ S = toS (ev F e ρ S) fun _ S1 => .nx ρ S1 := by unfold ex; cases ev F e ρ S <;> rfl
@[simp] theorem ex_ret (e : Ex) : ex F (.ret e) ρ S = toS (ev F e ρ S) fun d S1 => .ret d S1 := by unfold ex; cases ev F e ρ S <;> rfl
theorem evT_eq (e : Ex) : evT F e ρ S = (ev F e ρ S).bind fun x S1 => ofOpt S1 (truth S1 x) := rfl
@[simp] theorem ex_ifs (c : Ex) (a b : St) : ex F (.ifs c a b) ρ S = toS ((ev F c ρ S).bind fun x S1 => ofOpt S1 (truth S1 x)) fun k S1 => if k = true then ex F a ρ S1 else ex F b ρ S1 := by
  show (match evT F c ρ S with | .ok true S1 => ex F a ρ S1 | .ok false S1 => ex F b ρ S1 | .exc c S1 => .exc c S1 | .err => .err) = _
  rw [evT_eq]
  cases ((ev F c ρ S).bind fun x S1 => ofOpt S1 (truth S1 x)) with
  | ok k S1 => cases k <;> rfl
  | exc c S1 => rfl
  | err => rfl
def forS (F : Nat → List D → Store → R D) (k : Ik) (tg : Tg) (b : St) (ρ : Env) (x : D) (S1 : Store) : SR :=
  match x with
  | .tup as => (match walkD k as S1 with
    | some (its, g) => forR tg (ex F b) g its ρ S1
    | none => .err)
  | _ => .err
@[simp] theorem ex_for (k : Ik) (src : Ex) (tg : Tg) (b : St) : ex F (.for_ k src tg b) ρ S = toS (ev F src ρ S) (forS F k tg b ρ) := by
  show (match ev F src ρ S with
    | .ok (.tup as) S1 => (match walkD k as S1 with
      | some (its, g) => forR tg (ex F b) g its ρ S1
      | none => .err)
    | .exc c S1 => .exc c S1
    | _ => .err) = _
  cases ev F src ρ S with
  | ok d S1 => cases d <;> rfl
  | exc c S1 => rfl
  | err => rfl
@[simp] theorem ex_while (mu : Env → Store → Nat) (c : Ex) (b : St) : ex F (.while_ mu c b) ρ S = whileR (evT F c) (ex F b) (mu ρ S) ρ S := (rfl)
@[simp] theorem truth_bool (b : Bool) : truth S (.bool b) = some b := (rfl)
@[simp] theorem truth_int (b : Int) : truth S (.int b) = some (b != 0) := (rfl)
@[simp] theorem truth_none : truth S .none = some false := (rfl)
@[simp] theorem truth_tup (xs : List D) : truth S (.tup xs) = some (!xs.isEmpty) := (rfl)
@[simp] theorem truth_lst (xs : List D) : truth S (.lst xs) = some (!xs.isEmpty) := (rfl)
@[simp] theorem truth_scr (xs : List Int) : truth S (.scr xs) = some (!xs.isEmpty) := by
  show some (!(xs.map D.int).isEmpty) = _
  cases xs <;> rfl
@[simp] theorem seq_tup (xs : List D) : getSeq S (.tup xs) = some xs := (rfl)
@[simp] theorem seq_lst (xs : List D) : getSeq S (.lst xs) = some xs := (rfl)
@[simp] theorem list_lst (xs : List D) : getList S (.lst xs) = some xs := (rfl)
@[simp] theorem seq_scr (xs : List Int) : getSeq S (.scr xs) = some (xs.map D.int) := (rfl)
@[simp] theorem newL_fs (xs : List D) : newL false xs S = if xs.length ≤ 16777216 then .ok (.lst xs) S else .err := (rfl)
@[simp] theorem newL_ts (xs : List D) : newL true xs S = if xs.length ≤ 16777216 then .ok (.loc S.length) (S ++ [.lst xs]) else .err := (rfl)
theorem newL_f {xs : List D} (h : xs.length ≤ 16777216) : newL false xs S = .ok (.lst xs) S := by unfold newL; exact if_pos h
theorem newL_t {xs : List D} (h : xs.length ≤ 16777216) : newL true xs S = .ok (.loc S.length) (S ++ [.lst xs]) := by unfold newL; exact if_pos h
@[simp] theorem FOf_cons (c : Cal) (l : List Cal) (g : Nat) : FOf (c :: l) g = if c.id = g then c.G else FOf l g := (rfl)
theorem runF_eq {f : Fn} {vs : List D} (hl : vs.length = f.np) : runF F f vs S = (match ex F f.body (startE f.nn vs) S with
    | .nx _ S1 => clean S .none S1
    | .ret d S1 => clean S d S1
    | .exc c S1 => (match clean S .none S1 with | .ok _ S2 => .exc c S2 | _ => .err)
    | .err => .err) := by unfold runF; exact if_pos hl
theorem runF_ret {f : Fn} {vs : List D} {S1 : Store} {d : D} (hl : vs.length = f.np) (h : ex F f.body (startE f.nn vs) S = .ret d S1) : runF F f vs S = clean S d S1 := by
  rw [runF_eq hl, h]
/-- the usual end: nothing was changed, a plain answer -/
theorem runF_pure {f : Fn} {vs : List D} {d : D} (hl : vs.length = f.np) (hp : d.pure = true) (h : ex F f.body (startE f.nn vs) S = .ret d S) : runF F f vs S = .ok d S := by
  rw [runF_ret hl h, clean_same hp]
/-! ### values -/
@[simp] theorem tupD_tup (xs : List D) : tupD (.tup xs) S = if xs.length ≤ 16777216 then .ok (.tup xs) S else .err := (rfl)
@[simp] theorem unpS_tup (is : List Nat) (ds : List D) : unpS is ρ (.tup ds) S = (match putAll is ds ρ with | some ρ1 => .nx ρ1 S | none => .err) := (rfl)
@[simp] theorem putAll_nil : putAll [] [] ρ = some ρ := (rfl)
@[simp] theorem putAll_cons (i : Nat) (is : List Nat) (d : D) (ds : List D) : putAll (i :: is) (d :: ds) ρ = putAll is ds (ρ.set i (some d)) := (rfl)
@[simp] theorem wipeE_nil : wipeE ρ [] = ρ := (rfl)
@[simp] theorem wipeE_cons (v : Nat) (vs : List Nat) : wipeE ρ (v :: vs) = (wipeE ρ vs).set v none := (rfl)
@[simp] theorem put_name (i : Nat) (d : D) : put (.name i) d ρ = some (ρ.set i (some d)) := (rfl)
@[simp] theorem put_tup (is : List Nat) (ds : List D) : put (.tup is) (.tup ds) ρ = putAll is ds ρ := (rfl)
@[simp] theorem add_int (m : Bool) (i j : Int) : binD m .add (.int i) (.int j) S = .ok (.int (i + j)) S := (rfl)
@[simp] theorem sub_int (m : Bool) (i j : Int) : binD m .sub (.int i) (.int j) S = .ok (.int (i - j)) S := (rfl)
@[simp] theorem add_boolint (m : Bool) (p : Bool) (j : Int) : binD m .add (.bool p) (.int j) S = .ok (.int ((if p = true then 1 else 0) + j)) S := (rfl)
@[simp] theorem sub_boolint (m : Bool) (p : Bool) (j : Int) : binD m .sub (.bool p) (.int j) S = .ok (.int ((if p = true then 1 else 0) - j)) S := (rfl)
@[simp] theorem str_bool (m : Bool) (p : Bool) : biD m .str [.bool p] S = .ok (.str (if p then "True" else "False")) S := (rfl)
@[simp] theorem mul_int (m : Bool) (i j : Int) : binD m .mul (.int i) (.int j) S = if mulOk i j = true then .ok (.int (i * j)) S else .err := (rfl)
@[simp] theorem fdiv_int (m : Bool) (i j : Int) : binD m .fdiv (.int i) (.int j) S = if divOk j = true then .ok (.int (i.fdiv j)) S else .err := (rfl)
@[simp] theorem mod_int (m : Bool) (i j : Int) : binD m .mod (.int i) (.int j) S = if j ≠ 0 then .ok (.int (i.fmod j)) S else .err := (rfl)
@[simp] theorem add_tup (m : Bool) (xs ys : List D) : binD m .add (.tup xs) (.tup ys) S = if xs.length + ys.length ≤ 16777216 then .ok (.tup (xs ++ ys)) S else .err := (rfl)
@[simp] theorem add_lst (m : Bool) (xs ys : List D) : binD m .add (.lst xs) (.lst ys) S = newL m (xs ++ ys) S := (rfl)
@[simp] theorem sli_tup (m : Bool) (xs : List D) (l h : D) : sliD m (.tup xs) l h S = (match optI l, optI h with | some l, some h => .ok (.tup (cut xs l h)) S | _, _ => .err) := (rfl)
@[simp] theorem sli_lst (m : Bool) (xs : List D) (l h : D) : sliD m (.lst xs) l h S = (match optI l, optI h with | some l, some h => newL m (cut xs l h) S | _, _ => .err) := (rfl)
@[simp] theorem optI_none : optI .none = some none := (rfl)
@[simp] theorem optI_int (i : Int) : optI (.int i) = some (some i) := (rfl)
@[simp] theorem rev_tup (m : Bool) (xs : List D) : revD m (.tup xs) S = .ok (.tup xs.reverse) S := (rfl)
@[simp] theorem lt_int (i j : Int) : cmpD .lt (.int i) (.int j) S = some (decide (i < j)) := (rfl)
@[simp] theorem le_int (i j : Int) : cmpD .le (.int i) (.int j) S = some (decide (i ≤ j)) := (rfl)
@[simp] theorem gt_int (i j : Int) : cmpD .gt (.int i) (.int j) S = some (decide (j < i)) := (rfl)
@[simp] theorem ge_int (i j : Int) : cmpD .ge (.int i) (.int j) S = some (decide (j ≤ i)) := (rfl)
@[simp] theorem eq_int (i j : Int) : cmpD .eq (.int i) (.int j) S = some (decide (i = j)) := by
  show some (i == j) = _
  rfl
@[simp] theorem ne_int (i j : Int) : cmpD .ne (.int i) (.int j) S = some (!decide (i = j)) := by
  show some (!(i == j)) = _
  rfl
@[simp] theorem idx_tup (xs : List D) (k : Int) : idxD (.tup xs) (.int k) S = atI xs k := (rfl)
@[simp] theorem idx_lst (xs : List D) (k : Int) : idxD (.lst xs) (.int k) S = atI xs k := (rfl)
@[simp] theorem idx_scr (xs : List Int) (k : Int) : idxD (.scr xs) (.int k) S = atI (xs.map D.int) k := (rfl)
@[simp] theorem atI_nat {α : Type} (xs : List α) (k : Nat) : atI xs (k : Int) = xs[k]? := by
  unfold atI ixN
  rw [if_pos (by omega)]
  by_cases h : k < xs.length
  · rw [if_pos (by omega)]; simp
  · rw [if_neg (by omega)]; simp; omega
@[simp] theorem atI_zero {α : Type} (xs : List α) : atI xs 0 = xs[0]? := atI_nat xs 0
@[simp] theorem atI_one {α : Type} (xs : List α) : atI xs 1 = xs[1]? := atI_nat xs 1
@[simp] theorem atI_two {α : Type} (xs : List α) : atI xs 2 = xs[2]? := atI_nat xs 2
@[simp] theorem len_tup (m : Bool) (xs : List D) : biD m .len [.tup xs] S = .ok (.int xs.length) S := (rfl)
@[simp] theorem len_lst (m : Bool) (xs : List D) : biD m .len [.lst xs] S = .ok (.int xs.length) S := (rfl)
@[simp] theorem len_scr (m : Bool) (xs : List Int) : biD m .len [.scr xs] S = .ok (.int xs.length) S := by
  show R.ok (D.int (xs.map D.int).length) S = _
  rw [List.length_map]
@[simp] theorem abs_int (m : Bool) (i : Int) : biD m .abs [.int i] S = .ok (.int i.natAbs) S := by
  show R.ok (D.int (if i < 0 then -i else i)) S = _
  have : (if i < 0 then -i else i) = (i.natAbs : Int) := by split <;> omega
  rw [this]
@[simp] theorem isi_none (t : Ty) : isi S .none t = some false := (rfl)
@[simp] theorem isi_bool (b : Bool) (t : Ty) : isi S (.bool b) t = some (decide (t = .bool) || decide (t = .int)) := (rfl)
@[simp] theorem isi_int (b : Int) (t : Ty) : isi S (.int b) t = some (decide (t = .int)) := (rfl)
@[simp] theorem isi_str (b : Str) (t : Ty) : isi S (.str b) t = some (decide (t = .str)) := (rfl)
@[simp] theorem isi_tup (b : List D) (t : Ty) : isi S (.tup b) t = some (decide (t = .tuple)) := (rfl)
@[simp] theorem isi_lst (b : List D) (t : Ty) : isi S (.lst b) t = some (decide (t = .list)) := (rfl)
@[simp] theorem isi_scr (b : List Int) (t : Ty) : isi S (.scr b) t = some (decide (t = .list)) := (rfl)
theorem allBool_map {α : Type} (p : α → Bool) : ∀ l : List α, allBool (l.map fun x => D.bool (p x)) = some (l.map p)
  | [] => rfl
  | x :: l => by
    show (allBool (l.map fun x => D.bool (p x))).map (p x :: ·) = _
    rw [allBool_map p l]; rfl
theorem allInt_map {α : Type} (p : α → Int) : ∀ l : List α, allInt (l.map fun x => D.int (p x)) = some (l.map p)
  | [] => rfl
  | x :: l => by
    show (allInt (l.map fun x => D.int (p x))).map (p x :: ·) = _
    rw [allInt_map p l]; rfl
theorem all_map {α : Type} (m : Bool) (p : α → Bool) (l : List α) : biD m .all [.lst (l.map fun x => D.bool (p x))] S = .ok (.bool (l.all p)) S := by
  show (match (allBool (l.map fun x => D.bool (p x))) with | some bs => R.ok (D.bool (bs.all id)) S | none => R.err) = _
  rw [allBool_map]; simp
theorem any_map {α : Type} (m : Bool) (p : α → Bool) (l : List α) : biD m .any [.lst (l.map fun x => D.bool (p x))] S = .ok (.bool (l.any p)) S := by
  show (match (allBool (l.map fun x => D.bool (p x))) with | some bs => R.ok (D.bool (bs.any id)) S | none => R.err) = _
  rw [allBool_map]; simp
@[simp] theorem tuple_lst (m : Bool) (xs : List D) : biD m .tuple [.lst xs] S = .ok (.tup xs) S := (rfl)
@[simp] theorem tuple_tup (m : Bool) (xs : List D) : biD m .tuple [.tup xs] S = .ok (.tup xs) S := (rfl)
@[simp] theorem list_tup (m : Bool) (xs : List D) : biD m .list [.tup xs] S = newL m xs S := (rfl)
theorem smallI_of {n : Nat} (h : n ≤ 1000000) : smallI (n : Int) = true := by
  unfold smallI
  have e : (2 : Int) ^ 62 = 4611686018427387904 := by decide +kernel
  rw [e]
  exact decide_eq_true ⟨by omega, by omega⟩
theorem rangeL_nat (n : Nat) : rangeL 0 (n : Int) = (List.range n).map fun (k : Nat) => D.int (k : Int) := by
  unfold rangeL
  simp
theorem walk_range_p {n : Nat} (hn : n ≤ 1000000) : walkD .range [.int (n : Int)] S = some ((List.range n).map fun (k : Nat) => D.int (k : Int), []) := by
  show (if smallI (n : Int) = true then some (rangeL 0 (n : Int), ([] : Guard)) else none) = _
  rw [if_pos (smallI_of hn), rangeL_nat]
@[simp] theorem forS_tup (xs : List D) (i : Nat) (b : St) : forS F .seq (.name i) b ρ (.tup [.tup xs]) S = forR (.name i) (ex F b) [] xs ρ S := (rfl)
@[simp] theorem forS_lst (xs : List D) (i : Nat) (b : St) : forS F .seq (.name i) b ρ (.tup [.lst xs]) S = forR (.name i) (ex F b) [] xs ρ S := (rfl)
theorem forR_cons (i : Nat) (b : Env → Store → SR) (x : D) (xs : List D) : forR (.name i) b [] (x :: xs) ρ S = (b (ρ.set i (some x)) S).seq fun ρ2 S2 => forR (.name i) b [] xs ρ2 S2 := by
  show (match b (ρ.set i (some x)) S with | .nx ρ2 S2 => forR (.name i) b [] xs ρ2 S2 | r => r) = _
  cases b (ρ.set i (some x)) S <;> rfl
theorem compD_walk {k : Ik} {as its : List D} {g : Guard} (h : walkD k as S = some (its, g)) (tg : Tg) (own : List Nat) (tst : Bool) (c e : Ex) (m : Bool) : compD F ρ k tg own tst c e m (.tup as) S = (((mapR (turn1 F ρ tg own tst c e) g its S).few its.length).bind fun ys S5 => newL m ys S5) := by
  unfold compD
  simp only [h]
theorem forS_walk {k : Ik} {as its : List D} {g : Guard} (h : walkD k as S = some (its, g)) (tg : Tg) (b : St) : forS F k tg b ρ (.tup as) S = forR tg (ex F b) g its ρ S := by
  unfold forS
  simp only [h]
theorem forS_range {n : Nat} (hn : n ≤ 1000000) (i : Nat) (b : St) : forS F .range (.name i) b ρ (.tup [.int n]) S = forR (.name i) (ex F b) [] ((List.range n).map fun (k : Nat) => D.int (k : Int)) ρ S := forS_walk (walk_range_p hn) ..
theorem mapR_mapg {α : Type} {f : D → Store → R (Option D)} {t : α → D} {h : α → D} : ∀ {xs : List α}, (∀ x, x ∈ xs → f (t x) S = .ok (some (h x)) S) → mapR f [] (xs.map t) S = .ok (xs.map h) S
  | [], _ => rfl
  | x :: xs, hx => by
    rw [List.map_cons]
    unfold mapR
    rw [guard_nil, if_pos rfl, hx x List.mem_cons_self, bind_ok, mapR_mapg fun y hy => hx y (List.mem_cons_of_mem _ hy)]
    rfl
/-- a comprehension without a test, where nothing changes -/
theorem comp_mapg {α : Type} {k : Ik} {as : List D} {l : List α} {t h : α → D} (hw : walkD k as S = some (l.map t, [])) {tg : Tg} {own : List Nat} {c e : Ex} {m : Bool} {en : α → Env} (hp : ∀ x, x ∈ l → put tg (t x) (wipeE ρ own) = some (en x)) (hx : ∀ x, x ∈ l → ev F e (en x) S = .ok (h x) S) :
    compD F ρ k tg own false c e m (.tup as) S = newL m (l.map h) S := by
  rw [compD_walk hw, mapR_mapg (h := h)]
  · rfl
  · intro x hm
    unfold turn1
    rw [hp x hm]
    show (ev F e (en x) S).bind _ = _
    rw [hx x hm]; rfl
theorem comp_map {k : Ik} {as : List D} {l : List D} {h : D → D} (hw : walkD k as S = some (l, [])) {i : Nat} {own : List Nat} {c e : Ex} {m : Bool} (hx : ∀ x, x ∈ l → ev F e ((wipeE ρ own).set i (some x)) S = .ok (h x) S) :
    compD F ρ k (.name i) own false c e m (.tup as) S = newL m (l.map h) S :=
  comp_mapg (t := id) (by rw [List.map_id]; exact hw) (fun _ _ => rfl) hx
theorem comp_mapE {k : Ik} {src : Ex} {as : List D} {l : List D} {h : D → D} (hs : ev F src ρ S = .ok (.tup as) S) (hw : walkD k as S = some (l, [])) {i : Nat} {own : List Nat} {c e : Ex} {m : Bool} (hx : ∀ x, x ∈ l → ev F e ((wipeE ρ own).set i (some x)) S = .ok (h x) S) :
    ev F (.comp k src (.name i) own false c e m) ρ S = newL m (l.map h) S := by rw [ev_comp_p, hs, bind_ok]; exact comp_map hw hx
theorem comp_mapgE {α : Type} {k : Ik} {src : Ex} {as : List D} {l : List α} {t h : α → D} (hs : ev F src ρ S = .ok (.tup as) S) (hw : walkD k as S = some (l.map t, [])) {tg : Tg} {own : List Nat} {c e : Ex} {m : Bool} {en : α → Env} (hp : ∀ x, x ∈ l → put tg (t x) (wipeE ρ own) = some (en x)) (hx : ∀ x, x ∈ l → ev F e (en x) S = .ok (h x) S) :
    ev F (.comp k src tg own false c e m) ρ S = newL m (l.map h) S := by rw [ev_comp_p, hs, bind_ok]; exact comp_mapg hw hp hx
theorem mapR_mapG {α : Type} {g : Guard} (hg : g.ok S = true) {f : D → Store → R (Option D)} {t : α → D} {h : α → D} : ∀ {xs : List α}, (∀ x, x ∈ xs → f (t x) S = .ok (some (h x)) S) → mapR f g (xs.map t) S = .ok (xs.map h) S
  | [], _ => by show (if g.ok S = true then _ else _) = _; rw [if_pos hg]; rfl
  | x :: xs, hx => by
    rw [List.map_cons]
    unfold mapR
    rw [if_pos hg, hx x List.mem_cons_self, bind_ok, mapR_mapG hg fun y hy => hx y (List.mem_cons_of_mem _ hy)]
    rfl
theorem mapR_filterG {α : Type} {g : Guard} (hg : g.ok S = true) {f : D → Store → R (Option D)} {p : α → Bool} {t h : α → D} : ∀ {xs : List α}, (∀ x, x ∈ xs → f (t x) S = .ok (if p x = true then some (h x) else none) S) → mapR f g (xs.map t) S = .ok ((xs.filter p).map h) S
  | [], _ => by show (if g.ok S = true then _ else _) = _; rw [if_pos hg]; rfl
  | x :: xs, hx => by
    rw [List.map_cons]
    unfold mapR
    rw [if_pos hg, hx x List.mem_cons_self, bind_ok, mapR_filterG hg fun y hy => hx y (List.mem_cons_of_mem _ hy)]
    cases hp : p x <;> simp [hp]
/-- a comprehension over what may be a cell, where nothing changes -/
theorem comp_mapGE {α : Type} {k : Ik} {src : Ex} {as : List D} {l : List α} {g : Guard} {t h : α → D} (hs : ev F src ρ S = .ok (.tup as) S) (hw : walkD k as S = some (l.map t, g)) (hg : g.ok S = true) {tg : Tg} {own : List Nat} {c e : Ex} {m : Bool} {en : α → Env} (hp : ∀ x, x ∈ l → put tg (t x) (wipeE ρ own) = some (en x)) (hx : ∀ x, x ∈ l → ev F e (en x) S = .ok (h x) S) :
    ev F (.comp k src tg own false c e m) ρ S = newL m (l.map h) S := by
  rw [ev_comp_p, hs, bind_ok, compD_walk hw, mapR_mapG hg (h := h)]
  · rfl
  · intro x hm
    unfold turn1
    rw [hp x hm]
    show (ev F e (en x) S).bind _ = _
    rw [hx x hm]; rfl
theorem comp_filterGE {α : Type} {k : Ik} {src : Ex} {as : List D} {l : List α} {g : Guard} {t h : α → D} {p : α → Bool} (hs : ev F src ρ S = .ok (.tup as) S) (hw : walkD k as S = some (l.map t, g)) (hg : g.ok S = true) {tg : Tg} {own : List Nat} {c e : Ex} {m : Bool} {en : α → Env} (hp : ∀ x, x ∈ l → put tg (t x) (wipeE ρ own) = some (en x)) (hc : ∀ x, x ∈ l → evT F c (en x) S = .ok (p x) S) (hx : ∀ x, x ∈ l → p x = true → ev F e (en x) S = .ok (h x) S) :
    ev F (.comp k src tg own true c e m) ρ S = newL m ((l.filter p).map h) S := by
  rw [ev_comp_p, hs, bind_ok, compD_walk hw, mapR_filterG hg (p := p) (h := h)]
  · rfl
  · intro x hm
    have h1 := hc x hm
    unfold turn1
    rw [hp x hm]
    show (ev F c (en x) S).bind (fun v S3 => match truth S3 v with
      | some true => (ev F e (en x) S3).bind fun y S4 => .ok (some y) S4
      | some false => .ok none S3
      | none => .err) = _
    unfold evT at h1
    cases h2 : ev F c (en x) S with
    | err => rw [h2] at h1; simp at h1
    | exc d S3 => rw [h2] at h1; simp at h1
    | ok v S3 =>
      rw [h2] at h1
      simp only [bind_ok] at h1 ⊢
      cases h3 : truth S3 v with
      | none => rw [h3] at h1; simp at h1
      | some k =>
        rw [h3] at h1
        simp at h1
        obtain ⟨h1, h4⟩ := h1
        subst h1 h4
        cases hk : p x with
        | false => simp
        | true => simp [hx x hm hk]
theorem walk_loc {c : Nat} {xs : List D} (h : S[c]? = some (.lst xs)) : walkD .seq [.loc c] S = some (xs, [(c, xs)]) := by
  show (getSeq S (.loc c)).map (fun xs => (xs, guardOf S (.loc c))) = _
  have e1 : getSeq S (.loc c) = some xs := by show (match S[c]? with | some (.lst xs) => some xs | _ => none) = _; rw [h]
  have e2 : guardOf S (.loc c) = [(c, xs)] := by show (match S[c]? with | some (.lst xs) => [(c, xs)] | _ => []) = _; rw [h]
  rw [e1, e2]; rfl
theorem guard_loc {c : Nat} {xs : List D} (h : S[c]? = some (.lst xs)) : Guard.ok [(c, xs)] S = true := by
  show ((decide (S[c]? = some (.lst xs))) && true) = true
  rw [decide_eq_true h]; rfl
end
end PV
end
section
set_option linter.all false
set_option maxRecDepth 100000
namespace PV
open PySem (Str)
/-! ### numbers that are not too long -/
theorem log2_lt {x n : Nat} (h0 : 0 < n) (h : x < 2 ^ n) : x.log2 < n := by
  by_cases hx : x = 0
  · subst hx; simpa using h0
  · exact (Nat.log2_lt hx).mpr h
theorem mulOk_of {a b : Int} {n m : Nat} (ha : a.natAbs < 2 ^ n) (hb : b.natAbs < 2 ^ m) (hn : 0 < n) (hm : 0 < m) (h : n + m ≤ 1000000) : mulOk a b = true := by
  have h1 := log2_lt hn ha
  have h2 := log2_lt hm hb
  unfold mulOk
  exact decide_eq_true (by omega)
theorem divOk_of {b : Int} {n : Nat} (h0 : b ≠ 0) (hb : b.natAbs < 2 ^ n) (hn : 0 < n) (h : n ≤ 9000) : divOk b = true := by
  have h2 := log2_lt hn hb
  unfold divOk
  rw [Bool.and_eq_true]
  exact ⟨decide_eq_true h0, decide_eq_true (by omega)⟩
theorem lt_mul {a b : Int} {n m : Nat} (ha : a.natAbs < 2 ^ n) (hb : b.natAbs < 2 ^ m) : (a * b).natAbs < 2 ^ (n + m) := by
  rw [Int.natAbs_mul, Nat.pow_add]
  exact Nat.mul_lt_mul'' ha hb
theorem lt_add {a b : Int} {n : Nat} (ha : a.natAbs < 2 ^ n) (hb : b.natAbs < 2 ^ n) : (a + b).natAbs < 2 ^ (n + 1) := by
  rw [Nat.pow_succ]
  have := Int.natAbs_add_le a b
  omega
theorem lt_mono {a : Nat} {n m : Nat} (ha : a < 2 ^ n) (h : n ≤ m) : a < 2 ^ m := Nat.lt_of_lt_of_le ha (Nat.pow_le_pow_right (by decide) h)
/-! ### fractions -/
def fr (q : Rat) : D := .tup [.int q.num, .int q.den]
/-- numerator and denominator below 2 ^ n -/
def RB (n : Nat) (q : Rat) : Prop := q.num.natAbs < 2 ^ n ∧ q.den < 2 ^ n
theorem RB.mono {n m : Nat} {q : Rat} (h : RB n q) (hm : n ≤ m) : RB m q := ⟨lt_mono h.1 hm, lt_mono h.2 hm⟩
theorem fr_inj {p q : Rat} (h : fr p = fr q) : p = q := by
  unfold fr at h
  injection h with h
  injection h with h1 h2
  injection h2 with h2 _
  injection h1 with h1
  injection h2 with h2
  exact Rat.ext h1 (by exact_mod_cast h2)
theorem cd_loop (F : Nat → List D → Store → R D) (S : Store) : ∀ (b a n : Nat), b < n →
    whileR (evT F (.var 1)) (ex F (.seq (.unp [0, 1] (.tup (.acons (.var 1) (.acons (.bin .mod false (.var 0) (.var 1)) .anil)))) .skip)) n [some (.int a), some (.int b)] S = .nx [some (.int (Nat.gcd a b)), some (.int 0)] S := by
  intro b
  induction b using Nat.strongRecOn with
  | _ b ih =>
    intro a n hn
    cases n with
    | zero => omega
    | succ n =>
      unfold whileR
      by_cases hb : b = 0
      · subst hb
        simp [evT_eq]
      · have hb' : ((b : Int) != 0) = true := by simp [hb]
        have hbi : (b : Int) ≠ 0 := by omega
        have e1 : evT F (.var 1) [some (.int a), some (.int b)] S = .ok true S := by simp [evT_eq, hb]
        have e2 : ex F (.seq (.unp [0, 1] (.tup (.acons (.var 1) (.acons (.bin .mod false (.var 0) (.var 1)) .anil)))) .skip) [some (.int a), some (.int b)] S = .nx [some (.int b), some (.int ((a % b : Nat) : Int))] S := by
          simp [hb, hbi, Int.fmod_eq_emod_of_nonneg]
        rw [e1]
        dsimp only
        rw [e2]
        dsimp only
        rw [ih (a % b) (Nat.mod_lt _ (by omega)) b n (by have := Nat.mod_lt a (show 0 < b by omega); omega)]
        have : b.gcd (a % b) = a.gcd b := by rw [Nat.gcd_comm a b, Nat.gcd_rec b a, Nat.gcd_comm]
        rw [this]
theorem common_divisor_ok (a b : Nat) (S : Store) : G_common_divisor [.int a, .int b] S = .ok (.int (Nat.gcd a b)) S := by
  refine runF_pure rfl rfl ?_
  have := cd_loop (FOf L_common_divisor) S b a (muAbs 1 [some (.int a), some (.int b)] S) (by simp [muAbs])
  simp [f_common_divisor, startE]
  rw [this]
  simp
/-- numerator and denominator of a quotient -/
theorem num_pos {t : Int} {b : Nat} (hb : b ≠ 0) : (mkRat t b).num = t.fdiv (Nat.gcd t.natAbs b) := by
  rw [Rat.num_mkRat, if_neg hb, Nat.gcd_comm, Int.fdiv_eq_ediv_of_nonneg _ (by omega)]
theorem den_pos {t : Int} {b : Nat} (hb : b ≠ 0) : ((mkRat t b).den : Int) = (b : Int).fdiv (Nat.gcd t.natAbs b) := by
  rw [Rat.den_mkRat, if_neg hb, Nat.gcd_comm, Int.fdiv_eq_ediv_of_nonneg _ (by omega)]
  simp
theorem divOk_gcd {t b n : Nat} (hb : b ≠ 0) (h : b < 2 ^ n) (hn : n ≤ 9000) : divOk ((Nat.gcd t b : Nat) : Int) = true := by
  have h1 : 0 < Nat.gcd t b := Nat.gcd_pos_of_pos_right _ (by omega)
  have h2 : Nat.gcd t b ≤ b := Nat.gcd_le_right _ (by omega)
  refine divOk_of (n := n) (by omega) (by simp; omega) ?_ hn
  cases n with
  | zero => simp at h; omega
  | succ n => omega
theorem lowest_pos {t : Int} {b n : Nat} (hb : b ≠ 0) (h : b < 2 ^ n) (hn : n ≤ 9000) (S : Store) : G_lowest_terms [.int t, .int b] S = .ok (fr (Rat.divInt t b)) S := by
  refine runF_pure rfl rfl ?_
  have h0 : ¬ ((b : Int) < 0) := by omega
  have hd := divOk_gcd (t := t.natAbs) hb h hn
  simp [f_lowest_terms, startE, L_lowest_terms, common_divisor_ok, h0, hd, fr, num_pos hb, den_pos hb]
theorem lowest_terms_ok {t b : Int} {n : Nat} (hb : b ≠ 0) (h : b.natAbs < 2 ^ n) (hn : n ≤ 9000) (S : Store) : G_lowest_terms [.int t, .int b] S = .ok (fr (Rat.divInt t b)) S := by
  by_cases h0 : b < 0
  · refine runF_pure rfl rfl ?_
    obtain ⟨c, hc⟩ : ∃ c : Nat, b = -(c : Int) := ⟨b.natAbs, by omega⟩
    subst hc
    have hc : c ≠ 0 := by omega
    have hd := divOk_gcd (t := t.natAbs) hc (by simpa using h) hn
    have e : Rat.divInt t (-(c : Int)) = Rat.divInt (-t) c := by rw [← Rat.neg_divInt_neg, Int.neg_neg]
    have h3 : 0 < c := by omega
    simp [f_lowest_terms, startE, L_lowest_terms, common_divisor_ok, h3, hd, fr, e, num_pos hc, den_pos hc]
  · obtain ⟨c, hc⟩ : ∃ c : Nat, b = (c : Int) := ⟨b.natAbs, by omega⟩
    subst hc
    exact lowest_pos (by omega) (by simpa using h) hn S
theorem cd_loop4 (F : Nat → List D → Store → R D) (S : Store) (x y z : Option D) : ∀ (b a n : Nat), b < n →
    whileR (evT F (.var 3)) (ex F (.seq (.unp [2, 3] (.tup (.acons (.var 3) (.acons (.bin .mod false (.var 2) (.var 3)) .anil)))) .skip)) n [x, y, some (.int a), some (.int b), z] S = .nx [x, y, some (.int (Nat.gcd a b)), some (.int 0), z] S := by
  intro b
  induction b using Nat.strongRecOn with
  | _ b ih =>
    intro a n hn
    cases n with
    | zero => omega
    | succ n =>
      unfold whileR
      by_cases hb : b = 0
      · subst hb
        simp [evT_eq]
      · have hbi : (b : Int) ≠ 0 := by omega
        have e1 : evT F (.var 3) [x, y, some (.int a), some (.int b), z] S = .ok true S := by simp [evT_eq, hb]
        have e2 : ex F (.seq (.unp [2, 3] (.tup (.acons (.var 3) (.acons (.bin .mod false (.var 2) (.var 3)) .anil)))) .skip) [x, y, some (.int a), some (.int b), z] S = .nx [x, y, some (.int b), some (.int ((a % b : Nat) : Int)), z] S := by
          simp [hb, hbi, Int.fmod_eq_emod_of_nonneg]
        rw [e1]
        dsimp only
        rw [e2]
        dsimp only
        rw [ih (a % b) (Nat.mod_lt _ (by omega)) b n (by have := Nat.mod_lt a (show 0 < b by omega); omega)]
        have : b.gcd (a % b) = a.gcd b := by rw [Nat.gcd_comm a b, Nat.gcd_rec b a, Nat.gcd_comm]
        rw [this]
theorem law_fraction_ok {t b : Int} {n m : Nat} (hb : b ≠ 0) (h : b.natAbs < 2 ^ n) (hn : n ≤ 9000) (ht : t.natAbs < 2 ^ m) (hm : m ≤ 9000) (S : Store) : G_law_fraction [.int t, .int b] S = .ok (fr (Rat.divInt t b)) S := by
  refine runF_pure rfl rfl ?_
  have hd := divOk_gcd (t := t.natAbs) (b := b.natAbs) (by omega) h hn
  have hw := cd_loop4 (FOf L_law_fraction) S (some (.int t)) (some (.int b)) none b.natAbs t.natAbs (b.natAbs + 1) (by omega)
  have ht' : t.natAbs < 2 ^ (m + 1) := lt_mono ht (by omega)
  by_cases h0 : b < 0
  · obtain ⟨c, hc⟩ : ∃ c : Nat, b = -(c : Int) := ⟨b.natAbs, by omega⟩
    subst hc
    have hc : c ≠ 0 := by omega
    have e : Rat.divInt t (-(c : Int)) = Rat.divInt (-t) c := by rw [← Rat.neg_divInt_neg, Int.neg_neg]
    have h3 : 0 < c := by omega
    have hmul : mulOk (-1) t = true := mulOk_of (n := 1) (m := m + 1) (by decide) ht' (by omega) (by omega) (by omega)
    simp at hw hd
    have h4 : ¬ ((c : Int) < 0) := by omega
    simp [f_law_fraction, startE, muAbs, hw, h3, h4, hd, fr, e, num_pos hc, den_pos hc, hmul]
  · obtain ⟨c, hc⟩ : ∃ c : Nat, b = (c : Int) := ⟨b.natAbs, by omega⟩
    subst hc
    have hc : c ≠ 0 := by omega
    have h3 : 0 < c := by omega
    have hmul : mulOk 1 t = true := mulOk_of (n := 1) (m := m + 1) (by decide) ht' (by omega) (by omega) (by omega)
    simp at hw hd
    simp [f_law_fraction, startE, muAbs, hw, h3, hd, fr, num_pos hc, den_pos hc, hmul]
/-! ### sums and products -/
theorem RB_divInt {t b : Int} {n : Nat} (hb : b ≠ 0) (ht : t.natAbs < 2 ^ n) (h : b.natAbs < 2 ^ n) : RB n (Rat.divInt t b) := by
  constructor
  · rw [Rat.num_divInt]
    refine Nat.lt_of_le_of_lt ?_ ht
    rw [Int.natAbs_ediv_of_dvd]
    · refine Nat.le_trans (Nat.div_le_self _ _) ?_
      rw [Int.natAbs_mul]
      have : b.sign.natAbs = 1 := Int.natAbs_sign_of_ne_zero hb
      rw [this, Nat.one_mul]
      exact Nat.le_refl _
    · exact Int.dvd_mul_of_dvd_right (Int.gcd_dvd_right ..)
  · rw [Rat.den_divInt, if_neg hb]
    exact Nat.lt_of_le_of_lt (Nat.div_le_self _ _) h
theorem plus_ok {p q : Rat} {n m : Nat} (hp : RB n p) (hq : RB m q) (h0 : 0 < n) (h1 : 0 < m) (hn : n + m ≤ 9000) (S : Store) : G_plus [fr p, fr q] S = .ok (fr (p + q)) S := by
  refine runF_pure rfl rfl ?_
  have e : p + q = Rat.divInt (p.num * q.den + q.num * p.den) (p.den * q.den) := by
    rw [← Rat.divInt_add_divInt _ _ (by exact_mod_cast p.den_nz) (by exact_mod_cast q.den_nz), Rat.num_divInt_den, Rat.num_divInt_den]
  have m1 : mulOk p.num q.den = true := mulOk_of hp.1 (by simpa using hq.2) h0 h1 (by omega)
  have m2 : mulOk q.num p.den = true := mulOk_of hq.1 (by simpa using hp.2) h1 h0 (by omega)
  have m3 : mulOk (p.den : Int) q.den = true := mulOk_of (by simpa using hp.2) (by simpa using hq.2) h0 h1 (by omega)
  have hl := lowest_terms_ok (t := p.num * q.den + q.num * p.den) (b := (p.den : Int) * q.den) (n := n + m) (by have := p.den_nz; have := q.den_nz; exact Int.mul_ne_zero (by omega) (by omega)) (lt_mul (by simpa using hp.2) (by simpa using hq.2)) hn S
  rw [← e] at hl
  simp [f_plus, startE, L_plus, fr, m1, m2, m3] at hl ⊢
  rw [hl]
  simp
theorem add_eq (p q : Rat) : p + q = Rat.divInt (p.num * q.den + q.num * p.den) (p.den * q.den) := by
  rw [← Rat.divInt_add_divInt _ _ (by exact_mod_cast p.den_nz) (by exact_mod_cast q.den_nz), Rat.num_divInt_den, Rat.num_divInt_den]
theorem den_mul_ne (p q : Rat) : (p.den : Int) * q.den ≠ 0 := by have := p.den_nz; have := q.den_nz; exact Int.mul_ne_zero (by omega) (by omega)
theorem RB_add {p q : Rat} {n m : Nat} (hp : RB n p) (hq : RB m q) : RB (n + m + 1) (p + q) := by
  rw [add_eq]
  refine RB_divInt (den_mul_ne p q) ?_ ?_
  · exact lt_add (lt_mul hp.1 (by simpa using hq.2)) (by rw [Nat.add_comm n m]; exact lt_mul hq.1 (by simpa using hp.2))
  · exact lt_mono (lt_mul (a := (p.den : Int)) (b := (q.den : Int)) (by simpa using hp.2) (by simpa using hq.2)) (by omega)
theorem total_for {F : Nat → List D → Store → R D} {g k : Nat} {x : Option D} (hF : ∀ (p q : Rat) (n : Nat) (S : Store), RB n p → RB k q → 0 < n → n + k < 9000 → F g [fr p, fr q] S = .ok (fr (p + q)) S) (S : Store) :
    ∀ (qs : List Rat) (n : Nat) (p : Rat) (z : Option D), RB n p → 0 < n → (∀ q, q ∈ qs → RB k q) → n + qs.length * (k + 1) < 9000 →
    ∃ z', forR (.name 2) (ex F (.seq (.set 1 (.call g (.acons (.var 1) (.acons (.var 2) .anil)))) .skip)) [] (qs.map fr) [x, some (fr p), z] S = .nx [x, some (fr (qs.foldl (· + ·) p)), z'] S := by
  intro qs
  induction qs with
  | nil => intro n p z _ _ _ _; exact ⟨z, rfl⟩
  | cons q qs ih =>
    intro n p z hp h0 hq hn
    rw [List.length_cons, Nat.succ_mul] at hn
    have h1 := hF p q n S hp (hq q List.mem_cons_self) h0 (by omega)
    obtain ⟨z', h2⟩ := ih (n + k + 1) (p + q) (some (fr q)) (RB_add hp (hq q List.mem_cons_self)) (by omega) (fun r hr => hq r (List.mem_cons_of_mem _ hr)) (by omega)
    refine ⟨z', ?_⟩
    rw [List.map_cons, forR_cons]
    have e : ex F (.seq (.set 1 (.call g (.acons (.var 1) (.acons (.var 2) .anil)))) .skip) (List.set [x, some (fr p), z] 2 (some (fr q))) S = .nx [x, some (fr (p + q)), some (fr q)] S := by
      simp [h1]
    rw [e, seq_nx, h2, List.foldl_cons]
theorem RB_zero : RB 1 0 := by constructor <;> decide
theorem fr_zero : fr 0 = .tup [.int 0, .int 1] := rfl
theorem fr_one : fr 1 = .tup [.int 1, .int 1] := rfl
theorem total_of_ok {qs : List Rat} {k : Nat} (h0 : 0 < k) (hq : ∀ q, q ∈ qs → RB k q) (hn : 1 + qs.length * (k + 1) < 9000) (S : Store) : G_total_of [.tup (qs.map fr)] S = .ok (fr (qs.foldl (· + ·) 0)) S := by
  refine runF_pure rfl rfl ?_
  obtain ⟨z, h⟩ := total_for (F := FOf L_total_of) (g := 3) (k := k) (x := some (.tup (qs.map fr))) (fun p q n S hp hq h1 h2 => by
    show G_plus [fr p, fr q] S = _
    exact plus_ok hp hq h1 h0 (by omega) S) S qs 1 0 none RB_zero (by decide) hq hn
  rw [fr_zero] at h
  simp [f_total_of, startE, h]
end PV
end
section
set_option linter.all false
set_option maxRecDepth 100000
namespace PV
open PySem (Str)
/-! ### bounded plain data -/
mutual
def D.bd (n : Nat) : D → Bool
  | .none => true | .bool _ => true
  | .int i => decide (i.natAbs < 2 ^ n)
  | .str s => s.cps.all fun c => decide (c < 1114112)
  | .tup xs => decide (xs.length ≤ n) && D.bdL n xs
  | .lst xs => decide (xs.length ≤ n) && D.bdL n xs
  | .scr _ => false | .loc _ => false
def D.bdL (n : Nat) : List D → Bool
  | [] => true
  | x :: xs => D.bd n x && D.bdL n xs
end
theorem bdL_iff {n : Nat} : ∀ {xs : List D}, D.bdL n xs = true ↔ ∀ x, x ∈ xs → x.bd n = true
  | [] => by simp [D.bdL]
  | x :: xs => by simp [D.bdL, bdL_iff (xs := xs)]
theorem bd_tup {n : Nat} {xs : List D} : (D.tup xs).bd n = true ↔ xs.length ≤ n ∧ ∀ x, x ∈ xs → x.bd n = true := by
  simp [D.bd, bdL_iff]
mutual
theorem pure_of_bd {n : Nat} : ∀ {d : D}, d.bd n = true → d.pure = true
  | .none, _ => rfl
  | .bool _, _ => rfl
  | .int _, _ => rfl
  | .str _, _ => rfl
  | .scr _, _ => rfl
  | .loc _, h => by simp [D.bd] at h
  | .tup xs, h => by simp only [D.bd, Bool.and_eq_true] at h; exact pureL_of_bd (xs := xs) h.2
  | .lst xs, h => by simp only [D.bd, Bool.and_eq_true] at h; exact pureL_of_bd (xs := xs) h.2
theorem pureL_of_bd {n : Nat} : ∀ {xs : List D}, D.bdL n xs = true → D.pureL xs = true
  | [], _ => rfl
  | x :: xs, h => by
    simp only [D.bdL, Bool.and_eq_true] at h
    simp only [D.pureL, Bool.and_eq_true]
    exact ⟨pure_of_bd h.1, pureL_of_bd h.2⟩
end
mutual
theorem flat_of_bd {n : Nat} : ∀ {d : D}, d.bd n = true → d.flat = true
  | .none, _ => rfl
  | .bool _, _ => rfl
  | .int _, _ => rfl
  | .str _, h => h
  | .scr _, h => by simp [D.bd] at h
  | .loc _, h => by simp [D.bd] at h
  | .tup xs, h => by simp only [D.bd, Bool.and_eq_true] at h; exact flatL_of_bd (xs := xs) h.2
  | .lst xs, h => by simp only [D.bd, Bool.and_eq_true] at h; exact flatL_of_bd (xs := xs) h.2
theorem flatL_of_bd {n : Nat} : ∀ {xs : List D}, D.bdL n xs = true → D.flatL xs = true
  | [], _ => rfl
  | x :: xs, h => by
    simp only [D.bdL, Bool.and_eq_true] at h
    simp only [D.flatL, Bool.and_eq_true]
    exact ⟨flat_of_bd h.1, flatL_of_bd h.2⟩
end
/-! ### fractions recognized -/
def D.isInt : D → Bool | .int _ => true | _ => false
def isFr : D → Bool
  | .tup [.int a, .int b] => decide (1 ≤ b) && decide (Nat.gcd a.natAbs b.natAbs = 1)
  | _ => false
def frOf : D → Rat
  | .tup [.int a, .int b] => Rat.divInt a b
  | _ => 0
theorem isFr_tup {xs : List D} (h : xs.length ≠ 2) : isFr (.tup xs) = false := by
  unfold isFr
  split
  · rename_i e
    injection e with e
    subst e
    simp at h
  · rfl
theorem isFr_iff {d : D} : isFr d = true ↔ ∃ q : Rat, d = fr q := by
  constructor
  · intro h
    match d, h with
    | .tup [.int a, .int b], h =>
      simp [isFr] at h
      refine ⟨⟨a, b.natAbs, by omega, h.2⟩, ?_⟩
      simp [fr]
      omega
  · rintro ⟨q, rfl⟩
    have h1 := q.den_nz
    have h2 := q.reduced
    simp [isFr, fr]
    exact ⟨by omega, h2⟩
theorem frOf_fr (q : Rat) : frOf (fr q) = q := Rat.num_divInt_den q
theorem isFr_fr (q : Rat) : isFr (fr q) = true := isFr_iff.mpr ⟨q, rfl⟩
section
variable {F : Nat → List D → Store → R D} {ρ : Env} {S : Store}
theorem isint_ok {x : D} {i : Nat} (h : x.pure = true) (hr : ρ[i]? = some (some x)) : ev F (.and (.isi (.var i) .int) (.last (.not (.isi (.var i) .bool)))) ρ S = .ok (.bool x.isInt) S := by
  cases x <;> first | (simp [D.pure] at h; done) | simp [hr, D.isInt, iteO]
end
theorem is_fraction_ok {d : D} {n : Nat} (hn : n ≤ 16777216) (h : d.bd n = true) (S : Store) : G_is_fraction [d] S = .ok (.bool (isFr d)) S := by
  refine runF_pure rfl rfl ?_
  cases d with
  | tup xs =>
    by_cases hl : xs.length = 2
    · match xs, hl with
      | [x, y], _ =>
        obtain ⟨h1, h2⟩ := bd_tup.mp h
        have hc : compD (FOf L_is_fraction) [some (.tup [x, y]), none] .seq (.name 1) [1] false .none (.and (.isi (.var 1) .int) (.last (.not (.isi (.var 1) .bool)))) false (.tup [.tup [x, y]]) S = _ := comp_map (h := fun x => D.bool x.isInt) rfl (fun z hz => isint_ok (pure_of_bd (h2 z hz)) rfl)
        rw [newL_f (by simp)] at hc
        have ha := all_map (S := S) false D.isInt [x, y]
        have hF : FOf L_is_fraction 0 = G_common_divisor := rfl
        simp only [List.map] at hc ha
        simp [ev_comp_p, f_is_fraction, startE, hc, ha, hF]
        cases hx : x.isInt
        · have : isFr (.tup [x, y]) = false := by cases x <;> first | rfl | (simp [D.isInt] at hx)
          simp [this]
        · cases hy : y.isInt
          · have : isFr (.tup [x, y]) = false := by cases x <;> cases y <;> first | rfl | (simp [D.isInt] at hy)
            simp [this]
          · cases x <;> simp [D.isInt] at hx
            cases y <;> simp [D.isInt] at hy
            rename_i a b _
            by_cases hb : b < 1
            · have h3 : ¬ (1 ≤ b) := by omega
              simp [hb, isFr, h3]
            · have h3 : 1 ≤ b := by omega
              obtain ⟨c, hc⟩ : ∃ c : Nat, b = (c : Int) := ⟨b.natAbs, by omega⟩
              subst hc
              have h4 : (((a.natAbs.gcd c : Nat) : Int) = 1) ↔ a.natAbs.gcd c = 1 := by omega
              simp [hb, isFr, common_divisor_ok, h3, hF, h4]
    · have : ¬ ((xs.length : Int) = 2) := by omega
      simp [ev_comp_p, f_is_fraction, startE, isFr_tup hl, this]
  | loc _ => simp [D.bd] at h
  | scr _ => simp [D.bd] at h
  | _ => simp [ev_comp_p, f_is_fraction, startE, isFr]
end PV
end
section
set_option linter.all false
set_option maxRecDepth 100000
namespace PV
open PySem (Str)
theorem eq_fr (p q : Rat) (S : Store) : cmpD .eq (fr p) (fr q) S = some (decide (p = q)) := by
  show some ((p.num == q.num) && (((p.den : Int) == (q.den : Int)) && true)) = _
  by_cases h : p = q
  · subst h; simp
  · have : ¬ (p.num = q.num ∧ p.den = q.den) := fun h2 => h (Rat.ext h2.1 h2.2)
    simp [h]
    intro h1 h2
    exact this ⟨h1, by omega⟩
theorem rb_of {q : Rat} {n k : Nat} (h : (fr q).bd n = true) (hk : n ≤ k) : RB k q := by
  obtain ⟨_, h2⟩ := bd_tup.mp h
  have h3 := h2 (.int q.num) (by simp)
  have h4 := h2 (.int q.den) (by simp)
  simp [D.bd] at h3 h4
  exact ⟨lt_mono h3 hk, lt_mono h4 hk⟩
/-- a fraction that is not below zero -/
def okCh (d : D) : Bool := isFr d && decide (0 ≤ (frOf d).num)
def chM (lo hi : Nat) : D → Bool
  | .tup xs => decide (lo ≤ xs.length ∧ xs.length ≤ hi) && (xs.all okCh && decide ((xs.map frOf).foldl (· + ·) 0 = 1))
  | _ => false
theorem map_fr {xs : List D} (h : xs.all okCh = true) : xs = (xs.map frOf).map fr := by
  rw [List.map_map]
  conv => lhs; rw [← List.map_id xs]
  apply List.map_congr_left
  intro x hx
  have h1 := List.all_eq_true.mp h x hx
  simp only [okCh, Bool.and_eq_true] at h1
  obtain ⟨q, hq⟩ := isFr_iff.mp h1.1
  subst hq
  simp [frOf_fr]
theorem rb_all {xs : List D} {n k : Nat} (h : xs.all okCh = true) (hb : ∀ x, x ∈ xs → x.bd n = true) (hk : n ≤ k) : ∀ q, q ∈ xs.map frOf → RB k q := by
  intro q hq
  obtain ⟨x, hx, rfl⟩ := List.mem_map.mp hq
  have h1 := List.all_eq_true.mp h x hx
  simp only [okCh, Bool.and_eq_true] at h1
  obtain ⟨q, hq⟩ := isFr_iff.mp h1.1
  subst hq
  rw [frOf_fr]
  exact rb_of (hb _ hx) hk
section
variable {F : Nat → List D → Store → R D} {ρ : Env} {S : Store}
theorem ch_item {n : Nat} {x : D} {i : Nat} (hn : n ≤ 16777216) (h : x.bd n = true) (hr : ρ[i]? = some (some x)) (hF : F 2 = G_is_fraction) : ev F (.and (.call 2 (.acons (.var i) .anil)) (.last (.cmp .ge (.idx (.var i) (.int 0)) (.int 0)))) ρ S = .ok (.bool (okCh x)) S := by
  simp [hr, hF, is_fraction_ok hn h]
  cases hx : isFr x with
  | false => simp [okCh, hx]
  | true =>
    obtain ⟨q, rfl⟩ := isFr_iff.mp hx
    simp [okCh, hx, frOf_fr]
    simp [fr]
end
theorem are_chances_ok {d : D} {n k lo hi : Nat} (hn : n ≤ 16777216) (hk : n ≤ k) (hk1 : k ≤ 1000) (hk0 : 0 < k) (hhi : hi ≤ 8) (h : d.bd n = true) (S : Store) : G_are_chances [d, .int lo, .int hi] S = .ok (.bool (chM lo hi d)) S := by
  refine runF_pure rfl rfl ?_
  cases d with
  | tup xs =>
    obtain ⟨h1, h2⟩ := bd_tup.mp h
    have e1 : ((lo : Int) ≤ xs.length) ↔ lo ≤ xs.length := by omega
    have e2 : ((xs.length : Int) ≤ hi) ↔ xs.length ≤ hi := by omega
    have hc : compD (FOf L_are_chances) [some (.tup xs), some (.int lo), some (.int hi), none] .seq (.name 3) [3] false .none (.and (.call 2 (.acons (.var 3) .anil)) (.last (.cmp .ge (.idx (.var 3) (.int 0)) (.int 0)))) false (.tup [.tup xs]) S = _ := comp_map (h := fun x => D.bool (okCh x)) rfl (fun z hz => ch_item hn (h2 z hz) rfl rfl)
    rw [newL_f (by simp; omega)] at hc
    have ha := all_map (S := S) false okCh xs
    have hF : FOf L_are_chances 4 = G_total_of := rfl
    by_cases hlo : lo ≤ xs.length
    · by_cases hhi' : xs.length ≤ hi
      · cases hall : xs.all okCh with
        | false => simp [ev_comp_p, f_are_chances, startE, hc, ha, hF, hlo, hhi', chM, hall]
        | true =>
          have ht := total_of_ok (qs := xs.map frOf) hk0 (rb_all hall h2 hk) (by simp; have : xs.length * (k + 1) ≤ 8 * 1001 := Nat.mul_le_mul (by omega) (by omega); omega) S
          rw [← map_fr hall] at ht
          have he := eq_fr ((xs.map frOf).foldl (· + ·) 0) 1 S
          rw [fr_one] at he
          simp [ev_comp_p, f_are_chances, startE, hc, ha, hF, hlo, hhi', chM, hall, ht, he]
      · simp [ev_comp_p, f_are_chances, startE, hlo, hhi', chM]
    · simp [ev_comp_p, f_are_chances, startE, hlo, chM]
  | loc _ => simp [D.bd] at h
  | scr _ => simp [D.bd] at h
  | _ => simp [ev_comp_p, f_are_chances, startE, chM]
end PV
end
section
set_option linter.all false
set_option maxRecDepth 100000
namespace PV
open PySem (Str)
/-- a loop that goes on, or hands back d at the first item that fails -/
theorem for_all {α : Type} {t : α → D} {p : α → Bool} {i : Nat} {b : Env → Store → SR} {d : D} {S : Store} : ∀ (xs : List α) (ρ : Env), (∀ x, x ∈ xs → b (ρ.set i (some (t x))) S = if p x = true then .nx (ρ.set i (some (t x))) S else .ret d S) →
    ∃ z, (z = ρ ∨ ∃ x, z = ρ.set i (some x)) ∧ forR (.name i) b [] (xs.map t) ρ S = if xs.all p = true then .nx z S else .ret d S
  | [], ρ, _ => ⟨ρ, Or.inl rfl, rfl⟩
  | x :: xs, ρ, hb => by
    have h1 := hb x List.mem_cons_self
    obtain ⟨z, hz, h2⟩ := for_all (p := p) (b := b) (d := d) (S := S) (i := i) (t := t) xs (ρ.set i (some (t x))) (fun y hy => by
      have := hb y (List.mem_cons_of_mem _ hy)
      rw [List.set_set]; exact this)
    refine ⟨z, ?_, ?_⟩
    · rcases hz with rfl | ⟨y, rfl⟩
      · exact Or.inr ⟨_, rfl⟩
      · exact Or.inr ⟨y, by rw [List.set_set]⟩
    · rw [List.map_cons, forR_cons, h1]
      cases hp : p x with
      | false => simp [hp]
      | true => simp [hp]; rw [h2]; simp
theorem for_all1 {p : D → Bool} {i : Nat} {b : Env → Store → SR} {d : D} {S : Store} (xs : List D) (ρ : Env) (hb : ∀ x, x ∈ xs → b (ρ.set i (some x)) S = if p x = true then .nx (ρ.set i (some x)) S else .ret d S) :
    ∃ z, (z = ρ ∨ ∃ x, z = ρ.set i (some x)) ∧ forR (.name i) b [] xs ρ S = if xs.all p = true then .nx z S else .ret d S := by
  have := for_all (t := id) (p := p) (b := b) (d := d) xs ρ hb
  rwa [List.map_id] at this
end PV
end
section
set_option linter.all false
set_option maxRecDepth 100000
namespace PV
open PySem (Str)
theorem depL_le {m : Nat} : ∀ {xs : List D}, (∀ x, x ∈ xs → x.dep ≤ m) → D.depL xs ≤ m
  | [], _ => Nat.zero_le _
  | x :: xs, h => by
    have h1 := h x List.mem_cons_self
    have h2 := depL_le (xs := xs) fun y hy => h y (List.mem_cons_of_mem _ hy)
    simp only [D.depL]
    omega
theorem flatL_of : ∀ {xs : List D}, (∀ x, x ∈ xs → x.flat = true) → D.flatL xs = true
  | [], _ => rfl
  | x :: xs, h => by
    simp only [D.flatL, h x List.mem_cons_self, flatL_of fun y hy => h y (List.mem_cons_of_mem _ hy), Bool.and_self]
theorem pureL_of : ∀ {xs : List D}, (∀ x, x ∈ xs → x.pure = true) → D.pureL xs = true
  | [], _ => rfl
  | x :: xs, h => by
    simp only [D.pureL, h x List.mem_cons_self, pureL_of fun y hy => h y (List.mem_cons_of_mem _ hy), Bool.and_self]
theorem eq_plain {a b : D} {S : Store} (ha : a.pure = true) (hb : b.pure = true) (fa : a.flat = true) (fb : b.flat = true) (da : a.dep ≤ 64) (db : b.dep ≤ 64) : cmpD .eq a b S = some (D.eqv a b) := by
  show (if deepOk (D.frz 0 S 3 a) && deepOk (D.frz 0 S 3 b) then some (D.eqv (D.frz 0 S 3 a) (D.frz 0 S 3 b)) else none) = _
  rw [show D.frz 0 S 3 a = a from frz_pure ha, show D.frz 0 S 3 b = b from frz_pure hb]
  simp [deepOk, fa, fb, da, db]
def lenD : D → Nat | .tup xs => xs.length | _ => 0
@[simp] theorem lenD_tup (xs : List D) : lenD (.tup xs) = xs.length := rfl
def posAt (j : Nat) : D → Bool
  | .tup xs => (match xs[j]? with | some (.tup (.int a :: _)) => decide (0 < a) | _ => false)
  | _ => false
def modM : D → Bool
  | .tup rows => decide (2 ≤ rows.length ∧ rows.length ≤ 3) && (rows.all (chM 1 6) && (rows.all (fun r => decide (lenD r = lenD (rows.headD .none))) && (List.range (lenD (rows.headD .none))).all fun j => rows.any (posAt j)))
  | _ => false
section
variable {F : Nat → List D → Store → R D} {ρ : Env} {S : Store}
theorem chM_tup {lo hi : Nat} {d : D} (h : chM lo hi d = true) : ∃ xs, d = .tup xs ∧ xs.all okCh = true ∧ xs.length ≤ hi ∧ lo ≤ xs.length := by
  cases d <;> simp [chM] at h
  rename_i xs
  exact ⟨xs, rfl, by simpa using h.2.1, h.1.2, h.1.1⟩
theorem row_item {x : D} {j : Nat} (h : chM 1 6 x = true) (hj : j < lenD x) (hr : ρ[2]? = some (some x)) (hs : ρ[1]? = some (some (.int j))) : ev F (.cmp .gt (.idx (.idx (.var 2) (.var 1)) (.int 0)) (.int 0)) ρ S = .ok (.bool (posAt j x)) S := by
  obtain ⟨xs, rfl, hall, _⟩ := chM_tup h
  have hj' : j < xs.length := hj
  have h1 := List.all_eq_true.mp hall xs[j] (List.getElem_mem hj')
  simp only [okCh, Bool.and_eq_true] at h1
  obtain ⟨q, hq⟩ := isFr_iff.mp h1.1
  simp [hr, hs, posAt, hj', hq]
  simp [fr]
end
theorem is_model_ok {d : D} {n k : Nat} (hn : n ≤ 16777216) (hk : n ≤ k) (hk1 : k ≤ 1000) (hk0 : 0 < k) (h : d.bd n = true) (S : Store) : G_is_model [d] S = .ok (.bool (modM d)) S := by
  refine runF_pure rfl rfl ?_
  cases d with
  | tup rows =>
    obtain ⟨h1, h2⟩ := bd_tup.mp h
    have e1 : ((2 : Int) ≤ rows.length) ↔ 2 ≤ rows.length := by omega
    have e2 : ((rows.length : Int) ≤ 3) ↔ rows.length ≤ 3 := by omega
    by_cases hlo : 2 ≤ rows.length
    · by_cases hhi' : rows.length ≤ 3
      · have hc : compD (FOf L_is_model) [some (.tup rows), none, none] .seq (.name 2) [2] false .none (.call 5 (.acons (.var 2) (.acons (.int 1) (.acons (.int 6) .anil)))) false (.tup [.tup rows]) S = _ := comp_map (h := fun x => D.bool (chM 1 6 x)) rfl (fun z hz => by
          have := are_chances_ok (lo := 1) (hi := 6) hn hk hk1 hk0 (by decide) (h2 z hz) S
          have hF : FOf L_is_model 5 = G_are_chances := rfl
          simp at this
          simp [hF, this])
        rw [newL_f (by simp; omega)] at hc
        have ha := all_map (S := S) false (chM 1 6) rows
        cases hall : rows.all (chM 1 6) with
        | false => simp [ev_comp_p, f_is_model, startE, e1, e2, hlo, hhi', modM, hall, hc, ha]
        | true =>
          obtain ⟨r0, rest, hrows⟩ : ∃ r0 rest, rows = r0 :: rest := by
            cases rows with
            | nil => simp at hlo
            | cons r0 rest => exact ⟨r0, rest, rfl⟩
          have hall' := List.all_eq_true.mp hall
          obtain ⟨x0, hx0, hx0b⟩ := chM_tup (hall' r0 (by rw [hrows]; simp))
          have hg0 : rows[0]? = some (.tup x0) := by rw [hrows, hx0]; rfl
          have hhd : rows.headD .none = .tup x0 := by rw [hrows, hx0]; rfl
          have hc2 : compD (FOf L_is_model) [some (.tup rows), none, none] .seq (.name 2) [2] false .none (.cmp .eq (.bi .len false (.acons (.var 2) .anil)) (.bi .len false (.acons (.idx (.var 0) (.int 0)) .anil))) false (.tup [.tup rows]) S = _ := comp_map (h := fun x => D.bool (decide (lenD x = x0.length))) rfl (fun z hz => by
            obtain ⟨xs, rfl, _⟩ := chM_tup (hall' z hz)
            simp [hg0]
            exact decide_eq_decide.mpr (by omega))
          rw [newL_f (by simp; omega)] at hc2
          have ha2 := all_map (S := S) false (fun x => decide (lenD x = x0.length)) rows
          cases hall2 : rows.all (fun x => decide (lenD x = x0.length)) with
          | false => 
            rw [hall2] at ha2
            have hm : modM (.tup rows) = false := by simp only [modM, hall, hhd, lenD_tup, hall2, Bool.false_and, Bool.and_false, Bool.true_and]
            simp [ev_comp_p, f_is_model, startE, e1, e2, hlo, hhi', hm, hall, hc, ha, hc2, ha2]
          | true =>
            rw [hall2] at ha2
            have hall2' := List.all_eq_true.mp hall2
            have hc3 : compD (FOf L_is_model) [some (.tup rows), none, none] .range (.name 1) [1] false .none (.bi .any false (.acons (.comp .seq (.acons (.var 0) .anil) (.name 2) [2] false .none (.cmp .gt (.idx (.idx (.var 2) (.var 1)) (.int 0)) (.int 0)) false) .anil)) false (.tup [.int x0.length]) S = _ := comp_mapg (t := fun (j : Nat) => D.int j) (l := List.range x0.length) (en := fun j => [some (.tup rows), some (.int j), none]) (h := fun j => D.bool (rows.any (posAt j))) (walk_range_p (by omega)) (fun j _ => rfl) (fun j hj => by
              have hj' : j < x0.length := List.mem_range.mp hj
              have hc4 : compD (FOf L_is_model) [some (.tup rows), some (.int j), none] .seq (.name 2) [2] false .none (.cmp .gt (.idx (.idx (.var 2) (.var 1)) (.int 0)) (.int 0)) false (.tup [.tup rows]) S = _ := comp_map (h := fun x => D.bool (posAt j x)) rfl (fun z hz => row_item (hall' z hz) (by have := hall2' z hz; simp at this; omega) rfl rfl)
              rw [newL_f (by simp; omega)] at hc4
              have ha4 := any_map (S := S) false (posAt j) rows
              simp [ev_comp_p, hc4, ha4])
            rw [newL_f (by simp; omega)] at hc3
            have ha3 := all_map (S := S) false (fun j => rows.any (posAt j)) (List.range x0.length)
            have hm : modM (.tup rows) = ((List.range x0.length).all fun j => rows.any (posAt j)) := by
              simp only [modM, hall, hhd, lenD_tup, hall2, Bool.true_and, decide_eq_true (show 2 ≤ rows.length ∧ rows.length ≤ 3 from ⟨hlo, hhi'⟩)]
            have hs3 : ev (FOf L_is_model) (.bi .len false (.acons (.idx (.var 0) (.int 0)) .anil)) [some (.tup rows), none, none] S = .ok (.int x0.length) S := by simp [hg0]
            have hs4 : ev (FOf L_is_model) (.comp .range (.acons (.bi .len false (.acons (.idx (.var 0) (.int 0)) .anil)) .anil) (.name 1) [1] false .none (.bi .any false (.acons (.comp .seq (.acons (.var 0) .anil) (.name 2) [2] false .none (.cmp .gt (.idx (.idx (.var 2) (.var 1)) (.int 0)) (.int 0)) false) .anil)) false) [some (.tup rows), none, none] S = .ok (D.lst (List.map (fun j => D.bool (rows.any (posAt j))) (List.range x0.length))) S := by
              rw [ev_comp_p, ev_acons, hs3, bind_ok, ev_anil, bind_ok, consD_tup, bind_ok, hc3]
            have hc' : ev (FOf L_is_model) (.comp .seq (.acons (.var 0) .anil) (.name 2) [2] false .none (.call 5 (.acons (.var 2) (.acons (.int 1) (.acons (.int 6) .anil)))) false) [some (.tup rows), none, none] S = _ := hc
            have hc2' : ev (FOf L_is_model) (.comp .seq (.acons (.var 0) .anil) (.name 2) [2] false .none (.cmp .eq (.bi .len false (.acons (.var 2) .anil)) (.bi .len false (.acons (.idx (.var 0) (.int 0)) .anil))) false) [some (.tup rows), none, none] S = _ := hc2
            simp [f_is_model, startE, e1, e2, hlo, hhi', hm, hall, hc', ha, hc2', ha2, hs4, ha3]
      · simp [ev_comp_p, f_is_model, startE, e1, e2, hlo, hhi', modM]
    · simp [ev_comp_p, f_is_model, startE, e1, hlo, modM]
  | loc _ => simp [D.bd] at h
  | scr _ => simp [D.bd] at h
  | _ => simp [ev_comp_p, f_is_model, startE, modM]
end PV
end
section
set_option linter.all false
set_option maxRecDepth 100000
namespace PV
open PySem (Str)
section
variable {F : Nat → List D → Store → R D} {ρ : Env} {S : Store} {c : Nat} {xs : List D}
theorem list_loc (h : S[c]? = some (.lst xs)) : getList S (.loc c) = some xs := by simp [getList, h]
theorem seq_loc (h : S[c]? = some (.lst xs)) : getSeq S (.loc c) = some xs := list_loc h
theorem truth_loc (h : S[c]? = some (.lst xs)) : truth S (.loc c) = some (!xs.isEmpty) := by
  show (getSeq S (.loc c)).map (fun xs => !xs.isEmpty) = _
  rw [seq_loc h]; rfl
theorem len_loc (h : S[c]? = some (.lst xs)) (m : Bool) : biD m .len [.loc c] S = .ok (.int xs.length) S := by
  show (match getSeq S (.loc c) with | some xs => R.ok (D.int xs.length) S | none => .err) = _
  rw [seq_loc h]
theorem app_loc (h : S[c]? = some (.lst xs)) (hl : xs.length < 16777216) (d : D) : appD (.loc c) d S = .ok .none (S.set c (.lst (xs ++ [d]))) := by
  simp [appD, h]
  exact hl
theorem appG_loc (h : S[c]? = some (.lst xs)) (r : R D) : appG (.loc c) S r = r := by simp [appG, list_loc h]
theorem idx_loc (h : S[c]? = some (.lst xs)) (k : Int) : idxD (.loc c) (.int k) S = atI xs k := by
  show (getSeq S (.loc c)).bind (fun xs => atI xs k) = _
  rw [seq_loc h]; rfl
theorem get_set (h : S[c]? = some (.lst xs)) (v : Cell) : (S.set c v)[c]? = some v := by
  have : c < S.length := by
    by_cases hc : c < S.length
    · exact hc
    · simp [hc] at h
  simp [this]
theorem setS_loc (h : S[c]? = some (.lst xs)) {k j : Nat} (hk : k < xs.length) (d : D) : setS (.loc c) (.int k) d S = .ok () (S.set c (.lst (xs.set k d))) := by
  have hi : ixN xs.length (k : Int) = some k := by unfold ixN; rw [if_pos (by omega), if_pos (by omega)]; simp
  simp [setS, setD, h, hi]
end
def drawRest : St := (.seq (.expr (.app (.var 1) (.int 0)))
    (.seq (.set 3 (.bi .len false (.acons (.var 1) .anil)))
    (.seq (.set 4 (.ife (.var 0) (.idx (.var 0) (.bin .mod false (.var 3) (.bi .len false (.acons (.var 0) .anil)))) (.int 0)))
    (.seq (.set 5 (.bin .mod false (.idx (.var 1) (.int 0)) (.int 65536)))
    (.seq (.setI (.var 1) (.int 0) (.bin .fdiv false (.idx (.var 1) (.int 0)) (.int 65536)))
    (.seq (.set 6 (.bin .mod false (.bin .add false (.bin .add false (.var 4) (.bin .mul false (.int 40503) (.var 5))) (.bin .mul false (.int 104729) (.var 3))) (.int 4294967291)))
    (.seq (.set 6 (.bin .mod false (.bin .mul false (.bin .mod false (.bin .mul false (.var 6) (.var 6)) (.int 4294967279)) (.int 48271)) (.int 4294967291)))
    (.seq (.set 7 (.bin .mod false (.bin .mul false (.bin .mod false (.bin .mul false (.var 6) (.var 6)) (.int 4294967279)) (.int 69621)) (.int 4294967291)))
    (.seq (.ret (.bin .mod false (.bin .add false (.bin .mul false (.bin .fdiv false (.var 6) (.int 64)) (.int 67108864)) (.bin .fdiv false (.var 7) (.int 64))) (.var 2)))
    (.skip))))))))))
theorem modb (a : Int) {m : Int} (h : 0 < m) : 0 ≤ a.fmod m ∧ a.fmod m < m := ⟨Int.fmod_nonneg_of_pos a h, Int.fmod_lt_of_pos a h⟩
theorem mulS {a b : Int} (h1 : a.natAbs < 2 ^ 100) (h2 : b.natAbs < 2 ^ 100) : mulOk a b = true := mulOk_of h1 h2 (by decide) (by decide) (by decide)
theorem p100 : (2 : Nat) ^ 100 = 1267650600228229401496703205376 := by decide
theorem divOk_64 : divOk 64 = true := by decide
theorem divOk_65536 : divOk 65536 = true := by decide
theorem draw_rest {ns : List Int} {S : Store} {c : Nat} {m a : Int} {is : List Int} (hS : S[c]? = some (.lst ((a :: is).map D.int))) (hm : 0 < m) (hl : is.length + 1 < 1000000) (F : Nat → List D → Store → R D) :
    ∃ r a' : Int, (0 ≤ r ∧ r < m) ∧ ex F drawRest [some (.scr ns), some (.loc c), some (.int m), none, none, none, none, none] S = .ret (.int r) (S.set c (.lst ((a' :: (is ++ [0])).map D.int))) := by
  have hS1 := get_set hS (.lst (((a :: is).map D.int) ++ [.int 0]))
  have hcell : ∃ x : Int, ev F (.ife (.var 0) (.idx (.var 0) (.bin .mod false (.var 3) (.bi .len false (.acons (.var 0) .anil)))) (.int 0)) [some (.scr ns), some (.loc c), some (.int m), some (.int ((is.length : Int) + 1 + 1)), none, none, none, none] (S.set c (.lst (((a :: is).map D.int) ++ [.int 0]))) = .ok (.int x) (S.set c (.lst (((a :: is).map D.int) ++ [.int 0]))) := by
    cases ns with
    | nil => exact ⟨0, by simp⟩
    | cons n0 ns =>
      have hne : ((ns.length : Int) + 1) ≠ 0 := by omega
      obtain ⟨b1, b2⟩ := modb ((is.length : Int) + 1 + 1) (m := (ns.length : Int) + 1) (by omega)
      obtain ⟨j, hj⟩ : ∃ j : Nat, ((is.length : Int) + 1 + 1).fmod ((ns.length : Int) + 1) = j := ⟨_, (Int.toNat_of_nonneg b1).symm⟩
      have hj2 : j < (n0 :: ns).length := by rw [List.length_cons]; omega
      refine ⟨(n0 :: ns)[j], ?_⟩
      simp [hne, hj]
      rw [← List.map_cons, List.getElem?_map, List.getElem?_eq_getElem hj2]
      rfl
  obtain ⟨x, hx⟩ := hcell
  obtain ⟨d1, d2⟩ := modb a (m := 65536) (by decide)
  obtain ⟨e1, e2⟩ := modb (x + 40503 * a.fmod 65536 + 104729 * ((is.length : Int) + 1 + 1)) (m := 4294967291) (by decide)
  generalize hd : a.fmod 65536 = d at d1 d2 e1 e2
  generalize hn : (x + 40503 * d + 104729 * ((is.length : Int) + 1 + 1)).fmod 4294967291 = n at e1 e2
  obtain ⟨f1, f2⟩ := modb (n * n) (m := 4294967279) (by decide)
  generalize hf : (n * n).fmod 4294967279 = f at f1 f2
  obtain ⟨g1, g2⟩ := modb (f * 48271) (m := 4294967291) (by decide)
  generalize hg : (f * 48271).fmod 4294967291 = g at g1 g2
  obtain ⟨i1, i2⟩ := modb (g * g) (m := 4294967279) (by decide)
  generalize hi : (g * g).fmod 4294967279 = i at i1 i2
  obtain ⟨j1, j2⟩ := modb (i * 69621) (m := 4294967291) (by decide)
  generalize hj : (i * 69621).fmod 4294967291 = j at j1 j2
  have m1 : mulOk 40503 d = true := mulS (by decide) (by rw [p100]; omega)
  have m2 : mulOk 104729 ((is.length : Int) + 1 + 1) = true := mulS (by decide) (by rw [p100]; omega)
  have m3 : mulOk n n = true := mulS (by rw [p100]; omega) (by rw [p100]; omega)
  have m4 : mulOk f 48271 = true := mulS (by rw [p100]; omega) (by decide)
  have m5 : mulOk g g = true := mulS (by rw [p100]; omega) (by rw [p100]; omega)
  have m6 : mulOk i 69621 = true := mulS (by rw [p100]; omega) (by decide)
  have hq : (g.fdiv 64).natAbs < 2 ^ 100 := by
    rw [Int.fdiv_eq_ediv_of_nonneg _ (by decide), p100]; omega
  have m7 : mulOk (g.fdiv 64) 67108864 = true := mulS hq (by decide)
  have hm0 : ¬ (m = 0) := by omega
  refine ⟨(g.fdiv 64 * 67108864 + j.fdiv 64).fmod m, a.fdiv 65536, modb _ hm, ?_⟩
  have hS2 := get_set hS1 (.lst (((a.fdiv 65536 :: is).map D.int) ++ [.int 0]))
  have ha := app_loc hS (by simp; omega) (.int 0)
  have hl1 := len_loc hS1
  have hi1 := idx_loc hS1
  have hs1 : setS (.loc c) (.int 0) (.int (a.fdiv 65536)) _ = _ := setS_loc hS1 (k := 0) (j := 0) (by simp) (.int (a.fdiv 65536))
  simp only [List.map_cons, List.cons_append, List.set_cons_zero, List.length_cons, List.length_append, List.length_map, List.length_nil] at ha hl1 hi1 hs1 hx hS1
  simp [drawRest, appG_loc hS, ha, hl1, hx, hi1, hd, hs1, m1, m2, hn, m3, hf, m4, hg, m5, hi, m6, hj, m7, divOk_64, divOk_65536, hm0]
/-- the state of the draws, at a cell -/
def Stt (c N : Nat) (S : Store) : Prop := ∃ is : List Int, S[c]? = some (.lst (is.map D.int)) ∧ is.length ≤ N
theorem allInt_ints (l : List Int) : allInt (l.map D.int) = some l := by
  have := allInt_map (fun x : Int => x) l
  simpa using this
theorem underL_ints (n : Nat) : ∀ l : List Int, D.underL n (l.map D.int) = true
  | [] => rfl
  | x :: l => by show (D.under n (.int x) && D.underL n (l.map D.int)) = true; rw [underL_ints n l]; rfl
theorem draw_ok {ns : List Int} {S : Store} {c N : Nat} {m : Int} (hS : Stt c N S) (hns : ns.length ≤ 1000000) (hm : 0 < m) (hl : N + 2 < 1000000) :
    ∃ (r : Int) (is : List Int), (0 ≤ r ∧ r < m) ∧ is.length ≤ N + 2 ∧ G_law_draw [.scr ns, .loc c, .int m] S = .ok (.int r) (S.set c (.lst (is.map D.int))) := by
  obtain ⟨is, hS, hN⟩ := hS
  cases is with
  | nil =>
    let F := FOf L_law_draw
    have hmx : ∃ mx : Int, ev (FOf L_law_draw) (.bi .max false (.acons (.bin .add false (.comp .seq (.acons (.var 0) .anil) (.name 4) [4] false .none (.bi .abs false (.acons (.var 4) .anil)) false) (.lst false (.acons (.int 0) .anil))) .anil)) [some (.scr ns), some (.loc c), some (.int m), none, none, none, none, none] S = .ok (.int mx) S := by
      have hc : ev (FOf L_law_draw) (.comp .seq (.acons (.var 0) .anil) (.name 4) [4] false .none (.bi .abs false (.acons (.var 4) .anil)) false) [some (.scr ns), some (.loc c), some (.int m), none, none, none, none, none] S = _ := comp_mapgE (as := [.scr ns]) (l := ns) (t := D.int) (h := fun i => D.int (i.natAbs : Int)) rfl rfl (en := fun i => [some (.scr ns), some (.loc c), some (.int m), none, some (.int i), none, none, none]) (fun _ _ => rfl) (fun i _ => by simp)
      rw [newL_f (by simp; omega)] at hc
      have hai := allInt_map (fun i : Int => (i.natAbs : Int)) ns
      have hai2 : allInt ((ns.map fun i : Int => D.int (i.natAbs : Int)) ++ [.int 0]) = some ((ns.map fun i : Int => (i.natAbs : Int)) ++ [0]) := by
        have := allInt_ints ((ns.map fun i : Int => (i.natAbs : Int)) ++ [0])
        rw [List.map_append, List.map_map] at this
        exact this
      obtain ⟨x, r, hxr⟩ : ∃ x r, (ns.map fun i : Int => (i.natAbs : Int)) ++ [0] = x :: r := by
        cases ns with
        | nil => exact ⟨_, _, rfl⟩
        | cons a b => exact ⟨_, _, rfl⟩
      have hbi : biD false .max [.lst ((ns.map fun i : Int => D.int (i.natAbs : Int)) ++ [.int 0])] S = .ok (.int (maxL r x)) S := by
        simp only [biD, list_lst, Option.bind_some, hai2, hxr]
      have hlen : ns.length + 1 ≤ 16777216 := by omega
      exact ⟨maxL r x, by simp [hc, hlen, hbi, -ev_comp_p]⟩
    obtain ⟨mx, hmx⟩ := hmx
    have hS1 := get_set hS (.lst ((([] : List Int).map D.int) ++ [.int mx]))
    have ha := app_loc hS (by simp) (.int mx)
    obtain ⟨r, a', hr, hex⟩ := draw_rest (ns := ns) (S := S.set c (.lst [.int mx])) (c := c) (m := m) (a := mx) (is := []) hS1 hm (by simp) (FOf L_law_draw)
    refine ⟨r, a' :: ([] ++ [0]), hr, by simp, ?_⟩
    have hex2 : ex (FOf L_law_draw) f_law_draw.body (startE f_law_draw.nn [.scr ns, .loc c, .int m]) S = .ret (.int r) (S.set c (.lst ((a' :: ([] ++ [0])).map D.int))) := by
      rw [List.set_set] at hex
      rw [← hex]
      simp only [List.map_nil, List.nil_append] at ha hS
      show ex (FOf L_law_draw) (.seq (.ifs (.not (.var 1)) (.seq (.expr (.app (.var 1) (.bi .max false (.acons (.bin .add false (.comp .seq (.acons (.var 0) .anil) (.name 4) [4] false .none (.bi .abs false (.acons (.var 4) .anil)) false) (.lst false (.acons (.int 0) .anil))) .anil)))) .skip) .skip) drawRest) [some (.scr ns), some (.loc c), some (.int m), none, none, none, none, none] S = _
      generalize drawRest = rest
      generalize hmE : (Ex.bi .max false (.acons (.bin .add false (.comp .seq (.acons (.var 0) .anil) (.name 4) [4] false .none (.bi .abs false (.acons (.var 4) .anil)) false) (.lst false (.acons (.int 0) .anil))) .anil)) = mE at hmx
      simp [truth_loc hS, hmx, appG_loc hS, ha]
    rw [G_law_draw, runF_ret rfl hex2]
    have := clean_set (S := S) (T := []) (k := c) (c := .lst ((a' :: ([] ++ [0])).map D.int)) (d := .int r) rfl (underL_ints _ _)
    rwa [List.append_nil] at this
  | cons a is =>
    simp only [List.length_cons] at hN
    obtain ⟨r, a', hr, hex⟩ := draw_rest (ns := ns) (S := S) (c := c) (m := m) (a := a) (is := is) hS hm (by omega) (FOf L_law_draw)
    refine ⟨r, a' :: (is ++ [0]), hr, by simp; omega, ?_⟩
    have hex2 : ex (FOf L_law_draw) f_law_draw.body (startE f_law_draw.nn [.scr ns, .loc c, .int m]) S = .ret (.int r) (S.set c (.lst ((a' :: (is ++ [0])).map D.int))) := by
      rw [← hex]
      show ex (FOf L_law_draw) (.seq (.ifs (.not (.var 1)) (.seq (.expr (.app (.var 1) (.bi .max false (.acons (.bin .add false (.comp .seq (.acons (.var 0) .anil) (.name 4) [4] false .none (.bi .abs false (.acons (.var 4) .anil)) false) (.lst false (.acons (.int 0) .anil))) .anil)))) .skip) .skip) drawRest) [some (.scr ns), some (.loc c), some (.int m), none, none, none, none, none] S = _
      generalize drawRest = rest
      simp [truth_loc hS]
    rw [G_law_draw, runF_ret rfl hex2]
    have := clean_set (S := S) (T := []) (k := c) (c := .lst ((a' :: (is ++ [0])).map D.int)) (d := .int r) rfl (underL_ints _ _)
    rwa [List.append_nil] at this
end PV
end
section
set_option linter.all false
set_option maxRecDepth 100000
namespace PV
open PySem (Str)
theorem bd_ofString (t : String) (n : Nat) : (D.str (Str.ofString t)).bd n = true := by
  show (Str.ofString t).cps.all (fun c => decide (c < 1114112)) = true
  rw [Str.ofString_eq_toList]
  simp
  intro c hc
  have := c.valid
  unfold UInt32.isValidChar Nat.isValidChar at this
  show c.val.toNat < 1114112
  omega
theorem set_stt {S : Store} {c N : Nat} {is : List Int} (hS : Stt c N S) {M : Nat} (h : is.length ≤ M) : Stt c M (S.set c (.lst (is.map D.int))) := by
  obtain ⟨js, h1, _⟩ := hS
  exact ⟨is, get_set h1 _, h⟩
theorem clean_st {S : Store} {c : Nat} {is : List Int} {d : D} (h : d.pure = true) : clean S d (S.set c (.lst (is.map D.int))) = .ok d (S.set c (.lst (is.map D.int))) := by
  have := clean_set (S := S) (T := []) (k := c) (c := .lst (is.map D.int)) (d := d) h (underL_ints _ _)
  rwa [List.append_nil] at this
theorem pick_ok {ns : List Int} {S : Store} {c N : Nat} {xs : List D} (hS : Stt c N S) (hns : ns.length ≤ 1000000) (hl : N + 2 < 1000000) (hx : xs ≠ []) (hp : ∀ x, x ∈ xs → x.pure = true) :
    ∃ (x : D) (is : List Int), x ∈ xs ∧ is.length ≤ N + 2 ∧ G_law_pick [.scr ns, .loc c, .lst xs] S = .ok x (S.set c (.lst (is.map D.int))) := by
  have hpos : 0 < xs.length := List.length_pos_iff.mpr hx
  obtain ⟨r, is, ⟨h0, h1⟩, h2, h3⟩ := draw_ok (m := (xs.length : Int)) hS hns (by omega) hl
  obtain ⟨j, rfl⟩ : ∃ j : Nat, r = j := ⟨r.toNat, by omega⟩
  have hj : j < xs.length := by omega
  refine ⟨xs[j], is, List.getElem_mem hj, h2, ?_⟩
  have hF : FOf L_law_pick 7 = G_law_draw := rfl
  have he : ex (FOf L_law_pick) f_law_pick.body (startE f_law_pick.nn [.scr ns, .loc c, .lst xs]) S = .ret xs[j] (S.set c (.lst (is.map D.int))) := by
    simp [f_law_pick, startE, hF, h3, hj]
  rw [G_law_pick, runF_ret rfl he, clean_st (hp _ (List.getElem_mem hj))]
def base : List D := [.none, .bool true, .bool false, .int 0, .int 1, .int (-1), .int 3, .int 10, .str "a", .str "b", .str "", .str "A", .str "abcd", .tup [], .lst [], .tup [.int 0], .tup [.int 2, .int 1], .tup [.int 1, .int 2], .tup [.tup [.int 0], .tup [.int 1]]]
def more : D → List D
  | .tup xs => [.lst xs, .tup (cut xs none (some (-1))), .tup (xs ++ cut xs (some (-1)) none), .tup (cut xs (some 1) none), .tup xs.reverse, .tup (xs ++ [.none])]
  | .int i => rep [.int (i + 1), .int (i - 1), .bool (!(i != 0)), .tup [.int i], .str (Str.ofString (toString i))] 2
  | .bool p => rep [.int ((if p = true then 1 else 0) + 1), .int ((if p = true then 1 else 0) - 1), .bool (!p), .tup [.bool p], .str (if p then "True" else "False")] 2
  | _ => []
theorem cut_sub {α : Type} {xs : List α} {l h : Option Int} {x : α} (hx : x ∈ cut xs l h) : x ∈ xs := List.mem_of_mem_drop (List.mem_of_mem_take hx)
theorem cut_len {α : Type} (xs : List α) (l h : Option Int) : (cut xs l h).length ≤ xs.length := by
  unfold cut
  rw [List.length_take, List.length_drop]
  omega
theorem dep_mem {xs : List D} {x : D} (h : x ∈ xs) : x.dep ≤ D.depL xs := by
  induction xs with
  | nil => cases h
  | cons y ys ih =>
    simp only [D.depL]
    rcases List.mem_cons.mp h with rfl | h
    · omega
    · have := ih h; omega
theorem cut_upto {α : Type} (xs : List α) (j : Nat) (h : j ≤ xs.length) : cut xs none (some (j : Int)) = xs.take j := by
  unfold cut sIx
  have : ¬ ((j : Int) < 0) := by omega
  simp [this, Nat.min_eq_left h]
theorem cut_from {α : Type} (xs : List α) (j : Nat) (h : j ≤ xs.length) : cut xs (some (j : Int)) none = xs.drop j := by
  unfold cut sIx
  have : ¬ ((j : Int) < 0) := by omega
  simp [this]
  rw [Nat.min_eq_left h, List.take_of_length_le]
  simp
end PV
end
section
set_option linter.all false
set_option maxRecDepth 100000
namespace PV
open PySem (Str)
theorem lt_of_get {S : Store} {c : Nat} {v : Cell} (h : S[c]? = some v) : c < S.length := by
  by_cases hc : c < S.length
  · exact hc
  · simp [hc] at h
theorem draws_ok {ns : List Int} (hns : ns.length ≤ 1000000) {c i : Nat} {m : Int} {F : Nat → List D → Store → R D} {ρ : Env} {own : List Nat} (hF : F 7 = G_law_draw) (hm : 0 < m)
    (h0 : ∀ x, ((wipeE ρ own).set i (some x))[0]? = some (some (.scr ns))) (h1 : ∀ x, ((wipeE ρ own).set i (some x))[1]? = some (some (.loc c))) :
    ∀ (l : List D) (S : Store) (N : Nat), Stt c N S → N + 2 * l.length + 2 < 1000000 → ∃ ws is : List Int, ws.length = l.length ∧ (∀ w, w ∈ ws → 0 ≤ w ∧ w < m) ∧ is.length ≤ N + 2 * l.length ∧
      mapR (turn1 F ρ (.name i) own false .none (.call 7 (.acons (.var 0) (.acons (.var 1) (.acons (.int m) .anil))))) [] l S = .ok (ws.map D.int) (S.set c (.lst (is.map D.int)))
  | [], S, N, hS, _ => by
    obtain ⟨is, h2, h3⟩ := hS
    refine ⟨[], is, rfl, fun w hw => (by cases hw), by simpa using h3, ?_⟩
    have : S.set c (.lst (is.map D.int)) = S := by
      apply List.ext_getElem?
      intro j
      by_cases hj : c = j
      · subst hj
        rw [get_set h2, h2]
      · rw [List.getElem?_set_ne hj]
    rw [this]
    rfl
  | x :: l, S, N, hS, hN => by
    simp only [List.length_cons] at hN
    obtain ⟨r, is, hr, hi, hd⟩ := draw_ok (m := m) hS hns hm (by omega)
    obtain ⟨ws, js, hw, hw2, hj, hrec⟩ := draws_ok hns hF hm h0 h1 l _ (N + 2) (set_stt hS hi) (by omega)
    rw [List.set_set] at hrec
    refine ⟨r :: ws, js, by simp [hw], ?_, by simp only [List.length_cons]; omega, ?_⟩
    · intro w hw3
      rcases List.mem_cons.mp hw3 with rfl | hw3
      · exact hr
      · exact hw2 w hw3
    · unfold mapR
      rw [guard_nil, if_pos rfl]
      have ht : turn1 F ρ (.name i) own false .none (.call 7 (.acons (.var 0) (.acons (.var 1) (.acons (.int m) .anil)))) x S = .ok (some (.int r)) (S.set c (.lst (is.map D.int))) := by
        unfold turn1
        rw [put_name]
        dsimp only
        simp [h0, h1, hF, hd]
      rw [ht, bind_ok, hrec]
      rfl
/-! ### a table of rows, in cells -/
def tst (A : Store) (tbl : List (List Int)) : Store := A ++ .lst ((List.range tbl.length).map fun i => D.loc (A.length + 1 + i)) :: tbl.map fun ws => .lst (ws.map D.int)
section
variable {A : Store} {tbl : List (List Int)}
theorem tst_c {c : Nat} (h : c < A.length) : (tst A tbl)[c]? = A[c]? := by
  unfold tst
  rw [List.getElem?_append_left h]
theorem tst_L : (tst A tbl)[A.length]? = some (.lst ((List.range tbl.length).map fun i => D.loc (A.length + 1 + i))) := by
  unfold tst
  rw [List.getElem?_append_right (by omega)]
  simp
theorem tst_row {i : Nat} (h : i < tbl.length) : (tst A tbl)[A.length + 1 + i]? = some (.lst (tbl[i].map D.int)) := by
  unfold tst
  rw [List.getElem?_append_right (by omega)]
  have : A.length + 1 + i - A.length = i + 1 := by omega
  rw [this, List.getElem?_cons_succ, List.getElem?_map, List.getElem?_eq_getElem h]
  rfl
theorem tst_setc {c : Nat} (h : c < A.length) (v : Cell) : (tst A tbl).set c v = tst (A.set c v) tbl := by
  unfold tst
  rw [List.set_append_left _ _ h, List.length_set]
theorem tst_setrow {i : Nat} (h : i < tbl.length) (ws : List Int) : (tst A tbl).set (A.length + 1 + i) (.lst (ws.map D.int)) = tst A (tbl.set i ws) := by
  unfold tst
  rw [List.set_append_right _ _ (by omega)]
  have : A.length + 1 + i - A.length = i + 1 := by omega
  rw [this, List.set_cons_succ, List.length_set, List.map_set]
theorem tst_len : (tst A tbl).length = A.length + 1 + tbl.length := by
  unfold tst
  simp
  omega
theorem tst_app (ws : List Int) : (tst A tbl ++ [Cell.lst (ws.map D.int)]).set A.length (Cell.lst (((List.range tbl.length).map fun i => D.loc (A.length + 1 + i)) ++ [D.loc (A.length + 1 + tbl.length)])) = tst A (tbl ++ [ws]) := by
  unfold tst
  rw [List.append_assoc, List.set_append_right _ _ (by omega)]
  simp [List.range_succ]
theorem tst_clean {S : Store} {c : Nat} {is : List Int} {d : D} (h : d.pure = true) : clean S d (tst (S.set c (.lst (is.map D.int))) tbl) = .ok d (S.set c (.lst (is.map D.int))) := clean_set h (underL_ints _ _)
end
/-- the rows of a table as they are drawn -/
def RowOk (many : Nat) (ws : List Int) : Prop := ws.length = many ∧ ∀ w, w ∈ ws → 0 ≤ w ∧ w ≤ 3
section
variable {ns : List Int} {c L : Nat} {most st : D} {many : Nat}
def menv (ns : List Int) (c : Nat) (most : D) (many : Nat) (st : D) (L : Nat) (x y : Option D) : Env := [some (.scr ns), some (.loc c), some most, some (.int many), some st, some (.loc L), x, y, none]
def body1 : St := (.seq (.expr (.app (.var 5) (.comp .range (.acons (.var 3) .anil) (.name 7) [7] false .none (.call 7 (.acons (.var 0) (.acons (.var 1) (.acons (.int 4) .anil)))) true)))
    (.skip))
theorem step1 {F : Nat → List D → Store → R D} (hF : F 7 = G_law_draw) (hns : ns.length ≤ 1000000) {A : Store} {tbl : List (List Int)} {N : Nat} (hS : Stt c N A) (hm : many ≤ 1000) (hN : N + 2 * many + 2 < 1000000) (ht : tbl.length ≤ 1000) (x : D) :
    ∃ ws is : List Int, RowOk many ws ∧ is.length ≤ N + 2 * many ∧ ex F body1 (menv ns c most many st A.length (some x) none) (tst A tbl) = .nx (menv ns c most many st A.length (some x) none) (tst (A.set c (.lst (is.map D.int))) (tbl ++ [ws])) := by
  have hc : c < A.length := by obtain ⟨_, h, _⟩ := hS; exact lt_of_get h
  have hS' : Stt c N (tst A tbl) := by
    obtain ⟨is, h1, h2⟩ := hS
    exact ⟨is, by rw [tst_c hc]; exact h1, h2⟩
  obtain ⟨ws, is, hl, hw, hi, hd⟩ := draws_ok (i := 7) (own := [7]) (m := 4) (ρ := menv ns c most many st A.length (some x) none) hns hF (by decide) (fun _ => rfl) (fun _ => rfl) ((List.range many).map fun (k : Nat) => D.int (k : Int)) (tst A tbl) N hS' (by simp; omega)
  rw [List.length_map, List.length_range] at hl hi
  refine ⟨ws, is, ⟨hl, fun w h => by have := hw w h; omega⟩, hi, ?_⟩
  rw [tst_setc hc] at hd
  have hcomp : ev F (.comp .range (.acons (.var 3) .anil) (.name 7) [7] false .none (.call 7 (.acons (.var 0) (.acons (.var 1) (.acons (.int 4) .anil)))) true) (menv ns c most many st A.length (some x) none) (tst A tbl) = .ok (.loc (A.length + 1 + tbl.length)) (tst (A.set c (.lst (is.map D.int))) tbl ++ [.lst (ws.map D.int)]) := by
    have hsrc : ev F (.acons (.var 3) .anil) (menv ns c most many st A.length (some x) none) (tst A tbl) = .ok (.tup [.int many]) (tst A tbl) := by simp [menv]
    rw [ev_comp_p, hsrc, bind_ok, compD_walk (walk_range_p (by omega)), hd, few_ok, bind_ok, newL_t (by simp; omega), tst_len, List.length_set]
  have hL : (tst A tbl)[A.length]? = some (.lst ((List.range tbl.length).map fun i => D.loc (A.length + 1 + i))) := tst_L
  have hL2 : (tst (A.set c (.lst (is.map D.int))) tbl ++ [.lst (ws.map D.int)])[A.length]? = some (.lst ((List.range tbl.length).map fun i => D.loc (A.length + 1 + i))) := by
    have := tst_L (A := A.set c (.lst (is.map D.int))) (tbl := tbl)
    rw [List.length_set] at this
    rw [List.getElem?_append_left (by rw [tst_len, List.length_set]; omega)]
    exact this
  have happ := app_loc hL2 (by simp; omega) (.loc (A.length + 1 + tbl.length))
  have h5 := tst_app (A := A.set c (.lst (is.map D.int))) (tbl := tbl) ws
  rw [List.length_set] at h5
  rw [h5] at happ
  have hv : ev F (.var 5) (menv ns c most many st A.length (some x) none) (tst A tbl) = .ok (.loc A.length) (tst A tbl) := rfl
  unfold body1
  rw [ex_seq, ex_expr, ev_app, hv, bind_ok, appG_loc hL, hcomp, bind_ok, happ]
  rfl
theorem loop1 {F : Nat → List D → Store → R D} (hF : F 7 = G_law_draw) (hns : ns.length ≤ 1000000) (hm : many ≤ 1000) : ∀ (l : List D) (A : Store) (tbl : List (List Int)) (N : Nat) (x : Option D), Stt c N A → N + l.length * (2 * many) + 2 < 1000000 → tbl.length + l.length ≤ 1000 → (∀ ws, ws ∈ tbl → RowOk many ws) →
    ∃ (tbl' : List (List Int)) (is : List Int) (y : Option D), tbl'.length = tbl.length + l.length ∧ (∀ ws, ws ∈ tbl' → RowOk many ws) ∧ is.length ≤ N + l.length * (2 * many) ∧ forR (.name 6) (ex F body1) [] l (menv ns c most many st A.length x none) (tst A tbl) = .nx (menv ns c most many st A.length y none) (tst (A.set c (.lst (is.map D.int))) tbl')
  | [], A, tbl, N, x, hS, _, _, ht => by
    obtain ⟨is, h1, h2⟩ := hS
    refine ⟨tbl, is, x, rfl, ht, by simpa using h2, ?_⟩
    have : A.set c (.lst (is.map D.int)) = A := by
      apply List.ext_getElem?
      intro j
      by_cases hj : c = j
      · subst hj
        rw [get_set h1, h1]
      · rw [List.getElem?_set_ne hj]
    rw [this]
    rfl
  | d :: l, A, tbl, N, x, hS, hN, hl, ht => by
    have e : (l.length + 1) * (2 * many) = l.length * (2 * many) + 2 * many := Nat.succ_mul _ _
    rw [List.length_cons] at hN hl
    rw [e] at hN
    obtain ⟨ws, is, hr, hi, he⟩ := step1 (most := most) (st := st) hF hns hS hm (by omega) (tbl := tbl) (by omega) d
    obtain ⟨tbl', js, y, h1, h2, h3, h4⟩ := loop1 hF hns hm l (A.set c (.lst (is.map D.int))) (tbl ++ [ws]) (N + 2 * many) (some d) (set_stt hS hi) (by omega) (by simp; omega) (fun v hv => by
      rcases List.mem_append.mp hv with hv | hv
      · exact ht v hv
      · simp at hv; subst hv; exact hr)
    refine ⟨tbl', js, y, by simp at h1 ⊢; omega, h2, by rw [List.length_cons, e]; omega, ?_⟩
    rw [List.set_set, List.length_set] at h4
    rw [forR_cons]
    have : (menv ns c most many st A.length x none).set 6 (some d) = menv ns c most many st A.length (some d) none := rfl
    rw [this, he, seq_nx, h4]
def Pos (ws : List Int) : Prop := ∃ w, w ∈ ws ∧ 0 < w
theorem sum_nonneg {ws : List Int} (h : ∀ w, w ∈ ws → 0 ≤ w) : 0 ≤ ws.sum := by
  induction ws with
  | nil => simp
  | cons x l ih =>
    have h1 := h x List.mem_cons_self
    have h2 := ih fun w hw => h w (List.mem_cons_of_mem _ hw)
    simp only [List.sum_cons]; omega
theorem sum_pos {ws : List Int} (h : ∀ w, w ∈ ws → 0 ≤ w) (hp : Pos ws) : 0 < ws.sum := by
  induction ws with
  | nil => obtain ⟨w, hw, _⟩ := hp; cases hw
  | cons x l ih =>
    have h1 := h x List.mem_cons_self
    have h2 := sum_nonneg fun w hw => h w (List.mem_cons_of_mem _ hw)
    obtain ⟨w, hw, hw2⟩ := hp
    simp only [List.sum_cons]
    rcases List.mem_cons.mp hw with rfl | hw
    · omega
    · have := ih (fun w hw => h w (List.mem_cons_of_mem _ hw)) ⟨w, hw, hw2⟩
      omega
theorem pos_of_sum {ws : List Int} (h : ∀ w, w ∈ ws → 0 ≤ w) (hs : ws.sum ≠ 0) : Pos ws := by
  induction ws with
  | nil => simp at hs
  | cons x l ih =>
    have h1 := h x List.mem_cons_self
    by_cases hx : x = 0
    · subst hx
      obtain ⟨w, hw, hw2⟩ := ih (fun w hw => h w (List.mem_cons_of_mem _ hw)) (by simpa using hs)
      exact ⟨w, List.mem_cons_of_mem _ hw, hw2⟩
    · exact ⟨x, List.mem_cons_self, by omega⟩
theorem sum_le {ws : List Int} (h : ∀ w, w ∈ ws → 0 ≤ w ∧ w ≤ 3) : ws.sum ≤ 3 * ws.length := by
  induction ws with
  | nil => simp
  | cons x l ih =>
    have h1 := h x List.mem_cons_self
    have h2 := ih fun w hw => h w (List.mem_cons_of_mem _ hw)
    simp only [List.sum_cons, List.length_cons]; omega
theorem sum_loc {S : Store} {n : Nat} {ws : List Int} {m : Bool} (h : S[n]? = some (.lst (ws.map D.int))) : biD m .sum [.loc n] S = .ok (.int ws.sum) S := by
  simp only [biD, list_loc h, Option.bind_some, allInt_ints]
theorem rowok_set {ws : List Int} {k : Nat} {v : Int} (h : RowOk many ws) (hv : 0 ≤ v ∧ v ≤ 3) : RowOk many (ws.set k v) := by
  refine ⟨by rw [List.length_set]; exact h.1, fun w hw => ?_⟩
  rcases List.mem_or_eq_of_mem_set hw with hw | rfl
  · exact h.2 w hw
  · exact hv
theorem rows_set {tbl : List (List Int)} {k : Nat} {ws : List Int} {P : List Int → Prop} (h : ∀ v, v ∈ tbl → P v) (hw : P ws) : ∀ v, v ∈ tbl.set k ws → P v := fun v hv => by
  rcases List.mem_or_eq_of_mem_set hv with hv | rfl
  · exact h v hv
  · exact hw
def body2 : St := (.seq (.ifs (.cmp .eq (.bi .sum false (.acons (.idx (.var 5) (.var 6)) .anil)) (.int 0))
    (.seq (.setI (.idx (.var 5) (.var 6)) (.int 0) (.int 1))
    (.skip))
    (.skip))
    (.skip))
theorem idx_row {A : Store} {tbl : List (List Int)} {k : Nat} (h : k < tbl.length) : idxD (.loc A.length) (.int k) (tst A tbl) = some (.loc (A.length + 1 + k)) := by
  rw [idx_loc tst_L, atI_nat, List.getElem?_map, List.getElem?_range h]; rfl
theorem step2 {F : Nat → List D → Store → R D} {A : Store} {tbl : List (List Int)} {k : Nat} (hk : k < tbl.length) (hr : 0 < tbl[k].length) (z : Option D) : ex F body2 (menv ns c most many st A.length (some (.int k)) z) (tst A tbl) = .nx (menv ns c most many st A.length (some (.int k)) z) (tst A (if tbl[k].sum = 0 then tbl.set k (tbl[k].set 0 1) else tbl)) := by
  have hrow := tst_row (A := A) hk
  have hidx := idx_row (A := A) hk
  have hsum := sum_loc (m := false) hrow
  have hset : setS (.loc (A.length + 1 + k)) (.int 0) (.int 1) (tst A tbl) = _ := setS_loc hrow (k := 0) (j := 0) (by simpa using hr) (.int 1)
  rw [show (tbl[k].map D.int).set 0 (.int 1) = (tbl[k].set 0 1).map D.int by rw [List.map_set], tst_setrow hk] at hset
  by_cases h0 : tbl[k].sum = 0
  · simp [body2, menv, hidx, hsum, h0, hset]
  · simp [body2, menv, hidx, hsum, h0]
theorem loop2 {F : Nat → List D → Store → R D} {A : Store} (hm : 1 ≤ many) : ∀ (l : List Nat) (tbl : List (List Int)) (x : Option D), (∀ k, k ∈ l → k < tbl.length) → (∀ ws, ws ∈ tbl → RowOk many ws) → (∀ i (h : i < tbl.length), i ∉ l → Pos tbl[i]) →
    ∃ (tbl' : List (List Int)) (y : Option D), tbl'.length = tbl.length ∧ (∀ ws, ws ∈ tbl' → RowOk many ws) ∧ (∀ ws, ws ∈ tbl' → Pos ws) ∧ forR (.name 6) (ex F body2) [] (l.map fun (k : Nat) => D.int (k : Int)) (menv ns c most many st A.length x none) (tst A tbl) = .nx (menv ns c most many st A.length y none) (tst A tbl')
  | [], tbl, x, _, h1, h2 => by
    refine ⟨tbl, x, rfl, h1, fun ws hws => ?_, rfl⟩
    obtain ⟨i, hi, rfl⟩ := List.mem_iff_getElem.mp hws
    exact h2 i hi (by simp)
  | k :: l, tbl, x, hl, h1, h2 => by
    have hk := hl k List.mem_cons_self
    have hrk := h1 _ (List.getElem_mem hk)
    have he := step2 (ns := ns) (c := c) (most := most) (st := st) (many := many) (F := F) (A := A) hk (by rw [hrk.1]; omega) none
    have hlen : (if tbl[k].sum = 0 then tbl.set k (tbl[k].set 0 1) else tbl).length = tbl.length := by split <;> simp
    obtain ⟨tbl', y, h4, h5, h6, h7⟩ := loop2 (F := F) (A := A) hm l (if tbl[k].sum = 0 then tbl.set k (tbl[k].set 0 1) else tbl) (some (.int k)) (fun j hj => by rw [hlen]; exact hl j (List.mem_cons_of_mem _ hj)) (by
      split
      · exact rows_set h1 (rowok_set hrk (by decide))
      · exact h1) (fun i hi hil => by
      split
      · by_cases hik : i = k
        · subst hik
          rw [List.getElem_set_self]
          exact ⟨1, List.mem_iff_getElem.mpr ⟨0, by simp; rw [hrk.1]; omega, by simp⟩, by decide⟩
        · rw [List.getElem_set_ne (by omega)]
          exact h2 i (by rw [hlen] at hi; exact hi) (by simp [hik, hil])
      · rename_i hs
        by_cases hik : i = k
        · subst hik
          exact pos_of_sum (fun w hw => (hrk.2 w hw).1) hs
        · exact h2 i (by rw [hlen] at hi; exact hi) (by simp [hik, hil]))
    refine ⟨tbl', y, by omega, h5, h6, ?_⟩
    rw [List.map_cons, forR_cons]
    have : (menv ns c most many st A.length x none).set 6 (some (.int k)) = menv ns c most many st A.length (some (.int k)) none := rfl
    rw [this, he, seq_nx, h7]
end
end PV
end
section
set_option linter.all false
set_option maxRecDepth 100000
namespace PV
open PySem (Str)
section
variable {ns : List Int} {c L : Nat} {most st : D} {many : Nat} {A : Store} {tbl : List (List Int)}
/-- at a column -/
def at0 (s : Nat) (ws : List Int) : Int := ws[s]?.getD 0
def body3 : St := (.seq (.ifs (.cmp .eq (.comp .seq (.acons (.var 5) .anil) (.name 8) [8] true (.cmp .gt (.idx (.var 8) (.var 7)) (.int 0)) (.var 8) false) (.lst false .anil))
    (.seq (.setI (.idx (.var 5) (.int 0)) (.var 7) (.int 2))
    (.skip))
    (.skip))
    (.skip))
theorem pure_ints (l : List Int) : D.pureL (l.map D.int) = true := pureL_of fun x hx => by
  obtain ⟨w, _, rfl⟩ := List.mem_map.mp hx; rfl
theorem frz_locs : ∀ (l : List Nat), (∀ i, i ∈ l → i < tbl.length) → D.frz1L 0 (tst A tbl) (D.frzL 0 (tst A tbl) 3) (l.map fun i => D.loc (A.length + 1 + i)) = l.map fun i => D.lst (((tbl[i]?).getD []).map D.int)
  | [], _ => rfl
  | i :: l, h => by
    have hi := h i List.mem_cons_self
    rw [List.map_cons, List.map_cons]
    show D.frz1 0 (tst A tbl) (D.frzL 0 (tst A tbl) 3) (.loc (A.length + 1 + i)) :: _ = _
    rw [frz_locs l fun j hj => h j (List.mem_cons_of_mem _ hj)]
    have : D.frz1 0 (tst A tbl) (D.frzL 0 (tst A tbl) 3) (.loc (A.length + 1 + i)) = D.lst (((tbl[i]?).getD []).map D.int) := by
      show (if 0 ≤ A.length + 1 + i then (match (tst A tbl)[A.length + 1 + i]? with | some (.lst xs) => D.lst (D.frzL 0 (tst A tbl) 3 xs) | _ => .loc (A.length + 1 + i)) else .loc (A.length + 1 + i)) = _
      rw [if_pos (Nat.zero_le _), tst_row hi]
      show D.lst (D.frz1L 0 (tst A tbl) (D.frzL 0 (tst A tbl) 2) (tbl[i].map D.int)) = _
      rw [frz_pureL (pure_ints _), List.getElem?_eq_getElem hi]; rfl
    rw [this]
theorem eq_locs (l : List Nat) (h : ∀ i, i ∈ l → i < tbl.length) : cmpD .eq (.lst (l.map fun i => D.loc (A.length + 1 + i))) (.lst []) (tst A tbl) = some l.isEmpty := by
  have e : D.frz 0 (tst A tbl) 3 (.lst (l.map fun i => D.loc (A.length + 1 + i))) = .lst (l.map fun i => D.lst (((tbl[i]?).getD []).map D.int)) := by
    show D.lst (D.frz1L 0 (tst A tbl) (D.frzL 0 (tst A tbl) 3) (l.map fun i => D.loc (A.length + 1 + i))) = _
    rw [frz_locs l h]
  show (if deepOk (D.frz 0 (tst A tbl) 3 (.lst (l.map fun i => D.loc (A.length + 1 + i)))) && deepOk (D.frz 0 (tst A tbl) 3 (.lst [])) then some (D.eqv (D.frz 0 (tst A tbl) 3 (.lst (l.map fun i => D.loc (A.length + 1 + i)))) (D.frz 0 (tst A tbl) 3 (.lst []))) else none) = _
  rw [e, show D.frz 0 (tst A tbl) 3 (.lst []) = .lst [] from rfl]
  have h1 : deepOk (.lst (l.map fun i => D.lst (((tbl[i]?).getD []).map D.int))) = true := by
    unfold deepOk
    rw [Bool.and_eq_true]
    constructor
    · refine flatL_of fun x hx => ?_
      obtain ⟨i, _, rfl⟩ := List.mem_map.mp hx
      exact flatL_of fun y hy => by obtain ⟨w, _, rfl⟩ := List.mem_map.mp hy; rfl
    · refine decide_eq_true ?_
      simp only [D.dep]
      have : D.depL (l.map fun i => D.lst (((tbl[i]?).getD []).map D.int)) ≤ 1 := depL_le fun x hx => by
        obtain ⟨i, _, rfl⟩ := List.mem_map.mp hx
        simp only [D.dep]
        have : D.depL (((tbl[i]?).getD []).map D.int) ≤ 0 := depL_le fun y hy => by obtain ⟨w, _, rfl⟩ := List.mem_map.mp hy; exact Nat.le_refl _
        omega
      omega
  rw [h1, show deepOk (.lst []) = true from rfl]
  cases l <;> rfl
theorem step3 {F : Nat → List D → Store → R D} {s : Nat} (hs : s < many) (hr : ∀ ws, ws ∈ tbl → RowOk many ws) (ht : 0 < tbl.length) (htl : tbl.length ≤ 1000) (x : Option D) : ex F body3 (menv ns c most many st A.length x (some (.int s))) (tst A tbl) = .nx (menv ns c most many st A.length x (some (.int s))) (tst A (if tbl.all (fun ws => decide (at0 s ws ≤ 0)) then tbl.set 0 ((tbl[0]).set s 2) else tbl)) := by
  have hL := tst_L (A := A) (tbl := tbl)
  have hc : ev F (.comp .seq (.acons (.var 5) .anil) (.name 8) [8] true (.cmp .gt (.idx (.var 8) (.var 7)) (.int 0)) (.var 8) false) (menv ns c most many st A.length x (some (.int s))) (tst A tbl) = _ :=
    comp_filterGE (as := [.loc A.length]) (l := List.range tbl.length) (t := fun i => D.loc (A.length + 1 + i)) (h := fun i => D.loc (A.length + 1 + i)) (p := fun i => decide (0 < at0 s ((tbl[i]?).getD []))) rfl (walk_loc hL) (guard_loc hL) (en := fun i => [some (.scr ns), some (.loc c), some most, some (.int many), some st, some (.loc A.length), x, some (.int s), some (.loc (A.length + 1 + i))]) (fun _ _ => rfl) (fun i hi => by
      have hi' : i < tbl.length := List.mem_range.mp hi
      have hrow := tst_row (A := A) hi'
      have hlen : s < (tbl[i]).length := by rw [(hr _ (List.getElem_mem hi')).1]; exact hs
      have hx : idxD (.loc (A.length + 1 + i)) (.int s) (tst A tbl) = some (.int (at0 s ((tbl[i]?).getD []))) := by
        rw [idx_loc hrow, atI_nat, List.getElem?_map, List.getElem?_eq_getElem hlen, List.getElem?_eq_getElem hi']
        simp [at0, hlen]
      simp [evT_eq, hx]) (fun _ _ _ => rfl)
  rw [newL_f (by have := List.length_filter_le (fun i => decide (0 < at0 s ((tbl[i]?).getD []))) (List.range tbl.length); simp at this ⊢; omega)] at hc
  have he := eq_locs (A := A) (tbl := tbl) ((List.range tbl.length).filter fun i => decide (0 < at0 s ((tbl[i]?).getD []))) (fun i hi => List.mem_range.mp (List.mem_filter.mp hi).1)
  have hiff : ((List.range tbl.length).filter fun i => decide (0 < at0 s ((tbl[i]?).getD []))).isEmpty = tbl.all (fun ws => decide (at0 s ws ≤ 0)) := by
    rw [Bool.eq_iff_iff, List.isEmpty_iff, List.filter_eq_nil_iff, List.all_eq_true]
    constructor
    · intro h ws hws
      obtain ⟨i, hi, rfl⟩ := List.mem_iff_getElem.mp hws
      have := h i (List.mem_range.mpr hi)
      rw [List.getElem?_eq_getElem hi] at this
      simp at this ⊢
      omega
    · intro h i hi
      have hi' := List.mem_range.mp hi
      have := h _ (List.getElem_mem hi')
      rw [List.getElem?_eq_getElem hi']
      simp at this ⊢
      omega
  rw [hiff] at he
  have hidx : idxD (.loc A.length) (.int 0) (tst A tbl) = some (.loc (A.length + 1 + 0)) := idx_row (k := 0) ht
  have hrow := tst_row (A := A) ht
  have hset : setS (.loc (A.length + 1 + 0)) (.int s) (.int 2) (tst A tbl) = _ := setS_loc hrow (k := s) (j := 0) (by rw [List.length_map, (hr _ (List.getElem_mem ht)).1]; exact hs) (.int 2)
  rw [show (tbl[0].map D.int).set s (.int 2) = (tbl[0].set s 2).map D.int by rw [List.map_set], tst_setrow ht] at hset
  have h7 : ev F (.var 7) (menv ns c most many st A.length x (some (.int s))) (tst A tbl) = .ok (.int s) (tst A tbl) := rfl
  have h5 : ev F (.var 5) (menv ns c most many st A.length x (some (.int s))) (tst A tbl) = .ok (.loc A.length) (tst A tbl) := rfl
  cases hb : tbl.all (fun ws => decide (at0 s ws ≤ 0)) with
  | true =>
    rw [hb] at he
    unfold body3
    rw [ex_seq, ex_ifs, ev_cmp, hc, bind_ok]
    simp only [ev_lst, ev_anil, bind_ok, lstD_tup, newL_fs, List.length_nil, Nat.zero_le, if_true]
    rw [he]
    simp only [Option.map_some, ofOpt_some, bind_ok, truth_bool, toS_ok, if_true, ex_seq, ex_setI, ev_int, ev_idx, h5, h7, hidx, hset, seq_nx, ex_skip]
  | false =>
    rw [hb] at he
    unfold body3
    rw [ex_seq, ex_ifs, ev_cmp, hc, bind_ok]
    simp only [ev_lst, ev_anil, bind_ok, lstD_tup, newL_fs, List.length_nil, Nat.zero_le, if_true]
    rw [he]
    simp
theorem loop3 {F : Nat → List D → Store → R D} : ∀ (l : List Nat) (tbl : List (List Int)) (x y : Option D), (∀ s, s ∈ l → s < many) → 0 < tbl.length → tbl.length ≤ 1000 → (∀ ws, ws ∈ tbl → RowOk many ws) → (∀ ws, ws ∈ tbl → Pos ws) → (∀ s, s < many → s ∉ l → ∃ ws, ws ∈ tbl ∧ 0 < at0 s ws) →
    ∃ (tbl' : List (List Int)) (z : Option D), tbl'.length = tbl.length ∧ (∀ ws, ws ∈ tbl' → RowOk many ws) ∧ (∀ ws, ws ∈ tbl' → Pos ws) ∧ (∀ s, s < many → ∃ ws, ws ∈ tbl' ∧ 0 < at0 s ws) ∧ forR (.name 7) (ex F body3) [] (l.map fun (k : Nat) => D.int (k : Int)) (menv ns c most many st A.length x y) (tst A tbl) = .nx (menv ns c most many st A.length x z) (tst A tbl')
  | [], tbl, x, y, _, _, _, h1, h2, h3 => ⟨tbl, y, rfl, h1, h2, fun s hs => h3 s hs (by simp), rfl⟩
  | k :: l, tbl, x, y, hl, ht, htl, h1, h2, h3 => by
    have hk := hl k List.mem_cons_self
    have he := step3 (ns := ns) (c := c) (most := most) (st := st) (F := F) (A := A) hk h1 ht htl x
    have hlen : (if tbl.all (fun ws => decide (at0 k ws ≤ 0)) then tbl.set 0 ((tbl[0]).set k 2) else tbl).length = tbl.length := by split <;> simp
    have h0 := h1 _ (List.getElem_mem ht)
    have hk0 : k < tbl[0].length := by rw [h0.1]; exact hk
    obtain ⟨tbl', z, h4, h5, h6, h7, h8⟩ := loop3 (F := F) l (if tbl.all (fun ws => decide (at0 k ws ≤ 0)) then tbl.set 0 ((tbl[0]).set k 2) else tbl) x (some (.int k)) (fun j hj => hl j (List.mem_cons_of_mem _ hj)) (by omega) (by omega) (by
      split
      · exact rows_set h1 (rowok_set h0 (by decide))
      · exact h1) (by
      split
      · exact rows_set h2 ⟨2, List.mem_iff_getElem.mpr ⟨k, by simpa using hk0, by simp⟩, by decide⟩
      · exact h2) (fun s hs hsl => by
      split
      · rename_i hall
        by_cases hsk : s = k
        · subst hsk
          exact ⟨(tbl[0]).set s 2, List.mem_iff_getElem.mpr ⟨0, by simpa using ht, by simp⟩, by simp [at0, hk0]⟩
        · obtain ⟨ws, hws, hpos⟩ := h3 s hs (by simp [hsk, hsl])
          obtain ⟨i, hi, rfl⟩ := List.mem_iff_getElem.mp hws
          by_cases hi0 : i = 0
          · subst hi0
            refine ⟨(tbl[0]).set k 2, List.mem_iff_getElem.mpr ⟨0, by simpa using ht, by simp⟩, ?_⟩
            unfold at0
            rw [List.getElem?_set_ne (by omega)]
            exact hpos
          · exact ⟨tbl[i], List.mem_iff_getElem.mpr ⟨i, by simpa using hi, by rw [List.getElem_set_ne (by omega)]⟩, hpos⟩
      · rename_i hall
        by_cases hsk : s = k
        · subst hsk
          rw [Bool.not_eq_true, List.all_eq_false] at hall
          obtain ⟨ws, hws, hn⟩ := hall
          exact ⟨ws, hws, by simp at hn; omega⟩
        · exact h3 s hs (by simp [hsk, hsl]))
    refine ⟨tbl', z, by omega, h5, h6, h7, ?_⟩
    rw [List.map_cons, forR_cons]
    have : (menv ns c most many st A.length x y).set 7 (some (.int k)) = menv ns c most many st A.length x (some (.int k)) := rfl
    rw [this, he, seq_nx, h8]
end
end PV
end
section
set_option linter.all false
set_option maxRecDepth 100000
namespace PV
open PySem (Str)
def spr (ws : List Int) : D := .tup (ws.map fun w => fr (Rat.divInt w ws.sum))
theorem spr_pure (ws : List Int) : (spr ws).pure = true := pureL_of fun x hx => by obtain ⟨w, _, rfl⟩ := List.mem_map.mp hx; rfl
theorem spread_ok {S : Store} {n many : Nat} {ws : List Int} (h : S[n]? = some (.lst (ws.map D.int))) (hr : RowOk many ws) (hm : many ≤ 1000) (hp : Pos ws) : G_law_spread [.loc n] S = .ok (spr ws) S := by
  refine runF_pure rfl (spr_pure ws) ?_
  have hsum := sum_loc (m := false) h
  have h1 := sum_pos (fun w hw => (hr.2 w hw).1) hp
  have h2 := sum_le hr.2
  rw [hr.1] at h2
  have hF : FOf L_law_spread 10 = G_law_fraction := rfl
  have hc : ev (FOf L_law_spread) (.comp .seq (.acons (.var 0) .anil) (.name 1) [1] false .none (.call 10 (.acons (.var 1) (.acons (.bi .sum false (.acons (.var 0) .anil)) .anil))) false) [some (.loc n), none] S = _ :=
    comp_mapGE (as := [.loc n]) (l := ws) (t := D.int) (h := fun w => fr (Rat.divInt w ws.sum)) rfl (walk_loc h) (guard_loc h) (en := fun w => [some (.loc n), some (.int w)]) (fun _ _ => rfl) (fun w hw => by
      have h3 := hr.2 w hw
      have hf := law_fraction_ok (t := w) (b := ws.sum) (n := 12) (m := 12) (by omega) (by omega) (by decide) (by omega) (by decide) S
      simp [hsum, hF, hf])
  rw [newL_f (by rw [List.length_map, hr.1]; omega)] at hc
  simp [f_law_spread, startE, hc, spr, -ev_comp_p]
/-- what a drawn table is -/
structure TblOk (most : Nat) (tbl : List (List Int)) : Prop where
  two : 2 ≤ tbl.length ∧ tbl.length ≤ 3
  wide : ∃ many, 1 ≤ many ∧ many ≤ most ∧ (∀ ws, ws ∈ tbl → RowOk many ws) ∧ (∀ s, s < many → ∃ ws, ws ∈ tbl ∧ 0 < at0 s ws)
  pos : ∀ ws, ws ∈ tbl → Pos ws
def modelD (tbl : List (List Int)) : D := .tup (tbl.map spr)
theorem modelD_pure (tbl : List (List Int)) : (modelD tbl).pure = true := pureL_of fun x hx => by obtain ⟨w, _, rfl⟩ := List.mem_map.mp hx; exact spr_pure _
theorem model_ok {ns : List Int} (hns : ns.length ≤ 1000000) {S : Store} {c N most : Nat} (hS : Stt c N S) (hm : 1 ≤ most) (hm2 : most ≤ 100) (hN : N + 1000 < 1000000) :
    ∃ (tbl : List (List Int)) (is : List Int), TblOk most tbl ∧ is.length ≤ N + 4 + 6 * most ∧ G_law_model [.scr ns, .loc c, .int most] S = .ok (modelD tbl) (S.set c (.lst (is.map D.int))) := by
  have hF7 : FOf L_law_model 7 = G_law_draw := rfl
  have hF13 : FOf L_law_model 13 = G_law_spread := rfl
  obtain ⟨r1, i1, hr1, hi1, hd1⟩ := draw_ok (m := (most : Int)) hS hns (by omega) (by omega)
  obtain ⟨r2, i2, hr2, hi2, hd2⟩ := draw_ok (m := 2) (set_stt hS hi1) hns (by decide) (by omega)
  rw [List.set_set] at hd2
  obtain ⟨a, rfl⟩ : ∃ a : Nat, r1 = a := ⟨r1.toNat, by omega⟩
  obtain ⟨b, rfl⟩ : ∃ b : Nat, r2 = b := ⟨r2.toNat, by omega⟩
  have ea : (1 : Int) + a = ((1 + a : Nat) : Int) := by omega
  have eb : (2 : Int) + b = ((2 + b : Nat) : Int) := by omega
  have hS2 : Stt c (N + 4) (S.set c (.lst (i2.map D.int))) := set_stt hS hi2
  -- the first loop
  obtain ⟨t1, i3, y1, hl1, hr1', hi3, hfor1⟩ := loop1 (most := .int most) (st := .int ((2 + b : Nat) : Int)) (many := 1 + a) hF7 hns (by omega) ((List.range (2 + b)).map fun (k : Nat) => D.int (k : Int)) (S.set c (.lst (i2.map D.int))) [] (N + 4) none hS2 (by rw [List.length_map, List.length_range]; have : (2 + b) * (2 * (1 + a)) ≤ 3 * 200 := Nat.mul_le_mul (by omega) (by omega); omega) (by simp; omega) (fun ws h => by cases h)
  rw [List.length_map, List.length_range] at hl1 hi3
  rw [List.set_set, List.length_set] at hfor1
  have hl1 : t1.length = 2 + b := by simpa using hl1
  -- the second
  obtain ⟨t2, y2, hl2, hr2', hp2, hfor2⟩ := loop2 (ns := ns) (c := c) (most := .int most) (st := .int ((2 + b : Nat) : Int)) (many := 1 + a) (F := FOf L_law_model) (A := S.set c (.lst (i3.map D.int))) (by omega) (List.range (2 + b)) t1 y1 (fun k hk => by rw [hl1]; exact List.mem_range.mp hk) hr1' (fun i hi hn => absurd (List.mem_range.mpr (by omega)) hn)
  rw [List.length_set] at hfor2
  -- the third
  obtain ⟨t3, z3, hl3, hr3', hp3, hc3, hfor3⟩ := loop3 (ns := ns) (c := c) (most := .int most) (st := .int ((2 + b : Nat) : Int)) (many := 1 + a) (F := FOf L_law_model) (A := S.set c (.lst (i3.map D.int))) (List.range (1 + a)) t2 y2 none (fun s hs => List.mem_range.mp hs) (by omega) (by omega) hr2' hp2 (fun s hs hn => absurd (List.mem_range.mpr hs) hn)
  rw [List.length_set] at hfor3
  refine ⟨t3, i3, ⟨by omega, ⟨1 + a, by omega, by omega, hr3', hc3⟩, hp3⟩, ?_, ?_⟩
  · have : (2 + b) * (2 * (1 + a)) ≤ 3 * (2 * most) := Nat.mul_le_mul (by omega) (by omega)
    omega
  · rw [G_law_model, runF_ret (d := modelD t3) (S1 := tst (S.set c (.lst (i3.map D.int))) t3) rfl, tst_clean (modelD_pure _)]
    have hL := tst_L (A := S.set c (.lst (i3.map D.int))) (tbl := t3)
    rw [List.length_set] at hL
    have hcomp : ev (FOf L_law_model) (.comp .seq (.acons (.var 5) .anil) (.name 8) [8] false .none (.call 13 (.acons (.var 8) .anil)) false) (menv ns c (.int most) (1 + a) (.int ((2 + b : Nat) : Int)) S.length y2 z3) (tst (S.set c (.lst (i3.map D.int))) t3) = _ :=
      comp_mapGE (as := [.loc S.length]) (l := List.range t3.length) (t := fun i => D.loc (S.length + 1 + i)) (h := fun i => spr ((t3[i]?).getD [])) rfl (walk_loc hL) (guard_loc hL) (en := fun i => [some (.scr ns), some (.loc c), some (.int most), some (.int ((1 + a : Nat) : Int)), some (.int ((2 + b : Nat) : Int)), some (.loc S.length), y2, z3, some (.loc (S.length + 1 + i))]) (fun _ _ => rfl) (fun i hi => by
        have hi' : i < t3.length := List.mem_range.mp hi
        have hrow := tst_row (A := S.set c (.lst (i3.map D.int))) hi'
        rw [List.length_set] at hrow
        have hsp := spread_ok hrow (hr3' _ (List.getElem_mem hi')) (by omega) (hp3 _ (List.getElem_mem hi'))
        rw [List.getElem?_eq_getElem hi']
        simp [hF13, hsp])
    rw [newL_f (by rw [List.length_map, List.length_range]; omega)] at hcomp
    have hmap : ((List.range t3.length).map fun i => spr ((t3[i]?).getD [])) = t3.map spr := by
      apply List.ext_getElem?
      intro j
      rw [List.getElem?_map, List.getElem?_map]
      by_cases hj : j < t3.length
      · rw [List.getElem?_range hj, List.getElem?_eq_getElem hj]
        simp [hj]
      · simp [hj]
    rw [hmap] at hcomp
    have hw1 := forS_range (F := FOf L_law_model) (ρ := menv ns c (.int most) (1 + a) (.int ((2 + b : Nat) : Int)) S.length none none) (S := tst (S.set c (.lst (i2.map D.int))) []) (n := 2 + b) (by omega) 6 body1
    rw [hfor1] at hw1
    have hw2 := forS_range (F := FOf L_law_model) (ρ := menv ns c (.int most) (1 + a) (.int ((2 + b : Nat) : Int)) S.length y1 none) (S := tst (S.set c (.lst (i3.map D.int))) t1) (n := 2 + b) (by omega) 6 body2
    rw [hfor2] at hw2
    have hw3 := forS_range (F := FOf L_law_model) (ρ := menv ns c (.int most) (1 + a) (.int ((2 + b : Nat) : Int)) S.length y2 none) (S := tst (S.set c (.lst (i3.map D.int))) t2) (n := 1 + a) (by omega) 7 body3
    rw [hfor3] at hw3
    show ex (FOf L_law_model) (.seq (.unp [3, 4] (.tup (.acons (.bin .add false (.int 1) (.call 7 (.acons (.var 0) (.acons (.var 1) (.acons (.var 2) .anil))))) (.acons (.bin .add false (.int 2) (.call 7 (.acons (.var 0) (.acons (.var 1) (.acons (.int 2) .anil))))) .anil))))
      (.seq (.set 5 (.lst true .anil))
      (.seq (.for_ .range (.acons (.var 4) .anil) (.name 6) body1)
      (.seq (.for_ .range (.acons (.var 4) .anil) (.name 6) body2)
      (.seq (.for_ .range (.acons (.var 3) .anil) (.name 7) body3)
      (.seq (.ret (.bi .tuple false (.acons (.comp .seq (.acons (.var 5) .anil) (.name 8) [8] false .none (.call 13 (.acons (.var 8) .anil)) false) .anil))) .skip)))))) [some (.scr ns), some (.loc c), some (.int most), none, none, none, none, none, none] S = _
    have s1 : ex (FOf L_law_model) (.unp [3, 4] (.tup (.acons (.bin .add false (.int 1) (.call 7 (.acons (.var 0) (.acons (.var 1) (.acons (.var 2) .anil))))) (.acons (.bin .add false (.int 2) (.call 7 (.acons (.var 0) (.acons (.var 1) (.acons (.int 2) .anil))))) .anil)))) [some (.scr ns), some (.loc c), some (.int most), none, none, none, none, none, none] S = .nx [some (.scr ns), some (.loc c), some (.int most), some (.int ((1 + a : Nat) : Int)), some (.int ((2 + b : Nat) : Int)), none, none, none, none] (S.set c (.lst (i2.map D.int))) := by
      rw [← ea, ← eb]
      simp [hF7, hd1, hd2]
    have s2 : ex (FOf L_law_model) (.set 5 (.lst true .anil)) [some (.scr ns), some (.loc c), some (.int most), some (.int ((1 + a : Nat) : Int)), some (.int ((2 + b : Nat) : Int)), none, none, none, none] (S.set c (.lst (i2.map D.int))) = .nx (menv ns c (.int most) (1 + a) (.int ((2 + b : Nat) : Int)) S.length none none) (tst (S.set c (.lst (i2.map D.int))) []) := by
      simp [menv, tst]
    have v4 : ∀ x y (T : Store), ev (FOf L_law_model) (.acons (.var 4) .anil) (menv ns c (.int most) (1 + a) (.int ((2 + b : Nat) : Int)) S.length x y) T = .ok (.tup [.int ((2 + b : Nat) : Int)]) T := fun _ _ _ => rfl
    have v3 : ∀ x y (T : Store), ev (FOf L_law_model) (.acons (.var 3) .anil) (menv ns c (.int most) (1 + a) (.int ((2 + b : Nat) : Int)) S.length x y) T = .ok (.tup [.int ((1 + a : Nat) : Int)]) T := fun _ _ _ => rfl
    rw [ex_seq, s1, seq_nx, ex_seq, s2, seq_nx, ex_seq, ex_for, v4, toS_ok, hw1, seq_nx, ex_seq, ex_for, v4, toS_ok, hw2, seq_nx, ex_seq, ex_for, v3, toS_ok, hw3, seq_nx, ex_seq, ex_ret, ev_bi, ev_acons, hcomp]
    rfl
end PV
end
section
set_option linter.all false
set_option maxRecDepth 100000
namespace PV
open PySem (Str)
/-! ### the things of the models module -/
def isIntIn (lo hi : Int) : D → Bool
  | .int i => decide (lo ≤ i) && decide (i ≤ hi)
  | _ => false
theorem is_integer_ok {d : D} (h : d.pure = true) (lo hi : Int) (S : Store) : G_is_integer [d, .int lo, .int hi] S = .ok (.bool (isIntIn lo hi d)) S := by
  refine runF_pure rfl rfl ?_
  cases d with
  | int i =>
    by_cases h1 : lo ≤ i
    · simp [f_is_integer, startE, isIntIn, h1]
    · simp [f_is_integer, startE, isIntIn, h1]
  | loc _ => simp [D.pure] at h
  | _ => simp [f_is_integer, startE, isIntIn]
theorem require_model_ok {d : D} {n k : Nat} (hn : n ≤ 16777216) (hk : n ≤ k) (hk1 : k ≤ 1000) (hk0 : 0 < k) (h : d.bd n = true) (S : Store) : G_require_model [d] S = if modM d = true then .ok .none S else .exc 0 S := by
  have hF : FOf L_require_model 6 = G_is_model := rfl
  have hm := is_model_ok hn hk hk1 hk0 h S
  unfold G_require_model
  rw [runF_eq rfl]
  cases hb : modM d with
  | true => 
    rw [hb] at hm
    simp [f_require_model, startE, hF, hm, clean_same (show D.pure .none = true from rfl)]
  | false =>
    rw [hb] at hm
    have hr : ∀ (F : Nat → List D → Store → R D) ρ (T : Store), ex F (.raise 0) ρ T = .exc 0 T := fun _ _ _ => rfl
    simp [f_require_model, startE, hF, hm, hr, clean_same (show D.pure .none = true from rfl)]
def rowLs (m : Nat) : D → Bool
  | .tup xs => decide (xs.length = m) && xs.all (isIntIn (-99) 99)
  | _ => false
def lossOk (m : Nat) : D → Bool
  | .tup rows => decide (1 ≤ rows.length ∧ rows.length ≤ 3) && rows.all (rowLs m)
  | _ => false
def lossItem : St := (.seq (.ifs (.or (.not (.isi (.var 2) .tuple)) (.or (.cmp .ne (.bi .len false (.acons (.var 2) .anil)) (.bi .len false (.acons (.var 0) .anil))) (.last (.not (.bi .all false (.acons (.comp .seq (.acons (.var 2) .anil) (.name 3) [3] false .none (.call 18 (.acons (.var 3) (.acons (.neg (.int 99)) (.acons (.int 99) .anil)))) false) .anil))))))
    (.seq (.ret (.bool false))
    (.skip))
    (.skip))
    (.skip))
theorem loss_item {F : Nat → List D → Store → R D} {S : Store} {ms : List D} {c x : D} {n : Nat} (hn : n ≤ 16777216) (hF : F 18 = G_is_integer) (h : x.bd n = true) : ex F lossItem [some (.tup ms), some c, some x, none] S = if rowLs ms.length x = true then .nx [some (.tup ms), some c, some x, none] S else .ret (.bool false) S := by
  cases x with
  | tup xs =>
    obtain ⟨h1, h2⟩ := bd_tup.mp h
    have hc : ev F (.comp .seq (.acons (.var 2) .anil) (.name 3) [3] false .none (.call 18 (.acons (.var 3) (.acons (.neg (.int 99)) (.acons (.int 99) .anil)))) false) [some (.tup ms), some c, some (.tup xs), none] S = _ := comp_mapE (as := [.tup xs]) (l := xs) (h := fun x => D.bool (isIntIn (-99) 99 x)) rfl rfl (fun z hz => by
      have := is_integer_ok (pure_of_bd (h2 z hz)) (-99) 99 S
      simp [hF, this])
    rw [newL_f (by simp; omega)] at hc
    have ha := all_map (S := S) false (isIntIn (-99) 99) xs
    by_cases hl : xs.length = ms.length
    · have hl' : (xs.length : Int) = ms.length := by omega
      cases hall : xs.all (isIntIn (-99) 99) with
      | true => rw [hall] at ha; simp [lossItem, hc, ha, rowLs, hl, hl', hall]
      | false => rw [hall] at ha; simp [lossItem, hc, ha, rowLs, hl, hl', hall]
    · have hl' : ¬ (xs.length : Int) = ms.length := by omega
      simp [lossItem, rowLs, hl, hl']
  | loc _ => simp [D.bd] at h
  | scr _ => simp [D.bd] at h
  | _ => simp [lossItem, rowLs]
theorem are_valid_losses_ok {ms : List D} {d : D} {n : Nat} (hn : n ≤ 16777216) (h : d.bd n = true) (S : Store) : G_are_valid_losses [.tup ms, d] S = .ok (.bool (lossOk ms.length d)) S := by
  refine runF_pure rfl rfl ?_
  cases d with
  | tup rows =>
    obtain ⟨h1, h2⟩ := bd_tup.mp h
    have e1 : ((1 : Int) ≤ rows.length) ↔ 1 ≤ rows.length := by omega
    have e2 : ((rows.length : Int) ≤ 3) ↔ rows.length ≤ 3 := by omega
    obtain ⟨z, hz, hfor⟩ := for_all1 (p := rowLs ms.length) (b := ex (FOf L_are_valid_losses) lossItem) (d := .bool false) (S := S) (i := 2) rows [some (.tup ms), some (.tup rows), none, none] (fun x hx => loss_item hn rfl (h2 x hx))
    unfold lossItem at hfor
    by_cases hlo : 1 ≤ rows.length
    · by_cases hhi : rows.length ≤ 3
      · cases hall : rows.all (rowLs ms.length) with
        | false => rw [hall] at hfor; simp [f_are_valid_losses, startE, e1, e2, hlo, hhi, lossOk, hall, hfor]
        | true => rw [hall] at hfor; simp [f_are_valid_losses, startE, e1, e2, hlo, hhi, lossOk, hall, hfor]
      · simp [f_are_valid_losses, startE, e1, e2, hlo, hhi, lossOk]
    · simp [f_are_valid_losses, startE, e1, hlo, lossOk]
  | loc _ => simp [D.bd] at h
  | scr _ => simp [D.bd] at h
  | _ => simp [f_are_valid_losses, startE, lossOk]
end PV
end
section
set_option linter.all false
set_option maxRecDepth 100000
namespace PV
open PySem (Str)
/-! ### finite sums of rationals -/
def sm : Nat → (Nat → Rat) → Rat
  | 0, _ => 0
  | k + 1, f => sm k f + f k
@[simp] theorem sm_z (f : Nat → Rat) : sm 0 f = 0 := rfl
theorem sm_s (k : Nat) (f : Nat → Rat) : sm (k + 1) f = sm k f + f k := rfl
theorem sm_congr {f g : Nat → Rat} : ∀ {k : Nat}, (∀ i, i < k → f i = g i) → sm k f = sm k g
  | 0, _ => rfl
  | k + 1, h => by rw [sm_s, sm_s, sm_congr fun i hi => h i (by omega), h k (by omega)]
theorem sm_mul (c : Rat) (f : Nat → Rat) : ∀ k, sm k (fun i => c * f i) = c * sm k f
  | 0 => by simp [Rat.mul_zero]
  | k + 1 => by rw [sm_s, sm_s, sm_mul c f k]; grind
theorem sm_mulr (c : Rat) (f : Nat → Rat) (k : Nat) : sm k (fun i => f i * c) = sm k f * c := by
  rw [Rat.mul_comm, ← sm_mul]; exact sm_congr fun i _ => Rat.mul_comm _ _
theorem sm_div (c : Rat) (f : Nat → Rat) (k : Nat) : sm k (fun i => f i / c) = sm k f / c := by
  have := sm_mulr (c⁻¹) f k
  rw [Rat.div_def, ← this]; exact sm_congr fun i _ => Rat.div_def _ _
theorem sm_zero : ∀ k, sm k (fun _ => 0) = 0
  | 0 => rfl
  | k + 1 => by rw [sm_s, sm_zero k]; grind
theorem sm_zero_of {f : Nat → Rat} {k : Nat} (h : ∀ i, i < k → f i = 0) : sm k f = 0 := by rw [sm_congr h, sm_zero]
theorem sm_ind (f : Nat → Rat) (j : Nat) : ∀ k, sm k (fun i => if i = j then f i else 0) = if j < k then f j else 0
  | 0 => by simp
  | k + 1 => by
    rw [sm_s, sm_ind f j k]
    by_cases h : k = j
    · subst h; simp [Rat.zero_add]
    · by_cases h2 : j < k
      · simp [h, h2, show j < k + 1 by omega, Rat.add_zero]
      · simp [h, h2, show ¬ j < k + 1 by omega, Rat.add_zero]
/-! ### lists over a range -/
def mp {α : Type} (k : Nat) (f : Nat → α) : List α := (List.range k).map f
@[simp] theorem mp_len {α : Type} (k : Nat) (f : Nat → α) : (mp k f).length = k := by simp [mp]
@[simp] theorem mp_map {α β : Type} (k : Nat) (f : Nat → α) (g : α → β) : (mp k f).map g = mp k fun i => g (f i) := by simp [mp, Function.comp_def]
theorem mp_get {α : Type} {k i : Nat} (f : Nat → α) (h : i < k) : (mp k f)[i]? = some (f i) := by simp [mp, h]
theorem mp_congr {α : Type} {k : Nat} {f g : Nat → α} (h : ∀ i, i < k → f i = g i) : mp k f = mp k g := by
  unfold mp; exact List.map_congr_left fun i hi => h i (List.mem_range.mp hi)
theorem mp_inj {α : Type} {k : Nat} {f g : Nat → α} (h : mp k f = mp k g) : ∀ i, i < k → f i = g i := by
  intro i hi
  have := congrArg (fun l => l[i]?) h
  simpa [mp_get _ hi] using this
theorem mp_mem {α : Type} {k : Nat} {f : Nat → α} {x : α} : x ∈ mp k f ↔ ∃ i, i < k ∧ f i = x := by simp [mp]
theorem mp_s {α : Type} (k : Nat) (f : Nat → α) : mp (k + 1) f = mp k f ++ [f k] := by simp [mp, List.range_succ]
@[simp] theorem mp_z {α : Type} (f : Nat → α) : mp 0 f = [] := rfl
theorem mp_of {α : Type} [Inhabited α] (l : List α) : l = mp l.length fun i => (l[i]?).getD default := by
  apply List.ext_getElem?
  intro i
  by_cases hi : i < l.length
  · rw [mp_get _ hi]; simp [hi]
  · rw [List.getElem?_eq_none (by omega), List.getElem?_eq_none (by simp; omega)]
theorem mp_cons {α : Type} (k : Nat) (f : Nat → α) : mp (k + 1) f = f 0 :: mp k fun i => f (i + 1) := by
  simp [mp, List.range_succ_eq_map, Function.comp_def]
theorem foldl_mp (f : Nat → Rat) : ∀ k, (mp k f).foldl (· + ·) 0 = sm k f
  | 0 => rfl
  | k + 1 => by rw [mp_s, List.foldl_append, foldl_mp f k]; rfl
theorem mp_all {α : Type} (k : Nat) (f : Nat → α) (p : α → Bool) : (mp k f).all p = true ↔ ∀ i, i < k → p (f i) = true := by
  simp [mp]
theorem mp_any {α : Type} (k : Nat) (f : Nat → α) (p : α → Bool) : (mp k f).any p = true ↔ ∃ i, i < k ∧ p (f i) = true := by
  simp [mp]
/-- fractions of a range -/
abbrev fl (k : Nat) (f : Nat → Rat) : List D := mp k fun i => fr (f i)
/-- a plain sequence -/
def Sq (d : D) (xs : List D) : Prop := d = .tup xs ∨ d = .lst xs
theorem Sq.tup (xs : List D) : Sq (.tup xs) xs := .inl rfl
theorem Sq.lst (xs : List D) : Sq (.lst xs) xs := .inr rfl
theorem Sq.seq {d : D} {xs : List D} (h : Sq d xs) (S : Store) : getSeq S d = some xs := by rcases h with rfl | rfl <;> rfl
theorem Sq.walk {d : D} {xs : List D} (h : Sq d xs) (S : Store) : walkD .seq [d] S = some (xs, []) := by rcases h with rfl | rfl <;> rfl
theorem Sq.len {d : D} {xs : List D} (h : Sq d xs) (m : Bool) (S : Store) : biD m .len [d] S = .ok (.int xs.length) S := by rcases h with rfl | rfl <;> rfl
theorem Sq.idx {d : D} {xs : List D} (h : Sq d xs) (k : Int) (S : Store) : idxD d (.int k) S = atI xs k := by rcases h with rfl | rfl <;> rfl
theorem Sq.zip {d e : D} {xs ys : List D} (h : Sq d xs) (h' : Sq e ys) (S : Store) : walkD .zip [d, e] S = some (zip2L xs ys, []) := by
  rcases h with rfl | rfl <;> rcases h' with rfl | rfl <;> rfl
theorem Sq.enum {d : D} {xs : List D} (h : Sq d xs) (S : Store) : walkD .enum [d] S = some (enumL xs, []) := by rcases h with rfl | rfl <;> rfl
end PV
end
section
set_option linter.all false
set_option maxRecDepth 100000
namespace PV
open PySem (Str)
/-! ### what holds behind a run -/
@[irreducible] def R.Wp {α : Type} (r : R α) (Q : α → Store → Prop) : Prop := match r with | .ok a S => Q a S | _ => False
@[irreducible] def SR.Wp (r : SR) (N : Env → Store → Prop) (T : D → Store → Prop) : Prop := match r with | .nx ρ S => N ρ S | .ret d S => T d S | _ => False
@[simp] theorem wp_ok {α : Type} (a : α) (S : Store) (Q : α → Store → Prop) : (R.ok a S).Wp Q = Q a S := by unfold R.Wp; rfl
@[simp] theorem wp_exc {α : Type} (c : Nat) (S : Store) (Q : α → Store → Prop) : (R.exc c S : R α).Wp Q = False := by unfold R.Wp; rfl
@[simp] theorem wp_err {α : Type} (Q : α → Store → Prop) : (R.err : R α).Wp Q = False := by unfold R.Wp; rfl
@[simp] theorem wp_bind {α β : Type} (r : R α) (f : α → Store → R β) (Q : β → Store → Prop) : (r.bind f).Wp Q = r.Wp fun a S => (f a S).Wp Q := by cases r <;> simp
@[simp] theorem wps_nx (ρ : Env) (S : Store) (N : Env → Store → Prop) (T : D → Store → Prop) : (SR.nx ρ S).Wp N T = N ρ S := by unfold SR.Wp; rfl
@[simp] theorem wps_ret (d : D) (S : Store) (N : Env → Store → Prop) (T : D → Store → Prop) : (SR.ret d S).Wp N T = T d S := by unfold SR.Wp; rfl
@[simp] theorem wps_exc (d : Nat) (S : Store) (N : Env → Store → Prop) (T : D → Store → Prop) : (SR.exc d S).Wp N T = False := by unfold SR.Wp; rfl
@[simp] theorem wps_err (N : Env → Store → Prop) (T : D → Store → Prop) : (SR.err).Wp N T = False := by unfold SR.Wp; rfl
@[simp] theorem wps_toS {α : Type} (r : R α) (f : α → Store → SR) (N : Env → Store → Prop) (T : D → Store → Prop) : (toS r f).Wp N T = r.Wp fun a S => (f a S).Wp N T := by cases r <;> simp
@[simp] theorem wps_seq (r : SR) (f : Env → Store → SR) (N : Env → Store → Prop) (T : D → Store → Prop) : (r.seq f).Wp N T = r.Wp (fun ρ S => (f ρ S).Wp N T) T := by cases r <;> simp
theorem R.Wp.mono {α : Type} {r : R α} {Q Q' : α → Store → Prop} (h : r.Wp Q) (hm : ∀ a S, Q a S → Q' a S) : r.Wp Q' := by
  cases r with
  | ok a S => simp at h ⊢; exact hm _ _ h
  | exc _ _ => simp at h
  | err => simp at h
theorem SR.Wp.mono {r : SR} {N N' : Env → Store → Prop} {T T' : D → Store → Prop} (h : r.Wp N T) (hm : ∀ ρ S, N ρ S → N' ρ S) (ht : ∀ d S, T d S → T' d S) : r.Wp N' T' := by
  cases r with
  | nx a S => simp at h ⊢; exact hm _ _ h
  | ret a S => simp at h ⊢; exact ht _ _ h
  | exc _ _ => simp at h
  | err => simp at h
theorem wp_of_eq {α : Type} {r : R α} {a : α} {S : Store} {Q : α → Store → Prop} (h : r = .ok a S) (q : Q a S) : r.Wp Q := by rw [h, wp_ok]; exact q
/-- what is left to do -/
def Kn (F : Nat → List D → Store → R D) (b : St) (N : Env → Store → Prop) (T : D → Store → Prop) : Env → Store → Prop := fun ρ S => (ex F b ρ S).Wp N T
section
variable {F : Nat → List D → Store → R D} {ρ : Env} {S : Store} {N : Env → Store → Prop} {T : D → Store → Prop}
theorem st_seq {a b : St} (h : (ex F a ρ S).Wp (Kn F b N T) T) : (ex F (.seq a b) ρ S).Wp N T := by
  rw [ex_seq, wps_seq]; exact h
theorem kn_seq {a b : St} (h : (ex F a ρ S).Wp (Kn F b N T) T) : Kn F (.seq a b) N T ρ S := st_seq h
theorem kn_skip (h : N ρ S) : Kn F .skip N T ρ S := by unfold Kn; rw [ex_skip, wps_nx]; exact h
/-- a loop by what holds between its turns -/
theorem forR_wp {tg : Tg} {b : St} {g : Guard} {t : Nat → D} (I : Nat → Env → Store → Prop) : ∀ (n j : Nat) (ρ : Env) (S : Store), (∀ i ρ S, j ≤ i → i < j + n → I i ρ S → g.ok S = true ∧ ∃ ρ1, put tg (t i) ρ = some ρ1 ∧ (ex F b ρ1 S).Wp (I (i + 1)) T) → (∀ ρ S, I (j + n) ρ S → g.ok S = true ∧ N ρ S) → I j ρ S →
    (forR tg (ex F b) g (mp n fun i => t (j + i)) ρ S).Wp N T
  | 0, j, ρ, S, _, he, h0 => by
    have := he ρ S h0
    unfold forR
    simp [this.1, this.2]
  | n + 1, j, ρ, S, hs, he, h0 => by
    obtain ⟨hg, ρ1, h1, h2⟩ := hs j ρ S (Nat.le_refl _) (by omega) h0
    rw [mp_cons]
    show (if g.ok S = true then (match put tg (t j) ρ with
      | some ρ1 => (match ex F b ρ1 S with
        | .nx ρ2 S2 => forR tg (ex F b) g (mp n fun i => t (j + (i + 1))) ρ2 S2
        | r => r)
      | none => SR.err) else SR.err).Wp N T
    rw [if_pos hg, h1]
    dsimp only
    cases hb : ex F b ρ1 S with
    | nx ρ2 S2 =>
      rw [hb] at h2
      have e : (mp n fun i => t (j + (i + 1))) = mp n fun i => t (j + 1 + i) := mp_congr fun i _ => by rw [show j + (i + 1) = j + 1 + i by omega]
      dsimp only
      rw [e]
      rw [wps_nx] at h2
      exact forR_wp I n (j + 1) ρ2 S2 (fun i ρ S h1 h2 => hs i ρ S (by omega) (by omega)) (fun ρ S => by rw [show j + 1 + n = j + (n + 1) by omega]; exact he ρ S) h2
    | ret d S2 => rw [hb, wps_ret] at h2; simpa using h2
    | exc c S2 => rw [hb, wps_exc] at h2; exact h2.elim
    | err => rw [hb, wps_err] at h2; exact h2.elim
theorem for_wp {kk : Ik} {tg : Tg} {b : St} {as : List D} {g : Guard} {n : Nat} {t : Nat → D} (hw : walkD kk as S = some (mp n t, g)) (I : Nat → Env → Store → Prop) (h0 : I 0 ρ S) (hs : ∀ i ρ S, i < n → I i ρ S → g.ok S = true ∧ ∃ ρ1, put tg (t i) ρ = some ρ1 ∧ (ex F b ρ1 S).Wp (I (i + 1)) T) (he : ∀ ρ S, I n ρ S → g.ok S = true ∧ N ρ S) :
    (forS F kk tg b ρ (.tup as) S).Wp N T := by
  rw [forS_walk hw]
  have := forR_wp (F := F) (tg := tg) (b := b) (g := g) (t := t) (T := T) (N := N) I n 0 ρ S (fun i ρ S _ h => hs i ρ S (by omega)) (fun ρ S h => he ρ S (by rwa [Nat.zero_add] at h)) h0
  simpa using this
theorem for_wp0 {kk : Ik} {tg : Tg} {b : St} {as : List D} {n : Nat} {t : Nat → D} (hw : walkD kk as S = some (mp n t, [])) (I : Nat → Env → Store → Prop) (h0 : I 0 ρ S) (hs : ∀ i ρ S, i < n → I i ρ S → ∃ ρ1, put tg (t i) ρ = some ρ1 ∧ (ex F b ρ1 S).Wp (I (i + 1)) T) (he : ∀ ρ S, I n ρ S → N ρ S) :
    (forS F kk tg b ρ (.tup as) S).Wp N T := for_wp hw I h0 (fun i ρ S hi h => ⟨rfl, hs i ρ S hi h⟩) (fun ρ S h => ⟨rfl, he ρ S h⟩)
/-- a comprehension whose items draw -/
theorem mapR_wp {tg : Tg} {own : List Nat} {c e : Ex} {g : Guard} {t : Nat → D} {J : Nat → Store → Prop} {Pp : Nat → D → Prop} : ∀ (n j : Nat) (S : Store), (∀ i S, j ≤ i → i < j + n → J i S → g.ok S = true ∧ ∃ ρ1, put tg (t i) (wipeE ρ own) = some ρ1 ∧ (ev F e ρ1 S).Wp fun d S' => Pp i d ∧ J (i + 1) S') → (∀ S, J (j + n) S → g.ok S = true) → J j S →
    (mapR (turn1 F ρ tg own false c e) g (mp n fun i => t (j + i)) S).Wp fun ds S' => (∃ ys : Nat → D, ds = mp n (fun i => ys (j + i)) ∧ ∀ i, j ≤ i → i < j + n → Pp i (ys i)) ∧ J (j + n) S'
  | 0, j, S, _, he, h0 => by
    have := he S h0
    unfold mapR
    simp only [mp_z, this, if_true, wp_ok]
    exact ⟨⟨fun _ => .none, by simp, fun i _ _ => by omega⟩, h0⟩
  | n + 1, j, S, hs, he, h0 => by
    obtain ⟨hg, ρ1, h1, h2⟩ := hs j S (Nat.le_refl _) (by omega) h0
    rw [mp_cons]
    unfold mapR
    rw [if_pos hg, wp_bind]
    unfold turn1
    simp only [Nat.add_zero, h1, Bool.false_eq_true, if_false, wp_bind]
    refine h2.mono fun d S1 hd => ?_
    have e1 : (mp n fun i => t (j + (i + 1))) = mp n fun i => t (j + 1 + i) := mp_congr fun i _ => by rw [show j + (i + 1) = j + 1 + i by omega]
    have ih := mapR_wp (c := c) n (j + 1) S1 (fun i S h1 h2 => hs i S (by omega) (by omega)) (fun S => by rw [show j + 1 + n = j + (n + 1) by omega]; exact he S) hd.2
    rw [e1, wp_ok]
    refine ih.mono fun ds S2 h => ?_
    obtain ⟨⟨ys, rfl, hy⟩, hJ⟩ := h
    simp only [wp_ok]
    refine ⟨⟨fun i => if i = j then d else ys i, ?_, ?_⟩, by rw [show j + (n + 1) = j + 1 + n by omega]; exact hJ⟩
    · rw [mp_cons]
      simp only [Option.toList_some, List.singleton_append, Nat.add_zero, if_true]
      congr 1
      refine mp_congr fun i _ => ?_
      rw [if_neg (by omega)]
      congr 1
      omega
    · intro i hi hi2
      by_cases h : i = j
      · subst h; simp [hd.1]
      · simp only [h, if_false]; exact hy i (by omega) (by omega)
theorem comp_wp {kk : Ik} {src : Ex} {tg : Tg} {own : List Nat} {c e : Ex} {m : Bool} {as : List D} {g : Guard} {n : Nat} {t : Nat → D} {Q : D → Store → Prop} {S0 : Store} (hs : ev F src ρ S = .ok (.tup as) S0) (hw : walkD kk as S0 = some (mp n t, g)) (J : Nat → Store → Prop) (Pp : Nat → D → Prop) (h0 : J 0 S0) (hst : ∀ i S, i < n → J i S → g.ok S = true ∧ ∃ ρ1, put tg (t i) (wipeE ρ own) = some ρ1 ∧ (ev F e ρ1 S).Wp fun d S' => Pp i d ∧ J (i + 1) S') (hg : ∀ S, J n S → g.ok S = true) (hq : ∀ ys S', (∀ i, i < n → Pp i (ys i)) → J n S' → (newL m (mp n ys) S').Wp Q) :
    (ev F (.comp kk src tg own false c e m) ρ S).Wp Q := by
  have h := mapR_wp (F := F) (ρ := ρ) (tg := tg) (own := own) (c := c) (e := e) (g := g) (t := t) (J := J) (Pp := Pp) n 0 S0 (fun i S _ h => hst i S (by omega)) (fun S h => hg S (by rwa [Nat.zero_add] at h)) h0
  have e0 : (mp n fun i => t (0 + i)) = mp n t := mp_congr fun i _ => by rw [Nat.zero_add]
  rw [e0] at h
  rw [ev_comp_p, hs, bind_ok, compD_walk hw, wp_bind]
  revert h
  cases mapR (turn1 F ρ tg own false c e) g (mp n t) S0 with
  | ok ds S1 =>
    intro h
    simp only [wp_ok, few_ok] at h ⊢
    obtain ⟨⟨ys, rfl, hy⟩, hJ⟩ := h
    rw [Nat.zero_add] at hJ
    have e1 : (mp n fun i => ys (0 + i)) = mp n ys := mp_congr fun i _ => by rw [Nat.zero_add]
    rw [e1]
    exact hq ys S1 (fun i hi => hy i (by omega) (by omega)) hJ
  | exc c S1 => intro h; simp at h
  | err => intro h; simp at h
/-- a comprehension of a range whose items change nothing -/
theorem comp_rng {kk : Ik} {src : Ex} {tg : Tg} {own : List Nat} {c e : Ex} {m : Bool} {as : List D} {n : Nat} {t : Nat → D} (h : Nat → D) (en : Nat → Env) (hs : ev F src ρ S = .ok (.tup as) S) (hw : walkD kk as S = some (mp n t, [])) (hp : ∀ i, i < n → put tg (t i) (wipeE ρ own) = some (en i)) (hx : ∀ i, i < n → ev F e (en i) S = .ok (h i) S) :
    ev F (.comp kk src tg own false c e m) ρ S = newL m (mp n h) S :=
  comp_mapgE (l := List.range n) (t := t) (h := h) (en := en) hs hw (fun i hi => hp i (List.mem_range.mp hi)) (fun i hi => hx i (List.mem_range.mp hi))
theorem walk_rng {i : Int} (h0 : 0 ≤ i) (h1 : i ≤ 1000000) : walkD .range [.int i] S = some (mp i.toNat fun k => .int (k : Int), []) := by
  obtain ⟨n, rfl⟩ : ∃ n : Nat, i = n := ⟨i.toNat, by omega⟩
  rw [walk_range_p (by omega)]; rfl
theorem walk_rngN {n : Nat} (h1 : n ≤ 1000000) : walkD .range [.int (n : Int)] S = some (mp n fun k => .int (k : Int), []) := walk_range_p h1
theorem walk_sq {xs : List D} {d : D} (h : Sq d xs) : walkD .seq [d] S = some (xs, []) := h.walk S
/-- the end of a def that changes nothing -/
theorem run_pure {f : Fn} {vs : List D} {v : D} (hl : vs.length = f.np) (hp : v.pure = true) (h : ∀ T : D → Store → Prop, (∀ X, T v (S ++ X)) → (ex F f.body (startE f.nn vs) S).Wp (fun _ _ => False) T) : runF F f vs S = .ok v S := by
  rw [runF_eq hl]
  have h := h (fun d S1 => d = v ∧ ∃ X, S1 = S ++ X) (fun X => ⟨rfl, X, rfl⟩)
  cases hx : ex F f.body (startE f.nn vs) S with
  | nx _ _ => rw [hx] at h; simp at h
  | ret d S1 =>
    rw [hx, wps_ret] at h
    obtain ⟨rfl, X, rfl⟩ := h
    exact clean_app hp
  | exc _ _ => rw [hx] at h; simp at h
  | err => rw [hx] at h; simp at h
theorem run_wp {f : Fn} {vs : List D} {Q : D → Store → Prop} (hl : vs.length = f.np) (h : ∀ T : D → Store → Prop, (∀ d S1, (clean S d S1).Wp Q → T d S1) → (ex F f.body (startE f.nn vs) S).Wp (fun _ _ => False) T) : (runF F f vs S).Wp Q := by
  rw [runF_eq hl]
  have h := h (fun d S1 => (clean S d S1).Wp Q) (fun _ _ h => h)
  cases hx : ex F f.body (startE f.nn vs) S with
  | nx _ _ => rw [hx] at h; simp at h
  | ret d S1 => rw [hx, wps_ret] at h; exact h
  | exc _ _ => rw [hx] at h; simp at h
  | err => rw [hx] at h; simp at h
theorem tuple_loc {c : Nat} {xs : List D} (h : S[c]? = some (.lst xs)) (m : Bool) : biD m .tuple [.loc c] S = .ok (.tup xs) S := by
  show (match getList S (.loc c) with | some xs => R.ok (D.tup xs) S | none => R.err) = _
  rw [list_loc h]
@[simp] theorem get_last (S : Store) (c : Cell) : (S ++ [c])[S.length]? = some c := by simp
@[simp] theorem set_last (S : Store) (c d : Cell) : (S ++ [c]).set S.length d = S ++ [d] := by
  rw [List.set_append_right _ _ (Nat.le_refl _)]; simp
end
/-- the cell c holds other ints -/
def Dr (c N : Nat) (S S' : Store) : Prop := ∃ is : List Int, S' = S.set c (.lst (is.map D.int)) ∧ is.length ≤ N
theorem Dr.stt {c N M : Nat} {S S' : Store} (h : Dr c N S S') (hS : Stt c M S) : Stt c N S' := by
  obtain ⟨is, rfl, h⟩ := h
  exact set_stt hS h
theorem Dr.trans {c N M : Nat} {S S1 S2 : Store} (h1 : Dr c N S S1) (h2 : Dr c M S1 S2) : Dr c M S S2 := by
  obtain ⟨is, rfl, _⟩ := h1
  obtain ⟨js, rfl, h⟩ := h2
  exact ⟨js, by rw [List.set_set], h⟩
theorem Dr.mono {c N M : Nat} {S S' : Store} (h : Dr c N S S') (hm : N ≤ M) : Dr c M S S' := by
  obtain ⟨is, e, h⟩ := h
  exact ⟨is, e, by omega⟩
theorem Dr.refl {c N : Nat} {S : Store} (h : Stt c N S) : Dr c N S S := by
  obtain ⟨is, h1, h2⟩ := h
  refine ⟨is, ?_, h2⟩
  apply List.ext_getElem?
  intro j
  by_cases e : j = c
  · subst e
    rw [h1, get_set h1]
  · rw [List.getElem?_set_ne (by omega)]
theorem Dr.len {c N : Nat} {S S' : Store} (h : Dr c N S S') : S'.length = S.length := by obtain ⟨is, rfl, _⟩ := h; simp
theorem Dr.app {c N M : Nat} {S X S' : Store} (hS : Stt c M S) (h : Dr c N (S ++ X) S') : ∃ S1, S' = S1 ++ X ∧ Dr c N S S1 := by
  obtain ⟨is, rfl, h⟩ := h
  obtain ⟨js, h1, _⟩ := hS
  have hc := lt_of_get h1
  exact ⟨S.set c (.lst (is.map D.int)), by rw [List.set_append_left _ _ hc], is, rfl, h⟩
theorem Stt.app {c N : Nat} {S X : Store} (h : Stt c N S) : Stt c N (S ++ X) := by
  obtain ⟨is, h1, h2⟩ := h
  exact ⟨is, by rw [List.getElem?_append_left (lt_of_get h1)]; exact h1, h2⟩
theorem Stt.mono {c N M : Nat} {S : Store} (h : Stt c N S) (hm : N ≤ M) : Stt c M S := by
  obtain ⟨is, h1, h2⟩ := h
  exact ⟨is, h1, by omega⟩
theorem Dr.clean {c N : Nat} {S S1 X : Store} {d : D} (h : Dr c N S S1) (hp : d.pure = true) : clean S d (S1 ++ X) = .ok d S1 := by
  obtain ⟨is, rfl, _⟩ := h
  exact clean_set hp (underL_ints _ _)
end PV
end
section
set_option linter.all false
set_option maxRecDepth 100000
namespace PV
open PySem (Str)
theorem RB.pos {n : Nat} {q : Rat} (h : RB n q) : 0 < n := by
  rcases Nat.eq_zero_or_pos n with rfl | h0
  · have := h.2; have := q.den_pos; simp at *; omega
  · exact h0
end PV
end
section
set_option linter.all false
set_option maxRecDepth 100000
namespace PV
open PySem (Str)
/-! ### refusals -/
abbrev Bd (d : D) : Prop := d.bd 1000 = true
def out (o : Option Nat) (r : R D) (S : Store) : R D := match o with | some c => .exc c S | none => r
@[simp] theorem out_some (c : Nat) (r : R D) (S : Store) : out (some c) r S = .exc c S := (rfl)
@[simp] theorem out_none (r : R D) (S : Store) : out none r S = r := (rfl)
def oe : Option Nat → Option Nat → Option Nat
  | some c, _ => some c
  | none, o => o
@[simp] theorem oe_some (c : Nat) (o : Option Nat) : oe (some c) o = some c := (rfl)
@[simp] theorem oe_none (o : Option Nat) : oe none o = o := (rfl)
def wh (b : Bool) (c : Nat) : Option Nat := if b = true then none else some c
@[simp] theorem wh_t (c : Nat) : wh true c = none := (rfl)
@[simp] theorem wh_f (c : Nat) : wh false c = some c := (rfl)
section
variable {F : Nat → List D → Store → R D} {ρ : Env} {S : Store}
@[simp] theorem ex_raise (c : Nat) : ex F (.raise c) ρ S = .exc c S := (rfl)
def tryS (hs : List (Nat × Str)) (r : R D) : SR := match r with
    | .ok d S1 => .ret d S1
    | .exc c S1 => (match hs.find? (fun p => p.1 == c) with | some p => .ret (.str p.2) S1 | none => .err)
    | .err => .err
@[simp] theorem ex_try (e : Ex) (hs : List (Nat × Str)) : ex F (.tryR e hs) ρ S = tryS hs (ev F e ρ S) := (rfl)
@[simp] theorem tryS_ok (hs : List (Nat × Str)) (d : D) : tryS hs (.ok d S) = .ret d S := (rfl)
@[simp] theorem tryS_exc (hs : List (Nat × Str)) (c : Nat) : tryS hs (.exc c S) = (match hs.find? (fun p => p.1 == c) with | some p => .ret (.str p.2) S | none => .err) := (rfl)
theorem run_exc {f : Fn} {vs : List D} {c : Nat} (hl : vs.length = f.np) (h : ex F f.body (startE f.nn vs) S = .exc c S) : runF F f vs S = .exc c S := by
  rw [runF_eq hl, h]
  show (match clean S .none S with | .ok _ S2 => R.exc c S2 | _ => R.err) = _
  rw [clean_same rfl]
theorem run_nx {f : Fn} {vs : List D} (hl : vs.length = f.np) (h : (ex F f.body (startE f.nn vs) S).Wp (fun _ S1 => S1 = S) fun _ _ => False) : runF F f vs S = .ok .none S := by
  rw [runF_eq hl]
  cases hx : ex F f.body (startE f.nn vs) S with
  | nx _ _ => rw [hx, wps_nx] at h; subst h; exact clean_same rfl
  | ret d S1 => rw [hx] at h; simp at h
  | exc _ _ => rw [hx] at h; simp at h
  | err => rw [hx] at h; simp at h
end
theorem mod_shape {m : D} (h : modM m = true) : ∃ r rs, m = .tup (r :: rs) ∧ (∃ xs, r = .tup xs ∧ xs ≠ []) ∧ rs.length ≤ 2 := by
  cases m with
  | tup rows =>
    cases rows with
    | nil => simp [modM] at h
    | cons r rs =>
      simp only [modM, Bool.and_eq_true, decide_eq_true_eq] at h
      have h2 := h.1.2
      simp only [List.length_cons] at h
      have hr : chM 1 6 r = true := by
        have := h.2.1
        simp at this
        exact this.1
      obtain ⟨xs, rfl, _, _, h3⟩ := chM_tup hr
      refine ⟨_, _, rfl, ⟨xs, rfl, ?_⟩, by omega⟩
      intro e; subst e; simp at h3
  | _ => simp [modM] at h
def mixOk (w a : Nat) : D → Bool
  | .tup xs => decide (xs.length = w) && xs.all (chM a a)
  | _ => false
def rqM (m : D) : Option Nat := wh (modM m) 0
def rqL (m l : D) : Option Nat := oe (rqM m) (wh (lossOk (lenD m) l) 1)
section
variable {m l x : D} (hm : Bd m) (S : Store)
include hm
theorem require_model_bd : G_require_model [m] S = out (rqM m) (.ok .none S) S := by
  rw [require_model_ok (n := 1000) (k := 1000) (by decide) (by decide) (by decide) (by decide) hm S]
  unfold rqM
  cases modM m <;> rfl
theorem is_model_bd : G_is_model [m] S = .ok (.bool (modM m)) S := is_model_ok (n := 1000) (k := 1000) (by decide) (by decide) (by decide) (by decide) hm S
theorem require_losses_bd (hl : Bd l) : G_require_losses [m, l] S = out (rqL m l) (.ok .none S) S := by
  have h1 := require_model_bd hm S
  cases hb : modM m with
  | false =>
    simp [rqL, rqM, hb] at h1 ⊢
    refine run_exc rfl ?_
    simp [f_require_losses, startE, L_require_losses, h1]
  | true =>
    simp [rqL, rqM, hb] at h1 ⊢
    obtain ⟨r, rs, rfl, _⟩ := mod_shape hb
    have h2 := are_valid_losses_ok (ms := r :: rs) (by decide) hl S
    simp at h2
    cases hc : lossOk (rs.length + 1) l with
    | false =>
      rw [hc] at h2
      simp [hc]
      refine run_exc rfl ?_
      simp [f_require_losses, startE, L_require_losses, h1, h2]
    | true =>
      rw [hc] at h2
      simp [hc]
      refine run_nx rfl ?_
      simp [f_require_losses, startE, L_require_losses, h1, h2]
end
theorem lossOk_shape {n : Nat} {l : D} (h : lossOk n l = true) : ∃ ls, l = .tup ls ∧ 1 ≤ ls.length ∧ ls.length ≤ 3 := by
  cases l with
  | tup ls => simp [lossOk] at h; exact ⟨ls, rfl, h.1.1, h.1.2⟩
  | _ => simp [lossOk] at h
end PV
end
section
set_option linter.all false
set_option maxRecDepth 100000
namespace PV
open PySem (Str)
/-! ### typed data -/
def eM (n w : Nat) (P : Nat → Nat → Rat) : D := .tup (mp n fun s => .tup (fl w (P s)))
def eL (a n : Nat) (L : Nat → Nat → Int) : D := .tup (mp a fun x => .tup (mp n fun s => .int (L x s)))
def eB (n : Nat) (β : Nat → Rat) : D := .tup (fl n β)
def eR (w : Nat) (r : Nat → Nat) : D := .tup (mp w fun o => .int (r o))
structure Md (b n w : Nat) (P : Nat → Nat → Rat) : Prop where
  n2 : 2 ≤ n
  n3 : n ≤ 3
  w1 : 1 ≤ w
  w6 : w ≤ 6
  nn : ∀ s o, s < n → o < w → 0 ≤ P s o
  one : ∀ s, s < n → sm w (P s) = 1
  col : ∀ o, o < w → ∃ s, s < n ∧ 0 < P s o
  bd : ∀ s o, s < n → o < w → RB b (P s o)
structure Ls (a n : Nat) (L : Nat → Nat → Int) : Prop where
  a1 : 1 ≤ a
  a3 : a ≤ 3
  bd : ∀ x s, x < a → s < n → -99 ≤ L x s ∧ L x s ≤ 99
/-- rows of chances -/
structure Mx (b w a : Nat) (X : Nat → Nat → Rat) : Prop where
  nn : ∀ o x, o < w → x < a → 0 ≤ X o x
  one : ∀ o, o < w → sm a (X o) = 1
  bd : ∀ o x, o < w → x < a → RB b (X o x)
structure Bl (b n : Nat) (β : Nat → Rat) : Prop where
  nn : ∀ s, s < n → 0 ≤ β s
  one : sm n β = 1
  bd : ∀ s, s < n → RB b (β s)
theorem Md.mx {b n w : Nat} {P : Nat → Nat → Rat} (h : Md b n w P) : Mx b n w P := ⟨h.nn, h.one, h.bd⟩
theorem Mx.row {b w a : Nat} {X : Nat → Nat → Rat} (h : Mx b w a X) {o : Nat} (ho : o < w) : Bl b a (X o) := ⟨fun x hx => h.nn o x ho hx, h.one o ho, fun x hx => h.bd o x ho hx⟩
theorem fr_bd {q : Rat} {b : Nat} (h : RB b q) (hb : b ≤ 1000) : Bd (fr q) := by
  refine bd_tup.mpr ⟨by simp, fun x hx => ?_⟩
  simp at hx
  rcases hx with rfl | rfl
  · simp [D.bd]; exact lt_mono h.1 hb
  · simp [D.bd]; exact lt_mono h.2 hb
theorem bd_mp {k : Nat} {f : Nat → D} (hk : k ≤ 1000) (h : ∀ i, i < k → Bd (f i)) : Bd (.tup (mp k f)) :=
  bd_tup.mpr ⟨by simpa using hk, fun x hx => by obtain ⟨i, hi, rfl⟩ := mp_mem.mp hx; exact h i hi⟩
theorem bd_int {i : Int} (h : i.natAbs < 2 ^ 1000) : Bd (.int i) := by simp [Bd, D.bd]; exact h
theorem bd_small {i : Int} (h : i.natAbs < 1000000) : Bd (.int i) := bd_int (lt_mono (n := 20) (by simp; omega) (by decide))
theorem fl_bd {k b : Nat} {f : Nat → Rat} (hk : k ≤ 1000) (hb : b ≤ 1000) (h : ∀ i, i < k → RB b (f i)) : Bd (.tup (fl k f)) := bd_mp hk fun i hi => fr_bd (h i hi) hb
theorem Mx.bdD {b w a : Nat} {X : Nat → Nat → Rat} (h : Mx b w a X) (hb : b ≤ 1000) (hw : w ≤ 1000) (ha : a ≤ 1000) : Bd (eM w a X) := bd_mp hw fun o ho => fl_bd ha hb fun x hx => h.bd o x ho hx
theorem Bl.bdD {b n : Nat} {β : Nat → Rat} (h : Bl b n β) (hb : b ≤ 1000) (hn : n ≤ 1000) : Bd (eB n β) := fl_bd hn hb h.bd
theorem Ls.bdD {a n : Nat} {L : Nat → Nat → Int} (h : Ls a n L) (hn : n ≤ 1000) : Bd (eL a n L) := bd_mp (by have := h.a3; omega) fun x hx => bd_mp hn fun s hs => bd_small (by have := h.bd x s hx hs; omega)
theorem eR_bd {w : Nat} {r : Nat → Nat} (hw : w ≤ 1000) (h : ∀ o, o < w → r o < 1000) : Bd (eR w r) := bd_mp hw fun o ho => bd_small (by have := h o ho; omega)
theorem fl_all {k : Nat} {f : Nat → Rat} : (fl k f).all okCh = true ↔ ∀ i, i < k → 0 ≤ f i := by
  rw [mp_all]
  constructor
  · intro h i hi
    have := h i hi
    simp only [okCh, frOf_fr, Bool.and_eq_true, decide_eq_true_eq] at this
    exact Rat.num_nonneg.mp this.2
  · intro h i hi
    simp only [okCh, frOf_fr, isFr_fr, Bool.true_and, decide_eq_true_eq]
    exact Rat.num_nonneg.mpr (h i hi)
theorem fl_frOf (k : Nat) (f : Nat → Rat) : (fl k f).map frOf = mp k f := by rw [mp_map]; exact mp_congr fun i _ => frOf_fr _
theorem chM_fl {lo hi k : Nat} {f : Nat → Rat} : chM lo hi (.tup (fl k f)) = true ↔ (lo ≤ k ∧ k ≤ hi) ∧ (∀ i, i < k → 0 ≤ f i) ∧ sm k f = 1 := by
  simp only [chM, Bool.and_eq_true, decide_eq_true_eq, fl_all, fl_frOf, foldl_mp, mp_len]
@[simp] theorem lenD_tup' (xs : List D) : lenD (.tup xs) = xs.length := (rfl)
@[simp] theorem lenD_eM (n w : Nat) (P : Nat → Nat → Rat) : lenD (eM n w P) = n := mp_len _ _
@[simp] theorem lenD_eL (a n : Nat) (L : Nat → Nat → Int) : lenD (eL a n L) = a := mp_len _ _
theorem num_pos_iff {q : Rat} : 0 < q.num ↔ 0 < q := by
  rw [Rat.lt_iff]
  simp
theorem posAt_fl {j k : Nat} {f : Nat → Rat} (h : j < k) : posAt j (.tup (fl k f)) = decide (0 < f j) := by
  simp only [posAt, mp_get _ h]
  show decide (0 < (f j).num) = _
  rw [decide_eq_decide]
  exact num_pos_iff
theorem Md.mod {b n w : Nat} {P : Nat → Nat → Rat} (h : Md b n w P) : modM (eM n w P) = true := by
  obtain ⟨k, rfl⟩ : ∃ k, n = k + 1 := ⟨n - 1, by have := h.n2; omega⟩
  have h2 := h.n2
  have h3 := h.n3
  unfold eM modM
  simp only [Bool.and_eq_true, decide_eq_true_eq, mp_len, mp_all]
  refine ⟨⟨h2, h3⟩, fun s hs => chM_fl.mpr ⟨⟨h.w1, h.w6⟩, fun i hi => h.nn s i hs hi, h.one s hs⟩, ?_⟩
  have e : lenD ((mp (k + 1) fun s => D.tup (fl w (P s))).headD D.none) = w := by rw [mp_cons]; simp
  rw [e]
  refine ⟨fun s hs => by simp, ?_⟩
  rw [List.all_eq_true]
  intro j hj
  rw [mp_any]
  obtain ⟨s, hs, hp⟩ := h.col j (List.mem_range.mp hj)
  exact ⟨s, hs, by rw [posAt_fl (List.mem_range.mp hj)]; exact decide_eq_true hp⟩
theorem Ls.ok {a n : Nat} {L : Nat → Nat → Int} (h : Ls a n L) : lossOk n (eL a n L) = true := by
  unfold eL lossOk
  simp only [Bool.and_eq_true, decide_eq_true_eq, mp_len, mp_all]
  refine ⟨⟨h.a1, h.a3⟩, fun x hx => ?_⟩
  simp only [rowLs, Bool.and_eq_true, decide_eq_true_eq, mp_len, mp_all, isIntIn, true_and]
  exact fun s hs => h.bd x s hx hs
theorem Mx.ok {b w a : Nat} {X : Nat → Nat → Rat} (h : Mx b w a X) : mixOk w a (eM w a X) = true := by
  unfold eM mixOk
  simp only [Bool.and_eq_true, decide_eq_true_eq, mp_len, mp_all, true_and]
  exact fun o ho => chM_fl.mpr ⟨⟨Nat.le_refl _, Nat.le_refl _⟩, fun x hx => h.nn o x ho hx, h.one o ho⟩
section
variable {b b' b'' n w a : Nat} {P : Nat → Nat → Rat} {L : Nat → Nat → Int} {X : Nat → Nat → Rat} {r : Nat → Nat}
theorem rqM_ok (hP : Md b n w P) : rqM (eM n w P) = none := by simp [rqM, hP.mod]
theorem rqL_ok (hP : Md b n w P) (hL : Ls a n L) : rqL (eM n w P) (eL a n L) = none := by simp [rqL, rqM_ok hP, hL.ok]
theorem Md.bdD (hP : Md b n w P) (hb : b ≤ 1000) : Bd (eM n w P) := hP.mx.bdD hb (by have := hP.n3; omega) (by have := hP.w6; omega)
end
/-! ### drawn things -/
section
variable {ns : List Int} (hns : ns.length ≤ 1000000) {S : Store} {c N : Nat}
include hns
theorem draw_wp {m : Int} (hS : Stt c N S) (hm : 0 < m) (hl : N + 2 < 1000000) : (G_law_draw [.scr ns, .loc c, .int m] S).Wp fun d S' => Dr c (N + 2) S S' ∧ ∃ r : Nat, (r : Int) < m ∧ d = .int r := by
  obtain ⟨r, is, ⟨h0, h1⟩, h2, h3⟩ := draw_ok hS hns hm hl
  refine wp_of_eq h3 ⟨⟨is, rfl, h2⟩, r.toNat, by omega, ?_⟩
  rw [Int.toNat_of_nonneg h0]
theorem pick_wp {xs : List D} (hS : Stt c N S) (hl : N + 2 < 1000000) (hx : xs ≠ []) (hp : ∀ x, x ∈ xs → x.pure = true) : (G_law_pick [.scr ns, .loc c, .lst xs] S).Wp fun d S' => Dr c (N + 2) S S' ∧ d ∈ xs := by
  obtain ⟨r, is, h1, h2, h3⟩ := pick_ok hS hns hl hx hp
  exact wp_of_eq h3 ⟨⟨is, rfl, h2⟩, h1⟩
end
theorem divInt_div (a b : Int) : Rat.divInt a b = (a : Rat) / (b : Rat) := Rat.divInt_eq_div a b
theorem sum_mp (k : Nat) (w : Nat → Int) : (((mp k w).sum : Int) : Rat) = sm k fun i => (w i : Rat) := by
  induction k with
  | zero => simp
  | succ k ih => rw [mp_s, List.sum_append, sm_s, ← ih]; simp [Rat.intCast_add]
theorem spr_mp (k : Nat) (w : Nat → Int) : spr (mp k w) = .tup (fl k fun i => (w i : Rat) / sm k fun i => (w i : Rat)) := by
  unfold spr
  rw [mp_map]
  congr 1
  refine mp_congr fun i _ => ?_
  rw [divInt_div, sum_mp]
theorem RB_quo {k m b : Nat} {w : Nat → Int} (hw : ∀ i, i < k → 0 ≤ w i ∧ w i ≤ m) (hs : 0 < (mp k w).sum) (hb : k * m < 2 ^ b) {i : Nat} (hi : i < k) : RB b ((w i : Rat) / sm k fun i => (w i : Rat)) := by
  have h1 : (mp k w).sum ≤ k * m := by
    clear hs hb hi
    induction k with
    | zero => simp
    | succ k ih =>
      rw [mp_s, List.sum_append]
      have := ih fun i hi => hw i (by omega)
      have h2 := hw k (by omega)
      have e : ((k + 1 : Nat) : Int) * m = k * m + m := by rw [Int.natCast_add, Int.add_mul]; simp
      rw [e]
      simp; omega
  have h2 : w i ≤ k * m := by
    have := (hw i hi).2
    have h3 : (1 : Int) * m ≤ k * m := Int.mul_le_mul_of_nonneg_right (by omega) (by omega)
    omega
  rw [← sum_mp, ← divInt_div]
  have h3 := (hw i hi).1
  have e : ((k * m : Nat) : Int) = (k : Int) * m := by simp
  refine RB_divInt (by omega) (by omega) (by omega)
/-- weights, spread -/
theorem Bl_spr {k m b : Nat} {w : Nat → Int} (hw : ∀ i, i < k → 0 ≤ w i ∧ w i ≤ m) (hs : 0 < (mp k w).sum) (hb : k * m < 2 ^ b) : Bl b k fun i => (w i : Rat) / sm k fun i => (w i : Rat) := by
  have hp : (0 : Rat) < sm k fun i => (w i : Rat) := by rw [← sum_mp]; exact Rat.intCast_pos.mpr hs
  refine ⟨fun s hs => ?_, ?_, fun i hi => RB_quo hw ‹_› hb hi⟩
  · have := (hw s hs).1
    have h2 : (0 : Rat) ≤ (w s : Rat) := Rat.intCast_nonneg.mpr this
    rw [Rat.div_def]
    exact Rat.mul_nonneg h2 (Rat.le_of_lt (Rat.inv_pos.mpr hp))
  · rw [sm_div, Rat.div_def]
    exact Rat.mul_inv_cancel _ (fun e => by rw [e] at hp; exact absurd hp (by decide))
end PV
end
section
set_option linter.all false
set_option maxRecDepth 100000
namespace PV
open PySem (Str)
/-! ### drawn things, typed -/
theorem list_mp_at0 (ws : List Int) : ws = mp ws.length fun i => at0 i ws := mp_of ws
/-- the chances are weights: few bits for all of a row together -/
structure Wt (n w : Nat) (P : Nat → Nat → Rat) : Prop where
  at_ : ∃ (A : Nat → Nat → Int) (d : Nat → Int), ∀ s, s < n → 0 < d s ∧ d s < 32 ∧ ∀ o, o < w → 0 ≤ A s o ∧ A s o ≤ 4 ∧ P s o = (A s o : Rat) / (d s : Rat)
theorem tbl_md {most : Nat} {tbl : List (List Int)} (h : TblOk most tbl) (hm : most ≤ 6) : ∃ n w P, modelD tbl = eM n w P ∧ Md 5 n w P ∧ w ≤ most ∧ Wt n w P := by
  obtain ⟨many, h1, h2, h3, h4⟩ := h.wide
  let row (s : Nat) : List Int := (tbl[s]?).getD []
  let P (s o : Nat) : Rat := (at0 o (row s) : Rat) / sm many fun i => (at0 i (row s) : Rat)
  have hrow : ∀ s, s < tbl.length → row s ∈ tbl := fun s hs => by simp [row, hs]
  have hmp : ∀ s, s < tbl.length → row s = mp many fun i => at0 i (row s) := fun s hs => by
    have := list_mp_at0 (row s)
    rw [(h3 _ (hrow s hs)).1] at this
    exact this
  have hw : ∀ s, s < tbl.length → ∀ i, i < many → 0 ≤ at0 i (row s) ∧ at0 i (row s) ≤ (3 : Nat) := fun s hs i hi => by
    have h5 := h3 _ (hrow s hs)
    have h6 : at0 i (row s) ∈ row s := by
      have : i < (row s).length := by rw [h5.1]; exact hi
      simp [at0, this]
    have := h5.2 _ h6
    omega
  have hs : ∀ s, s < tbl.length → 0 < (mp many fun i => at0 i (row s)).sum := fun s hs => by
    rw [← hmp s hs]
    exact sum_pos (fun w hw => ((h3 _ (hrow s hs)).2 w hw).1) (h.pos _ (hrow s hs))
  have hb : many * 3 < 2 ^ 5 := by omega
  have hB : ∀ s, s < tbl.length → Bl 5 many (P s) := fun s hs' => Bl_spr (hw s hs') (hs s hs') hb
  refine ⟨tbl.length, many, P, ?_, ⟨h.two.1, h.two.2, h1, by omega, fun s o hs ho => (hB s hs).nn o ho, fun s hs => (hB s hs).one, ?_, fun s o hs ho => (hB s hs).bd o ho⟩, h2, ⟨fun s o => at0 o (row s), fun s => (mp many fun i => at0 i (row s)).sum, fun s hs' => ⟨hs s hs', ?_, fun o ho => ⟨(hw s hs' o ho).1, by have := (hw s hs' o ho).2; show at0 o (row s) ≤ 4; omega, ?_⟩⟩⟩⟩
  · unfold modelD eM
    congr 1
    have e : tbl = mp tbl.length row := mp_of tbl
    conv => lhs; rw [e]
    rw [mp_map]
    refine mp_congr fun s hs => ?_
    rw [hmp s hs, spr_mp]
  · intro o ho
    obtain ⟨ws, hws, hp⟩ := h4 o ho
    obtain ⟨s, hs2, rfl⟩ := List.mem_iff_getElem.mp hws
    refine ⟨s, hs2, ?_⟩
    have e : row s = tbl[s] := by simp [row, hs2]
    have hp' : (0 : Rat) < (at0 o (row s) : Rat) := by rw [e]; exact Rat.intCast_pos.mpr hp
    have hq : (0 : Rat) < sm many fun i => (at0 i (row s) : Rat) := by rw [← sum_mp]; exact Rat.intCast_pos.mpr (hs s hs2)
    show 0 < (at0 o (row s) : Rat) / _
    rw [Rat.div_def]
    exact Rat.mul_pos hp' (Rat.inv_pos.mpr hq)
  · have : ∀ k, k ≤ many → (mp k fun i => at0 i (row s)).sum ≤ (k : Int) * 3 := fun k => by
      induction k with
      | zero => intro _; simp
      | succ k ih =>
        intro hk
        have h1 := ih (by omega)
        have h2 := (hw s hs' k (by omega)).2
        rw [mp_s, List.sum_append]
        simp
        omega
    have h5 := this many (Nat.le_refl _)
    have h6 : (many : Int) ≤ 6 := by omega
    show (mp many fun i => at0 i (row s)).sum < 32
    omega
  · show (at0 o (row s) : Rat) / _ = _
    rw [sum_mp]
section
variable {ns : List Int} (hns : ns.length ≤ 1000000) {S : Store} {c N : Nat}
include hns
theorem model_wp2 {most : Nat} {i : Int} (hi : i = most) (hS : Stt c N S) (h1 : 1 ≤ most) (h2 : most ≤ 6) (hN : N + 1000 < 1000000) : (G_law_model [.scr ns, .loc c, .int i] S).Wp fun d S' => Dr c (N + 40) S S' ∧ ∃ n w P, d = eM n w P ∧ Md 5 n w P ∧ w ≤ most ∧ Wt n w P := by
  subst hi
  obtain ⟨tbl, is, h3, h4, h5⟩ := model_ok hns hS h1 (by omega) hN
  exact wp_of_eq h5 ⟨⟨is, rfl, by omega⟩, tbl_md h3 h2⟩
/-- a comprehension that draws -/
theorem draws_wp {F : Nat → List D → Store → R D} {ρ : Env} {kk : Ik} {src e : Ex} {tg : Tg} {own : List Nat} {cc : Ex} {mm : Bool} {as : List D} {k : Nat} {t : Nat → D} {Q : D → Store → Prop} {m : Nat} (f : Nat → D) (hS : Stt c N S) (hs : ev F src ρ S = .ok (.tup as) S) (hw : walkD kk as S = some (mp k t, [])) (hm : 0 < m) (hl : N + 2 * k + 2 < 1000000)
    (he : ∀ i S N, i < k → Stt c N S → N + 2 < 1000000 → ∃ ρ1, put tg (t i) (wipeE ρ own) = some ρ1 ∧ (ev F e ρ1 S).Wp fun d S' => Dr c (N + 2) S S' ∧ ∃ r : Nat, r < m ∧ d = f r)
    (hq : ∀ (r : Nat → Nat) S', (∀ i, i < k → r i < m) → Dr c (N + 2 * k) S S' → (newL mm (mp k fun i => f (r i)) S').Wp Q) : (ev F (.comp kk src tg own false cc e mm) ρ S).Wp Q := by
  refine comp_wp hs hw (fun i S' => Dr c (N + 2 * i) S S') (fun i d => ∃ r : Nat, r < m ∧ d = f r) (Dr.refl (by simpa using hS)) (fun i S1 hi h => ⟨rfl, ?_⟩) (fun _ _ => rfl) (fun ys S' hy hJ => ?_)
  · obtain ⟨ρ1, h1, h2⟩ := he i S1 (N + 2 * i) hi (h.stt hS) (by omega)
    refine ⟨ρ1, h1, h2.mono fun d S' h3 => ⟨h3.2, ?_⟩⟩
    have := h.trans h3.1
    rwa [show N + 2 * i + 2 = N + 2 * (i + 1) by omega] at this
  · have : ∃ r : Nat → Nat, ∀ i, i < k → r i < m ∧ ys i = f (r i) := by
      refine ⟨fun i => if h : i < k then (hy i h).choose else 0, fun i hi => ?_⟩
      have := (hy i hi).choose_spec
      simp only [dif_pos hi]
      exact this
    obtain ⟨r, hr⟩ := this
    have := hq r S' (fun i hi => (hr i hi).1) hJ
    rwa [mp_congr (fun i hi => (hr i hi).2)]
theorem losses_wp {n w : Nat} {P : Nat → Nat → Rat} (hn : n ≤ 3) (hS : Stt c N S) (hN : N + 100 < 1000000) : (G_law_losses [.scr ns, .loc c, eM n w P] S).Wp fun d S' => Dr c (N + 40) S S' ∧ ∃ a L, d = eL a n L ∧ 1 ≤ a ∧ a ≤ 3 ∧ ∀ x s, x < a → s < n → -4 ≤ L x s ∧ L x s ≤ 4 := by
  refine run_wp rfl fun T hT => ?_
  refine st_seq ?_
  simp [startE, f_law_losses]
  refine kn_seq ?_
  simp [L_law_losses]
  have h1 := draw_wp hns (hS.app (X := [Cell.lst []])) (m := 3) (by decide) (by omega)
  refine R.Wp.mono h1 ?_
  rintro _ S1 ⟨hD0, r, hr, rfl⟩
  obtain ⟨S2, rfl, hD⟩ := hD0.app hS
  have hS2 := hD.stt hS
  simp
  have e : (1 : Int) + (r : Int) = ((1 + r : Nat) : Int) := by omega
  rw [e]
  obtain ⟨I, hI⟩ : ∃ I : Nat → Env → Store → Prop, ∀ i ρ S', I i ρ S' ↔ ∃ (S3 : Store) (L : Nat → Nat → Int) (z : Option D), Dr c (N + 2 + 6 * i) S S3 ∧ S' = S3 ++ [.lst (mp i fun x => .tup (mp n fun s => .int (L x s)))] ∧ ρ = [some (.scr ns), some (.loc c), some (eM n w P), some (.loc S.length), z, none] ∧ ∀ x s, x < i → s < n → -4 ≤ L x s ∧ L x s ≤ (4 : Int) := ⟨_, fun _ _ _ => Iff.rfl⟩
  refine for_wp0 (walk_rngN (by omega)) I ((hI _ _ _).mpr ⟨S2, fun _ _ => 0, none, hD, rfl, rfl, fun _ _ _ _ => by omega⟩) (fun i ρ S' hi h => ?_) (fun ρ S' h => ?_)
  · obtain ⟨S3, L, z, hD3, rfl, rfl, hL⟩ := (hI _ _ _).mp h
    refine ⟨_, rfl, ?_⟩
    refine st_seq ?_
    have hlen : S.length = S3.length := hD3.len.symm
    have hS3 := hD3.stt hS
    simp [L_law_losses]
    rw [appG_loc (xs := mp i fun x => .tup (mp n fun s => .int (L x s))) (by rw [hlen]; exact get_last _ _)]
    simp
    refine draws_wp hns (m := 9) (k := n) (as := [eM n w P]) (fun r => .int ((r : Int) - 4)) hS3.app (by simp) (walk_sq (.inl rfl)) (by decide) (by omega) (fun j S4 N4 hj hS4 hN4 => ⟨_, rfl, ?_⟩) (fun r' S4 hr' hD4 => ?_)
    · simp [L_law_losses]
      refine R.Wp.mono (draw_wp hns hS4 (by decide) hN4) ?_
      rintro _ S5 ⟨hD5, q, hq, rfl⟩
      simp
      exact ⟨hD5, q, by omega, rfl⟩
    · obtain ⟨S5, rfl, hD5⟩ := hD4.app hS3
      have hn' : n ≤ 16777216 := by omega
      have hlen5 : S5.length = S.length := by rw [hD5.len, hD3.len]
      simp [newL_f, hn']
      have happ := app_loc (S := S5 ++ [.lst (mp i fun x => D.tup (mp n fun s => .int (L x s)))]) (c := S.length) (xs := mp i fun x => D.tup (mp n fun s => .int (L x s))) (by rw [← hlen5]; exact get_last _ _) (by simp; omega) (.tup (mp n fun j => .int ((r' j : Int) - 4)))
      rw [happ]
      simp
      refine kn_skip ((hI _ _ _).mpr ⟨S5, fun x s => if x = i then (r' s : Int) - 4 else L x s, some (.int i), (hD3.trans hD5).mono (by omega), ?_, rfl, ?_⟩)
      · rw [← hlen5, set_last, mp_s]
        simp
        refine mp_congr fun x hx => ?_
        have hne : x ≠ i := by omega
        simp [hne]
      · intro x s hx hs
        by_cases h : x = i
        · subst h; simp; have := hr' s hs; omega
        · simp [h]; exact hL x s (by omega) hs
  · obtain ⟨S3, L, z, hD3, rfl, rfl, hL⟩ := (hI _ _ _).mp h
    refine kn_seq ?_
    have hlen : S.length = S3.length := hD3.len.symm
    have ht := tuple_loc (S := S3 ++ [.lst (mp (1 + r) fun x => .tup (mp n fun s => .int (L x s)))]) (c := S.length) (by rw [hlen]; exact get_last _ _) false
    simp [ht]
    apply hT
    rw [hD3.clean]
    · simp
      exact ⟨hD3.mono (by omega), _, L, rfl, by omega, by omega, hL⟩
    · exact pureL_of fun x hx => by
        obtain ⟨i, hi, rfl⟩ := mp_mem.mp hx
        exact pureL_of fun y hy => by obtain ⟨j, hj, rfl⟩ := mp_mem.mp hy; rfl
end
end PV
end
section
set_option linter.all false
set_option maxRecDepth 100000
namespace PV
open PySem (Str)
theorem fl_pure (k : Nat) (f : Nat → Rat) : (D.tup (fl k f)).pure = true := pureL_of fun x hx => by obtain ⟨i, _, rfl⟩ := mp_mem.mp hx; rfl
theorem eM_pure (n w : Nat) (P : Nat → Nat → Rat) : (eM n w P).pure = true := pureL_of fun x hx => by obtain ⟨i, _, rfl⟩ := mp_mem.mp hx; exact fl_pure _ _
/-! ### pure rules -/
end PV
end
section
set_option linter.all false
set_option maxRecDepth 100000
namespace PV
open PySem (Str)
/-! ### _law_same -/
mutual
def D.tp : D → Bool
  | .none => true | .bool _ => true | .int _ => true | .str _ => true
  | .tup xs => D.tpL xs
  | _ => false
def D.tpL : List D → Bool
  | [] => true
  | x :: xs => D.tp x && D.tpL xs
end
theorem tpL_iff : ∀ {xs : List D}, D.tpL xs = true ↔ ∀ x, x ∈ xs → x.tp = true
  | [] => by simp [D.tpL]
  | x :: xs => by simp [D.tpL, tpL_iff (xs := xs)]
theorem eqv_bools (a b : Bool) (S : Store) : cmpD .eq (.bool a) (.bool b) S = some (decide (a = b)) := by
  show some (a == b) = _
  cases a <;> cases b <;> rfl
theorem eqv_strs {a b : Str} (ha : Bd (.str a)) (hb : Bd (.str b)) (S : Store) : cmpD .eq (.str a) (.str b) S = some (decide (a = b)) := by
  rw [eq_plain rfl rfl (flat_of_bd ha) (flat_of_bd hb) (Nat.zero_le _) (Nat.zero_le _)]
  show some (a == b) = _
  rfl
theorem zip2_map : ∀ (xs ys : List D), zip2L xs ys = (xs.zip ys).map fun p => D.tup [p.1, p.2]
  | [], _ => rfl
  | _ :: _, [] => rfl
  | x :: xs, y :: ys => by
    show D.tup [x, y] :: zip2L xs ys = _
    rw [zip2_map xs ys]; rfl
theorem zip_all_eq : ∀ {xs ys : List D}, xs.length = ys.length → ((xs.zip ys).all fun p => decide (p.1 = p.2)) = decide (xs = ys)
  | [], [], _ => rfl
  | x :: xs, y :: ys, h => by
    simp only [List.zip_cons_cons, List.all_cons, zip_all_eq (xs := xs) (ys := ys) (by simpa using h)]
    by_cases h1 : x = y <;> by_cases h2 : xs = ys <;> simp [h1, h2]
theorem law_same_ok : ∀ (n : Nat) (g d : D) (S : Store), d.dep < n → Bd g → Bd d → d.tp = true → G_law_same n [g, d] S = .ok (.bool (decide (g = d))) S := by
  intro n
  induction n with
  | zero => intro g d S h; omega
  | succ n ih =>
    intro g d S hd hg hdb ht
    show runF (FOf (L_law_same (G_law_same n))) f_law_same [g, d] S = _
    refine runF_pure rfl rfl ?_
    cases d with
    | none => cases g <;> simp [startE, f_law_same, cmpD]
    | bool b =>
      cases g with
      | bool a => simp [startE, f_law_same, cmpD]; have := eqv_bools a b S; simp [cmpD] at this; simp [this]
      | loc _ => simp [Bd, D.bd] at hg
      | _ => simp [startE, f_law_same, cmpD]
    | int i =>
      cases g with
      | loc _ => simp [Bd, D.bd] at hg
      | int j => simp [startE, f_law_same, cmpD, eqD, D.frz, D.frz1, deepOk, D.flat, D.dep, D.eqv]; rfl
      | _ => simp [startE, f_law_same, cmpD]
    | str t =>
      cases g with
      | loc _ => simp [Bd, D.bd] at hg
      | str s =>
        have := eqv_strs hg hdb S
        simp [startE, f_law_same, cmpD] at this ⊢
        simp [this]
      | _ => simp [startE, f_law_same, cmpD]
    | tup ys =>
      cases g with
      | loc _ => simp [Bd, D.bd] at hg
      | tup xs =>
        by_cases hl : xs.length = ys.length
        · have hl' : (xs.length : Int) = ys.length := by omega
          have hb := (bd_tup.mp hg)
          have hb2 := (bd_tup.mp hdb)
          have hall := all_map (S := S) false (fun p : D × D => decide (p.1 = p.2)) (xs.zip ys)
          simp [startE, f_law_same, L_law_same, hl', cmpD]
          simp [eqD, D.frz, D.frz1, deepOk, D.flat, D.dep, D.eqv]
          rw [comp_mapgE (as := [.tup xs, .tup ys]) (l := xs.zip ys) (t := fun p => D.tup [p.1, p.2]) (h := fun p => .bool (decide (p.1 = p.2))) (en := fun p => [some (.tup xs), some (.tup ys), some p.1, some p.2]) (by simp) (by show some (zip2L xs ys, _) = _; rw [zip2_map]; rfl) (fun p _ => rfl) (fun p hp => by
            obtain ⟨h1, h2⟩ := List.of_mem_zip hp
            have := ih p.1 p.2 S (by have := dep_mem h2; simp only [D.dep] at hd; omega) (hb.2 _ h1) (hb2.2 _ h2) (tpL_iff.mp ht _ h2)
            simp [this])]
          have hz : (xs.zip ys).length ≤ 16777216 := by simp; omega
          rw [newL_f (by simpa using hz)]
          simp [hall, zip_all_eq hl]
        · have hl' : ¬ (xs.length : Int) = ys.length := by omega
          have hne : xs ≠ ys := fun e => hl (by rw [e])
          simp [startE, f_law_same, hl', cmpD, eqD, D.frz, D.frz1, deepOk, D.flat, D.dep, D.eqv, hne]
      | _ => simp [startE, f_law_same, cmpD]
    | lst _ => simp [D.tp] at ht
    | scr _ => simp [D.tp] at ht
    | loc _ => simp [D.tp] at ht
end PV
end
section
set_option linter.all false
set_option maxRecDepth 100000
namespace PV
open PySem (Str)
/-! ### risks -/
section
variable {b b' n w a : Nat} {P : Nat → Nat → Rat} {L : Nat → Nat → Int} {X : Nat → Nat → Rat} {S : Store}
theorem sq_eM : Sq (eM n w P) (mp n fun s => D.tup (fl w (P s))) := .inl rfl
theorem sq_eL : Sq (eL a n L) (mp a fun x => D.tup (mp n fun s => .int (L x s))) := .inl rfl
end
/-! ### wrappers -/
theorem try_exc {F : Nat → List D → Store → R D} {f : Fn} {vs : List D} {S : Store} {e : Ex} {hs : List (Nat × Str)} {c c' : Nat} {t : Str} (hl : vs.length = f.np) (hb : f.body = .seq (.tryR e hs) .skip) (he : ev F e (startE f.nn vs) S = .exc c S) (hf : hs.find? (fun p => p.1 == c) = some (c', t)) : runF F f vs S = .ok (.str t) S := by
  refine runF_pure hl rfl ?_
  rw [hb, ex_seq, ex_try, he, tryS_exc, hf]
  rfl
theorem ne_same {s : Str} (h : Bd (.str s)) (S : Store) : cmpD .ne (.str s) (.str s) S = some false := by
  have := eqv_strs h h S
  show (eqD S (.str s) (.str s)).map not = _
  have h2 : eqD S (.str s) (.str s) = some (decide (s = s)) := this
  rw [h2]; simp
theorem bd_lit (s : String) : Bd (.str (Str.ofString s)) := bd_ofString s 1000
end PV
end
section
set_option linter.all false
set_option maxRecDepth 100000
namespace PV
open PySem (Str)
section
variable {F : Nat → List D → Store → R D} {ρ : Env} {S : Store} {N : Env → Store → Prop} {T : D → Store → Prop}
/-- a loop over any things: what holds all along -/
theorem for_each {kk : Ik} {tg : Tg} {b : St} {as xs : List D} (hw : walkD kk as S = some (xs, [])) (J : Env → Store → Prop) (h0 : J ρ S) (hs : ∀ x, x ∈ xs → ∀ ρ S, J ρ S → ∃ ρ1, put tg x ρ = some ρ1 ∧ (ex F b ρ1 S).Wp J T) (he : ∀ ρ S, J ρ S → N ρ S) : (forS F kk tg b ρ (.tup as) S).Wp N T := by
  have e := mp_of xs
  rw [e] at hw
  refine for_wp0 hw (fun _ => J) h0 (fun i ρ S hi h => ?_) he
  refine hs _ ?_ ρ S h
  simp [hi]
theorem forR_each {tg : Tg} {b : St} {xs : List D} (J : Env → Store → Prop) (h0 : J ρ S) (hs : ∀ x, x ∈ xs → ∀ ρ S, J ρ S → ∃ ρ1, put tg x ρ = some ρ1 ∧ (ex F b ρ1 S).Wp J T) (he : ∀ ρ S, J ρ S → N ρ S) : (forR tg (ex F b) [] xs ρ S).Wp N T := by
  have := for_each (F := F) (kk := .seq) (tg := tg) (b := b) (ρ := ρ) (S := S) (as := [.lst xs]) (xs := xs) (T := T) (N := N) rfl J h0 hs he
  rwa [forS_walk (its := xs) (g := []) rfl] at this
end
theorem cut1 {α : Type} (xs : List α) : cut xs (some 1) none = xs.tail := by
  rw [← List.drop_one]
  by_cases h : 1 ≤ xs.length
  · exact cut_from xs 1 h
  · cases xs with
    | nil => rfl
    | cons _ _ => simp at h
/-- the dep of typed data -/
theorem dep_fl (k : Nat) (f : Nat → Rat) : (D.tup (fl k f)).dep ≤ 2 := by
  simp only [D.dep]
  have := depL_le (m := 1) (xs := fl k f) fun x hx => by obtain ⟨i, _, rfl⟩ := mp_mem.mp hx; exact Nat.le_refl _
  omega
theorem dep_eM (n w : Nat) (P : Nat → Nat → Rat) : (eM n w P).dep ≤ 3 := by
  unfold eM
  simp only [D.dep]
  have := depL_le (m := 2) (xs := mp n fun s => D.tup (fl w (P s))) fun x hx => by obtain ⟨i, _, rfl⟩ := mp_mem.mp hx; exact dep_fl _ _
  omega
theorem tp_mp {k : Nat} {f : Nat → D} (h : ∀ i, i < k → (f i).tp = true) : (D.tup (mp k f)).tp = true := by
  show D.tpL _ = true
  rw [tpL_iff]
  intro x hx
  obtain ⟨i, hi, rfl⟩ := mp_mem.mp hx
  exact h i hi
theorem tp_fl (k : Nat) (f : Nat → Rat) : (D.tup (fl k f)).tp = true := tp_mp fun i _ => rfl
theorem tp_eM (n w : Nat) (P : Nat → Nat → Rat) : (eM n w P).tp = true := tp_mp fun i _ => tp_fl _ _
theorem same_true {n : Nat} {d : D} (hd : d.dep < n) (hb : Bd d) (ht : d.tp = true) (S : Store) : G_law_same n [d, d] S = .ok (.bool true) S := by
  rw [law_same_ok n d d S hd hb hb ht]; simp
end PV
end
section
set_option linter.all false
set_option maxRecDepth 100000
namespace PV
open PySem (Str)
/-! ### == of plain data -/
mutual
def D.nb : D → Bool
  | .none => true | .int _ => true | .str _ => true
  | .tup xs => D.nbL xs | .lst xs => D.nbL xs
  | _ => false
def D.nbL : List D → Bool
  | [] => true
  | x :: xs => D.nb x && D.nbL xs
end
mutual
theorem eqv_nb : ∀ (a b : D), a.nb = true → b.nb = true → D.eqv a b = decide (a = b)
  | .none, b, _, hb => by cases b <;> simp [D.eqv]
  | .int i, b, _, hb => by
    cases b with
    | int j => simp [D.eqv]; rfl
    | bool _ => simp [D.nb] at hb
    | _ => simp [D.eqv]
  | .str s, b, _, hb => by
    cases b with
    | str t => simp [D.eqv]; rfl
    | _ => simp [D.eqv]
  | .tup xs, b, ha, hb => by
    cases b with
    | tup ys => simp only [D.eqv, eqvL_nb xs ys ha hb]; simp
    | _ => simp [D.eqv]
  | .lst xs, b, ha, hb => by
    cases b with
    | lst ys => simp only [D.eqv, eqvL_nb xs ys ha hb]; simp
    | _ => simp [D.eqv]
  | .bool _, b, ha, _ => by simp [D.nb] at ha
  | .scr _, b, ha, _ => by simp [D.nb] at ha
  | .loc _, b, ha, _ => by simp [D.nb] at ha
theorem eqvL_nb : ∀ (a b : List D), D.nbL a = true → D.nbL b = true → D.eqvL a b = decide (a = b)
  | [], b, _, _ => by cases b <;> simp [D.eqvL]
  | x :: xs, b, ha, hb => by
    cases b with
    | nil => simp [D.eqvL]
    | cons y ys =>
      simp only [D.nbL, Bool.and_eq_true] at ha hb
      simp only [D.eqvL, eqv_nb x y ha.1 hb.1, eqvL_nb xs ys ha.2 hb.2]
      by_cases h1 : x = y <;> by_cases h2 : xs = ys <;> simp [h1, h2]
end
mutual
theorem pure_nb : ∀ (a : D), a.nb = true → a.pure = true
  | .none, _ => rfl
  | .int _, _ => rfl
  | .str _, _ => rfl
  | .tup xs, h => pureL_nb xs h
  | .lst xs, h => pureL_nb xs h
  | .bool _, ha => by simp [D.nb] at ha
  | .scr _, ha => by simp [D.nb] at ha
  | .loc _, ha => by simp [D.nb] at ha
theorem pureL_nb : ∀ (a : List D), D.nbL a = true → D.pureL a = true
  | [], _ => rfl
  | x :: xs, h => by
    simp only [D.nbL, Bool.and_eq_true] at h
    simp only [D.pureL, pure_nb x h.1, pureL_nb xs h.2, Bool.and_self]
end
/-- plain data without bools, not deep -/
structure Pl (d : D) : Prop where
  nb : d.nb = true
  fl : d.flat = true
  dp : d.dep ≤ 60
theorem Pl.eq {a b : D} (ha : Pl a) (hb : Pl b) (S : Store) : cmpD .eq a b S = some (decide (a = b)) := by
  rw [eq_plain (pure_nb a ha.nb) (pure_nb b hb.nb) ha.fl hb.fl (by have := ha.dp; omega) (by have := hb.dp; omega), eqv_nb a b ha.nb hb.nb]
theorem Pl.ne {a b : D} (ha : Pl a) (hb : Pl b) (S : Store) : cmpD .ne a b S = some (!decide (a = b)) := by
  have := ha.eq hb S
  show (eqD S a b).map not = _
  have h2 : eqD S a b = some (decide (a = b)) := this
  rw [h2]; rfl
/-! ### the law's own actions -/
end PV
end
section
set_option linter.all false
set_option maxRecDepth 100000
namespace PV
open PySem (Str)
/-! ### groupings -/
def ofI : D → Int
  | .int i => i
  | _ => 0
/-- with so many groups before -/
def grpL : Nat → List D → Bool
  | _, [] => true
  | k, x :: r => isIntIn 0 k x && grpL (if ofI x = k then k + 1 else k) r
def grpOk (w : Nat) : D → Bool
  | .tup xs => decide (xs.length = w) && grpL 0 xs
  | _ => false
end PV
end
section
set_option linter.all false
set_option maxRecDepth 100000
namespace PV
open PySem (Str)
/-- how many groups among the first -/
def gct (g : Nat → Nat) : Nat → Nat
  | 0 => 0
  | w + 1 => if g w = gct g w then gct g w + 1 else gct g w
def Gr (w : Nat) (g : Nat → Nat) : Prop := ∀ o, o < w → g o ≤ gct g o
theorem gct_congr {g h : Nat → Nat} : ∀ {w : Nat}, (∀ o, o < w → g o = h o) → gct g w = gct h w
  | 0, _ => rfl
  | w + 1, e => by
    have := gct_congr (w := w) fun o ho => e o (by omega)
    simp only [gct, this, e w (by omega)]
theorem Gr.congr {g h : Nat → Nat} {w : Nat} (hg : Gr w g) (e : ∀ o, o < w → g o = h o) : Gr w h := fun o ho => by
  rw [← e o ho, ← gct_congr (g := g) fun p hp => e p (by omega)]; exact hg o ho
theorem gct_le (g : Nat → Nat) : ∀ w, gct g w ≤ w
  | 0 => Nat.le_refl _
  | w + 1 => by have := gct_le g w; simp only [gct]; split <;> omega
theorem gct_mono (g : Nat → Nat) (w : Nat) : ∀ k, gct g w ≤ gct g (w + k)
  | 0 => Nat.le_refl _
  | k + 1 => by
    have := gct_mono g w k
    show _ ≤ gct g (w + k + 1)
    simp only [gct]; split <;> omega
theorem Gr.lt {g : Nat → Nat} {w : Nat} (h : Gr w g) {o : Nat} (ho : o < w) : g o < gct g w := by
  have h1 := h o ho
  have h2 : g o < gct g (o + 1) := by simp only [gct]; split <;> omega
  have h3 := gct_mono g (o + 1) (w - (o + 1))
  rw [show o + 1 + (w - (o + 1)) = w by omega] at h3
  omega
theorem grpL_mp {g : Nat → Nat} : ∀ {w : Nat}, Gr w g → ∀ q, grpL 0 ((mp w fun o => D.int (g o)) ++ q) = grpL (gct g w) q
  | 0, _, q => rfl
  | w + 1, h, q => by
    rw [mp_s, List.append_assoc, grpL_mp (w := w) (fun o ho => h o (by omega))]
    have h1 := h w (by omega)
    have e1 : isIntIn 0 (gct g w : Int) (.int (g w)) = true := by simp [isIntIn]; omega
    have eo : ofI (.int (g w : Int)) = g w := rfl
    simp only [List.cons_append, List.nil_append, grpL, e1, Bool.true_and, gct]
    congr 1
    by_cases e : g w = gct g w
    · rw [if_pos (by rw [eo]; omega), if_pos e]
    · rw [if_neg (by rw [eo]; omega), if_neg e]
theorem Gr.ok {g : Nat → Nat} {w : Nat} (h : Gr w g) : grpOk w (eR w g) = true := by
  have := grpL_mp h []
  rw [List.append_nil] at this
  simp [grpOk, eR, this, grpL]
theorem Gr.bdD {g : Nat → Nat} {w : Nat} (h : Gr w g) (hw : w ≤ 900) : Bd (eR w g) := eR_bd (by omega) fun o ho => by
  have := h.lt ho; have := gct_le g w; omega
/-! ### groups of observations -/
def mem (w : Nat) (g : Nat → Nat) (j : Nat) : List Nat := (List.range w).filter fun o => decide (g o = j)
end PV
end
section
set_option linter.all false
set_option maxRecDepth 100000
namespace PV
open PySem (Str)
/-- two observations speak alike -/
def Pr (n : Nat) (P : Nat → Nat → Rat) (o o' : Nat) : Prop := ∀ s, s < n → ∀ t, t < n → P s o * P t o' = P t o * P s o'
instance (n : Nat) (P : Nat → Nat → Rat) (o o' : Nat) : Decidable (Pr n P o o') := by unfold Pr; infer_instance
end PV
end
section
set_option linter.all false
set_option maxRecDepth 100000
namespace PV
open PySem (Str)
def spl {α : Type} (p : Nat) (f : Nat → α) (x y : α) (o : Nat) : α := if o < p then f o else if o = p then x else if o = p + 1 then y else f (o - 1)
end PV
end
section
set_option linter.all false
set_option maxRecDepth 100000
namespace PV
open PySem (Str)
section
variable {b n w : Nat} {P : Nat → Nat → Rat}
theorem Pr.self (n : Nat) (P : Nat → Nat → Rat) (o : Nat) : Pr n P o o := fun s _ t _ => Rat.mul_comm _ _
theorem Pr.trans {f o o' : Nat} (hf : ∃ s, s < n ∧ 0 < P s f) (h1 : Pr n P f o) (h2 : Pr n P f o') : Pr n P o o' := by
  obtain ⟨s0, hs0, hp⟩ := hf
  intro s hs t ht
  have a1 := h1 s0 hs0 s hs
  have a2 := h1 s0 hs0 t ht
  have b1 := h2 s0 hs0 s hs
  have b2 := h2 s0 hs0 t ht
  have hne : P s0 f ≠ 0 := by grind
  have e : P s0 f * P s0 f * (P s o * P t o') = P s0 f * P s0 f * (P t o * P s o') := by grind
  have hne2 : P s0 f * P s0 f ≠ 0 := by
    intro h; rcases Rat.mul_eq_zero.mp h with h | h <;> exact hne h
  have := congrArg (fun x => (P s0 f * P s0 f)⁻¹ * x) e
  simp only [← Rat.mul_assoc, Rat.inv_mul_cancel _ hne2, Rat.one_mul] at this
  exact this
end
end PV
end
section
set_option linter.all false
set_option maxRecDepth 100000
namespace PV
open PySem (Str)
def dl (l : List Nat) : List D := l.map fun (x : Nat) => .int (x : Int)
@[simp] theorem dl_len (l : List Nat) : (dl l).length = l.length := by simp [dl]
end PV
end
section
set_option linter.all false
set_option maxRecDepth 100000
namespace PV
open PySem (Str)
section
variable {b n w a : Nat} {P : Nat → Nat → Rat} {g : Nat → Nat} {X : Nat → Nat → Rat} {L : Nat → Nat → Int}
theorem any_mp (k : Nat) (p : Nat → Bool) (m : Bool) (S : Store) : biD m .any [.lst (mp k fun i => .bool (p i))] S = .ok (.bool ((List.range k).any p)) S := by
  show (match (allBool ((List.range k).map fun x => D.bool (p x))) with | some bs => R.ok (D.bool (bs.any id)) S | none => R.err) = _
  rw [allBool_map]; simp
end
end PV
end
section
set_option linter.all false
namespace PV
/-! ### rows of a linear system: column w holds the right side -/
def res (w : Nat) (M : Nat → Nat → Rat) (x : Nat → Rat) (i : Nat) : Rat := (sm w fun c => M i c * x c) - M i w
def Sol (nr w : Nat) (M : Nat → Nat → Rat) (x : Nat → Rat) : Prop := ∀ i, i < nr → (sm w fun c => M i c * x c) = M i w
def Cmb (nr w : Nat) (A : Nat → Nat → Rat) (r : Nat → Rat) : Prop := ∃ t : Nat → Rat, ∀ c, c ≤ w → r c = sm nr fun s => t s * A s c
theorem Cmb.self {nr w : Nat} {A : Nat → Nat → Rat} {i : Nat} (hi : i < nr) : Cmb nr w A (A i) := ⟨fun s => if s = i then 1 else 0, fun c _ => by
  rw [sm_congr (g := fun s => if s = i then A s c else 0) fun s _ => by by_cases e : s = i <;> simp [e], sm_ind, if_pos hi]⟩
theorem Cmb.congr {nr w : Nat} {A : Nat → Nat → Rat} {r q : Nat → Rat} (hr : Cmb nr w A r) (e : ∀ c, r c = q c) : Cmb nr w A q := by
  obtain ⟨t, ht⟩ := hr
  exact ⟨t, fun c hc => by rw [← e]; exact ht c hc⟩
def rs (w : Nat) (r x : Nat → Rat) : Rat := (sm w fun c => r c * x c) - r w
structure GI (nr w : Nat) (A M : Nat → Nat → Rat) (col : Nat) (piv : List Nat) : Prop where
  len : piv.length ≤ nr
  lt : ∀ j, j < piv.length → piv[j]?.getD 0 < col
  one : ∀ j, j < piv.length → ∀ i, i < nr → M i (piv[j]?.getD 0) = if i = j then 1 else 0
  zero : ∀ i, piv.length ≤ i → i < nr → ∀ c, c < col → M i c = 0
  sol : ∀ x, Sol nr w M x ↔ Sol nr w A x
  cmb : ∀ i, i < nr → Cmb nr w A (M i)
theorem GI.start (nr w : Nat) (A : Nat → Nat → Rat) : GI nr w A A 0 [] := ⟨Nat.zero_le _, fun j hj => by simp at hj, fun j hj => by simp at hj, fun i _ _ c hc => by omega, fun x => Iff.rfl, fun i hi => Cmb.self hi⟩
theorem GI.skip {nr w col : Nat} {A M : Nat → Nat → Rat} {piv : List Nat} (h : GI nr w A M col piv) (hz : ∀ i, piv.length ≤ i → i < nr → M i col = 0) : GI nr w A M (col + 1) piv :=
  ⟨h.len, fun j hj => by have := h.lt j hj; omega, h.one, fun i h1 h2 c hc => by
    by_cases e : c = col
    · rw [e]; exact hz i h1 h2
    · exact h.zero i h1 h2 c (by omega), h.sol, h.cmb⟩
end PV
end
section
set_option linter.all false
namespace PV
theorem GI.inj {nr w col : Nat} {A M : Nat → Nat → Rat} {piv : List Nat} (h : GI nr w A M col piv) {i j : Nat} (hi : i < piv.length) (hj : j < piv.length) (e : piv[i]?.getD 0 = piv[j]?.getD 0) : i = j := by
  have hl := h.len
  have h1 := h.one i hi i (by omega)
  have h2 := h.one j hj i (by omega)
  rw [e, h2, if_pos rfl] at h1
  by_cases hh : i = j
  · exact hh
  · rw [if_neg hh] at h1; exact absurd h1 (by decide)
/-! ### the law's own: only downwards -/
structure FI (nr w : Nat) (A M : Nat → Nat → Rat) (col : Nat) (piv : List Nat) : Prop where
  len : piv.length ≤ nr
  lt : ∀ j, j < piv.length → piv[j]?.getD 0 < col
  nz : ∀ j, j < piv.length → M j (piv[j]?.getD 0) ≠ 0
  low : ∀ j, j < piv.length → ∀ i, j < i → i < nr → M i (piv[j]?.getD 0) = 0
  zero : ∀ i, piv.length ≤ i → i < nr → ∀ c, c < col → M i c = 0
  sol : ∀ x, Sol nr w M x ↔ Sol nr w A x
theorem FI.start (nr w : Nat) (A : Nat → Nat → Rat) : FI nr w A A 0 [] := ⟨Nat.zero_le _, fun j hj => by simp at hj, fun j hj => by simp at hj, fun j hj => by simp at hj, fun i _ _ c hc => by omega, fun x => Iff.rfl⟩
theorem FI.skip {nr w col : Nat} {A M : Nat → Nat → Rat} {piv : List Nat} (h : FI nr w A M col piv) (hz : ∀ i, piv.length ≤ i → i < nr → M i col = 0) : FI nr w A M (col + 1) piv :=
  ⟨h.len, fun j hj => by have := h.lt j hj; omega, h.nz, h.low, fun i h1 h2 c hc => by
    by_cases e : c = col
    · rw [e]; exact hz i h1 h2
    · exact h.zero i h1 h2 c (by omega), h.sol⟩
theorem FI.none {nr w : Nat} {A M : Nat → Nat → Rat} {piv : List Nat} (h : FI nr w A M w piv) {i : Nat} (h1 : piv.length ≤ i) (h2 : i < nr) (h0 : M i w ≠ 0) : ¬ ∃ x, Sol nr w A x := by
  rintro ⟨x, hx⟩
  have := (h.sol x).mpr hx i h2
  apply h0
  rw [← this, sm_zero_of]
  intro c hc
  rw [h.zero i h1 h2 c hc, Rat.zero_mul]
end PV
end
section
set_option linter.all false
set_option maxRecDepth 100000
namespace PV
open PySem (Str)
@[simp] theorem two_tup (u v : D) : two (.tup [u, v]) = some (u, v) := (rfl)
end PV
end
section
set_option linter.all false
set_option maxRecDepth 100000
namespace PV
open PySem (Str)
/-! ### numbers and estimates -/
def numOk (k : Nat) : D → Bool
  | .tup xs => decide (xs.length = k) && xs.all (isIntIn (-99) 99)
  | _ => false
def eN (n : Nat) (q : Nat → Int) : D := .tup (mp n fun s => .int (q s))
end PV
end
section
set_option linter.all false
set_option maxRecDepth 100000
namespace PV
open PySem (Str)
structure Nm (n : Nat) (q : Nat → Int) : Prop where
  bd : ∀ s, s < n → -99 ≤ q s ∧ q s ≤ 99
theorem Nm.ok {n : Nat} {q : Nat → Int} (h : Nm n q) : numOk n (eN n q) = true := by
  simp only [numOk, eN, mp_len, decide_true, Bool.true_and]
  rw [mp_all]
  intro s hs
  have := h.bd s hs
  simp [isIntIn]; omega
theorem Nm.bdD {n : Nat} {q : Nat → Int} (h : Nm n q) (hn : n ≤ 1000) : Bd (eN n q) := bd_mp hn fun s hs => bd_small (by have := h.bd s hs; omega)
end PV
end
section
set_option linter.all false
set_option maxRecDepth 100000
namespace PV
open PySem (Str)
/-! ### tables and blurred models -/
def tblOk (w : Nat) : D → Bool
  | .tup xs => decide (xs.length = w) && (xs.all (chM 1 6) && xs.all fun r => decide (lenD r = lenD (xs.headD .none)))
  | _ => false
structure Tb (b w m : Nat) (X : Nat → Nat → Rat) : Prop extends Mx b w m X where
  m1 : 1 ≤ m
  m6 : m ≤ 6
section
variable {b b' n w m : Nat} {P X : Nat → Nat → Rat}
theorem Tb.ok (hX : Tb b w m X) (hw : 0 < w) : tblOk w (eM w m X) = true := by
  obtain ⟨k, rfl⟩ : ∃ k, w = k + 1 := ⟨w - 1, by omega⟩
  unfold tblOk eM
  simp only [mp_len, decide_true, Bool.true_and, Bool.and_eq_true]
  constructor
  · rw [mp_all]
    exact fun o ho => chM_fl.mpr ⟨⟨hX.m1, hX.m6⟩, fun x hx => hX.nn o x ho hx, hX.one o ho⟩
  · rw [mp_all]
    intro o ho
    rw [mp_cons]
    simp
end
end PV
end
section
set_option linter.all false
set_option maxRecDepth 100000
namespace PV
/-! ### bits over one denominator -/
def CB (nr W b : Nat) (M : Nat → Nat → Rat) : Prop := ∃ (d : Int) (N : Nat → Nat → Int), 0 < d ∧ d < 2 ^ b ∧ ∀ i, i < nr → ∀ c, c < W → N i c < 2 ^ b ∧ -(2 ^ b) < N i c ∧ M i c = (N i c : Rat) / (d : Rat)
theorem divI {a b : Int} : (a : Rat) / (b : Rat) = Rat.divInt a b := by rw [Rat.divInt_eq_div]
theorem RB_frac {q : Rat} {a b : Int} {n : Nat} (e : q = (a : Rat) / (b : Rat)) (hb : 0 < b) (ha : a.natAbs < 2 ^ n) (h : b.natAbs < 2 ^ n) : RB n q := by
  rw [e, divI]
  exact RB_divInt (by omega) ha h
theorem natAbs_lt2 {a : Int} {n : Nat} (h1 : a < 2 ^ n) (h2 : -(2 ^ n) < a) : a.natAbs < 2 ^ n := by
  have e : ((2 ^ n : Nat) : Int) = (2 : Int) ^ n := by push_cast; rfl
  omega
theorem CB.rb {nr W b : Nat} {M : Nat → Nat → Rat} (h : CB nr W b M) : ∀ i, i < nr → ∀ c, c < W → RB b (M i c) := fun i hi c hc => by
  obtain ⟨d, N, h1, h2, h3⟩ := h
  obtain ⟨k1, k2, k3⟩ := h3 i hi c hc
  exact RB_frac k3 h1 (natAbs_lt2 k1 k2) (natAbs_lt2 h2 (by have : (0 : Int) < 2 ^ b := Int.pow_pos (by decide); omega))
theorem CB.mono {nr W b b' : Nat} {M : Nat → Nat → Rat} (h : CB nr W b M) (hb : b ≤ b') : CB nr W b' M := by
  obtain ⟨d, N, h1, h2, h3⟩ := h
  have e : (2 : Int) ^ b ≤ 2 ^ b' := by
    have h := Nat.pow_le_pow_right (show 0 < 2 by decide) hb
    have e1 : ((2 ^ b : Nat) : Int) = (2 : Int) ^ b := by push_cast; rfl
    have e2 : ((2 ^ b' : Nat) : Int) = (2 : Int) ^ b' := by push_cast; rfl
    omega
  exact ⟨d, N, h1, by omega, fun i hi c hc => by
    obtain ⟨k1, k2, k3⟩ := h3 i hi c hc
    exact ⟨by omega, by omega, k3⟩⟩
theorem mul_lt2 {x y : Int} {n m : Nat} (h1 : x < 2 ^ n) (h2 : -(2 ^ n) < x) (h3 : y < 2 ^ m) (h4 : -(2 ^ m) < y) : x * y < 2 ^ (n + m) ∧ -(2 ^ (n + m)) < x * y := by
  have a := natAbs_lt2 h1 h2
  have b := natAbs_lt2 h3 h4
  have c : (x * y).natAbs < 2 ^ (n + m) := by
    rw [Int.natAbs_mul, Nat.pow_add]
    exact Nat.mul_lt_mul'' a b
  have e : ((2 ^ (n + m) : Nat) : Int) = (2 : Int) ^ (n + m) := by push_cast; rfl
  omega
/-- numbers over one denominator -/
def CV (w b : Nat) (x : Nat → Rat) : Prop := ∃ (d : Int) (N : Nat → Int), 0 < d ∧ d < 2 ^ b ∧ ∀ c, c < w → N c < 2 ^ b ∧ -(2 ^ b) < N c ∧ x c = (N c : Rat) / (d : Rat)
theorem CV.of {nr w b : Nat} {M : Nat → Nat → Rat} {x : Nat → Rat} (h : CB nr (w + 1) b M) (hx : ∀ c, x c = 0 ∨ ∃ i, i < nr ∧ x c = M i w) : CV w b x := by
  obtain ⟨d, N, h1, h2, h3⟩ := h
  have : ∀ c, ∃ n : Int, n < 2 ^ b ∧ -(2 ^ b) < n ∧ x c = (n : Rat) / (d : Rat) := fun c => by
    rcases hx c with h | ⟨i, hi, h⟩
    · have : (0 : Int) < 2 ^ b := Int.pow_pos (by decide)
      refine ⟨0, this, by omega, ?_⟩
      rw [h, Rat.div_def]
      exact (Rat.zero_mul _).symm
    · obtain ⟨k1, k2, k3⟩ := h3 i hi w (by omega)
      exact ⟨N i w, k1, k2, by rw [h, k3]⟩
  exact ⟨d, fun c => (this c).choose, h1, h2, fun c _ => (this c).choose_spec⟩
theorem CV.rb {w b : Nat} {x : Nat → Rat} (h : CV w b x) : ∀ c, c < w → RB b (x c) := fun c hc => by
  obtain ⟨d, N, h1, h2, h3⟩ := h
  obtain ⟨k1, k2, k3⟩ := h3 c hc
  exact RB_frac k3 h1 (natAbs_lt2 k1 k2) (natAbs_lt2 h2 (by have : (0 : Int) < 2 ^ b := Int.pow_pos (by decide); omega))
end PV
end
section
set_option linter.all false
set_option maxRecDepth 100000
namespace PV
/-! ### numbers over one denominator -/
theorem ratNe {x : Int} (h : 0 < x) : (x : Rat) ≠ 0 := fun z => by
  have : x = 0 := by exact_mod_cast z
  omega
theorem pow_pos2 (n : Nat) : (0 : Int) < 2 ^ n := Int.pow_pos (by decide)
theorem pow_le2 {n m : Nat} (h : n ≤ m) : (2 : Int) ^ n ≤ 2 ^ m := by
  have h := Nat.pow_le_pow_right (show 0 < 2 by decide) h
  have e1 : ((2 ^ n : Nat) : Int) = (2 : Int) ^ n := by push_cast; rfl
  have e2 : ((2 ^ m : Nat) : Int) = (2 : Int) ^ m := by push_cast; rfl
  omega
theorem pow_s2 (n : Nat) : (2 : Int) ^ (n + 1) = 2 ^ n + 2 ^ n := by rw [Int.pow_succ]; omega
section
variable {w b b' : Nat} {x y : Nat → Rat} {q : Rat}
theorem CV.mono (h : CV w b x) (hb : b ≤ b') : CV w b' x := by
  obtain ⟨d, N, h1, h2, h3⟩ := h
  have e := pow_le2 hb
  exact ⟨d, N, h1, by omega, fun c hc => ⟨by have := h3 c hc; omega, by have := h3 c hc; omega, (h3 c hc).2.2⟩⟩
theorem CV.congr (h : CV w b x) (e : ∀ c, c < w → y c = x c) : CV w b y := by
  obtain ⟨d, N, h1, h2, h3⟩ := h
  exact ⟨d, N, h1, h2, fun c hc => ⟨(h3 c hc).1, (h3 c hc).2.1, by rw [e c hc]; exact (h3 c hc).2.2⟩⟩
/-- taken at other places -/
theorem CV.at {w' : Nat} (h : CV w b x) (g : Nat → Nat) (hg : ∀ c, c < w' → g c < w) : CV w' b fun c => x (g c) := by
  obtain ⟨d, N, h1, h2, h3⟩ := h
  exact ⟨d, fun c => N (g c), h1, h2, fun c hc => h3 (g c) (hg c hc)⟩
theorem CV.mul (h : CV w b x) (h' : CV w b' y) : CV w (b + b') fun c => x c * y c := by
  obtain ⟨d, N, h1, h2, h3⟩ := h
  obtain ⟨d', N', h1', h2', h3'⟩ := h'
  have p := pow_pos2 b
  have p' := pow_pos2 b'
  refine ⟨d * d', fun c => N c * N' c, Int.mul_pos h1 h1', (mul_lt2 h2 (by omega) h2' (by omega)).1, fun c hc => ?_⟩
  obtain ⟨k1, k2, k3⟩ := h3 c hc
  obtain ⟨j1, j2, j3⟩ := h3' c hc
  obtain ⟨m1, m2⟩ := mul_lt2 k1 k2 j1 j2
  refine ⟨m1, m2, ?_⟩
  dsimp only
  have := ratNe h1
  have := ratNe h1'
  rw [k3, j3, Rat.intCast_mul, Rat.intCast_mul]
  grind
theorem CV.sub (h : CV w b x) (h' : CV w b' y) : CV w (b + b' + 1) fun c => x c - y c := by
  obtain ⟨d, N, h1, h2, h3⟩ := h
  obtain ⟨d', N', h1', h2', h3'⟩ := h'
  have p := pow_pos2 b
  have p' := pow_pos2 b'
  have e := pow_s2 (b + b')
  have q := pow_pos2 (b + b')
  refine ⟨d * d', fun c => N c * d' - N' c * d, Int.mul_pos h1 h1', by have := (mul_lt2 h2 (by omega) h2' (by omega)).1; omega, fun c hc => ?_⟩
  obtain ⟨k1, k2, k3⟩ := h3 c hc
  obtain ⟨j1, j2, j3⟩ := h3' c hc
  have m := mul_lt2 k1 k2 h2' (by omega)
  have n := mul_lt2 j1 j2 h2 (by omega)
  rw [Nat.add_comm b' b] at n
  dsimp only
  refine ⟨by omega, by omega, ?_⟩
  have := ratNe h1
  have := ratNe h1'
  rw [k3, j3, Rat.intCast_sub, Rat.intCast_mul, Rat.intCast_mul, Rat.intCast_mul]
  grind
theorem CV.neg (h : CV w b x) : CV w b fun c => -x c := by
  obtain ⟨d, N, h1, h2, h3⟩ := h
  refine ⟨d, fun c => -N c, h1, h2, fun c hc => ?_⟩
  obtain ⟨k1, k2, k3⟩ := h3 c hc
  dsimp only
  refine ⟨by omega, by omega, ?_⟩
  rw [k3, Rat.intCast_neg]
  grind
theorem CV.add (h : CV w b x) (h' : CV w b' y) : CV w (b + b' + 1) fun c => x c + y c := (h.sub h'.neg).congr fun c _ => by grind
/-- each sum of the first ones -/
theorem CV.sum (h : CV w b x) (hw : w ≤ 8) : ∀ k, k ≤ w → RB (b + 4) (sm k x) := by
  obtain ⟨d, N, h1, h2, h3⟩ := h
  have key : ∀ k, k ≤ w → ∃ T : Int, T ≤ (k : Int) * 2 ^ b ∧ -((k : Int) * 2 ^ b) ≤ T ∧ sm k x = (T : Rat) / (d : Rat) := by
    intro k
    induction k with
    | zero =>
      intro _
      refine ⟨0, by simp, by simp, ?_⟩
      rw [sm_z, Rat.div_def]
      exact (Rat.zero_mul _).symm
    | succ k ih =>
      intro hk
      obtain ⟨T, t1, t2, t3⟩ := ih (by omega)
      obtain ⟨k1, k2, k3⟩ := h3 k (by omega)
      have e : ((k + 1 : Nat) : Int) * 2 ^ b = (k : Int) * 2 ^ b + 2 ^ b := by push_cast; rw [Int.add_mul]; omega
      refine ⟨T + N k, by rw [e]; omega, by rw [e]; omega, ?_⟩
      have := ratNe h1
      rw [sm_s, t3, k3, Rat.intCast_add]
      grind
  intro k hk
  obtain ⟨T, t1, t2, t3⟩ := key k hk
  have p := pow_pos2 b
  have e8 : (2 : Int) ^ (b + 3) = 8 * 2 ^ b := by rw [show b + 3 = b + 1 + 1 + 1 by omega, Int.pow_succ, Int.pow_succ, Int.pow_succ]; omega
  have hk8 : (k : Int) * 2 ^ b ≤ 8 * 2 ^ b := Int.mul_le_mul_of_nonneg_right (by omega) (by omega)
  have e4 := pow_s2 (b + 3)
  rw [show b + 3 + 1 = b + 4 by omega] at e4
  exact RB_frac (n := b + 4) t3 h1 (natAbs_lt2 (by omega) (by omega)) (natAbs_lt2 (by omega) (by omega))
end
end PV
end
section
set_option linter.all false
set_option maxRecDepth 100000
namespace PV
open PySem (Str)
/-! ### sums over one denominator -/
theorem CV.pos {w n : Nat} {f : Nat → Rat} (h : CV w n f) : 0 < n ∨ w = 0 := by
  rcases Nat.eq_zero_or_pos w with z | z
  · exact .inr z
  · exact .inl (h.rb 0 z).pos
/-! ### variances -/
end PV
end
section
set_option linter.all false
set_option maxRecDepth 100000
namespace PV
open PySem (Str)
section
variable {n w p st : Nat} {P : Nat → Nat → Rat} {q : Nat → Int} {α : Rat} {y : Nat → Rat}
theorem CB.congr {nr W b : Nat} {M M' : Nat → Nat → Rat} (h : CB nr W b M) (e : ∀ i, i < nr → ∀ c, c < W → M' i c = M i c) : CB nr W b M' := by
  obtain ⟨d, N, h1, h2, h3⟩ := h
  exact ⟨d, N, h1, h2, fun i hi c hc => ⟨(h3 i hi c hc).1, (h3 i hi c hc).2.1, by rw [e i hi c hc]; exact (h3 i hi c hc).2.2⟩⟩
end
end PV
end
section
set_option linter.all false
set_option maxRecDepth 100000
namespace PV
open PySem (Str)
/-! ### texts -/
theorem str_ext {x y : Str} (h : x.cps.toList = y.cps.toList) : x = y := by
  cases x; cases y
  simp at h
  rw [h]
theorem tl_app (x y : Str) : (x ++ y).cps.toList = x.cps.toList ++ y.cps.toList := by
  exact Array.toList_append
theorem str_assoc (x y z : Str) : x ++ y ++ z = x ++ (y ++ z) := str_ext (by simp [tl_app])
theorem str_len (x : Str) : x.length = x.cps.toList.length := by
  show x.cps.size = _
  simp
theorem len_app (x y : Str) : (x ++ y).length = x.length + y.length := by rw [str_len, tl_app, List.length_append, ← str_len, ← str_len]
theorem emp_app (x : Str) : Str.empty ++ x = x := str_ext (by rw [tl_app]; rfl)
theorem app_emp (x : Str) : x ++ Str.empty = x := str_ext (by rw [tl_app]; exact List.append_nil _)
theorem emp_lit : (Str.ofString "") = Str.empty := by decide +kernel
/-- a text of at most N signs that are signs -/
structure Tx (N : Nat) (s : Str) : Prop where
  len : s.length ≤ N
  ok : (s.cps.all fun c => decide (c < 1114112)) = true
theorem Tx.app {N M : Nat} {x y : Str} (h : Tx N x) (k : Tx M y) : Tx (N + M) (x ++ y) := by
  refine ⟨by rw [len_app]; have := h.len; have := k.len; omega, ?_⟩
  show ((x.cps ++ y.cps).all fun c => decide (c < 1114112)) = true
  rw [Array.all_append, h.ok, k.ok]
  rfl
theorem Tx.mono {N M : Nat} {x : Str} (h : Tx N x) (hm : N ≤ M) : Tx M x := ⟨Nat.le_trans h.len hm, h.ok⟩
theorem Tx.emp {N : Nat} : Tx N Str.empty := ⟨Nat.zero_le _, by decide +kernel⟩
theorem Tx.pl {N : Nat} {s : Str} (h : Tx N s) : Pl (.str s) := ⟨rfl, h.ok, Nat.zero_le _⟩
theorem Tx.ne_self {N : Nat} {s : Str} (h : Tx N s) (S : Store) : cmpD .ne (.str s) (.str s) S = some false := by
  rw [h.pl.ne h.pl S]
  simp
def txI (i : Int) : Str := Str.ofString (toString i)
theorem txI_small {i : Int} (h1 : -100 ≤ i) (h2 : i < 100) : Tx 4 (txI i) ∧ txI i ≠ Str.empty := by
  have key : ∀ k : Fin 200, (decide ((txI ((k.val : Int) - 100)).length ≤ 4) && ((txI ((k.val : Int) - 100)).cps.all fun c => decide (c < 1114112)) && decide (txI ((k.val : Int) - 100) ≠ Str.empty)) = true := by decide +kernel
  have := key ⟨(i + 100).toNat, by omega⟩
  rw [show ((((⟨(i + 100).toNat, by omega⟩ : Fin 200)).val : Int) - 100) = i by show (((i + 100).toNat : Nat) : Int) - 100 = i; omega] at this
  rw [Bool.and_eq_true, Bool.and_eq_true] at this
  exact ⟨⟨of_decide_eq_true this.1.1, this.1.2⟩, of_decide_eq_true this.2⟩
/-! ### joined texts -/
def joinE (F : Nat → List D → Store → R D) (e : Ex) (ρ : Env) (x : D) (S : Store) : R D := match x with | .str a => (ev F e ρ S).bind fun y S2 => joinD a y S2 | _ => .err
@[simp] theorem ev_join (F : Nat → List D → Store → R D) (o e : Ex) (ρ : Env) (S : Store) : ev F (.join o e) ρ S = (ev F o ρ S).bind (joinE F e ρ) := (rfl)
@[simp] theorem joinE_str (F : Nat → List D → Store → R D) (e : Ex) (ρ : Env) (a : Str) (S : Store) : joinE F e ρ (.str a) S = (ev F e ρ S).bind fun y S2 => joinD a y S2 := (rfl)
theorem allStr_mp (k : Nat) (f : Nat → Str) : allStr (mp k fun i => .str (f i)) = some (mp k f) := by
  have key : ∀ l : List Nat, allStr (l.map fun i => D.str (f i)) = some (l.map f) := fun l => by
    induction l with
    | nil => rfl
    | cons x l ih =>
      show (allStr (l.map fun i => D.str (f i))).map (f x :: ·) = _
      rw [ih]
      rfl
  exact key _
theorem sum_lens {k N : Nat} {f : Nat → Str} (h : ∀ i, i < k → (f i).length ≤ N) : ((mp k f).map (·.length)).sum ≤ k * N := by
  induction k with
  | zero => simp
  | succ k ih =>
    have h1 := ih fun i hi => h i (by omega)
    have h2 := h k (by omega)
    rw [mp_s, List.map_append, List.sum_append, Nat.add_mul, List.map_cons, List.map_nil, List.sum_cons, List.sum_nil]
    omega
theorem joinD_ok {a : Str} {k N : Nat} {f : Nat → Str} {d : D} {S : Store} (hd : Sq d (mp k fun i => .str (f i))) (h : ∀ i, i < k → (f i).length ≤ N) (hk : k * N + k * a.length ≤ 16777216) : joinD a d S = .ok (.str (Str.join a (mp k f))) S := by
  unfold joinD
  rw [hd.seq]
  show (match allStr (mp k fun i => .str (f i)) with | some ys => _ | none => _) = _
  rw [allStr_mp]
  have := sum_lens h
  exact if_pos (by rw [mp_len]; omega)
theorem join_snoc (a : Str) : ∀ (xs : List Str) (x : Str), xs ≠ [] → Str.join a (xs ++ [x]) = Str.join a xs ++ a ++ x
  | [], _, h => absurd rfl h
  | [y], x, _ => rfl
  | y :: z :: r, x, _ => by
    show y ++ a ++ Str.join a (z :: r ++ [x]) = y ++ a ++ Str.join a (z :: r) ++ a ++ x
    rw [join_snoc a (z :: r) x (by simp)]
    simp [str_assoc]
theorem join_emp (xs : List Str) (x : Str) : Str.join Str.empty (xs ++ [x]) = Str.join Str.empty xs ++ x := by
  by_cases h : xs = []
  · subst h
    show x = Str.empty ++ x
    rw [emp_app]
  · rw [join_snoc _ _ _ h, app_emp]
theorem Tx.join {a : Str} {N M : Nat} (ha : Tx M a) : ∀ (xs : List Str), (∀ x, x ∈ xs → Tx N x) → Tx (xs.length * (N + M)) (Str.join a xs)
  | [], _ => Tx.emp
  | [y], h => (h y (by simp)).mono (by simp)
  | y :: z :: r, h => by
    have h1 := Tx.join ha (z :: r) fun x hx => h x (List.mem_cons_of_mem _ hx)
    have h2 := ((h y (by simp)).app ha).app h1
    exact h2.mono (by simp [Nat.add_mul]; omega)
end PV
end
section
set_option linter.all false
set_option maxRecDepth 100000
namespace PV
open PySem (Str)
theorem str_ok {i : Int} {m : Bool} {S : Store} (h : i.natAbs.log2 < 1920) : biD m .str [.int i] S = .ok (.str (txI i)) S := by
  show (if i.natAbs.log2 < 1920 then _ else _) = _
  rw [if_pos h]
  rfl
theorem add_str {m : Bool} {x y : Str} {S : Store} (h : x.length + y.length ≤ 16777216) : binD m .add (.str x) (.str y) S = .ok (.str (x ++ y)) S := by
  show (if x.length + y.length ≤ line then _ else _) = _
  exact if_pos h
theorem mul_str {m : Bool} {x : Str} {k : Int} {S : Store} (h : k ≤ 1000 ∧ -1000 ≤ k ∧ x.length ≤ 1000) : binD m .mul (.str x) (.int k) S = .ok (.str (repS x k)) S := by
  show (if k ≤ 1000 ∧ -1000 ≤ k ∧ x.length ≤ 1000 then _ else _) = _
  exact if_pos h
theorem int_str {m : Bool} {x : Str} {n : Int} {S : Store} (h : numS x = some n) : biD m .int [.str x] S = .ok (.int n) S := by
  show (match numS x with | some n => R.ok (D.int n) S | none => .err) = _
  rw [h]
theorem long_ev (F : Nat → List D → Store → R D) (ρ : Env) (S : Store) : ev F (.bi .int false (.acons (.bin .add false (.str "1") (.bin .mul false (.str "0") (.int 50))) .anil)) ρ S = .ok (.int (10 ^ 50)) S := by
  have h1 : binD false .mul (.str (Str.ofString "0")) (.int 50) S = .ok (.str (repS (Str.ofString "0") 50)) S := mul_str (by decide +kernel)
  have h2 : binD false .add (.str (Str.ofString "1")) (.str (repS (Str.ofString "0") 50)) S = .ok (.str (Str.ofString "1" ++ repS (Str.ofString "0") 50)) S := add_str (by decide +kernel)
  have h3 : biD false .int [.str (Str.ofString "1" ++ repS (Str.ofString "0") 50)] S = .ok (.int (10 ^ 50)) S := int_str (by decide +kernel)
  simp only [ev_bi, ev_acons, ev_bin, ev_str, ev_int, bind_ok, h1, h2, ev_anil]
  exact h3
theorem is_long_ok (i : Int) (S : Store) : G_is_long [.int i] S = .ok (.bool (decide (10 ^ 50 ≤ i))) S := by
  refine runF_pure rfl rfl ?_
  have h := long_ev (FOf L_is_long) [some (.int i)] S
  have hc : cmpD .ge (.int i) (.int (10 ^ 50)) S = some (decide (10 ^ 50 ≤ i)) := rfl
  simp only [startE, f_is_long, ex_seq, ex_ret, ev_cmp]
  rw [show ([D.int i].map some ++ List.replicate (1 - [D.int i].length) none : Env) = [some (.int i)] from rfl, show ev (FOf L_is_long) (.var 0) [some (.int i)] S = .ok (.int i) S from rfl, bind_ok, h]
  simp [hc]
/-! ### words, lines, texts -/
def wrd (q : Rat) : Str := txI q.num ++ Str.ofString "/" ++ txI (q.den : Int)
def lnT (w : Nat) (p : Nat → Rat) : Str := Str.join (Str.ofString " ") (mp w fun o => wrd (p o))
def mdT (n w : Nat) (P : Nat → Nat → Rat) : Str := Str.join Str.empty (mp n fun s => lnT w (P s) ++ Str.ofString "\n")
structure Wd (N : Nat) (q : Rat) : Prop where
  l1 : q.num.natAbs.log2 < 1920
  l2 : (q.den : Int).natAbs.log2 < 1920
  t1 : Tx N (txI q.num)
  t2 : Tx N (txI (q.den : Int))
  ne : txI q.num ≠ Str.empty
theorem tx_lit {s : String} {k : Nat} (h : ((Str.ofString s).length ≤ k ∧ (((Str.ofString s).cps.all fun c => decide (c < 1114112)) = true)) := by decide +kernel) : Tx k (Str.ofString s) := ⟨h.1, h.2⟩
theorem Wd.tx {N : Nat} {q : Rat} (h : Wd N q) : Tx (N + 1 + N) (wrd q) := (h.t1.app (tx_lit (s := "/") (k := 1))).app h.t2
theorem Wd.small {q : Rat} (h : RB 5 q) : Wd 4 q := by
  have h1 := h.1
  have h2 := h.2
  have hd := q.den_pos
  have lg : ∀ k : Nat, k < 32 → k.log2 < 1920 := by decide +kernel
  obtain ⟨a1, a2⟩ := txI_small (i := q.num) (by omega) (by omega)
  obtain ⟨b1, _⟩ := txI_small (i := (q.den : Int)) (by omega) (by omega)
  exact ⟨lg _ (by omega), lg _ (by omega), a1, b1, a2⟩
section
variable {n w N : Nat} {P : Nat → Nat → Rat}
theorem lnT_tx {p : Nat → Rat} (h : ∀ o, o < w → Wd N (p o)) : Tx (w * (N + 1 + N + 1)) (lnT w p) := by
  have := Tx.join (tx_lit (s := " ") (k := 1)) (mp w fun o => wrd (p o)) (N := N + 1 + N) fun x hx => by
    obtain ⟨o, ho, rfl⟩ := mp_mem.mp hx
    exact (h o ho).tx
  rwa [mp_len] at this
theorem mdT_tx (h : ∀ s, s < n → ∀ o, o < w → Wd N (P s o)) : Tx (n * (w * (N + 1 + N + 1) + 1)) (mdT n w P) := by
  have := Tx.join (Tx.emp (N := 0)) (mp n fun s => lnT w (P s) ++ Str.ofString "\n") (N := w * (N + 1 + N + 1) + 1) fun x hx => by
    obtain ⟨s, hs, rfl⟩ := mp_mem.mp hx
    exact (lnT_tx (h s hs)).app (tx_lit (s := "\n") (k := 1))
  rwa [mp_len] at this
theorem model_text_ok (h : ∀ s, s < n → ∀ o, o < w → Wd N (P s o)) (hn : n ≤ 8) (hw : w ≤ 8) (hN : N ≤ 1000) (S : Store) : G_model_text [eM n w P] S = .ok (.str (mdT n w P)) S := by
  refine runF_pure rfl rfl ?_
  have hwN : w * (N + 1 + N + 1) ≤ 8 * 2002 := Nat.mul_le_mul hw (by omega)
  have hnN : n * (w * (N + 1 + N + 1) + 1) ≤ 8 * 16017 := Nat.mul_le_mul hn (by omega)
  have hn' : n ≤ 16777216 := by omega
  have hline : ∀ s, s < n → ∀ F, ev F (.join (.str " ") (.comp .seq (.acons (.var 2) .anil) (.tup [4, 5]) [4, 5] false .none (.bin .add false (.bin .add false (.bi .str false (.acons (.var 4) .anil)) (.str "/")) (.bi .str false (.acons (.var 5) .anil))) false)) [some (eM n w P), none, some (.tup (fl w (P s))), none, none, none] S = .ok (.str (lnT w (P s))) S := fun s hs F => by
    rw [ev_join, ev_str, bind_ok, joinE_str, comp_rng (as := [.tup (fl w (P s))]) (fun o => .str (wrd (P s o))) (fun o => [some (eM n w P), none, some (.tup (fl w (P s))), none, some (.int (P s o).num), some (.int (P s o).den)]) (by simp) (walk_sq (Sq.tup _)) (fun o _ => rfl) (fun o ho => by
      have hq := h s hs o ho
      have a1 := str_ok (m := false) (S := S) hq.l1
      have a2 := str_ok (m := false) (S := S) hq.l2
      have e1 := add_str (m := false) (x := txI (P s o).num) (y := Str.ofString "/") (S := S) (by have := hq.t1.len; have := (tx_lit (s := "/") (k := 1)).len; omega)
      have e2 := add_str (m := false) (x := txI (P s o).num ++ Str.ofString "/") (y := txI ((P s o).den : Int)) (S := S) (by have := (hq.t1.app (tx_lit (s := "/") (k := 1))).len; have := hq.t2.len; omega)
      simp [a1, a2, e1, e2, wrd]), newL_f (by simp; omega), bind_ok]
    exact joinD_ok (N := N + 1 + N) (Sq.lst _) (fun o ho => (h s hs o ho).tx.len) (by
      have h1 : w * (N + 1 + N) ≤ 8 * 2001 := Nat.mul_le_mul hw (by omega)
      have h2 : w * (Str.ofString " ").length ≤ 8 * 1 := Nat.mul_le_mul hw (tx_lit (s := " ") (k := 1)).len
      omega)
  have hlines : ∀ F, ev F (.comp .seq (.acons (.var 0) .anil) (.name 2) [2] false .none (.join (.str " ") (.comp .seq (.acons (.var 2) .anil) (.tup [4, 5]) [4, 5] false .none (.bin .add false (.bin .add false (.bi .str false (.acons (.var 4) .anil)) (.str "/")) (.bi .str false (.acons (.var 5) .anil))) false)) false) [some (eM n w P), none, none, none, none, none] S = .ok (.lst (mp n fun s => .str (lnT w (P s)))) S := fun F => by
    rw [comp_rng (as := [eM n w P]) (fun s => .str (lnT w (P s))) (fun s => [some (eM n w P), none, some (.tup (fl w (P s))), none, none, none]) (by simp) (walk_sq sq_eM) (fun _ _ => rfl) (fun s hs => hline s hs F), newL_f (by simp; omega)]
  have hend : ∀ F, ev F (.join (.str "") (.comp .seq (.acons (.var 1) .anil) (.name 3) [3] false .none (.bin .add false (.var 3) (.str "\n")) false)) [some (eM n w P), some (.lst (mp n fun s => .str (lnT w (P s)))), none, none, none, none] S = .ok (.str (mdT n w P)) S := fun F => by
    rw [ev_join, ev_str, bind_ok, joinE_str, comp_rng (as := [.lst (mp n fun s => .str (lnT w (P s)))]) (fun s => .str (lnT w (P s) ++ Str.ofString "\n")) (fun s => [some (eM n w P), some (.lst (mp n fun s => .str (lnT w (P s)))), none, some (.str (lnT w (P s))), none, none]) (by simp) (walk_sq (Sq.lst _)) (fun _ _ => rfl) (fun s hs => by
      have e1 := add_str (m := false) (x := lnT w (P s)) (y := Str.ofString "\n") (S := S) (by have := (lnT_tx (h s hs)).len; have := (tx_lit (s := "\n") (k := 1)).len; omega)
      simp [e1]), newL_f (by simp; omega), bind_ok, emp_lit]
    exact joinD_ok (N := w * (N + 1 + N + 1) + 1) (Sq.lst _) (fun s hs => ((lnT_tx (h s hs)).app (tx_lit (s := "\n") (k := 1))).len) (by
      have : Str.empty.length = 0 := rfl
      rw [this]
      omega)
  simp only [startE, f_model_text, ex_seq, ex_set, ex_ret]
  rw [show ([eM n w P].map some ++ List.replicate (6 - [eM n w P].length) none : Env) = [some (eM n w P), none, none, none, none, none] from rfl, hlines]
  simp only [toS_ok]
  rw [show ([some (eM n w P), none, none, none, none, none] : Env).set 1 (some (.lst (mp n fun s => .str (lnT w (P s))))) = [some (eM n w P), some (.lst (mp n fun s => .str (lnT w (P s)))), none, none, none, none] from rfl]
  show ex _ _ _ _ = _
  rw [ex_seq, ex_ret, hend]
  rfl
end
end PV
end
section
set_option linter.all false
set_option maxRecDepth 100000
namespace PV
open PySem (Str)
section
variable {b n w N a : Nat} {P : Nat → Nat → Rat} {L : Nat → Nat → Int}
/-- some number is long -/
def lgA (n w : Nat) (P : Nat → Nat → Rat) : Bool := (List.range n).any fun s => (List.range w).any fun o => decide (10 ^ 50 ≤ (P s o).num) || decide ((10 : Int) ^ 50 ≤ ((P s o).den : Int))
theorem long_comp {F : Nat → List D → Store → R D} (hF : F 198 = G_is_long) {S : Store} (hn : n ≤ 1000) (hw : w ≤ 1000) :
    ev F (.bi .any false (.acons (.comp .seq (.acons (.var 0) .anil) (.name 1) [1] false .none (.bi .any false (.acons (.comp .seq (.acons (.var 1) .anil) (.tup [2, 3]) [2, 3] false .none (.or (.call 198 (.acons (.var 2) .anil)) (.last (.call 198 (.acons (.var 3) .anil)))) false) .anil)) false) .anil)) [some (eM n w P), none, none, none] S = .ok (.bool (lgA n w P)) S := by
  rw [ev_bi, ev_acons, comp_rng (as := [eM n w P]) (fun s => .bool ((List.range w).any fun o => decide (10 ^ 50 ≤ (P s o).num) || decide ((10 : Int) ^ 50 ≤ ((P s o).den : Int)))) (fun s => [some (eM n w P), some (.tup (fl w (P s))), none, none]) (by simp) (walk_sq sq_eM) (fun _ _ => rfl) (fun s hs => by
    rw [ev_bi, ev_acons, comp_rng (as := [.tup (fl w (P s))]) (fun o => .bool (decide (10 ^ 50 ≤ (P s o).num) || decide ((10 : Int) ^ 50 ≤ ((P s o).den : Int)))) (fun o => [some (eM n w P), some (.tup (fl w (P s))), some (.int (P s o).num), some (.int (P s o).den)]) (by simp) (walk_sq (Sq.tup _)) (fun _ _ => rfl) (fun o ho => by
      have h1 := is_long_ok (P s o).num S
      have h2 := is_long_ok ((P s o).den : Int) S
      obtain ⟨k1, hk1⟩ : ∃ k, k = decide (10 ^ 50 ≤ (P s o).num) := ⟨_, rfl⟩
      obtain ⟨k2, hk2⟩ : ∃ k, k = decide ((10 : Int) ^ 50 ≤ ((P s o).den : Int)) := ⟨_, rfl⟩
      rw [← hk1] at h1 ⊢
      rw [← hk2] at h2 ⊢
      cases k1 <;> simp [hF, h1, h2, iteO]), newL_f (by simp; omega)]
    simp [any_mp]), newL_f (by simp; omega)]
  simp [any_mp, lgA]
theorem format_model_ok (hm : ∀ S, G_require_model [eM n w P] S = .ok .none S) (hlg : lgA n w P = false) (h : ∀ s, s < n → ∀ o, o < w → Wd N (P s o)) (hn : n ≤ 8) (hw : w ≤ 8) (hN : N ≤ 1000) (S : Store) : G_format_model [eM n w P] S = .ok (.str (mdT n w P)) S := by
  refine runF_pure rfl rfl ?_
  have h1 := hm S
  have h2 := long_comp (F := FOf L_format_model) (P := P) rfl (S := S) (show n ≤ 1000 by omega) (show w ≤ 1000 by omega)
  have h3 := model_text_ok h hn hw hN S
  rw [hlg] at h2
  simp only [startE, f_format_model]
  simp [L_format_model] at h2
  simp [L_format_model, h1, h2, h3]
/-! ### losses -/
def loT (a n : Nat) (L : Nat → Nat → Int) : Str := Str.join Str.empty (mp a fun x => Str.join (Str.ofString " ") (mp n fun s => txI (L x s)) ++ Str.ofString "\n")
theorem Ls.tx (hL : Ls a n L) {x s : Nat} (hx : x < a) (hs : s < n) : Tx 4 (txI (L x s)) ∧ txI (L x s) ≠ Str.empty := txI_small (by have := hL.bd x s hx hs; omega) (by have := hL.bd x s hx hs; omega)
theorem loL_tx (hL : Ls a n L) {x : Nat} (hx : x < a) : Tx (n * (4 + 1)) (Str.join (Str.ofString " ") (mp n fun s => txI (L x s))) := by
  have := Tx.join (tx_lit (s := " ") (k := 1)) (mp n fun s => txI (L x s)) (N := 4) fun y hy => by
    obtain ⟨s, hs, rfl⟩ := mp_mem.mp hy
    exact (hL.tx hx hs).1
  rwa [mp_len] at this
theorem loT_tx (hL : Ls a n L) : Tx (a * (n * (4 + 1) + 1)) (loT a n L) := by
  have := Tx.join (Tx.emp (N := 0)) (mp a fun x => Str.join (Str.ofString " ") (mp n fun s => txI (L x s)) ++ Str.ofString "\n") (N := n * (4 + 1) + 1) fun y hy => by
    obtain ⟨x, hx, rfl⟩ := mp_mem.mp hy
    exact (loL_tx hL hx).app (tx_lit (s := "\n") (k := 1))
  rwa [mp_len] at this
theorem losses_text_ok (hL : Ls a n L) (hn : n ≤ 8) (S : Store) : G_losses_text [eL a n L] S = .ok (.str (loT a n L)) S := by
  refine runF_pure rfl rfl ?_
  have ha3 := hL.a3
  have hnN : n * (4 + 1) ≤ 8 * 5 := Nat.mul_le_mul hn (by omega)
  have haN : a * (n * (4 + 1) + 1) ≤ 3 * 41 := Nat.mul_le_mul ha3 (by omega)
  have lg : ∀ k : Nat, k < 128 → k.log2 < 1920 := by decide +kernel
  have hrow : ∀ x, x < a → ∀ F, ev F (.join (.str " ") (.comp .seq (.acons (.var 1) .anil) (.name 2) [2] false .none (.bi .str false (.acons (.var 2) .anil)) false)) [some (eL a n L), some (.tup (mp n fun s => .int (L x s))), none] S = .ok (.str (Str.join (Str.ofString " ") (mp n fun s => txI (L x s)))) S := fun x hx F => by
    rw [ev_join, ev_str, bind_ok, joinE_str, comp_rng (as := [.tup (mp n fun s => .int (L x s))]) (fun s => .str (txI (L x s))) (fun s => [some (eL a n L), some (.tup (mp n fun s => .int (L x s))), some (.int (L x s))]) (by simp) (walk_sq (Sq.tup _)) (fun _ _ => rfl) (fun s hs => by
      have a1 := str_ok (i := L x s) (m := false) (S := S) (lg _ (by have := hL.bd x s hx hs; omega))
      simp [a1]), newL_f (by simp; omega), bind_ok]
    exact joinD_ok (N := 4) (Sq.lst _) (fun s hs => (hL.tx hx hs).1.len) (by
      have h2 : n * (Str.ofString " ").length ≤ 8 * 1 := Nat.mul_le_mul hn (tx_lit (s := " ") (k := 1)).len
      omega)
  have hend : ∀ F, ev F (.join (.str "") (.comp .seq (.acons (.var 0) .anil) (.name 1) [1] false .none (.bin .add false (.join (.str " ") (.comp .seq (.acons (.var 1) .anil) (.name 2) [2] false .none (.bi .str false (.acons (.var 2) .anil)) false)) (.str "\n")) false)) [some (eL a n L), none, none] S = .ok (.str (loT a n L)) S := fun F => by
    rw [ev_join, ev_str, bind_ok, joinE_str, comp_rng (as := [eL a n L]) (fun x => .str (Str.join (Str.ofString " ") (mp n fun s => txI (L x s)) ++ Str.ofString "\n")) (fun x => [some (eL a n L), some (.tup (mp n fun s => .int (L x s))), none]) (by simp) (walk_sq sq_eL) (fun _ _ => rfl) (fun x hx => by
      have e1 := add_str (m := false) (x := Str.join (Str.ofString " ") (mp n fun s => txI (L x s))) (y := Str.ofString "\n") (S := S) (by have := (loL_tx hL hx).len; have := (tx_lit (s := "\n") (k := 1)).len; omega)
      rw [ev_bin, hrow x hx F, bind_ok, ev_str, bind_ok, e1]), newL_f (by simp; omega), bind_ok, emp_lit]
    exact joinD_ok (N := n * (4 + 1) + 1) (Sq.lst _) (fun x hx => ((loL_tx hL hx).app (tx_lit (s := "\n") (k := 1))).len) (by
      have : Str.empty.length = 0 := rfl
      rw [this]
      omega)
  simp only [startE, f_losses_text, ex_seq, ex_ret]
  rw [show ([eL a n L].map some ++ List.replicate (3 - [eL a n L].length) none : Env) = [some (eL a n L), none, none] from rfl, hend]
  rfl
theorem format_losses_ok {m : D} (hL : Ls a n L) (hn : n ≤ 8) (hm : ∀ S, G_require_losses [m, eL a n L] S = .ok .none S) (S : Store) : G_format_losses [m, eL a n L] S = .ok (.str (loT a n L)) S := by
  refine runF_pure rfl rfl ?_
  have h1 := hm S
  have h3 := losses_text_ok hL hn S
  simp only [startE, f_format_losses]
  simp [L_format_losses, h1, h3]
end
end PV
end
section
set_option linter.all false
set_option maxRecDepth 100000
namespace PV
open PySem (Str)
/-! ### digits -/
def dgL (n : Nat) : List Nat := (Nat.toDigits 10 n).map Char.toNat
theorem ofS_toList (s : String) : (Str.ofString s).cps.toList = s.toList.map Char.toNat := by
  rw [PySem.Str.ofString_eq_toList]
theorem txI_nat (n : Nat) : (txI (n : Int)).cps.toList = dgL n := by
  unfold txI dgL
  rw [ofS_toList]
  have : toString ((n : Nat) : Int) = Nat.repr n := rfl
  rw [this, Nat.toList_repr]
theorem dgL_if (n : Nat) : dgL n = if n < 10 then [48 + n] else dgL (n / 10) ++ [48 + n % 10] := by
  unfold dgL
  rw [Nat.toDigits_eq_if (by decide)]
  split
  · rename_i h
    rw [List.map_cons, List.map_nil, Nat.toNat_digitChar_of_lt_ten h]
  · rename_i h
    rw [List.map_append, List.map_cons, List.map_nil, Nat.toNat_digitChar_of_lt_ten (Nat.mod_lt _ (by decide))]
theorem dgL_dig : ∀ (n : Nat), ∀ c ∈ dgL n, 48 ≤ c ∧ c ≤ 57 := fun n => by
  induction n using Nat.strongRecOn with
  | _ n ih =>
    intro c hc
    rw [dgL_if] at hc
    split at hc
    · simp at hc; omega
    · rename_i h
      rcases List.mem_append.mp hc with hc | hc
      · exact ih (n / 10) (by omega) c hc
      · simp at hc; omega
theorem dgL_len {n k : Nat} (h : 0 < k) : (dgL n).length ≤ k ↔ n < 10 ^ k := by
  unfold dgL
  rw [List.length_map]
  exact Nat.length_toDigits_le_iff (by decide) h
theorem dgL_ne (n : Nat) : dgL n ≠ [] := by
  unfold dgL
  simp [Nat.toDigits_ne_nil]
def valL (l : List Nat) : Nat := l.foldl (fun acc c => acc * 10 + (c - 48)) 0
theorem valL_snoc (l : List Nat) (c : Nat) : valL (l ++ [c]) = valL l * 10 + (c - 48) := by
  unfold valL
  rw [List.foldl_append]
  rfl
theorem dgL_val : ∀ n : Nat, valL (dgL n) = n := fun n => by
  induction n using Nat.strongRecOn with
  | _ n ih =>
    rw [dgL_if]
    split
    · show 0 * 10 + (48 + n - 48) = n
      omega
    · rename_i h
      rw [valL_snoc, ih (n / 10) (by omega)]
      omega
theorem valL_lt (l : List Nat) (h : ∀ c ∈ l, 48 ≤ c ∧ c ≤ 57) : valL l < 10 ^ l.length := by
  have key : ∀ (k : Nat) (l : List Nat), l.length = k → (∀ c ∈ l, 48 ≤ c ∧ c ≤ 57) → valL l < 10 ^ k := fun k => by
    induction k with
    | zero =>
      intro l hl _
      have : l = [] := List.length_eq_zero_iff.mp hl
      subst this
      exact Nat.one_pos
    | succ k ih =>
      intro l hl h
      obtain ⟨l', c, rfl⟩ : ∃ l' c, l = l' ++ [c] := ⟨l.dropLast, l.getLast (fun e => by rw [e] at hl; simp at hl), (List.dropLast_concat_getLast _).symm⟩
      have h1 := ih l' (by simp at hl; omega) fun x hx => h x (by simp [hx])
      have h2 := h c (by simp)
      rw [valL_snoc, Nat.pow_succ]
      omega
  exact key _ l rfl h
/-- what a word of digits tells, at most so many -/
def numO (m : Nat) (s : Str) : Option Int := if 1 ≤ s.length ∧ s.length ≤ m ∧ s.cps.toList.all digB = true then some (valL s.cps.toList : Nat) else none
theorem numO_some {m : Nat} {s : Str} {v : Int} (h : numO m s = some v) : 0 ≤ v ∧ v < (10 : Int) ^ m := by
  unfold numO at h
  split at h
  · rename_i hc
    cases h
    have h1 := valL_lt s.cps.toList fun c hc' => by
      have := List.all_eq_true.mp hc.2.2 c hc'
      simp [digB] at this
      exact this
    have h2 : (10 : Nat) ^ s.cps.toList.length ≤ 10 ^ m := Nat.pow_le_pow_right (by decide) (by have := hc.2.1; rw [str_len] at this; exact this)
    have h3 : ((10 ^ m : Nat) : Int) = (10 : Int) ^ m := by push_cast; rfl
    omega
  · cases h
theorem numO_txI {m n : Nat} (hm : 0 < m) (h : n < 10 ^ m) : numO m (txI (n : Int)) = some (n : Int) := by
  unfold numO
  have hl : (txI (n : Int)).length = (dgL n).length := by rw [str_len, txI_nat]
  have h1 : 1 ≤ (dgL n).length := by
    have := dgL_ne n
    cases hd : dgL n with
    | nil => exact absurd hd this
    | cons _ _ => simp
  have h3 : (txI (n : Int)).cps.toList.all digB = true := by
    rw [txI_nat, List.all_eq_true]
    intro c hc
    have := dgL_dig n c hc
    simp [digB]
    exact this
  rw [if_pos ⟨by rw [hl]; exact h1, by rw [hl]; exact (dgL_len hm).mpr h, h3⟩, txI_nat, dgL_val]
theorem numS_of {s : Str} (h1 : 1 ≤ s.length) (h2 : s.length ≤ 640) (h3 : s.cps.toList.all digB = true) : numS s = some (valL s.cps.toList : Nat) := by
  unfold numS
  have h0 : s.cps.toList.isEmpty = false := by
    rw [str_len] at h1
    cases hl : s.cps.toList with
    | nil => rw [hl] at h1; simp at h1
    | cons _ _ => rfl
  rw [h3, h0]
  simp only [Bool.not_false, Bool.true_and]
  rw [if_pos (decide_eq_true h2)]
  rfl
/-! ### comprehensions that may raise -/
def orD (x : Nat) (S : Store) : Option D → R D
  | some d => .ok d S
  | none => .exc x S
def orL (m : Bool) (x : Nat) (S : Store) : Option (List D) → R D
  | some ds => newL m ds S
  | none => .exc x S
@[simp] theorem orD_some (x : Nat) (S : Store) (d : D) : orD x S (some d) = .ok d S := (rfl)
@[simp] theorem orD_none (x : Nat) (S : Store) : orD x S none = .exc x S := (rfl)
@[simp] theorem orL_some (m : Bool) (x : Nat) (S : Store) (ds : List D) : orL m x S (some ds) = newL m ds S := (rfl)
@[simp] theorem orL_none (m : Bool) (x : Nat) (S : Store) : orL m x S none = .exc x S := (rfl)
theorem comp_opt {α : Type} {F : Nat → List D → Store → R D} {ρ : Env} {S : Store} {kk : Ik} {src : Ex} {tg : Tg} {own : List Nat} {cc e : Ex} {m : Bool} {as : List D} {l : List α} {t : α → D} {x : Nat} (f : α → Option D) (en : α → Env)
    (hs : ev F src ρ S = .ok (.tup as) S) (hw : walkD kk as S = some (l.map t, [])) (hl : l.length ≤ 16777216) (hp : ∀ y, y ∈ l → put tg (t y) (wipeE ρ own) = some (en y)) (hx : ∀ y, y ∈ l → ev F e (en y) S = orD x S (f y)) :
    ev F (.comp kk src tg own false cc e m) ρ S = orL m x S (l.mapM f) := by
  rw [ev_comp_p, hs, bind_ok, compD_walk hw]
  have key : ∀ l : List α, (∀ y, y ∈ l → put tg (t y) (wipeE ρ own) = some (en y)) → (∀ y, y ∈ l → ev F e (en y) S = orD x S (f y)) → mapR (turn1 F ρ tg own false cc e) [] (l.map t) S = (match l.mapM f with | some ds => .ok ds S | none => .exc x S) := fun l => by
    induction l with
    | nil => intro _ _; rfl
    | cons y l ih =>
      intro hp hx
      rw [List.map_cons]
      show (if Guard.ok [] S then (turn1 F ρ tg own false cc e (t y) S).bind _ else _) = _
      rw [guard_nil, if_pos rfl]
      have ht : turn1 F ρ tg own false cc e (t y) S = (match f y with | some d => .ok (some d) S | none => .exc x S) := by
        unfold turn1
        rw [hp y (by simp)]
        show (ev F e (en y) S).bind _ = _
        rw [hx y (by simp)]
        cases f y <;> rfl
      rw [ht, List.mapM_cons]
      cases hf : f y with
      | none => rfl
      | some d =>
        have := ih (fun z hz => hp z (by simp [hz])) (fun z hz => hx z (by simp [hz]))
        show (mapR (turn1 F ρ tg own false cc e) [] (l.map t) S).bind _ = _
        rw [this]
        cases hm : l.mapM f with
        | none => rfl
        | some ds => rfl
  rw [key l hp hx]
  cases hm : l.mapM f with
  | none =>
    show ((R.exc x S : R (List D)).few _).bind _ = _
    rw [few_exc (by rw [List.length_map]; exact hl)]
    rfl
  | some ds => rfl
end PV
end
section
set_option linter.all false
set_option maxRecDepth 100000
namespace PV
open PySem (Str)
section
variable {F : Nat → List D → Store → R D} {ρ : Env} {S : Store}
def spE (F : Nat → List D → Store → R D) (m : Bool) (e : Ex) (ρ : Env) (x : D) (S : Store) : R D := match x with | .str a => (ev F e ρ S).bind fun y S2 => splitD m (.str a) y S2 | _ => .err
@[simp] theorem ev_split (m : Bool) (o e : Ex) : ev F (.split m o e) ρ S = (ev F o ρ S).bind (spE F m e ρ) := (rfl)
@[simp] theorem spE_str (m : Bool) (e : Ex) (a : Str) : spE F m e ρ (.str a) S = (ev F e ρ S).bind fun y S2 => splitD m (.str a) y S2 := (rfl)
def stE (F : Nat → List D → Store → R D) (e : Ex) (ρ : Env) (x : D) (S : Store) : R D := match x with | .str a => (ev F e ρ S).bind fun y S2 => startsD (.str a) y S2 | _ => .err
@[simp] theorem ev_starts (o e : Ex) : ev F (.starts o e) ρ S = (ev F o ρ S).bind (stE F e ρ) := (rfl)
@[simp] theorem stE_str (e : Ex) (a : Str) : stE F e ρ (.str a) S = (ev F e ρ S).bind fun y S2 => startsD (.str a) y S2 := (rfl)
@[simp] theorem ev_repl (o : Ex) (y z : Str) : ev F (.repl o y z) ρ S = (ev F o ρ S).bind fun x S1 => replD x y z S1 := (rfl)
end
theorem split_at {m : Bool} {x y : Str} {c : Nat} {S : Store} (hy : y.cps.toList = [c]) (hx : x.length ≤ 16000000) : splitD m (.str x) (.str y) S = newL m ((splitS c x).map D.str) S := by
  show (match y.cps.toList with | [c] => if x.length + 2 ≤ line then newL m ((splitS c x).map D.str) S else .err | _ => .err) = _
  rw [hy]
  dsimp only
  rw [if_pos (by show x.length + 2 ≤ 16777216; omega)]
theorem starts_at {x y : Str} {c : Nat} {S : Store} (hy : y.cps.toList = [c]) : startsD (.str x) (.str y) S = .ok (D.bool (x.cps.toList.head? == some c)) S := by
  show (match y.cps.toList with | [c] => R.ok (D.bool (x.cps.toList.head? == some c)) S | _ => .err) = _
  rw [hy]
theorem spl1_len (c : Nat) : ∀ l : List Nat, (spl1 c l).length ≤ l.length + 1
  | [] => Nat.le_refl _
  | x :: l => by
    have ih := spl1_len c l
    unfold spl1
    split
    · simp; omega
    · split
      · simp
      · rename_i p ps h
        rw [h] at ih
        simp at ih ⊢
        omega
theorem splitS_len (c : Nat) (s : Str) : (splitS c s).length ≤ s.length + 1 := by
  unfold splitS
  rw [List.length_map, str_len]
  exact spl1_len c _
/-- parts are no longer than the whole -/
theorem spl1_part (c : Nat) : ∀ (l p : List Nat), p ∈ spl1 c l → p.length ≤ l.length
  | [], p, h => by simp [spl1] at h; subst h; simp
  | x :: l, p, h => by
    unfold spl1 at h
    split at h
    · rcases List.mem_cons.mp h with h | h
      · subst h; simp
      · have := spl1_part c l p h; simp; omega
    · split at h
      · simp at h; subst h; simp
      · rename_i q qs hq
        rcases List.mem_cons.mp h with h | h
        · subst h
          have := spl1_part c l q (by rw [hq]; simp)
          simp; omega
        · have := spl1_part c l p (by rw [hq]; simp [h])
          simp; omega
theorem splitS_part {c : Nat} {s p : Str} (h : p ∈ splitS c s) : p.length ≤ s.length := by
  unfold splitS at h
  obtain ⟨l, hl, rfl⟩ := List.mem_map.mp h
  have := spl1_part c _ l hl
  rw [str_len, str_len]
  simpa using this
theorem mapM_len {α β : Type} {f : α → Option β} : ∀ {l : List α} {ds : List β}, l.mapM f = some ds → ds.length = l.length
  | [], ds, h => by cases h; rfl
  | x :: l, ds, h => by
    rw [List.mapM_cons] at h
    cases hf : f x with
    | none => rw [hf] at h; cases h
    | some d =>
      rw [hf] at h
      cases hm : l.mapM f with
      | none =>
        have h : (l.mapM f).bind (fun r => some (d :: r)) = some ds := h
        rw [hm] at h; cases h
      | some es =>
        have h : (l.mapM f).bind (fun r => some (d :: r)) = some ds := h
        rw [hm] at h
        cases h
        simp [mapM_len hm]
theorem mapM_mem {α β : Type} {f : α → Option β} : ∀ {l : List α} {ds : List β}, l.mapM f = some ds → ∀ d, d ∈ ds → ∃ x, x ∈ l ∧ f x = some d
  | [], ds, h, d, hd => by cases h; cases hd
  | x :: l, ds, h, d, hd => by
    rw [List.mapM_cons] at h
    cases hf : f x with
    | none => rw [hf] at h; cases h
    | some d0 =>
      rw [hf] at h
      have h : (l.mapM f).bind (fun r => some (d0 :: r)) = some ds := h
      cases hm : l.mapM f with
      | none => rw [hm] at h; cases h
      | some es =>
        rw [hm] at h
        cases h
        rcases List.mem_cons.mp hd with rfl | hd
        · exact ⟨x, by simp, hf⟩
        · obtain ⟨y, h1, h2⟩ := mapM_mem hm d hd
          exact ⟨y, by simp [h1], h2⟩
theorem mapM_all {α β : Type} {f : α → Option β} {g : α → β} : ∀ {l : List α}, (∀ x, x ∈ l → f x = some (g x)) → l.mapM f = some (l.map g)
  | [], _ => rfl
  | x :: l, h => by
    rw [List.mapM_cons, h x (by simp), mapM_all fun y hy => h y (by simp [hy])]
    rfl
theorem lit1c : (Str.ofString "0").cps.toList = [48] ∧ (Str.ofString "9").cps.toList = [57] ∧ (Str.ofString "/").cps.toList = [47] ∧ (Str.ofString " ").cps.toList = [32] ∧ (Str.ofString "\n").cps.toList = [10] ∧ (Str.ofString "-").cps.toList = [45] ∧ (Str.ofString ":").cps.toList = [58] ∧ (Str.ofString "").cps.toList = [] := by decide +kernel
theorem lt_one (a b : Nat) : ([a] < [b]) ↔ a < b := by
  constructor
  · intro h
    cases h with
    | rel h => exact h
    | cons h => cases h
  · intro h
    exact .rel h
theorem dig_cmp (c : Nat) (S : Store) : cmpD .le (.str (Str.ofString "0")) (.str ⟨#[c]⟩) S = some (decide (48 ≤ c)) ∧ cmpD .le (.str ⟨#[c]⟩) (.str (Str.ofString "9")) S = some (decide (c ≤ 57)) := by
  obtain ⟨h0, h9, _⟩ := lit1c
  constructor
  · show some (!decide ((⟨#[c]⟩ : Str).cps.toList < (Str.ofString "0").cps.toList)) = _
    rw [h0]
    show some (!decide ([c] < [48])) = _
    congr 1
    by_cases h : c < 48
    · rw [decide_eq_true ((lt_one c 48).mpr h), decide_eq_false (by omega)]; rfl
    · rw [decide_eq_false fun z => h ((lt_one c 48).mp z), decide_eq_true (by omega)]; rfl
  · show some (!decide ((Str.ofString "9").cps.toList < (⟨#[c]⟩ : Str).cps.toList)) = _
    rw [h9]
    show some (!decide ([57] < [c])) = _
    congr 1
    by_cases h : 57 < c
    · rw [decide_eq_true ((lt_one 57 c).mpr h), decide_eq_false (by omega)]; rfl
    · rw [decide_eq_false fun z => h ((lt_one 57 c).mp z), decide_eq_true (by omega)]; rfl
theorem parse_number_ok {s : Str} {m : Nat} (hs : s.length ≤ 1000000) (hm : m ≤ 640) (S : Store) : G_parse_number [.str s, .int (m : Nat)] S = orD 17 S ((numO m s).map D.int) := by
  have hlen : ∀ S : Store, biD false .len [.str s] S = .ok (.int (s.length : Nat)) S := fun S => by
    show (if s.length ≤ line then R.ok (D.int (s.length : Nat)) S else .err) = _
    exact if_pos (by show s.length ≤ 16777216; omega)
  have hall : ∀ (F : Nat → List D → Store → R D), ev F (.comp .seq (.acons (.var 0) .anil) (.name 2) [2] false .none (.chain .le .le (.str "0") (.var 2) (.str "9")) false) [some (.str s), some (.int (m : Nat)), none] S = .ok (.lst (s.cps.toList.map fun c => .bool (digB c))) S := fun F => by
    rw [comp_mapGE (as := [.str s]) (l := s.cps.toList) (g := []) (t := fun c => D.str ⟨#[c]⟩) (h := fun c => .bool (digB c)) (en := fun c => [some (.str s), some (.int (m : Nat)), some (.str ⟨#[c]⟩)]) (by simp) rfl rfl (fun c _ => rfl) (fun c _ => by
      obtain ⟨h1, h2⟩ := dig_cmp c S
      by_cases a : 48 ≤ c
      · by_cases b : c ≤ 57
        · simp [h1, h2, a, b, digB]
        · simp [h1, h2, a, b, digB]
      · simp [h1, h2, a, digB]), newL_f (by rw [List.length_map, ← str_len]; omega)]
  have ha2 : biD false .all [.lst (s.cps.toList.map fun c => D.bool (digB c))] S = .ok (.bool (s.cps.toList.all digB)) S := all_map (S := S) false digB s.cps.toList
  unfold numO
  by_cases h : 1 ≤ s.length ∧ s.length ≤ m ∧ s.cps.toList.all digB = true
  · rw [if_pos h]
    obtain ⟨h1, h2, h3⟩ := h
    rw [h3] at ha2
    have hn := int_str (m := false) (S := S) (numS_of h1 (by omega) h3)
    refine runF_pure rfl rfl ?_
    simp only [startE, f_parse_number, L_parse_number]
    have e1 : (1 : Int) ≤ (s.length : Int) := by omega
    have e2 : (s.length : Int) ≤ (m : Int) := by omega
    simp [hlen, e1, e2, hall, ha2, hn]
  · rw [if_neg h]
    refine run_exc rfl ?_
    simp only [startE, f_parse_number, L_parse_number]
    by_cases h1 : 1 ≤ s.length
    · by_cases h2 : s.length ≤ m
      · have h3 : s.cps.toList.all digB = false := by
          cases hh : s.cps.toList.all digB with
          | false => rfl
          | true => exact absurd ⟨h1, h2, hh⟩ h
        rw [h3] at ha2
        have e1 : (1 : Int) ≤ (s.length : Int) := by omega
        have e2 : (s.length : Int) ≤ (m : Int) := by omega
        simp [hlen, e1, e2, hall, ha2]
      · have e1 : (1 : Int) ≤ (s.length : Int) := by omega
        have e2 : ¬ (s.length : Int) ≤ (m : Int) := by omega
        simp [hlen, e1, e2]
    · have e1 : ¬ (1 : Int) ≤ (s.length : Int) := by omega
      simp [hlen, e1]
def chO (s : Str) : Option D := ((splitS 47 s).mapM fun p => (numO 50 p).map D.int).map D.tup
theorem parse_chance_ok {s : Str} (hs : s.length ≤ 100000) (S : Store) : G_parse_chance [.str s] S = orD 17 S (chO s) := by
  have hsp : ∀ S : Store, splitD false (.str s) (.str (Str.ofString "/")) S = .ok (.lst ((splitS 47 s).map D.str)) S := fun S => by
    rw [split_at lit1c.2.2.1 (by omega)]
    exact newL_f (by rw [List.length_map]; have := splitS_len 47 s; omega)
  have hc : ∀ (F : Nat → List D → Store → R D), F 200 = G_parse_number → ev F (.comp .seq (.acons (.split false (.var 0) (.str "/")) .anil) (.name 1) [1] false .none (.call 200 (.acons (.var 1) (.acons (.int 50) .anil))) false) [some (.str s), none] S = orL false 17 S ((splitS 47 s).mapM (fun p => (numO 50 p).map D.int)) := fun F hF => by
    rw [comp_opt (l := splitS 47 s) (t := D.str) (as := [.lst ((splitS 47 s).map D.str)]) (x := 17) (fun p => (numO 50 p).map D.int) (fun p => [some (.str s), some (.str p)]) (by simp [hsp]) rfl (by have := splitS_len 47 s; omega) (fun p _ => rfl) (fun p hp => by
      have := parse_number_ok (s := p) (m := 50) (by have := splitS_part hp; omega) (by decide) S
      have e : ((50 : Nat) : Int) = 50 := rfl
      rw [e] at this
      simp [hF, this])]
  unfold chO
  cases hm : (splitS 47 s).mapM (fun p => (numO 50 p).map D.int) with
  | none =>
    simp only [hm, orL_none] at hc
    refine run_exc rfl ?_
    simp only [startE, f_parse_chance, L_parse_chance]
    simp [hc]
  | some ds =>
    simp only [hm, orL_some] at hc
    have hl : ds.length ≤ 16777216 := by
      have h1 := mapM_len hm
      have := splitS_len 47 s
      omega
    have hp : (D.tup ds).pure = true := pureL_of fun d hd => by
      obtain ⟨p, _, hp⟩ := mapM_mem hm d hd
      cases hn : numO 50 p with
      | none => rw [hn] at hp; cases hp
      | some v => rw [hn] at hp; cases hp; rfl
    refine runF_pure rfl hp ?_
    simp only [startE, f_parse_chance, L_parse_chance]
    simp [hc, hl]
end PV
end
section
set_option linter.all false
set_option maxRecDepth 100000
namespace PV
open PySem (Str)
theorem cut_m1 {α : Type} (xs : List α) (h : xs ≠ []) : cut xs none (some (-1)) = xs.dropLast := by
  have hl : 0 < xs.length := List.length_pos_iff.mpr h
  have s1 : sIx xs.length 0 none = 0 := rfl
  have s2 : sIx xs.length xs.length (some (-1)) = xs.length - 1 := by
    simp [sIx]
    omega
  unfold cut
  rw [s1, s2, List.drop_zero, Nat.sub_zero, List.dropLast_eq_take]
theorem cast10 (m : Nat) : ((10 ^ m : Nat) : Int) = (10 : Int) ^ m := by push_cast; rfl
theorem cast2 (m : Nat) : ((2 ^ m : Nat) : Int) = (2 : Int) ^ m := by push_cast; rfl
def rwO (l : Str) : Option D := ((splitS 32 l).mapM chO).map D.tup
def mdO (t : Str) : Option D := (((splitS 10 t).dropLast).mapM rwO).map D.tup
theorem splitS_ne (c : Nat) (s : Str) : splitS c s ≠ [] := by
  unfold splitS
  intro h
  exact spl1_ne c _ (List.map_eq_nil_iff.mp h)
theorem chO_bd {s : Str} {d : D} (hs : s.length ≤ 900) (h : chO s = some d) : Bd d ∧ ∃ vs : List Int, d = .tup (vs.map D.int) ∧ ∀ v ∈ vs, 0 ≤ v ∧ v < (10 : Int) ^ 50 := by
  unfold chO at h
  cases hm : (splitS 47 s).mapM (fun p => (numO 50 p).map D.int) with
  | none => rw [hm] at h; cases h
  | some ds =>
    rw [hm] at h
    cases h
    have hl := mapM_len hm
    have h1 := splitS_len 47 s
    have hv : ∀ d ∈ ds, ∃ v : Int, d = .int v ∧ 0 ≤ v ∧ v < (10 : Int) ^ 50 := fun d hd => by
      obtain ⟨p, _, hp⟩ := mapM_mem hm d hd
      cases hn : numO 50 p with
      | none => rw [hn] at hp; cases hp
      | some v =>
        rw [hn] at hp
        cases hp
        exact ⟨v, rfl, numO_some hn⟩
    have p10 : (10 : Int) ^ 50 < 2 ^ 1000 := by decide +kernel
    refine ⟨bd_tup.mpr ⟨by omega, fun d hd => ?_⟩, ds.map (fun d => match d with | .int v => v | _ => 0), ?_, ?_⟩
    · obtain ⟨v, rfl, v0, v1⟩ := hv d hd
      refine bd_int ?_
      have e := cast2 1000
      omega
    · congr 1
      rw [List.map_map]
      have : ∀ d ∈ ds, (D.int ∘ fun d => match d with | .int v => v | _ => 0) d = d := fun d hd => by
        obtain ⟨v, rfl, _⟩ := hv d hd
        rfl
      exact (List.map_congr_left this).trans (by simp) |>.symm
    · intro v hv'
      obtain ⟨d, hd, rfl⟩ := List.mem_map.mp hv'
      obtain ⟨v, rfl, v0, v1⟩ := hv d hd
      exact ⟨v0, v1⟩
theorem rwO_bd {s : Str} {d : D} (hs : s.length ≤ 900) (h : rwO s = some d) : Bd d ∧ ∃ ds : List D, d = .tup ds ∧ ∀ x ∈ ds, ∃ vs : List Int, x = .tup (vs.map D.int) ∧ ∀ v ∈ vs, 0 ≤ v ∧ v < (10 : Int) ^ 50 := by
  unfold rwO at h
  cases hm : (splitS 32 s).mapM chO with
  | none => rw [hm] at h; cases h
  | some ds =>
    rw [hm] at h
    cases h
    have hl := mapM_len hm
    have h1 := splitS_len 32 s
    have hv : ∀ d, d ∈ ds → Bd d ∧ ∃ vs : List Int, d = .tup (vs.map D.int) ∧ ∀ v ∈ vs, 0 ≤ v ∧ v < (10 : Int) ^ 50 := fun d hd => by
      obtain ⟨p, h1, hp⟩ := mapM_mem hm d hd
      exact chO_bd (by have := splitS_part h1; omega) hp
    exact ⟨bd_tup.mpr ⟨by omega, fun d hd => (hv d hd).1⟩, ds, rfl, fun d hd => (hv d hd).2⟩
theorem mdO_bd {s : Str} {d : D} (hs : s.length ≤ 900) (h : mdO s = some d) : Bd d ∧ ∃ rows : List D, d = .tup rows ∧ ∀ r ∈ rows, ∃ ds : List D, r = .tup ds ∧ ∀ x ∈ ds, ∃ vs : List Int, x = .tup (vs.map D.int) ∧ ∀ v ∈ vs, 0 ≤ v ∧ v < (10 : Int) ^ 50 := by
  unfold mdO at h
  cases hm : ((splitS 10 s).dropLast).mapM rwO with
  | none => rw [hm] at h; cases h
  | some ds =>
    rw [hm] at h
    cases h
    have hl := mapM_len hm
    have h1 := splitS_len 10 s
    rw [List.length_dropLast] at hl
    have hv : ∀ d, d ∈ ds → Bd d ∧ ∃ es : List D, d = .tup es ∧ ∀ x ∈ es, ∃ vs : List Int, x = .tup (vs.map D.int) ∧ ∀ v ∈ vs, 0 ≤ v ∧ v < (10 : Int) ^ 50 := fun d hd => by
      obtain ⟨p, h1, hp⟩ := mapM_mem hm d hd
      exact rwO_bd (by have := splitS_part (List.dropLast_subset _ h1); omega) hp
    exact ⟨bd_tup.mpr ⟨by omega, fun d hd => (hv d hd).1⟩, ds, rfl, fun d hd => (hv d hd).2⟩
/-- numbers below 10^50 have words -/
theorem tx_nat {n : Nat} (h : n < 10 ^ 50) : Tx 50 (txI (n : Int)) ∧ txI (n : Int) ≠ Str.empty ∧ ((n : Int)).natAbs.log2 < 1920 := by
  refine ⟨⟨?_, ?_⟩, ?_, ?_⟩
  · rw [str_len, txI_nat]
    exact (dgL_len (by decide)).mpr h
  · rw [← Array.all_toList, txI_nat, List.all_eq_true]
    intro c hc
    have := dgL_dig n c hc
    simp
    omega
  · intro e
    have := congrArg (fun s : Str => s.cps.toList) e
    rw [txI_nat] at this
    exact dgL_ne n this
  · rw [Int.natAbs_natCast]
    by_cases h0 : n = 0
    · subst h0; decide
    · refine (Nat.log2_lt h0).mpr (Nat.lt_of_lt_of_le h ?_)
      exact Nat.le_trans (show 10 ^ 50 ≤ 2 ^ 200 by decide +kernel) (Nat.pow_le_pow_right (by decide) (by decide))
theorem wd_of {q : Rat} (h0 : 0 ≤ q.num) (h1 : q.num < (10 : Int) ^ 50) (h2 : (q.den : Int) < (10 : Int) ^ 50) : Wd 50 q := by
  obtain ⟨n, hn⟩ : ∃ n : Nat, q.num = (n : Int) := ⟨q.num.toNat, by omega⟩
  have e := cast10 50
  have a := tx_nat (n := n) (by omega)
  have b := tx_nat (n := q.den) (by omega)
  rw [← hn] at a
  exact ⟨a.2.2, b.2.2, a.1, b.1, a.2.1⟩
/-- a model that was parsed -/
structure Pm6 (n w : Nat) (P : Nat → Nat → Rat) : Prop where
  n2 : 2 ≤ n
  n3 : n ≤ 3
  w1 : 1 ≤ w
  w6 : w ≤ 6
  nn : ∀ s, s < n → ∀ o, o < w → 0 ≤ (P s o).num
  b1 : ∀ s, s < n → ∀ o, o < w → (P s o).num < (10 : Int) ^ 50
  b2 : ∀ s, s < n → ∀ o, o < w → ((P s o).den : Int) < (10 : Int) ^ 50
theorem Pm6.wd {n w : Nat} {P : Nat → Nat → Rat} (h : Pm6 n w P) : ∀ s, s < n → ∀ o, o < w → Wd 50 (P s o) := fun s hs o ho => wd_of (h.nn s hs o ho) (h.b1 s hs o ho) (h.b2 s hs o ho)
theorem Pm6.lg {n w : Nat} {P : Nat → Nat → Rat} (h : Pm6 n w P) : lgA n w P = false := by
  unfold lgA
  rw [List.any_eq_false]
  intro s hs
  have hs := List.mem_range.mp hs
  simp only [Bool.not_eq_true]
  rw [List.any_eq_false]
  intro o ho
  have ho := List.mem_range.mp ho
  have h1 := h.b1 s hs o ho
  have h2 := h.b2 s hs o ho
  simp
  omega
theorem shape_md {s : Str} {d : D} (hs : s.length ≤ 900) (h : mdO s = some d) (hm : modM d = true) : ∃ n w P, d = eM n w P ∧ Pm6 n w P := by
  obtain ⟨hb, rows, rfl, hr⟩ := mdO_bd hs h
  simp only [modM, Bool.and_eq_true, decide_eq_true_eq] at hm
  obtain ⟨⟨n2, n3⟩, hch, hln, hcol⟩ := hm
  have hrow : ∀ i (hi : i < rows.length), ∃ xs, rows[i] = .tup xs ∧ xs.all okCh = true ∧ xs.length ≤ 6 ∧ 1 ≤ xs.length := fun i hi => chM_tup (List.all_eq_true.mp hch _ (List.getElem_mem hi))
  obtain ⟨w, hw⟩ : ∃ w, w = lenD (rows.headD .none) := ⟨_, rfl⟩
  have hlw : ∀ i (hi : i < rows.length), lenD rows[i] = w := fun i hi => by
    have := List.all_eq_true.mp hln _ (List.getElem_mem hi)
    rw [hw]
    simpa using this
  obtain ⟨P, hP⟩ : ∃ P : Nat → Nat → Rat, ∀ i o, P i o = (match rows[i]? with | some (.tup xs) => frOf (xs[o]?.getD .none) | _ => 0) := ⟨_, fun _ _ => rfl⟩
  have key : ∀ i (hi : i < rows.length), ∃ xs, rows[i] = .tup xs ∧ xs.length = w ∧ xs = fl w (P i) ∧ 1 ≤ w ∧ w ≤ 6 ∧ (∀ o, o < w → 0 ≤ (P i o).num) ∧ ∀ o, o < w → fr (P i o) ∈ xs := fun i hi => by
    obtain ⟨xs, e, hall, h6, h1⟩ := hrow i hi
    have hl : xs.length = w := by have := hlw i hi; rw [e] at this; exact this
    have hPi : ∀ o, P i o = frOf (xs[o]?.getD .none) := fun o => by rw [hP, List.getElem?_eq_getElem hi, e]
    have hmap := map_fr hall
    have hx : xs = fl w (P i) := by
      refine List.ext_getElem? fun o => ?_
      by_cases ho : o < w
      · rw [show (fl w (P i))[o]? = some (fr (P i o)) from mp_get _ ho, hPi, List.getElem?_eq_getElem (by omega), Option.getD_some]
        have : xs[o]? = ((xs.map frOf).map fr)[o]? := by rw [← hmap]
        rw [List.getElem?_eq_getElem (by omega), List.getElem?_map, List.getElem?_map, List.getElem?_eq_getElem (by omega)] at this
        exact this
      · rw [List.getElem?_eq_none (by omega), List.getElem?_eq_none (by simp; omega)]
    refine ⟨xs, e, hl, hx, by omega, by omega, fun o ho => ?_, fun o ho => ?_⟩
    · have := List.all_eq_true.mp hall (xs[o]'(by omega)) (List.getElem_mem _)
      simp only [okCh, Bool.and_eq_true, decide_eq_true_eq] at this
      rw [hPi, List.getElem?_eq_getElem (by omega), Option.getD_some]
      exact this.2
    · rw [hx]
      exact mp_mem.mpr ⟨o, ho, rfl⟩
  refine ⟨rows.length, w, P, ?_, ⟨n2, n3, ?_, ?_, ?_, ?_, ?_⟩⟩
  · unfold eM
    congr 1
    refine List.ext_getElem? fun i => ?_
    by_cases hi : i < rows.length
    · obtain ⟨xs, e, _, hx, _⟩ := key i hi
      rw [mp_get _ hi, List.getElem?_eq_getElem hi, e, hx]
    · rw [List.getElem?_eq_none (by omega), List.getElem?_eq_none (by simp; omega)]
  · exact (key 0 (by omega)).choose_spec.2.2.2.1
  · exact (key 0 (by omega)).choose_spec.2.2.2.2.1
  · intro s hs o ho
    obtain ⟨xs, _, _, _, _, _, h1, _⟩ := key s hs
    exact h1 o ho
  · intro s hs o ho
    obtain ⟨xs, e, _, _, _, _, _, h2⟩ := key s hs
    obtain ⟨ds, e2, h3⟩ := hr rows[s] (List.getElem_mem hs)
    rw [e] at e2
    cases e2
    obtain ⟨vs, e3, h4⟩ := h3 _ (h2 o ho)
    have e3 : D.tup [.int (P s o).num, .int (P s o).den] = .tup (vs.map D.int) := e3
    injection e3 with e3
    have : D.int (P s o).num ∈ vs.map D.int := by rw [← e3]; simp
    obtain ⟨v, hv, ev⟩ := List.mem_map.mp this
    cases ev
    exact (h4 _ hv).2
  · intro s hs o ho
    obtain ⟨xs, e, _, _, _, _, _, h2⟩ := key s hs
    obtain ⟨ds, e2, h3⟩ := hr rows[s] (List.getElem_mem hs)
    rw [e] at e2
    cases e2
    obtain ⟨vs, e3, h4⟩ := h3 _ (h2 o ho)
    have e3 : D.tup [.int (P s o).num, .int (P s o).den] = .tup (vs.map D.int) := e3
    injection e3 with e3
    have : D.int ((P s o).den : Int) ∈ vs.map D.int := by rw [← e3]; simp
    obtain ⟨v, hv, ev⟩ := List.mem_map.mp this
    cases ev
    exact (h4 _ hv).2
end PV
end
section
set_option linter.all false
set_option maxRecDepth 100000
namespace PV
open PySem (Str)
theorem row_ev {F : Nat → List D → Store → R D} {l : Str} {j : Nat} {S : Store} {ρ : Env} {cid : Nat} {G : List D → Store → R D} {ch : Str → Option D} (hF : F cid = G) (hG : ∀ p : Str, p.length ≤ l.length → G [.str p] S = orD 17 S (ch p)) (hl : l.length ≤ 100000) {a : Nat} (ha : ρ[a]? = some (some (.str l))) (hj : j < ρ.length) (hja : (wipeE ρ [j])[j]? = some none) :
    ev F (.comp .seq (.acons (.split false (.var a) (.str " ")) .anil) (.name j) [j] false .none (.call cid (.acons (.var j) .anil)) false) ρ S = orL false 17 S ((splitS 32 l).mapM ch) := by
  have hsp : splitD false (.str l) (.str (Str.ofString " ")) S = .ok (.lst ((splitS 32 l).map D.str)) S := by
    rw [split_at lit1c.2.2.2.1 (by omega)]
    exact newL_f (by rw [List.length_map]; have := splitS_len 32 l; omega)
  have hwl : j < (wipeE ρ [j]).length := by
    rcases Nat.lt_or_ge j (wipeE ρ [j]).length with z | z
    · exact z
    · rw [List.getElem?_eq_none z] at hja; cases hja
  refine comp_opt (l := splitS 32 l) (t := D.str) (as := [.lst ((splitS 32 l).map D.str)]) (x := 17) ch (fun p => (wipeE ρ [j]).set j (some (.str p))) ?_ rfl ?_ (fun p _ => ?_) (fun p hp => ?_)
  · simp [ha, hsp]
  · have := splitS_len 32 l; omega
  · rfl
  · have := hG p (splitS_part hp)
    have hget : (ρ.set j (some (D.str p)))[j]? = some (some (.str p)) := by rw [List.getElem?_set_self hj]
    have hget2 : ((wipeE ρ [j]).set j (some (D.str p)))[j]? = some (some (.str p)) := by rw [List.getElem?_set_self hwl]
    simp [hF, hget, hget2, this]
theorem eM_inj {n w n' w' : Nat} {P P' : Nat → Nat → Rat} (hn : 0 < n) (e : eM n w P = eM n' w' P') : n = n' ∧ w = w' ∧ ∀ s, s < n → ∀ o, o < w → P s o = P' s o := by
  unfold eM at e
  injection e with e
  have hl := congrArg List.length e
  simp at hl
  subst hl
  have hr := mp_inj e
  have hw : w = w' := by
    have := hr 0 hn
    injection this with this
    have := congrArg List.length this
    simpa using this
  subst hw
  refine ⟨rfl, rfl, fun s hs o ho => ?_⟩
  have := hr s hs
  injection this with this
  exact fr_inj (mp_inj this o ho)
theorem mdT_congr {n w : Nat} {P P' : Nat → Nat → Rat} (h : ∀ s, s < n → ∀ o, o < w → P s o = P' s o) : mdT n w P = mdT n w P' := by
  unfold mdT
  congr 1
  refine mp_congr fun s hs => ?_
  congr 1
  unfold lnT
  congr 1
  exact mp_congr fun o ho => by rw [h s hs o ho]
theorem text_model {n w : Nat} {P : Nat → Nat → Rat} (h : Pm6 n w P) (S : Store) : G_model_text [eM n w P] S = .ok (.str (mdT n w P)) S := model_text_ok h.wd (by have := h.n3; omega) (by have := h.w6; omega) (by decide) S
theorem Pm6.tx {n w : Nat} {P : Nat → Nat → Rat} (h : Pm6 n w P) : Tx 5000 (mdT n w P) := by
  refine (mdT_tx h.wd).mono ?_
  have h1 : w * (50 + 1 + 50 + 1) ≤ 6 * 102 := Nat.mul_le_mul h.w6 (by decide)
  have h2 := Nat.mul_le_mul h.n3 (show w * (50 + 1 + 50 + 1) + 1 ≤ 613 by omega)
  omega
/-- what parse_model returns of a text -/
def PmOk (t : Str) (n w : Nat) (P : Nat → Nat → Rat) : Prop := mdO t = some (eM n w P) ∧ modM (eM n w P) = true ∧ mdT n w P = t
section
variable {t : Str} (ht : Tx 900 t) (S : Store)
include ht
theorem parse_set (F : Nat → List D → Store → R D) (hF : F 323 = G_parse_chance) : ev F (.comp .seq (.acons (.sli false (.split false (.var 0) (.str "\n")) .none (.opt (.neg (.int 1)))) .anil) (.name 2) [2] false .none (.bi .tuple false (.acons (.comp .seq (.acons (.split false (.var 2) (.str " ")) .anil) (.name 3) [3] false .none (.call 323 (.acons (.var 3) .anil)) false) .anil)) false) [some (.str t), none, none, none] S = orL false 17 S (((splitS 10 t).dropLast).mapM rwO) := by
  have hl := ht.len
  have hsp : splitD false (.str t) (.str (Str.ofString "\n")) S = .ok (.lst ((splitS 10 t).map D.str)) S := by
    rw [split_at lit1c.2.2.2.2.1 (by omega)]
    exact newL_f (by rw [List.length_map]; have := splitS_len 10 t; omega)
  have hsl : sliD false (.lst ((splitS 10 t).map D.str)) .none (.int (-1)) S = .ok (.lst (((splitS 10 t).dropLast).map D.str)) S := by
    show newL false (cut ((splitS 10 t).map D.str) none (some (-1))) S = _
    rw [cut_m1 _ (by simp [splitS_ne]), ← List.map_dropLast]
    exact newL_f (by rw [List.length_map, List.length_dropLast]; have := splitS_len 10 t; omega)
  refine comp_opt (l := (splitS 10 t).dropLast) (t := D.str) (as := [.lst (((splitS 10 t).dropLast).map D.str)]) (x := 17) rwO (fun p => [some (.str t), none, some (.str p), none]) ?_ rfl ?_ (fun p _ => rfl) (fun p hp => ?_)
  · simp [hsp, negD, hsl]
  · rw [List.length_dropLast]; have := splitS_len 10 t; omega
  · have hpl := splitS_part (List.dropLast_subset _ hp)
    have hr := row_ev (F := F) (l := p) (j := 3) (S := S) (ρ := [some (.str t), none, some (.str p), none]) (cid := 323) (G := G_parse_chance) (ch := chO) hF (fun q hq => parse_chance_ok (by omega) S) (by omega) (a := 2) rfl (by simp) rfl
    rw [ev_bi, ev_acons, hr]
    unfold rwO
    cases hm : (splitS 32 p).mapM chO with
    | none => rfl
    | some ds =>
      have h1 := mapM_len hm
      have h2 := splitS_len 32 p
      have : ds.length ≤ 16777216 := by omega
      simp [this]
theorem parse_ok {n w : Nat} {P : Nat → Nat → Rat} (h : PmOk t n w P) : G_parse_model [.str t] S = .ok (eM n w P) S := by
  obtain ⟨h1, h2, h3⟩ := h
  have hl := ht.len
  obtain ⟨hb, _⟩ := mdO_bd (by omega) h1
  obtain ⟨n', w', P', e, hp⟩ := shape_md (by omega) h1 h2
  have hmt : G_model_text [eM n w P] S = .ok (.str t) S := by
    have htm := text_model hp S
    rw [← e] at htm
    have e3 : mdT n w P = mdT n' w' P' := by
      obtain ⟨rfl, rfl, hP⟩ := eM_inj (by have := hp.n2; omega) e.symm
      exact (mdT_congr hP).symm
    rw [htm, ← e3, h3]
  have hps := parse_set ht S (FOf L_parse_model) rfl
  unfold mdO at h1
  cases hm : ((splitS 10 t).dropLast).mapM rwO with
  | none => rw [hm] at h1; cases h1
  | some ds =>
    rw [hm] at h1
    have h1 : D.tup ds = eM n w P := by simpa using h1
    have hdl : ds.length ≤ 16777216 := by
      have a1 := mapM_len hm
      rw [List.length_dropLast] at a1
      have a2 := splitS_len 10 t
      omega
    rw [hm, orL_some, newL_f hdl] at hps
    refine runF_pure rfl (eM_pure _ _ _) ?_
    have him := is_model_bd hb S
    rw [h2] at him
    have ne := ht.ne_self S
    have ist : isi S (.str t) .str = some true := rfl
    simp only [startE, f_parse_model]
    simp only [L_parse_model] at hps ⊢
    simp [ist, hps, h1, him, hmt, ne]
theorem parse_no (h : ∀ n w P, ¬ PmOk t n w P) : G_parse_model [.str t] S = .exc 17 S := by
  have hl := ht.len
  have hps := parse_set ht S (FOf L_parse_model) rfl
  have ist : isi S (.str t) .str = some true := rfl
  refine run_exc rfl ?_
  simp only [startE, f_parse_model]
  simp only [L_parse_model] at hps ⊢
  cases hm : ((splitS 10 t).dropLast).mapM rwO with
  | none =>
    rw [hm, orL_none] at hps
    simp [ist, hps]
  | some ds =>
    have hdl : ds.length ≤ 16777216 := by
      have a1 := mapM_len hm
      rw [List.length_dropLast] at a1
      have a2 := splitS_len 10 t
      omega
    rw [hm, orL_some, newL_f hdl] at hps
    have h1 : mdO t = some (.tup ds) := by unfold mdO; rw [hm]; rfl
    obtain ⟨hb, _⟩ := mdO_bd (by omega) h1
    have him := is_model_bd hb S
    cases h2 : modM (.tup ds) with
    | false =>
      rw [h2] at him
      simp [ist, hps, him]
    | true =>
      rw [h2] at him
      obtain ⟨n, w, P, e, hp⟩ := shape_md (by omega) h1 h2
      have hmt := text_model hp S
      rw [← e] at hmt
      have hne : mdT n w P ≠ t := fun z => h n w P ⟨by rw [h1, e], by rw [← e]; exact h2, z⟩
      have ne := hp.tx.pl.ne ht.pl S
      have hd : decide (D.str (mdT n w P) = D.str t) = false := decide_eq_false fun z => hne (by injection z)
      rw [hd] at ne
      simp [ist, hps, him, hmt, ne]
end
end PV
end
section
set_option linter.all false
set_option maxRecDepth 100000
namespace PV
open PySem (Str)
/-! ### lines -/
def lnsL : List (List Nat) → List Nat → List Nat
  | [], r => r
  | l :: ls, r => l ++ 10 :: lnsL ls r
theorem lnsL_snoc (l r : List Nat) : ∀ ls, lnsL (ls ++ [l]) r = lnsL ls (l ++ 10 :: r)
  | [] => rfl
  | x :: ls => by
    show x ++ 10 :: lnsL (ls ++ [l]) r = x ++ 10 :: lnsL ls (l ++ 10 :: r)
    rw [lnsL_snoc l r ls]
theorem lnsL_app (r : List Nat) : ∀ ls, lnsL ls r = lnsL ls [] ++ r
  | [] => rfl
  | x :: ls => by
    show x ++ 10 :: lnsL ls r = (x ++ 10 :: lnsL ls []) ++ r
    rw [lnsL_app r ls]
    simp
theorem lnsL_cat (ls : List (List Nat)) (r : List Nat) : ∀ ks, lnsL (ks ++ ls) r = lnsL ks (lnsL ls r)
  | [] => rfl
  | x :: ks => by
    show x ++ 10 :: lnsL (ks ++ ls) r = x ++ 10 :: lnsL ks (lnsL ls r)
    rw [lnsL_cat ls r ks]
theorem spl1_lns (r : List Nat) : ∀ {ls : List (List Nat)}, (∀ l ∈ ls, 10 ∉ l) → spl1 10 (lnsL ls r) = ls ++ spl1 10 r
  | [], _ => rfl
  | x :: ls, h => by
    show spl1 10 (x ++ 10 :: lnsL ls r) = _
    rw [spl1_cut _ (h x (by simp)), spl1_lns r fun l hl => h l (by simp [hl])]
    rfl
theorem join_lines (f : Nat → Str) : ∀ n, (Str.join Str.empty (mp n fun s => f s ++ Str.ofString "\n")).cps.toList = lnsL (mp n fun s => (f s).cps.toList) []
  | 0 => rfl
  | n + 1 => by
    rw [mp_s, join_emp, tl_app, tl_app, join_lines f n, mp_s, lnsL_snoc, lit1c.2.2.2.2.1, lnsL_app ((f n).cps.toList ++ [10])]
theorem lit_one : Str.ofString " " = ⟨#[32]⟩ ∧ Str.ofString "/" = ⟨#[47]⟩ ∧ Str.ofString "\n" = ⟨#[10]⟩ ∧ Str.ofString ":" = ⟨#[58]⟩ := by decide +kernel
/-- signs of lines -/
def lnC (c : Nat) : Prop := (48 ≤ c ∧ c ≤ 57) ∨ c = 47 ∨ c = 32
section
variable {n w : Nat} {P : Nat → Nat → Rat} {q : Rat} {p : Nat → Rat}
structure W6 (q : Rat) : Prop where
  nn : 0 ≤ q.num
  b1 : q.num < (10 : Int) ^ 50
  b2 : (q.den : Int) < (10 : Int) ^ 50
theorem W6.num (h : W6 q) : ∃ a : Nat, q.num = (a : Int) ∧ a < 10 ^ 50 := by
  have e := cast10 50
  exact ⟨q.num.toNat, by have := h.nn; omega, by have := h.nn; have := h.b1; omega⟩
theorem W6.den (h : W6 q) : q.den < 10 ^ 50 := by
  have e := cast10 50
  have := h.b2
  omega
theorem W6.wrd (h : W6 q) : ∃ a : Nat, q.num = (a : Int) ∧ a < 10 ^ 50 ∧ (wrd q).cps.toList = dgL a ++ 47 :: dgL q.den := by
  obtain ⟨a, e, ha⟩ := h.num
  refine ⟨a, e, ha, ?_⟩
  unfold PV.wrd
  rw [tl_app, tl_app, e, txI_nat, txI_nat, lit1c.2.2.1]
  simp
theorem dg_no {a c : Nat} (hc : c < 48 ∨ 57 < c) : c ∉ dgL a := fun h => by
  have := dgL_dig a c h
  omega
theorem chO_wrd (h : W6 q) : chO (wrd q) = some (fr q) := by
  obtain ⟨a, e, ha, hw⟩ := h.wrd
  have hs : splitS 47 (wrd q) = [txI (a : Int), txI (q.den : Int)] := by
    unfold splitS
    rw [hw, spl1_cut _ (dg_no (by omega)), spl1_free (dg_no (by omega))]
    rw [List.map_cons, List.map_cons, List.map_nil, ← txI_nat, ← txI_nat]
  unfold chO
  rw [hs]
  have h1 := numO_txI (m := 50) (by decide) ha
  have h2 := numO_txI (m := 50) (n := q.den) (by decide) h.den
  rw [List.mapM_cons, List.mapM_cons, h1, h2]
  show some (D.tup [.int (a : Int), .int (q.den : Int)]) = some (fr q)
  rw [← e]
  rfl
theorem wrd_sign (h : W6 q) : ∀ c ∈ (wrd q).cps.toList, lnC c ∧ c ≠ 32 := by
  obtain ⟨a, _, _, hw⟩ := h.wrd
  rw [hw]
  intro c hc
  rcases List.mem_append.mp hc with hc | hc
  · have := dgL_dig a c hc
    exact ⟨.inl this, by omega⟩
  · rcases List.mem_cons.mp hc with rfl | hc
    · exact ⟨.inr (.inl rfl), by decide⟩
    · have := dgL_dig q.den c hc
      exact ⟨.inl this, by omega⟩
theorem wrd_head (h : W6 q) : (∃ c r, (wrd q).cps.toList = c :: r ∧ 48 ≤ c ∧ c ≤ 57) ∧ 47 ∈ (wrd q).cps.toList := by
  obtain ⟨a, _, _, hw⟩ := h.wrd
  rw [hw]
  refine ⟨?_, by simp⟩
  cases hd : dgL a with
  | nil => exact absurd hd (dgL_ne a)
  | cons c r =>
    have := dgL_dig a c (by rw [hd]; simp)
    exact ⟨c, r ++ 47 :: dgL q.den, by simp, this⟩
theorem lnT_split (hw : 0 < w) (h : ∀ o, o < w → W6 (p o)) : splitS 32 (lnT w p) = mp w fun o => wrd (p o) := by
  unfold lnT
  rw [lit_one.1]
  refine splitS_join (fun e => ?_) (fun x hx => ?_)
  · have := congrArg List.length e
    simp at this
    omega
  · obtain ⟨o, ho, rfl⟩ := mp_mem.mp hx
    exact fun hc => (wrd_sign (h o ho) 32 hc).2 rfl
theorem rwO_lnT (hw : 0 < w) (h : ∀ o, o < w → W6 (p o)) : rwO (lnT w p) = some (.tup (fl w p)) := by
  unfold rwO
  rw [lnT_split hw h]
  have : (mp w fun o => wrd (p o)).mapM chO = some (fl w p) := by
    have := mapM_all (f := fun o => chO (wrd (p o))) (g := fun o => fr (p o)) (l := List.range w) fun o ho => chO_wrd (h o (List.mem_range.mp ho))
    unfold mp fl
    rw [List.mapM_map]
    exact this
  rw [this]
  rfl
/-- the signs of a line -/
theorem lnT_sign (h : ∀ o, o < w → W6 (p o)) : ∀ c ∈ (lnT w p).cps.toList, lnC c := by
  unfold lnT
  induction w with
  | zero =>
    intro c hc
    have : (Str.join (Str.ofString " ") (mp 0 fun o => wrd (p o))).cps.toList = [] := rfl
    rw [this] at hc
    cases hc
  | succ w ih =>
    intro c hc
    have ih := ih fun o ho => h o (by omega)
    by_cases hw : w = 0
    · subst hw
      have : Str.join (Str.ofString " ") (mp 1 fun o => wrd (p o)) = wrd (p 0) := rfl
      rw [this] at hc
      exact (wrd_sign (h 0 (by omega)) c hc).1
    · rw [mp_s, join_snoc _ _ _ (by intro e; have := congrArg List.length e; simp at this; omega), tl_app, tl_app] at hc
      rcases List.mem_append.mp hc with hc | hc
      · rcases List.mem_append.mp hc with hc | hc
        · exact ih c hc
        · rw [lit1c.2.2.2.1] at hc
          simp at hc
          exact .inr (.inr hc)
      · exact (wrd_sign (h w (by omega)) c hc).1
theorem lnT_head (hw : 0 < w) (h : ∀ o, o < w → W6 (p o)) : (∃ c r, (lnT w p).cps.toList = c :: r ∧ 48 ≤ c ∧ c ≤ 57) ∧ 47 ∈ (lnT w p).cps.toList := by
  obtain ⟨w', rfl⟩ : ∃ w', w = w' + 1 := ⟨w - 1, by omega⟩
  have hh := wrd_head (h 0 (by omega))
  unfold lnT
  rw [mp_cons]
  by_cases hw' : w' = 0
  · subst hw'
    exact hh
  · obtain ⟨w2, rfl⟩ : ∃ w2, w' = w2 + 1 := ⟨w' - 1, by omega⟩
    rw [mp_cons]
    show (∃ c r, (wrd (p 0) ++ Str.ofString " " ++ Str.join (Str.ofString " ") (wrd (p 1) :: mp w2 fun i => wrd (p (i + 1 + 1)))).cps.toList = c :: r ∧ 48 ≤ c ∧ c ≤ 57) ∧ 47 ∈ (wrd (p 0) ++ Str.ofString " " ++ Str.join (Str.ofString " ") (wrd (p 1) :: mp w2 fun i => wrd (p (i + 1 + 1)))).cps.toList
    rw [tl_app, tl_app]
    obtain ⟨⟨c, r, e, hc⟩, h47⟩ := hh
    refine ⟨⟨c, r ++ (Str.ofString " ").cps.toList ++ (Str.join (Str.ofString " ") (wrd (p 1) :: mp w2 fun i => wrd (p (i + 1 + 1)))).cps.toList, by rw [e]; simp, hc⟩, ?_⟩
    simp [h47]
theorem Pm6.cell (h : Pm6 n w P) {s o : Nat} (hs : s < n) (ho : o < w) : W6 (P s o) := ⟨h.nn s hs o ho, h.b1 s hs o ho, h.b2 s hs o ho⟩
/-- the lines of a model's text -/
structure Lns (n : Nat) (t : Str) (ls : List (List Nat)) : Prop where
  len : ls.length = n
  eq : t.cps.toList = lnsL ls []
  fr : ∀ l ∈ ls, 10 ∉ l
  hd : ∀ l ∈ ls, ∃ c r, l = c :: r ∧ 48 ≤ c ∧ c ≤ 57
  sl : ∀ l ∈ ls, 47 ∈ l
theorem Pm6.lns (h : Pm6 n w P) : Lns n (mdT n w P) (mp n fun s => (lnT w (P s)).cps.toList) := by
  have hw := h.w1
  refine ⟨mp_len _ _, join_lines _ n, fun l hl => ?_, fun l hl => ?_, fun l hl => ?_⟩
  · obtain ⟨s, hs, rfl⟩ := mp_mem.mp hl
    intro hc
    have := lnT_sign (fun o ho => h.cell hs ho) 10 hc
    rcases this with z | z | z <;> omega
  · obtain ⟨s, hs, rfl⟩ := mp_mem.mp hl
    exact (lnT_head (by omega) fun o ho => h.cell hs ho).1
  · obtain ⟨s, hs, rfl⟩ := mp_mem.mp hl
    exact (lnT_head (by omega) fun o ho => h.cell hs ho).2
theorem splitS_lns {t : Str} {ls : List (List Nat)} (h : Lns n t ls) : splitS 10 t = ls.map (fun l => (⟨l.toArray⟩ : Str)) ++ [Str.empty] := by
  unfold splitS
  rw [h.eq, spl1_lns _ h.fr, List.map_append]
  rfl
/-- what is formatted is parsed -/
theorem mdO_mdT (h : Pm6 n w P) : mdO (mdT n w P) = some (eM n w P) := by
  have hw := h.w1
  unfold mdO
  rw [splitS_lns h.lns, List.dropLast_concat, mp_map]
  have : (mp n fun s => (⟨((lnT w (P s)).cps.toList).toArray⟩ : Str)).mapM rwO = some (mp n fun s => .tup (fl w (P s))) := by
    have := mapM_all (f := fun s => rwO (lnT w (P s))) (g := fun s => D.tup (fl w (P s))) (l := List.range n) fun s hs => rwO_lnT (by omega) fun o ho => h.cell (List.mem_range.mp hs) ho
    unfold mp
    rw [List.mapM_map]
    simpa [Function.comp_def] using this
  rw [this]
  rfl
end
end PV
end
section
set_option linter.all false
set_option maxRecDepth 100000
namespace PV
open PySem (Str)
theorem Pm6.congr {n w : Nat} {P P' : Nat → Nat → Rat} (h : Pm6 n w P) (e : ∀ s, s < n → ∀ o, o < w → P s o = P' s o) : Pm6 n w P' := ⟨h.n2, h.n3, h.w1, h.w6, fun s hs o ho => by rw [← e s hs o ho]; exact h.nn s hs o ho, fun s hs o ho => by rw [← e s hs o ho]; exact h.b1 s hs o ho, fun s hs o ho => by rw [← e s hs o ho]; exact h.b2 s hs o ho⟩
theorem PmOk.pm {t : Str} {n w : Nat} {P : Nat → Nat → Rat} (ht : t.length ≤ 900) (h : PmOk t n w P) : Pm6 n w P := by
  obtain ⟨h1, h2, h3⟩ := h
  obtain ⟨n', w', P', e, hp⟩ := shape_md ht h1 h2
  obtain ⟨rfl, rfl, hP⟩ := eM_inj (by have := hp.n2; omega) e.symm
  exact hp.congr hP
theorem PmOk.lns {t : Str} {n w : Nat} {P : Nat → Nat → Rat} (ht : t.length ≤ 900) (h : PmOk t n w P) : ∃ ls, Lns n t ls ∧ 2 ≤ n ∧ n ≤ 3 := by
  have hp := h.pm ht
  have hl := hp.lns
  rw [h.2.2] at hl
  exact ⟨_, hl, hp.n2, hp.n3⟩
theorem no_pm {t : Str} (ht : t.length ≤ 900) (h : ∀ n ls, Lns n t ls → 2 ≤ n → n ≤ 3 → False) : ∀ n w P, ¬ PmOk t n w P := fun n w P hp => by
  obtain ⟨ls, h1, h2, h3⟩ := hp.lns ht
  exact h n ls h1 h2 h3
theorem Lns.spl {n : Nat} {t : Str} {ls : List (List Nat)} (h : Lns n t ls) : spl1 10 t.cps.toList = ls ++ [[]] := by
  rw [h.eq, spl1_lns _ h.fr]
  rfl
section
variable {n n' : Nat} {t t' : Str} {ls ls' : List (List Nat)}
theorem no_emp (h : Lns n t ls) (hn : 2 ≤ n) (e : t.cps.toList = []) : False := by
  have := h.spl
  rw [e] at this
  have := congrArg List.length this
  have hl := h.len
  simp [spl1] at this
  subst this
  simp at hl
  omega
theorem Lns.snoc (h : Lns n t ls) (hn : 2 ≤ n) : ∃ ks l, ls = ks ++ [l] := by
  have hl := h.len
  exact ⟨ls.dropLast, ls.getLast (fun e => by rw [e] at hl; simp at hl; omega), (List.dropLast_concat_getLast _).symm⟩
theorem no_cut (h : Lns n t ls) (hn : 2 ≤ n) (e : t'.cps.toList = t.cps.toList.dropLast) (h' : Lns n' t' ls') : False := by
  obtain ⟨ks, l, rfl⟩ := h.snoc hn
  have e1 : t'.cps.toList = lnsL ks l := by
    rw [e, h.eq, lnsL_snoc, lnsL_app, lnsL_app l ks, ← List.append_assoc, List.dropLast_concat]
  have hs := h'.spl
  rw [e1, spl1_lns _ fun x hx => h.fr x (by simp [hx]), spl1_free (h.fr l (by simp))] at hs
  have := (List.append_inj' hs rfl).2
  obtain ⟨c, r, e2, _⟩ := h.hd l (by simp)
  rw [e2] at this
  cases this
theorem no_nl (h : Lns n t ls) (e : t'.cps.toList = t.cps.toList ++ [10]) (h' : Lns n' t' ls') : False := by
  have hs := h'.spl
  rw [e, h.eq, ← lnsL_app, spl1_lns _ h.fr] at hs
  have e2 : spl1 10 [10] = [[], []] := rfl
  rw [e2, show ([[], []] : List (List Nat)) = [[]] ++ [[]] from rfl, ← List.append_assoc] at hs
  have := (List.append_inj' hs rfl).1
  obtain ⟨c, r, e3, _⟩ := h'.hd [] (by rw [← this]; simp)
  cases e3
theorem no_pre (h : Lns n t ls) (e : t'.cps.toList = 10 :: t.cps.toList) (h' : Lns n' t' ls') : False := by
  have hs := h'.spl
  have e1 : t'.cps.toList = lnsL ([] :: ls) [] := by rw [e, h.eq]; rfl
  rw [e1, spl1_lns _ fun x hx => by
    rcases List.mem_cons.mp hx with rfl | hx
    · simp
    · exact h.fr x hx] at hs
  have := (List.append_inj' hs rfl).1
  obtain ⟨c, r, e3, _⟩ := h'.hd [] (by rw [← this]; simp)
  cases e3
theorem no_sp (e : t'.cps.toList = 32 :: t.cps.toList) (h' : Lns n' t' ls') (hn : 2 ≤ n') : False := by
  have hl := h'.len
  cases hls : ls' with
  | nil => rw [hls] at hl; simp at hl; omega
  | cons l r =>
    obtain ⟨c, r2, e2, c1, c2⟩ := h'.hd l (by rw [hls]; simp)
    have := h'.eq
    rw [e, hls, e2] at this
    have : 32 = c := by
      have := congrArg List.head? this
      simp [lnsL] at this
      exact this
    omega
theorem no_dbl (h : Lns n t ls) (hn : 2 ≤ n) (e : t'.cps.toList = t.cps.toList ++ t.cps.toList) (h' : Lns n' t' ls') (hn' : n' ≤ 3) : False := by
  have hs := h'.spl
  have e1 : t'.cps.toList = lnsL (ls ++ ls) [] := by rw [e, h.eq, lnsL_cat, lnsL_app (lnsL ls [])]
  rw [e1, spl1_lns _ fun x hx => h.fr x (by simpa using hx)] at hs
  have := (List.append_inj' hs rfl).1
  have := congrArg List.length this
  have h1 := h.len
  have h2 := h'.len
  simp at this
  omega
theorem no_rep (e : 47 ∉ t'.cps.toList) (h' : Lns n' t' ls') (hn : 2 ≤ n') : False := by
  have hl := h'.len
  cases hls : ls' with
  | nil => rw [hls] at hl; simp at hl; omega
  | cons l r =>
    have := h'.sl l (by rw [hls]; simp)
    apply e
    rw [h'.eq, hls]
    show 47 ∈ l ++ 10 :: lnsL r []
    simp [this]
end
theorem parse_model_non {d : D} {S : Store} (h : isi S d .str = some false) : G_parse_model [d] S = .exc 17 S := by
  refine run_exc rfl ?_
  simp only [startE, f_parse_model, L_parse_model]
  simp [h]
theorem parse_or_exc {d : D} {S : Store} (h : G_parse_model [d] S = .exc 17 S) : G_law_parse_model_or [d] S = .ok (.str (Str.ofString "ParseError")) S :=
  try_exc (c := 17) (c' := 17) rfl rfl (by simp [startE, f_law_parse_model_or, L_law_parse_model_or, h]) rfl
theorem parse_or_ok {d : D} {n w : Nat} {P : Nat → Nat → Rat} {S : Store} (h : G_parse_model [d] S = .ok (eM n w P) S) : G_law_parse_model_or [d] S = .ok (eM n w P) S := by
  refine runF_pure rfl (eM_pure _ _ _) ?_
  simp [startE, f_law_parse_model_or, L_law_parse_model_or, h]
/-! ### written texts -/
def t1 : Str := Str.ofString "1/1\n"
def t2 : Str := Str.ofString "1/1\n2/2\n"
def t3 : Str := Str.ofString "1/1\n1\n"
def t4 : Str := Str.ofString "1/1\n01/1\n"
def t5 : Str := Str.ofString "1/2 1/2\n1/1\n"
def t6 : Str := Str.ofString "1/1 0/1\n1/1 0/1\n"
def t7 : Str := Str.ofString "1/1\n-1/1\n"
def noM (t : Str) : Bool := match mdO t with | none => true | some d => !modM d
theorem noM_no {t : Str} (h : noM t = true) : ∀ n w P, ¬ PmOk t n w P := fun n w P hp => by
  unfold noM at h
  rw [hp.1] at h
  simp [hp.2.1] at h
theorem fixed_all : noM t1 = true ∧ noM t2 = true ∧ noM t3 = true ∧ noM t5 = true ∧ noM t6 = true ∧ noM t7 = true ∧ mdO t4 = some (eM 2 1 fun _ _ => 1) ∧ mdT 2 1 (fun _ _ => 1) ≠ t4 ∧ [t1, t2, t3, t4, t5, t6, t7].all (fun t => decide (t.length ≤ 900) && t.cps.all fun c => decide (c < 1114112)) = true := by decide +kernel
theorem t4_no : ∀ n w P, ¬ PmOk t4 n w P := fun n w P hp => by
  obtain ⟨_, _, _, _, _, _, h4, h5, _⟩ := fixed_all
  have e := hp.1
  rw [h4] at e
  have e : eM 2 1 (fun _ _ => 1) = eM n w P := Option.some.inj e
  obtain ⟨rfl, rfl, hP⟩ := eM_inj (by decide) e
  apply h5
  rw [mdT_congr hP]
  exact hp.2.2
theorem fixed_no : ∀ t, t ∈ [t1, t2, t3, t4, t5, t6, t7] → Tx 900 t ∧ ∀ n w P, ¬ PmOk t n w P := fun t ht => by
  obtain ⟨h1, h2, h3, h5, h6, h7, _, _, hb⟩ := fixed_all
  have hb := List.all_eq_true.mp hb t ht
  simp only [Bool.and_eq_true, decide_eq_true_eq] at hb
  refine ⟨⟨hb.1, hb.2⟩, ?_⟩
  simp at ht
  rcases ht with rfl | rfl | rfl | rfl | rfl | rfl | rfl
  · exact noM_no h1
  · exact noM_no h2
  · exact noM_no h3
  · exact t4_no
  · exact noM_no h5
  · exact noM_no h6
  · exact noM_no h7
end PV
end
section
set_option linter.all false
set_option maxRecDepth 100000
namespace PV
open PySem (Str)
/-! ### losses parsed -/
def tlS (s : Str) : Str := ⟨s.cps.toList.tail.toArray⟩
def lsO (s : Str) : Option D := if s.cps.toList.head? = some 45 then (numO 2 (tlS s)).map (fun v => D.int (-v)) else (numO 2 s).map D.int
def rlO (l : Str) : Option D := ((splitS 32 l).mapM lsO).map D.tup
def loO (t : Str) : Option D := (((splitS 10 t).dropLast).mapM rlO).map D.tup
theorem tlS_len (s : Str) : (tlS s).length ≤ s.length := by
  rw [str_len, str_len]
  show (s.cps.toList.tail.toArray.toList).length ≤ _
  simp
theorem parse_loss_ok {s : Str} (hs : s.length ≤ 100000) (S : Store) : G_parse_loss [.str s] S = orD 17 S (lsO s) := by
  have hst := starts_at (x := s) (y := Str.ofString "-") (c := 45) (S := S) lit1c.2.2.2.2.2.1
  have hsl : sliD false (.str s) (.int 1) .none S = .ok (.str (tlS s)) S := by
    show (if s.length ≤ line then R.ok (D.str ⟨(cut s.cps.toList (some 1) none).toArray⟩) S else .err) = _
    rw [if_pos (by show s.length ≤ 16777216; omega), cut1]
    rfl
  have hp1 := parse_number_ok (s := tlS s) (m := 2) (by have := tlS_len s; omega) (by decide) S
  have hp2 := parse_number_ok (s := s) (m := 2) (by omega) (by decide) S
  have e2 : ((2 : Nat) : Int) = 2 := rfl
  rw [e2] at hp1 hp2
  unfold lsO
  by_cases h : s.cps.toList.head? = some 45
  · rw [if_pos h]
    have hb : (s.cps.toList.head? == some 45) = true := by rw [h]; rfl
    rw [hb] at hst
    cases hn : numO 2 (tlS s) with
    | none =>
      rw [hn] at hp1
      refine run_exc rfl ?_
      simp at hp1
      simp [startE, f_parse_loss, L_parse_loss, hst, hsl, hp1]
    | some v =>
      rw [hn] at hp1
      simp at hp1
      refine runF_pure rfl rfl ?_
      simp [startE, f_parse_loss, L_parse_loss, hst, hsl, hp1]
  · rw [if_neg h]
    have hb : (s.cps.toList.head? == some 45) = false := by
      cases hh : s.cps.toList.head? with
      | none => rfl
      | some c =>
        rw [hh] at h
        have : c ≠ 45 := fun e => h (by rw [e])
        simp [this]
    rw [hb] at hst
    cases hn : numO 2 s with
    | none =>
      rw [hn] at hp2
      refine run_exc rfl ?_
      simp at hp2
      simp [startE, f_parse_loss, L_parse_loss, hst, hp2]
    | some v =>
      rw [hn] at hp2
      simp at hp2
      refine runF_pure rfl rfl ?_
      simp [startE, f_parse_loss, L_parse_loss, hst, hp2]
theorem lsO_int {s : Str} {d : D} (h : lsO s = some d) : ∃ v : Int, d = .int v ∧ -100 < v ∧ v < 100 := by
  have e : (10 : Int) ^ 2 = 100 := by decide
  unfold lsO at h
  split at h
  · cases hn : numO 2 (tlS s) with
    | none => rw [hn] at h; cases h
    | some v =>
      rw [hn] at h
      cases h
      have := numO_some hn
      exact ⟨-v, rfl, by omega, by omega⟩
  · cases hn : numO 2 s with
    | none => rw [hn] at h; cases h
    | some v =>
      rw [hn] at h
      cases h
      have := numO_some hn
      exact ⟨v, rfl, by omega, by omega⟩
theorem lsO_bd {s : Str} {d : D} (h : lsO s = some d) : Bd d := by
  obtain ⟨v, rfl, h1, h2⟩ := lsO_int h
  exact bd_small (by omega)
theorem rlO_bd {s : Str} {d : D} (hs : s.length ≤ 900) (h : rlO s = some d) : Bd d := by
  unfold rlO at h
  cases hm : (splitS 32 s).mapM lsO with
  | none => rw [hm] at h; cases h
  | some ds =>
    rw [hm] at h
    cases h
    have hl := mapM_len hm
    have h1 := splitS_len 32 s
    exact bd_tup.mpr ⟨by omega, fun d hd => by
      obtain ⟨p, _, hp⟩ := mapM_mem hm d hd
      exact lsO_bd hp⟩
theorem loO_bd {s : Str} {d : D} (hs : s.length ≤ 900) (h : loO s = some d) : Bd d := by
  unfold loO at h
  cases hm : ((splitS 10 s).dropLast).mapM rlO with
  | none => rw [hm] at h; cases h
  | some ds =>
    rw [hm] at h
    cases h
    have hl := mapM_len hm
    have h1 := splitS_len 10 s
    rw [List.length_dropLast] at hl
    exact bd_tup.mpr ⟨by omega, fun d hd => by
      obtain ⟨p, h1, hp⟩ := mapM_mem hm d hd
      exact rlO_bd (by have := splitS_part (List.dropLast_subset _ h1); omega) hp⟩
/-- losses are those of numbers -/
theorem loss_shape {n : Nat} {d : D} (h : lossOk n d = true) : ∃ a L, d = eL a n L ∧ Ls a n L := by
  cases d with
  | tup rows =>
    simp only [lossOk, Bool.and_eq_true, decide_eq_true_eq] at h
    obtain ⟨⟨h1, h3⟩, ha⟩ := h
    have ha := List.all_eq_true.mp ha
    obtain ⟨L, hL⟩ : ∃ L : Nat → Nat → Int, ∀ x s, L x s = (match rows[x]? with | some (.tup xs) => (match xs[s]? with | some (.int i) => i | _ => 0) | _ => 0) := ⟨_, fun _ _ => rfl⟩
    have key : ∀ x (hx : x < rows.length), ∃ xs, rows[x] = .tup xs ∧ xs.length = n ∧ ∀ s (hs : s < n), xs[s]? = some (.int (L x s)) ∧ -99 ≤ L x s ∧ L x s ≤ 99 := fun x hx => by
      have hr := ha _ (List.getElem_mem hx)
      cases he : rows[x] with
      | tup xs =>
        rw [he] at hr
        simp only [rowLs, Bool.and_eq_true, decide_eq_true_eq] at hr
        obtain ⟨hl, hi⟩ := hr
        have hi := List.all_eq_true.mp hi
        refine ⟨xs, rfl, hl, fun s hs => ?_⟩
        have h4 := hi _ (List.getElem_mem (show s < xs.length by omega))
        have e : L x s = (match xs[s]? with | some (.int i) => i | _ => 0) := by rw [hL, List.getElem?_eq_getElem hx, he]
        rw [List.getElem?_eq_getElem (show s < xs.length by omega)] at e ⊢
        cases hy : xs[s]'(by omega) with
        | int i =>
          rw [hy] at h4 e
          simp [isIntIn] at h4
          have e : L x s = i := e
          rw [e]
          exact ⟨rfl, h4.1, h4.2⟩
        | _ => rw [hy] at h4; simp [isIntIn] at h4
      | _ => rw [he] at hr; simp [rowLs] at hr
    refine ⟨rows.length, L, ?_, ⟨h1, h3, fun x s hx hs => ?_⟩⟩
    · unfold eL
      congr 1
      refine List.ext_getElem? fun x => ?_
      by_cases hx : x < rows.length
      · obtain ⟨xs, e, hl, hs⟩ := key x hx
        rw [mp_get _ hx, List.getElem?_eq_getElem hx, e]
        congr 2
        refine List.ext_getElem? fun s => ?_
        by_cases hs' : s < n
        · rw [mp_get _ hs', (hs s hs').1]
        · rw [List.getElem?_eq_none (by omega), List.getElem?_eq_none (by simp; omega)]
      · rw [List.getElem?_eq_none (by omega), List.getElem?_eq_none (by simp; omega)]
    · obtain ⟨xs, e, hl, h5⟩ := key x hx
      exact (h5 s hs).2
  | _ => simp [lossOk] at h
theorem eL_inj {a n a' n' : Nat} {L L' : Nat → Nat → Int} (ha : 0 < a) (e : eL a n L = eL a' n' L') : a = a' ∧ n = n' ∧ ∀ x, x < a → ∀ s, s < n → L x s = L' x s := by
  unfold eL at e
  injection e with e
  have hl := congrArg List.length e
  simp at hl
  subst hl
  have hr := mp_inj e
  have hn : n = n' := by
    have := hr 0 ha
    injection this with this
    have := congrArg List.length this
    simpa using this
  subst hn
  refine ⟨rfl, rfl, fun x hx s hs => ?_⟩
  have := hr x hx
  injection this with this
  have := mp_inj this s hs
  injection this
theorem loT_congr {a n : Nat} {L L' : Nat → Nat → Int} (h : ∀ x, x < a → ∀ s, s < n → L x s = L' x s) : loT a n L = loT a n L' := by
  unfold loT
  congr 1
  refine mp_congr fun x hx => ?_
  congr 2
  exact mp_congr fun s hs => by rw [h x hx s hs]
theorem Ls.congr {a n : Nat} {L L' : Nat → Nat → Int} (h : Ls a n L) (e : ∀ x, x < a → ∀ s, s < n → L x s = L' x s) : Ls a n L' := ⟨h.a1, h.a3, fun x s hx hs => by rw [← e x hx s hs]; exact h.bd x s hx hs⟩
/-- what parse_losses returns of a text -/
def LoOk (t : Str) (n a : Nat) (L : Nat → Nat → Int) : Prop := loO t = some (eL a n L) ∧ lossOk n (eL a n L) = true ∧ loT a n L = t
theorem LoOk.ls {t : Str} {n a : Nat} {L : Nat → Nat → Int} (h : LoOk t n a L) : Ls a n L := by
  obtain ⟨_, h2, _⟩ := h
  obtain ⟨a', L', e, hp⟩ := loss_shape h2
  obtain ⟨rfl, _, hP⟩ := eL_inj (by have := lossOk_shape h2; obtain ⟨ls, e, h1, _⟩ := this; have := congrArg lenD e; simp [eL, lenD] at this; omega) e
  exact hp.congr fun x hx s hs => (hP x hx s hs).symm
section
variable {t : Str} (ht : Tx 900 t) {n : Nat} (hn : n ≤ 8) {ms : List D} (hms : ms.length = n) (hne : ms ≠ []) (hm : ∀ S, G_require_model [.tup ms] S = .ok .none S) (S : Store)
include ht
theorem parseL_set (F : Nat → List D → Store → R D) (hF : F 203 = G_parse_loss) (m : D) : ev F (.comp .seq (.acons (.sli false (.split false (.var 1) (.str "\n")) .none (.opt (.neg (.int 1)))) .anil) (.name 3) [3] false .none (.bi .tuple false (.acons (.comp .seq (.acons (.split false (.var 3) (.str " ")) .anil) (.name 4) [4] false .none (.call 203 (.acons (.var 4) .anil)) false) .anil)) false) [some m, some (.str t), none, none, none] S = orL false 17 S (((splitS 10 t).dropLast).mapM rlO) := by
  have hl := ht.len
  have hsp : splitD false (.str t) (.str (Str.ofString "\n")) S = .ok (.lst ((splitS 10 t).map D.str)) S := by
    rw [split_at lit1c.2.2.2.2.1 (by omega)]
    exact newL_f (by rw [List.length_map]; have := splitS_len 10 t; omega)
  have hsl : sliD false (.lst ((splitS 10 t).map D.str)) .none (.int (-1)) S = .ok (.lst (((splitS 10 t).dropLast).map D.str)) S := by
    show newL false (cut ((splitS 10 t).map D.str) none (some (-1))) S = _
    rw [cut_m1 _ (by simp [splitS_ne]), ← List.map_dropLast]
    exact newL_f (by rw [List.length_map, List.length_dropLast]; have := splitS_len 10 t; omega)
  refine comp_opt (l := (splitS 10 t).dropLast) (t := D.str) (as := [.lst (((splitS 10 t).dropLast).map D.str)]) (x := 17) rlO (fun p => [some m, some (.str t), none, some (.str p), none]) ?_ rfl ?_ (fun p _ => rfl) (fun p hp => ?_)
  · simp [hsp, negD, hsl]
  · rw [List.length_dropLast]; have := splitS_len 10 t; omega
  · have hpl := splitS_part (List.dropLast_subset _ hp)
    have hr := row_ev (F := F) (l := p) (j := 4) (S := S) (ρ := [some m, some (.str t), none, some (.str p), none]) (cid := 203) (G := G_parse_loss) (ch := lsO) hF (fun q hq => parse_loss_ok (by omega) S) (by omega) (a := 3) rfl (by simp) rfl
    rw [ev_bi, ev_acons, hr]
    unfold rlO
    cases hm : (splitS 32 p).mapM lsO with
    | none => rfl
    | some ds =>
      have h1 := mapM_len hm
      have h2 := splitS_len 32 p
      have : ds.length ≤ 16777216 := by omega
      simp [this]
include hn hms hne hm
theorem parseL_ok {a : Nat} {L : Nat → Nat → Int} (h : LoOk t n a L) : G_parse_losses [.tup ms, .str t] S = .ok (eL a n L) S := by
  have hL := h.ls
  obtain ⟨h1, h2, h3⟩ := h
  have hl := ht.len
  have hb := loO_bd (by omega) h1
  have hmt := losses_text_ok hL hn S
  rw [h3] at hmt
  have hps := parseL_set ht S (FOf L_parse_losses) rfl (.tup ms)
  unfold loO at h1
  cases hmm : ((splitS 10 t).dropLast).mapM rlO with
  | none => rw [hmm] at h1; cases h1
  | some ds =>
    rw [hmm] at h1
    have h1 : D.tup ds = eL a n L := by simpa using h1
    have hdl : ds.length ≤ 16777216 := by
      have a1 := mapM_len hmm
      rw [List.length_dropLast] at a1
      have a2 := splitS_len 10 t
      omega
    rw [hmm, orL_some, newL_f hdl] at hps
    refine runF_pure rfl (pure_of_bd hb) ?_
    have him := are_valid_losses_ok (ms := ms) (n := 1000) (by decide) hb S
    rw [hms, h2] at him
    have ne := ht.ne_self S
    have ist : isi S (.str t) .str = some true := rfl
    have hm := hm S
    simp only [startE, f_parse_losses]
    simp only [L_parse_losses] at hps ⊢
    simp [ist, hps, h1, him, hmt, ne, hm]
theorem parseL_no (h : ∀ a L, ¬ LoOk t n a L) : G_parse_losses [.tup ms, .str t] S = .exc 17 S := by
  have hl := ht.len
  have hps := parseL_set ht S (FOf L_parse_losses) rfl (.tup ms)
  have ist : isi S (.str t) .str = some true := rfl
  have hm := hm S
  refine run_exc rfl ?_
  simp only [startE, f_parse_losses]
  simp only [L_parse_losses] at hps ⊢
  cases hmm : ((splitS 10 t).dropLast).mapM rlO with
  | none =>
    rw [hmm, orL_none] at hps
    simp [ist, hps, hm]
  | some ds =>
    have hdl : ds.length ≤ 16777216 := by
      have a1 := mapM_len hmm
      rw [List.length_dropLast] at a1
      have a2 := splitS_len 10 t
      omega
    rw [hmm, orL_some, newL_f hdl] at hps
    have h1 : loO t = some (.tup ds) := by unfold loO; rw [hmm]; rfl
    have hb := loO_bd (by omega) h1
    have him := are_valid_losses_ok (ms := ms) (n := 1000) (by decide) hb S
    rw [hms] at him
    cases h2 : lossOk n (.tup ds) with
    | false =>
      rw [h2] at him
      simp [ist, hps, him, hm]
    | true =>
      rw [h2] at him
      obtain ⟨a, L, e, hL⟩ := loss_shape h2
      have hmt := losses_text_ok hL hn S
      rw [← e] at hmt
      have hne' : loT a n L ≠ t := fun z => h a L ⟨by rw [h1, e], by rw [← e]; exact h2, z⟩
      have ne := (loT_tx hL).pl.ne ht.pl S
      have hd : decide (D.str (loT a n L) = D.str t) = false := decide_eq_false fun z => hne' (by injection z)
      rw [hd] at ne
      simp [ist, hps, him, hmt, ne, hm]
end
end PV
end
section
set_option linter.all false
set_option maxRecDepth 100000
namespace PV
open PySem (Str)
/-! ### what is formatted is parsed; the signs of a loss -/
theorem ls_all : ∀ k : Fin 199, (lsO (txI ((k.val : Int) - 99)) = some (.int ((k.val : Int) - 99)) ∧ (txI ((k.val : Int) - 99)).cps.toList.all (fun c => decide (c ≠ 32 ∧ c ≠ 10)) = true ∧ (txI ((k.val : Int) - 99)).cps.toList ≠ []) := by decide +kernel
theorem ls_tx {i : Int} (h1 : -99 ≤ i) (h2 : i ≤ 99) : lsO (txI i) = some (.int i) ∧ (∀ c ∈ (txI i).cps.toList, c ≠ 32 ∧ c ≠ 10) ∧ (txI i).cps.toList ≠ [] := by
  have := ls_all ⟨(i + 99).toNat, by omega⟩
  rw [show ((((⟨(i + 99).toNat, by omega⟩ : Fin 199)).val : Int) - 99) = i by show (((i + 99).toNat : Nat) : Int) - 99 = i; omega] at this
  obtain ⟨a, b, c⟩ := this
  refine ⟨a, fun x hx => ?_, c⟩
  have := List.all_eq_true.mp b x hx
  exact of_decide_eq_true this
section
variable {a n : Nat} {L : Nat → Nat → Int}
/-- a line of losses -/
def llT (n : Nat) (l : Nat → Int) : Str := Str.join (Str.ofString " ") (mp n fun s => txI (l s))
theorem llT_split (hn : 0 < n) (h : ∀ s, s < n → -99 ≤ L 0 s ∧ L 0 s ≤ 99) : splitS 32 (llT n (L 0)) = mp n fun s => txI (L 0 s) := by
  unfold llT
  rw [lit_one.1]
  refine splitS_join (fun e => ?_) (fun x hx => ?_)
  · have := congrArg List.length e
    simp at this
    omega
  · obtain ⟨o, ho, rfl⟩ := mp_mem.mp hx
    exact fun hc => ((ls_tx (h o ho).1 (h o ho).2).2.1 32 hc).1 rfl
theorem rlO_llT (hn : 0 < n) (h : ∀ s, s < n → -99 ≤ L 0 s ∧ L 0 s ≤ 99) : rlO (llT n (L 0)) = some (.tup (mp n fun s => .int (L 0 s))) := by
  unfold rlO
  rw [llT_split hn h]
  have : (mp n fun s => txI (L 0 s)).mapM lsO = some (mp n fun s => .int (L 0 s)) := by
    have := mapM_all (f := fun s => lsO (txI (L 0 s))) (g := fun s => D.int (L 0 s)) (l := List.range n) fun s hs => (ls_tx (h s (List.mem_range.mp hs)).1 (h s (List.mem_range.mp hs)).2).1
    unfold mp
    rw [List.mapM_map]
    exact this
  rw [this]
  rfl
theorem llT_no10 (h : ∀ s, s < n → -99 ≤ L 0 s ∧ L 0 s ≤ 99) : 10 ∉ (llT n (L 0)).cps.toList := by
  unfold llT
  induction n with
  | zero =>
    intro hc
    have : (Str.join (Str.ofString " ") (mp 0 fun s => txI (L 0 s))).cps.toList = [] := rfl
    rw [this] at hc
    cases hc
  | succ n ih =>
    intro hc
    have ih := ih fun s hs => h s (by omega)
    by_cases hw : n = 0
    · subst hw
      have : Str.join (Str.ofString " ") (mp 1 fun s => txI (L 0 s)) = txI (L 0 0) := rfl
      rw [this] at hc
      exact ((ls_tx (h 0 (by omega)).1 (h 0 (by omega)).2).2.1 10 hc).2 rfl
    · rw [mp_s, join_snoc _ _ _ (by intro e; have := congrArg List.length e; simp at this; omega), tl_app, tl_app] at hc
      rcases List.mem_append.mp hc with hc | hc
      · rcases List.mem_append.mp hc with hc | hc
        · exact ih hc
        · rw [lit1c.2.2.2.1] at hc
          simp at hc
      · exact ((ls_tx (h n (by omega)).1 (h n (by omega)).2).2.1 10 hc).2 rfl
theorem llT_head (hn : 0 < n) (h : ∀ s, s < n → -99 ≤ L 0 s ∧ L 0 s ≤ 99) : ∃ c r, (llT n (L 0)).cps.toList = c :: r ∧ c ≠ 32 := by
  obtain ⟨n', rfl⟩ : ∃ n', n = n' + 1 := ⟨n - 1, by omega⟩
  obtain ⟨_, h2, h3⟩ := ls_tx (h 0 (by omega)).1 (h 0 (by omega)).2
  cases hd : (txI (L 0 0)).cps.toList with
  | nil => exact absurd hd h3
  | cons c r =>
    have hc := (h2 c (by rw [hd]; simp)).1
    unfold llT
    rw [mp_cons]
    by_cases hn' : n' = 0
    · subst hn'
      exact ⟨c, r, hd, hc⟩
    · obtain ⟨n2, rfl⟩ : ∃ n2, n' = n2 + 1 := ⟨n' - 1, by omega⟩
      rw [mp_cons]
      refine ⟨c, r ++ ((Str.ofString " ").cps.toList ++ (Str.join (Str.ofString " ") (txI (L 0 1) :: mp n2 fun i => txI (L 0 (i + 1 + 1)))).cps.toList), ?_, hc⟩
      show (txI (L 0 0) ++ Str.ofString " " ++ Str.join (Str.ofString " ") (txI (L 0 1) :: mp n2 fun i => txI (L 0 (i + 1 + 1)))).cps.toList = _
      rw [tl_app, tl_app, hd]
      simp
/-- the lines of the text of losses -/
structure Lnl (a : Nat) (t : Str) (ls : List (List Nat)) : Prop where
  len : ls.length = a
  eq : t.cps.toList = lnsL ls []
  fr : ∀ l ∈ ls, 10 ∉ l
  hd : ∀ l ∈ ls, ∃ c r, l = c :: r ∧ c ≠ 32
theorem Ls.lns (hn : 0 < n) (h : Ls a n L) : Lnl a (loT a n L) (mp a fun x => (llT n (L x)).cps.toList) := by
  refine ⟨mp_len _ _, join_lines _ a, fun l hl => ?_, fun l hl => ?_⟩
  · obtain ⟨x, hx, rfl⟩ := mp_mem.mp hl
    exact llT_no10 (L := fun _ => L x) fun s hs => h.bd x s hx hs
  · obtain ⟨x, hx, rfl⟩ := mp_mem.mp hl
    exact llT_head (L := fun _ => L x) hn fun s hs => h.bd x s hx hs
theorem splitS_lnl {t : Str} {ls : List (List Nat)} (h : Lnl a t ls) : splitS 10 t = ls.map (fun l => (⟨l.toArray⟩ : Str)) ++ [Str.empty] := by
  unfold splitS
  rw [h.eq, spl1_lns _ h.fr, List.map_append]
  rfl
theorem loO_loT (hn : 0 < n) (h : Ls a n L) : loO (loT a n L) = some (eL a n L) := by
  unfold loO
  rw [splitS_lnl (h.lns hn), List.dropLast_concat, mp_map]
  have : (mp a fun x => (⟨((llT n (L x)).cps.toList).toArray⟩ : Str)).mapM rlO = some (mp a fun x => .tup (mp n fun s => .int (L x s))) := by
    have := mapM_all (f := fun x => rlO (llT n (L x))) (g := fun x => D.tup (mp n fun s => .int (L x s))) (l := List.range a) fun x hx => rlO_llT (L := fun _ => L x) hn fun s hs => h.bd x s (List.mem_range.mp hx) hs
    unfold mp at this ⊢
    rw [List.mapM_map]
    have e : (rlO ∘ fun x => (⟨((llT n (L x)).cps.toList).toArray⟩ : Str)) = fun x => rlO (llT n (L x)) := by
      funext x
      simp
    rw [e]
    exact this
  rw [this]
  rfl
theorem Ls.parse (hn : 0 < n) (h : Ls a n L) : LoOk (loT a n L) n a L := ⟨loO_loT hn h, h.ok, rfl⟩
end
theorem LoOk.lns {t : Str} {n a : Nat} {L : Nat → Nat → Int} (hn : 0 < n) (h : LoOk t n a L) : ∃ ls, Lnl a t ls ∧ 1 ≤ a ∧ a ≤ 3 := by
  have hL := h.ls
  have hl := hL.lns hn
  rw [h.2.2] at hl
  exact ⟨_, hl, hL.a1, hL.a3⟩
theorem no_lo {t : Str} {n : Nat} (hn : 0 < n) (h : ∀ a ls, Lnl a t ls → 1 ≤ a → a ≤ 3 → False) : ∀ a L, ¬ LoOk t n a L := fun a L hp => by
  obtain ⟨ls, h1, h2, h3⟩ := hp.lns hn
  exact h a ls h1 h2 h3
theorem Lnl.spl {n : Nat} {t : Str} {ls : List (List Nat)} (h : Lnl n t ls) : spl1 10 t.cps.toList = ls ++ [[]] := by
  rw [h.eq, spl1_lns _ h.fr]
  rfl
section
variable {n n' : Nat} {t t' : Str} {ls ls' : List (List Nat)}
theorem ll_emp (h : Lnl n t ls) (hn : 1 ≤ n) (e : t.cps.toList = []) : False := by
  have := h.spl
  rw [e] at this
  have := congrArg List.length this
  have hl := h.len
  simp [spl1] at this
  subst this
  simp at hl
  omega
theorem Lnl.snoc (h : Lnl n t ls) (hn : 1 ≤ n) : ∃ ks l, ls = ks ++ [l] := by
  have hl := h.len
  exact ⟨ls.dropLast, ls.getLast (fun e => by rw [e] at hl; simp at hl; omega), (List.dropLast_concat_getLast _).symm⟩
theorem ll_cut (h : Lnl n t ls) (hn : 1 ≤ n) (e : t'.cps.toList = t.cps.toList.dropLast) (h' : Lnl n' t' ls') : False := by
  obtain ⟨ks, l, rfl⟩ := h.snoc hn
  have e1 : t'.cps.toList = lnsL ks l := by
    rw [e, h.eq, lnsL_snoc, lnsL_app, lnsL_app l ks, ← List.append_assoc, List.dropLast_concat]
  have hs := h'.spl
  rw [e1, spl1_lns _ fun x hx => h.fr x (by simp [hx]), spl1_free (h.fr l (by simp))] at hs
  have := (List.append_inj' hs rfl).2
  obtain ⟨c, r, e2, _⟩ := h.hd l (by simp)
  rw [e2] at this
  cases this
theorem ll_nl (h : Lnl n t ls) (e : t'.cps.toList = t.cps.toList ++ [10]) (h' : Lnl n' t' ls') : False := by
  have hs := h'.spl
  rw [e, h.eq, ← lnsL_app, spl1_lns _ h.fr] at hs
  have e2 : spl1 10 [10] = [[], []] := rfl
  rw [e2, show ([[], []] : List (List Nat)) = [[]] ++ [[]] from rfl, ← List.append_assoc] at hs
  have := (List.append_inj' hs rfl).1
  obtain ⟨c, r, e3, _⟩ := h'.hd [] (by rw [← this]; simp)
  cases e3
theorem ll_sp (e : t'.cps.toList = 32 :: t.cps.toList) (h' : Lnl n' t' ls') (hn : 1 ≤ n') : False := by
  have hl := h'.len
  cases hls : ls' with
  | nil => rw [hls] at hl; simp at hl; omega
  | cons l r =>
    obtain ⟨c, r2, e2, c1⟩ := h'.hd l (by rw [hls]; simp)
    have := h'.eq
    rw [e, hls, e2] at this
    have : 32 = c := by
      have := congrArg List.head? this
      simp [lnsL] at this
      exact this
    omega
theorem ll_four (h : Lnl n t ls) (hn : 1 ≤ n) (e : t'.cps.toList = t.cps.toList ++ (t.cps.toList ++ (t.cps.toList ++ t.cps.toList))) (h' : Lnl n' t' ls') (hn' : n' ≤ 3) : False := by
  have hs := h'.spl
  have e1 : t'.cps.toList = lnsL (ls ++ (ls ++ (ls ++ ls))) [] := by rw [e, h.eq, lnsL_cat, lnsL_cat, lnsL_cat, lnsL_app (lnsL ls (lnsL ls (lnsL ls []))) ls, lnsL_app (lnsL ls (lnsL ls [])) ls, lnsL_app (lnsL ls []) ls]
  rw [e1, spl1_lns _ fun x hx => h.fr x (by simpa using hx)] at hs
  have := (List.append_inj' hs rfl).1
  have := congrArg List.length this
  have h1 := h.len
  have h2 := h'.len
  simp at this
  omega
end
/-! ### written texts -/
def u1 : Str := Str.ofString "0\n"
def u2 : Str := Str.ofString "0 0 0 0\n"
def u3 : Str := Str.ofString "-0 0\n"
def u4 : Str := Str.ofString "100 0\n"
def u5 : Str := Str.ofString "+1 0\n"
def u6 : Str := Str.ofString "01 0\n"
def L01 : Nat → Nat → Int := fun _ s => if s = 0 then 1 else 0
theorem ufix : loO u1 = some (eL 1 1 fun _ _ => 0) ∧ loO u2 = some (eL 1 4 fun _ _ => 0) ∧ loO u3 = some (eL 1 2 fun _ _ => 0) ∧ loT 1 2 (fun _ _ => 0) ≠ u3 ∧ loO u4 = none ∧ loO u5 = none ∧ loO u6 = some (eL 1 2 L01) ∧ loT 1 2 L01 ≠ u6 ∧ [u1, u2, u3, u4, u5, u6].all (fun t => decide (t.length ≤ 900) && t.cps.all fun c => decide (c < 1114112)) = true := by decide +kernel
theorem ufix_no {n : Nat} (h2 : 2 ≤ n) (h3 : n ≤ 3) : ∀ t, t ∈ [u1, u2, u3, u4, u5, u6] → Tx 900 t ∧ ∀ a L, ¬ LoOk t n a L := fun t ht => by
  obtain ⟨e1, e2, e3, n3, e4, e5, e6, n6, hb⟩ := ufix
  have hb := List.all_eq_true.mp hb t ht
  simp only [Bool.and_eq_true, decide_eq_true_eq] at hb
  refine ⟨⟨hb.1, hb.2⟩, fun a L hp => ?_⟩
  have hp1 := hp.1
  simp at ht
  rcases ht with rfl | rfl | rfl | rfl | rfl | rfl
  · rw [e1] at hp1
    have := eL_inj (by decide) (Option.some.inj hp1)
    omega
  · rw [e2] at hp1
    have := eL_inj (by decide) (Option.some.inj hp1)
    omega
  · rw [e3] at hp1
    obtain ⟨rfl, rfl, h⟩ := eL_inj (by decide) (Option.some.inj hp1)
    exact n3 ((loT_congr h).trans hp.2.2)
  · rw [e4] at hp1; cases hp1
  · rw [e5] at hp1; cases hp1
  · rw [e6] at hp1
    obtain ⟨rfl, rfl, h⟩ := eL_inj (by decide) (Option.some.inj hp1)
    exact n6 ((loT_congr h).trans hp.2.2)
/-! ### refusals -/
theorem parseL_non {m d : D} {S : Store} (hm : G_require_model [m] S = .ok .none S) (h : isi S d .str = some false) : G_parse_losses [m, d] S = .exc 17 S := by
  refine run_exc rfl ?_
  simp only [startE, f_parse_losses, L_parse_losses]
  simp [h, hm]
theorem parseL_mod {m d : D} {S : Store} {c : Nat} (hm : G_require_model [m] S = .exc c S) : G_parse_losses [m, d] S = .exc c S := by
  refine run_exc rfl ?_
  simp only [startE, f_parse_losses, L_parse_losses]
  simp [hm]
theorem parseL_or_exc {m d : D} {S : Store} {c c' : Nat} {t : Str} (h : G_parse_losses [m, d] S = .exc c S) (ht : ([(0, "InvalidModel"), (17, "ParseError")] : List (Nat × Str)).find? (fun p => p.1 == c) = some (c', t)) : G_law_parse_losses_or [m, d] S = .ok (.str t) S :=
  try_exc (c := c) (c' := c') rfl rfl (by simp [startE, f_law_parse_losses_or, L_law_parse_losses_or, h]) ht
theorem parseL_or_ok {m d r : D} {S : Store} (hp : r.pure = true) (h : G_parse_losses [m, d] S = .ok r S) : G_law_parse_losses_or [m, d] S = .ok r S := by
  refine runF_pure rfl hp ?_
  simp [startE, f_law_parse_losses_or, L_law_parse_losses_or, h]
end PV
end
section
set_option linter.all false
set_option maxRecDepth 100000
namespace PV
open PySem (Str)
/-! ### texts that are spoiled -/
theorem tx_mk {N : Nat} {s : Str} (h : s.length ≤ N) (hc : ∀ x ∈ s.cps.toList, x < 1114112) : Tx N s := ⟨h, by
  rw [← Array.all_toList, List.all_eq_true]
  exact fun x hx => decide_eq_true (hc x hx)⟩
theorem Tx.cs {N : Nat} {s : Str} (h : Tx N s) : ∀ x ∈ s.cps.toList, x < 1114112 := fun x hx => by
  have := h.ok
  rw [← Array.all_toList, List.all_eq_true] at this
  exact of_decide_eq_true (this x hx)
def sumL (xs : List Str) : Nat := (xs.map (·.length)).sum
theorem sumL_app (xs ys : List Str) : sumL (xs ++ ys) = sumL xs + sumL ys := by unfold sumL; simp
theorem sumL_rev (xs : List Str) : sumL xs.reverse = sumL xs := by
  induction xs with
  | nil => rfl
  | cons x xs ih => rw [List.reverse_cons, sumL_app, ih]; simp [sumL]; omega
theorem sumL_cut (xs : List Str) (k : Nat) : sumL (xs.take k) + sumL (xs.drop k) = sumL xs := by rw [← sumL_app, List.take_append_drop]
theorem sumL_mem {xs : List Str} {x : Str} (h : x ∈ xs) : x.length ≤ sumL xs := by
  induction xs with
  | nil => cases h
  | cons y xs ih =>
    have e : sumL (y :: xs) = y.length + sumL xs := by simp [sumL]
    rcases List.mem_cons.mp h with rfl | h
    · omega
    · have := ih h; omega
theorem spl1_sum (c : Nat) : ∀ l : List Nat, ((spl1 c l).map (·.length)).sum + (spl1 c l).length = l.length + 1
  | [] => rfl
  | x :: l => by
    have ih := spl1_sum c l
    unfold spl1
    split
    · simp; omega
    · split
      · rename_i h; exact absurd h (spl1_ne c l)
      · rename_i p ps h
        rw [h] at ih
        simp at ih ⊢
        omega
theorem spl1_mem (c : Nat) : ∀ (l p : List Nat), p ∈ spl1 c l → ∀ x ∈ p, x ∈ l
  | [], p, h => by simp [spl1] at h; subst h; simp
  | y :: l, p, h => by
    unfold spl1 at h
    split at h
    · rcases List.mem_cons.mp h with h | h
      · subst h; simp
      · exact fun x hx => by simp [spl1_mem c l p h x hx]
    · split at h
      · rename_i h0; exact absurd h0 (spl1_ne c l)
      · rename_i q qs hq
        rcases List.mem_cons.mp h with h | h
        · subst h
          intro x hx
          rcases List.mem_cons.mp hx with rfl | hx
          · simp
          · simp [spl1_mem c l q (by rw [hq]; simp) x hx]
        · exact fun x hx => by simp [spl1_mem c l p (by rw [hq]; simp [h]) x hx]
theorem splitS_sum (c : Nat) (s : Str) : sumL (splitS c s) + (splitS c s).length = s.length + 1 := by
  have := spl1_sum c s.cps.toList
  rw [str_len]
  unfold sumL splitS
  rw [List.map_map, List.length_map]
  have e : ((fun x : Str => x.length) ∘ fun l : List Nat => (⟨l.toArray⟩ : Str)) = fun l => l.length := by
    funext l
    show (⟨l.toArray⟩ : Str).length = l.length
    rw [str_len]
  rw [e]
  exact this
theorem splitS_cs {N c : Nat} {s p : Str} (h : Tx N s) (hp : p ∈ splitS c s) : ∀ x ∈ p.cps.toList, x < 1114112 := by
  unfold splitS at hp
  obtain ⟨l, hl, rfl⟩ := List.mem_map.mp hp
  intro x hx
  exact h.cs x (spl1_mem c _ l hl x (by simpa using hx))
theorem join_sum (a : Str) : ∀ xs : List Str, (Str.join a xs).length ≤ sumL xs + xs.length * a.length
  | [] => Nat.zero_le _
  | [y] => by show y.length ≤ _; simp [sumL]
  | y :: z :: r => by
    have ih := join_sum a (z :: r)
    show (y ++ a ++ Str.join a (z :: r)).length ≤ _
    rw [len_app, len_app]
    have e : sumL (y :: z :: r) = y.length + sumL (z :: r) := by simp [sumL]
    rw [e]
    simp only [List.length_cons, Nat.add_mul] at ih ⊢
    omega
theorem join_cs (a : Str) (ha : ∀ x ∈ a.cps.toList, x < 1114112) : ∀ xs : List Str, (∀ p ∈ xs, ∀ x ∈ p.cps.toList, x < 1114112) → ∀ x ∈ (Str.join a xs).cps.toList, x < 1114112
  | [], _, x, hx => by cases hx
  | [y], h, x, hx => h y (by simp) x hx
  | y :: z :: r, h, x, hx => by
    have ih := join_cs a ha (z :: r) fun p hp => h p (by simp at hp ⊢; exact .inr hp)
    have hx : x ∈ (y ++ a ++ Str.join a (z :: r)).cps.toList := hx
    rw [tl_app, tl_app] at hx
    rcases List.mem_append.mp hx with hx | hx
    · rcases List.mem_append.mp hx with hx | hx
      · exact h y (by simp) x hx
      · exact ha x hx
    · exact ih x hx
theorem allStr_map : ∀ ys : List Str, allStr (ys.map D.str) = some ys
  | [] => rfl
  | y :: ys => by
    show (allStr (ys.map D.str)).map (y :: ·) = _
    rw [allStr_map ys]
    rfl
theorem joinD_of {a : Str} {d : D} {ys : List Str} {S : Store} (hd : getSeq S d = some (ys.map D.str)) (h : sumL ys + ys.length * a.length ≤ 16777216) : joinD a d S = .ok (.str (Str.join a ys)) S := by
  unfold joinD
  rw [hd]
  show (match allStr (ys.map D.str) with | some ys => _ | none => _) = _
  rw [allStr_map]
  exact if_pos h
/-- parts of a text -/
theorem sli_tx {m : Bool} {N : Nat} {s : Str} (h : Tx N s) (hN : N ≤ 1000000) {lo hi : D} {l u : Option Int} (hl : optI lo = some l) (hu : optI hi = some u) (S : Store) : ∃ s', sliD m (.str s) lo hi S = .ok (.str s') S ∧ Tx N s' := by
  refine ⟨⟨(cut s.cps.toList l u).toArray⟩, ?_, tx_mk ?_ fun x hx => ?_⟩
  · unfold sliD
    rw [hl, hu]
    show (if s.length ≤ line then _ else _) = _
    exact if_pos (by show s.length ≤ 16777216; have := h.len; omega)
  · rw [str_len]
    have := cut_len s.cps.toList l u
    have := h.len
    rw [str_len] at this
    simp
    omega
  · refine h.cs x ?_
    have hx : x ∈ cut s.cps.toList l u := by simpa using hx
    exact cut_sub hx
section
variable {F : Nat → List D → Store → R D} {ρ : Env} {S : Store}
def stSl (x l h d : D) (S4 : Store) : R Unit := match setSlD x l h d S4 with | some S5 => .ok () S5 | none => .err
@[simp] theorem ex_setSl (o lo hi e : Ex) : ex F (.setSl o lo hi e) ρ S = toS ((ev F e ρ S).bind fun d S1 => (ev F o ρ S1).bind fun x S2 => (ev F lo ρ S2).bind fun l S3 => (ev F hi ρ S3).bind fun h S4 => stSl x l h d S4) fun _ S5 => .nx ρ S5 := by
  unfold ex stSl
  cases ((ev F e ρ S).bind fun d S1 => (ev F o ρ S1).bind fun x S2 => (ev F lo ρ S2).bind fun l S3 => (ev F hi ρ S3).bind fun h S4 => (match setSlD x l h d S4 with | some S5 => R.ok () S5 | none => R.err)) <;> rfl
end
theorem stSl_ok {c i : Nat} {xs ys : List D} {S : Store} (h : S[c]? = some (.lst xs)) (hi : i < xs.length) (hl : xs.length + ys.length ≤ 16777216) : stSl (.loc c) (.int (i : Int)) (.int ((i : Int) + 1)) (.lst ys) S = .ok () (S.set c (.lst (xs.take i ++ ys ++ xs.drop (i + 1)))) := by
  unfold stSl setSlD
  dsimp only
  rw [h]
  have hc : (0 : Int) ≤ (i : Int) ∧ (i : Int) ≤ (i : Int) + 1 ∧ (i : Int) + 1 ≤ (xs.length : Int) ∧ xs.length + ys.length ≤ line := ⟨by omega, by omega, by omega, hl⟩
  dsimp only
  rw [if_pos hc]
  have e1 : ((i : Int)).toNat = i := by omega
  have e2 : ((i : Int) + 1).toNat = i + 1 := by omega
  rw [e1, e2]
theorem cut_one {α : Type} {xs : List α} {i : Nat} {x : α} (h : xs[i]? = some x) : cut xs (some (i : Int)) (some ((i : Int) + 1)) = [x] := by
  have hi : i < xs.length := by
    rcases Nat.lt_or_ge i xs.length with z | z
    · exact z
    · rw [List.getElem?_eq_none z] at h; cases h
  unfold cut
  have s1 : sIx xs.length 0 (some (i : Int)) = i := by
    show (if (i : Int) < 0 then ((i : Int) + (xs.length : Nat)).toNat else min (i : Int).toNat xs.length) = i
    rw [if_neg (by omega)]
    omega
  have s2 : sIx xs.length xs.length (some ((i : Int) + 1)) = i + 1 := by
    show (if (i : Int) + 1 < 0 then ((i : Int) + 1 + (xs.length : Nat)).toNat else min ((i : Int) + 1).toNat xs.length) = i + 1
    rw [if_neg (by omega)]
    omega
  rw [s1, s2]
  have e : i + 1 - i = 1 := by omega
  rw [e, List.drop_eq_getElem_cons hi]
  rw [List.getElem?_eq_getElem hi] at h
  cases h
  rfl
end PV
end
section
set_option linter.all false
set_option maxRecDepth 100000
namespace PV
open PySem (Str)
section
variable {ns : List Int} (hns : ns.length ≤ 1000000) {S : Store} {c N : Nat}
include hns
theorem spoiled_wp {t : Str} {sg : List Str} (ht : Tx 160 t) (h0 : sg ≠ []) (hsg : ∀ x ∈ sg, Tx 3 x) (hS : Stt c N S) (hN : N + 100 < 1000000) :
    (G_law_spoiled [.scr ns, .loc c, .str t, .lst (sg.map D.str)] S).Wp fun d S' => Dr c (N + 20) S S' ∧ ∃ t', d = .str t' ∧ Tx 900 t' := by
  refine run_wp rfl fun T hT => ?_
  have fin : ∀ (t' : Str) (S' X : Store), Tx 900 t' → Dr c (N + 20) S S' → T (.str t') (S' ++ X) := fun t' S' X h hD => hT _ _ (by
    rw [hD.clean rfl, wp_ok]
    exact ⟨hD, t', rfl, h⟩)
  have hl := ht.len
  have hlen : ∀ S : Store, biD false .len [.str t] S = .ok (.int (t.length : Nat)) S := fun S => by
    show (if t.length ≤ line then R.ok (D.int (t.length : Nat)) S else .err) = _
    exact if_pos (by show t.length ≤ 16777216; omega)
  refine st_seq ?_
  simp [startE, f_law_spoiled, L_law_spoiled, hlen]
  have e1 : (t.length : Int) + 1 = ((t.length + 1 : Nat) : Int) := by omega
  rw [e1]
  refine R.Wp.mono (draw_wp hns hS (m := ((t.length + 1 : Nat) : Int)) (by omega) (by omega)) ?_
  rintro _ S1 ⟨hD1, r1, hr1, rfl⟩
  have hS1 := hD1.stt hS
  refine R.Wp.mono (draw_wp hns hS1 (m := 6) (by decide) (by omega)) ?_
  rintro _ S2 ⟨hD2, r2, hr2, rfl⟩
  have hS2 := hD2.stt hS1
  refine kn_seq ?_
  simp
  refine R.Wp.mono (pick_wp hns (xs := sg.map D.str) hS2 (by omega) (by simpa using h0) (fun x hx => by obtain ⟨y, _, rfl⟩ := List.mem_map.mp hx; rfl)) ?_
  rintro _ S3 ⟨hD3, hmem⟩
  obtain ⟨sgn, hsm, rfl⟩ := List.mem_map.mp hmem
  have hsn := hsg sgn hsm
  have hS3 := hD3.stt hS2
  have hDD := (hD1.trans hD2).trans hD3
  have e2 : (r1 : Int) + 1 = ((r1 + 1 : Nat) : Int) := by omega
  -- parts of the text
  obtain ⟨p1, hp1, tp1⟩ := sli_tx (m := false) ht (by decide) (lo := .none) (hi := .int (r1 : Int)) rfl rfl S3
  obtain ⟨p2, hp2, tp2⟩ := sli_tx (m := false) ht (by decide) (lo := .int ((r1 : Int) + 1)) (hi := .none) rfl rfl S3
  obtain ⟨p3, hp3, tp3⟩ := sli_tx (m := false) ht (by decide) (lo := .int (r1 : Int)) (hi := .none) rfl rfl S3
  have ad1 := add_str (m := false) (x := p1) (y := p2) (S := S3) (by have := tp1.len; have := tp2.len; omega)
  have ad2 := add_str (m := false) (x := p1) (y := sgn) (S := S3) (by have := tp1.len; have := hsn.len; omega)
  have tps := tp1.app hsn
  have ad3 := add_str (m := false) (x := p1 ++ sgn) (y := p3) (S := S3) (by have := tps.len; have := tp3.len; omega)
  have ad4 := add_str (m := false) (x := p1 ++ sgn) (y := p2) (S := S3) (by have := tps.len; have := tp2.len; omega)
  refine kn_seq ?_
  by_cases t0 : r2 = 0
  · simp [t0, hp1, hp2, ad1]
    have := fin _ S3 [] ((tp1.app tp2).mono (by decide)) (hDD.mono (by omega))
    simpa using this
  have t0' : ¬ (r2 : Int) = 0 := by omega
  simp [t0', t0]
  refine kn_seq ?_
  by_cases t1 : r2 = 1
  · simp [t1, hp1, hp3, ad2, ad3]
    have := fin _ S3 [] ((tps.app tp3).mono (by decide)) (hDD.mono (by omega))
    simpa using this
  have t1' : ¬ (r2 : Int) = 1 := by omega
  simp [t1', t1]
  refine kn_seq ?_
  by_cases t2 : r2 = 2
  · simp [t2]
    obtain ⟨ls, hls⟩ : ∃ ls, ls = splitS 10 t := ⟨_, rfl⟩
    have hsum := splitS_sum 10 t
    rw [← hls] at hsum
    have hcs : ∀ p ∈ ls, ∀ x ∈ p.cps.toList, x < 1114112 := fun p hp => splitS_cs ht (by rw [← hls]; exact hp)
    have hne : ls ≠ [] := by rw [hls]; exact splitS_ne 10 t
    have hpos : 0 < ls.length := List.length_pos_iff.mpr hne
    have hsp : splitD true (.str t) (.str (Str.ofString "\n")) S3 = .ok (.loc S3.length) (S3 ++ [.lst (ls.map D.str)]) := by
      rw [split_at lit1c.2.2.2.2.1 (by omega), ← hls]
      exact newL_t (by rw [List.length_map]; omega)
    have hll : ∀ S : Store, S[S3.length]? = some (.lst (ls.map D.str)) → biD false .len [.loc S3.length] S = .ok (.int (ls.length : Nat)) S := fun S h => by
      show (match getSeq S (.loc S3.length) with | some xs => R.ok (D.int xs.length) S | none => .err) = _
      have : getSeq S (.loc S3.length) = some (ls.map D.str) := list_loc h
      rw [this]
      simp
    simp [hsp, hll]
    refine R.Wp.mono (draw_wp hns (hS3.app (X := [.lst (ls.map D.str)])) (m := ((ls.length : Nat) : Int)) (by omega) (by omega)) ?_
    rintro _ S4' ⟨hD4', r3, hr3, rfl⟩
    obtain ⟨S4, rfl, hD4⟩ := hD4'.app hS3
    have hS4 := hD4.stt hS3
    have h34 : S3.length = S4.length := hD4.len.symm
    have hr3' : r3 < ls.length := by omega
    obtain ⟨l, hl3⟩ : ∃ l, ls[r3]? = some l := ⟨_, List.getElem?_eq_getElem hr3'⟩
    have hlm : l ∈ ls := List.mem_of_getElem? hl3
    have hll2 := sumL_mem hlm
    have hcl := hcs l hlm
    have hget : (S4 ++ [Cell.lst (ls.map D.str)])[S3.length]? = some (.lst (ls.map D.str)) := by rw [h34]; exact get_last _ _
    have hmap3 : (ls.map D.str)[r3]? = some (.str l) := by rw [List.getElem?_map, hl3]; rfl
    have hcut : sliD false (.loc S3.length) (.int (r3 : Int)) (.int ((r3 : Int) + 1)) (S4 ++ [Cell.lst (ls.map D.str)]) = .ok (.lst [.str l]) (S4 ++ [Cell.lst (ls.map D.str)]) := by
      show (match getList (S4 ++ [Cell.lst (ls.map D.str)]) (.loc S3.length) with | some xs => newL false (cut xs (some (r3 : Int)) (some ((r3 : Int) + 1))) _ | none => .err) = _
      rw [list_loc hget]
      dsimp only
      rw [cut_one hmap3]
      rfl
    have hmul : ∀ S : Store, binD false .mul (.lst [.str l]) (.int 2) S = .ok (.lst [.str l, .str l]) S := fun S => rfl
    have hidx : idxD (.loc S3.length) (.int (r3 : Int)) (S4 ++ [Cell.lst (ls.map D.str)]) = some (.str l) := by
      show (getSeq _ (.loc S3.length)).bind (fun xs => atI xs (r3 : Int)) = _
      have : getSeq (S4 ++ [Cell.lst (ls.map D.str)]) (.loc S3.length) = some (ls.map D.str) := list_loc hget
      rw [this, Option.bind_some, atI_nat, hmap3]
    simp [hcut, hmul, hidx]
    refine R.Wp.mono (pick_wp hns (xs := [.lst [], .lst [.str l, .str l], .lst [.str sgn], .lst [.str sgn, .str l]]) (hS4.app (X := [.lst (ls.map D.str)])) (by omega) (by simp) (fun x hx => by
      simp at hx
      rcases hx with rfl | rfl | rfl | rfl <;> rfl)) ?_
    rintro d5 S5' ⟨hD5', hmem5⟩
    obtain ⟨S5, rfl, hD5⟩ := hD5'.app hS4
    have h45 : S3.length = S5.length := by rw [h34, hD5.len]
    have hget5 : (S5 ++ [Cell.lst (ls.map D.str)])[S3.length]? = some (.lst (ls.map D.str)) := by rw [h45]; exact get_last _ _
    obtain ⟨ys, rfl, hys, hyl, hyc⟩ : ∃ ys : List Str, d5 = .lst (ys.map D.str) ∧ sumL ys ≤ 400 ∧ ys.length ≤ 2 ∧ ∀ p ∈ ys, ∀ x ∈ p.cps.toList, x < 1114112 := by
      have b1 := hsn.len
      have b2 := hsn.cs
      simp at hmem5
      rcases hmem5 with rfl | rfl | rfl | rfl
      · exact ⟨[], rfl, by simp [sumL], by simp, by simp⟩
      · refine ⟨[l, l], rfl, by simp [sumL]; omega, by simp, fun p hp => ?_⟩
        simp at hp; subst hp; exact hcl
      · refine ⟨[sgn], rfl, by simp [sumL]; omega, by simp, fun p hp => ?_⟩
        simp at hp; subst hp; exact b2
      · refine ⟨[sgn, l], rfl, by simp [sumL]; omega, by simp, fun p hp => ?_⟩
        simp at hp
        rcases hp with rfl | rfl
        · exact b2
        · exact hcl
    have hst := stSl_ok (ys := ys.map D.str) hget5 (by simpa using hr3') (by simp; omega)
    have hset : (S5 ++ [Cell.lst (ls.map D.str)]).set S3.length (.lst ((ls.map D.str).take r3 ++ ys.map D.str ++ (ls.map D.str).drop (r3 + 1))) = S5 ++ [.lst ((ls.take r3 ++ ys ++ ls.drop (r3 + 1)).map D.str)] := by
      rw [h45, set_last]
      simp
    rw [hset] at hst
    obtain ⟨zs, hzs⟩ : ∃ zs, zs = ls.take r3 ++ ys ++ ls.drop (r3 + 1) := ⟨_, rfl⟩
    rw [← hzs] at hst
    have hz1 : sumL zs ≤ 600 := by
      have q1 := sumL_cut ls r3
      have q2 := sumL_cut (ls.drop r3) 1
      rw [List.drop_drop] at q2
      rw [hzs, sumL_app, sumL_app]
      omega
    have hz2 : zs.length ≤ 170 := by
      rw [hzs, List.length_append, List.length_append, List.length_take, List.length_drop]
      omega
    have hz3 : ∀ p ∈ zs, ∀ x ∈ p.cps.toList, x < 1114112 := fun p hp => by
      rw [hzs] at hp
      rcases List.mem_append.mp hp with hp | hp
      · rcases List.mem_append.mp hp with hp | hp
        · exact hcs p (List.mem_of_mem_take hp)
        · exact hyc p hp
      · exact hcs p (List.mem_of_mem_drop hp)
    have hnl := tx_lit (s := "\n") (k := 1)
    have hjl := join_sum (Str.ofString "\n") zs
    have hml : zs.length * (Str.ofString "\n").length ≤ 170 * 1 := Nat.mul_le_mul hz2 hnl.len
    have hjn := joinD_of (a := Str.ofString "\n") (d := .loc S3.length) (ys := zs) (S := S5 ++ [.lst (zs.map D.str)]) (by
      have : getList (S5 ++ [.lst (zs.map D.str)]) (.loc S3.length) = some (zs.map D.str) := list_loc (by rw [h45]; exact get_last _ _)
      exact this) (by omega)
    simp [hst, hjn]
    refine fin _ S5 _ (tx_mk ?_ ?_) ?_
    · omega
    · exact join_cs _ hnl.cs zs hz3
    · exact ((hDD.trans hD4).trans hD5).mono (by omega)
  have t2' : ¬ (r2 : Int) = 2 := by omega
  simp [t2', t2]
  refine kn_seq ?_
  by_cases t3 : r2 = 3
  · simp [t3]
    obtain ⟨ls, hls⟩ : ∃ ls, ls = splitS 32 t := ⟨_, rfl⟩
    have hsum := splitS_sum 32 t
    rw [← hls] at hsum
    have hcs : ∀ p ∈ ls, ∀ x ∈ p.cps.toList, x < 1114112 := fun p hp => splitS_cs ht (by rw [← hls]; exact hp)
    have hne : ls ≠ [] := by rw [hls]; exact splitS_ne 32 t
    have hpos : 0 < ls.length := List.length_pos_iff.mpr hne
    have hll : ls.length ≤ 16777216 := by omega
    have hsp : splitD false (.str t) (.str (Str.ofString " ")) S3 = .ok (.lst (ls.map D.str)) S3 := by
      rw [split_at lit1c.2.2.2.1 (by omega), ← hls]
      exact newL_f (by rw [List.length_map]; omega)
    simp [hsp, -sli_lst, -add_lst]
    refine R.Wp.mono (draw_wp hns hS3 (m := ((ls.length : Nat) : Int)) (by omega) (by omega)) ?_
    rintro _ S4 ⟨hD4, r3, hr3, rfl⟩
    obtain ⟨zs, hzs⟩ : ∃ zs, zs = ls.take r3 ++ (ls.drop r3).reverse := ⟨_, rfl⟩
    have hc1 : cut (ls.map D.str) none (some (r3 : Int)) = (ls.take r3).map D.str := by rw [cut_upto _ _ (by simp; omega), List.map_take]
    have hc2 : cut (ls.map D.str) (some (r3 : Int)) none = (ls.drop r3).map D.str := by rw [cut_from _ _ (by simp; omega), List.map_drop]
    have hs1 : sliD false (.lst (ls.map D.str)) .none (.int (r3 : Int)) S4 = .ok (.lst ((ls.take r3).map D.str)) S4 := by
      rw [sli_lst]
      show newL false (cut (ls.map D.str) none (some (r3 : Int))) S4 = _
      rw [hc1]
      exact newL_f (by simp; omega)
    have hs2 : sliD false (.lst (ls.map D.str)) (.int (r3 : Int)) .none S4 = .ok (.lst ((ls.drop r3).map D.str)) S4 := by
      rw [sli_lst]
      show newL false (cut (ls.map D.str) (some (r3 : Int)) none) S4 = _
      rw [hc2]
      exact newL_f (by simp; omega)
    have hrv : revD false (.lst ((ls.drop r3).map D.str)) S4 = .ok (.lst ((ls.drop r3).reverse.map D.str)) S4 := by
      show newL false ((ls.drop r3).map D.str).reverse S4 = _
      rw [newL_f (by simp; omega), List.map_reverse]
    have had : binD false .add (.lst ((ls.take r3).map D.str)) (.lst ((ls.drop r3).reverse.map D.str)) S4 = .ok (.lst (zs.map D.str)) S4 := by
      rw [add_lst, newL_f (by simp; omega), hzs, List.map_append]
    have hz1 : sumL zs ≤ 600 := by
      have q1 := sumL_cut ls r3
      rw [hzs, sumL_app, sumL_rev]
      omega
    have hz2 : zs.length ≤ 170 := by
      rw [hzs, List.length_append, List.length_reverse, List.length_take, List.length_drop]
      omega
    have hz3 : ∀ p ∈ zs, ∀ x ∈ p.cps.toList, x < 1114112 := fun p hp => by
      rw [hzs] at hp
      rcases List.mem_append.mp hp with hp | hp
      · exact hcs p (List.mem_of_mem_take hp)
      · exact hcs p (List.mem_of_mem_drop (List.mem_reverse.mp hp))
    have hnl := tx_lit (s := " ") (k := 1)
    have hjl := join_sum (Str.ofString " ") zs
    have hml : zs.length * (Str.ofString " ").length ≤ 170 * 1 := Nat.mul_le_mul hz2 hnl.len
    have hjn := joinD_of (a := Str.ofString " ") (d := .lst (zs.map D.str)) (ys := zs) (S := S4) rfl (by omega)
    clear hzs
    simp only [optD_int, wp_ok, hs1, hs2, hrv, had, hjn]
    have := fin (Str.join (Str.ofString " ") zs) S4 [] (tx_mk (by omega) (join_cs _ hnl.cs zs hz3)) ((hDD.trans hD4).mono (by omega))
    simpa using this
  have t3' : ¬ (r2 : Int) = 3 := by omega
  simp [t3', t3]
  refine kn_seq ?_
  simp [hp1, hp2, ad2, ad4]
  have := fin _ S3 [] ((tps.app tp2).mono (by decide)) (hDD.mono (by omega))
  simpa using this
end
end PV
end
section
set_option linter.all false
set_option maxRecDepth 100000
namespace PV
open PySem (Str)
theorem Md.pm6 {n w : Nat} {P : Nat → Nat → Rat} (h : Md 5 n w P) : Pm6 n w P := by
  have e := cast10 50
  have p : (2 : Nat) ^ 5 < 10 ^ 50 := by decide +kernel
  refine ⟨h.n2, h.n3, h.w1, h.w6, fun s hs o ho => Rat.num_nonneg.mpr (h.nn s o hs ho), fun s hs o ho => ?_, fun s hs o ho => ?_⟩
  · have := (h.bd s o hs ho).1
    omega
  · have := (h.bd s o hs ho).2
    omega
theorem Md.pmOk {n w : Nat} {P : Nat → Nat → Rat} (h : Md 5 n w P) : PmOk (mdT n w P) n w P := ⟨mdO_mdT h.pm6, h.mod, rfl⟩
theorem Md.tx {n w : Nat} {P : Nat → Nat → Rat} (h : Md 5 n w P) (hw : w ≤ 5) : Tx 160 (mdT n w P) := by
  refine (mdT_tx (N := 4) fun s hs o ho => Wd.small (h.bd s o hs ho)).mono ?_
  have h1 : w * (4 + 1 + 4 + 1) ≤ 5 * 10 := Nat.mul_le_mul hw (by decide)
  have h2 := Nat.mul_le_mul h.n3 (show w * (4 + 1 + 4 + 1) + 1 ≤ 51 by omega)
  omega
theorem Ls.tx160 {a n : Nat} {L : Nat → Nat → Int} (h : Ls a n L) (hn : n ≤ 3) : Tx 160 (loT a n L) := by
  refine (loT_tx h).mono ?_
  have h1 : n * (4 + 1) ≤ 3 * 5 := Nat.mul_le_mul hn (by decide)
  have h2 := Nat.mul_le_mul h.a3 (show n * (4 + 1) + 1 ≤ 16 by omega)
  omega
def PE' : D := .str (Str.ofString "ParseError")
theorem mo_str {t : Str} (ht : Tx 900 t) (h : ∀ n w P, ¬ PmOk t n w P) (S : Store) : G_law_parse_model_or [.str t] S = .ok PE' S := parse_or_exc (parse_no ht S h)
theorem mo_non {d : D} (h : ∀ S, isi S d .str = some false) (S : Store) : G_law_parse_model_or [d] S = .ok PE' S := parse_or_exc (parse_model_non (h S))
theorem tx_cut {N : Nat} {t : Str} (h : Tx N t) : Tx N ⟨t.cps.toList.dropLast.toArray⟩ := tx_mk (by
    have := h.len
    rw [str_len] at this ⊢
    show t.cps.toList.dropLast.length ≤ N
    rw [List.length_dropLast]
    omega) fun x hx => h.cs x (List.dropLast_subset _ (by simpa using hx))
theorem sli_m1 {m : Bool} {N : Nat} {t : Str} (h : Tx N t) (hN : N ≤ 1000000) (h0 : t.cps.toList ≠ []) (S : Store) : sliD m (.str t) .none (.int (-1)) S = .ok (.str ⟨t.cps.toList.dropLast.toArray⟩) S := by
  show (if t.length ≤ line then R.ok (D.str ⟨(cut t.cps.toList none (some (-1))).toArray⟩) S else .err) = _
  rw [if_pos (by show t.length ≤ 16777216; have := h.len; omega), cut_m1 _ h0]
theorem spl1_free2 (c : Nat) : ∀ (l p : List Nat), p ∈ spl1 c l → c ∉ p
  | [], p, h => by simp [spl1] at h; subst h; simp
  | y :: l, p, h => by
    unfold spl1 at h
    split at h
    · rcases List.mem_cons.mp h with h | h
      · subst h; simp
      · exact spl1_free2 c l p h
    · rename_i hy
      split at h
      · rename_i h0; exact absurd h0 (spl1_ne c l)
      · rename_i q qs hq
        rcases List.mem_cons.mp h with h | h
        · subst h
          intro hc
          rcases List.mem_cons.mp hc with rfl | hc
          · exact hy rfl
          · exact spl1_free2 c l q (by rw [hq]; simp) hc
        · exact spl1_free2 c l p (by rw [hq]; simp [h])
theorem join_no {c : Nat} {a : Str} (ha : c ∉ a.cps.toList) : ∀ xs : List Str, (∀ p ∈ xs, c ∉ p.cps.toList) → c ∉ (Str.join a xs).cps.toList
  | [], _ => by intro h; cases h
  | [y], h => h y (by simp)
  | y :: z :: r, h => by
    have ih := join_no ha (z :: r) fun p hp => h p (by simp at hp ⊢; exact .inr hp)
    show c ∉ (y ++ a ++ Str.join a (z :: r)).cps.toList
    rw [tl_app, tl_app]
    simp only [List.mem_append, not_or]
    exact ⟨⟨h y (by simp), ha⟩, ih⟩
theorem repl_ok {t : Str} (h : Tx 160 t) (S : Store) : ∃ t', replD (.str t) (Str.ofString "/") (Str.ofString ":") S = .ok (.str t') S ∧ Tx 900 t' ∧ 47 ∉ t'.cps.toList := by
  have hs := splitS_sum 47 t
  have hl := h.len
  have h58 := lit1c.2.2.2.2.2.2.1
  have l58 : (Str.ofString ":").length = 1 := by rw [str_len, h58]; rfl
  have hj := join_sum (Str.ofString ":") (splitS 47 t)
  rw [l58] at hj
  refine ⟨Str.join (Str.ofString ":") (splitS 47 t), ?_, tx_mk (by omega) (join_cs _ (tx_lit (s := ":") (k := 1)).cs _ fun p hp => splitS_cs h hp), join_no (by rw [h58]; simp) _ fun p hp => ?_⟩
  · show (match (Str.ofString "/").cps.toList with | [c] => if t.length + (t.length + 1) * (Str.ofString ":").length ≤ 16777216 && !(Str.ofString "/" == Str.ofString ":") then R.ok (D.str (Str.join (Str.ofString ":") (splitS c t))) S else .err | _ => .err) = _
    rw [lit1c.2.2.1]
    dsimp only
    rw [l58]
    have e : (Str.ofString "/" == Str.ofString ":") = false := by decide +kernel
    rw [e]
    have e2 : (decide (t.length + (t.length + 1) * 1 ≤ 16777216) && !false) = true := by simp; omega
    rw [if_pos e2]
  · unfold splitS at hp
    obtain ⟨l, hl, rfl⟩ := List.mem_map.mp hp
    simpa using spl1_free2 47 _ l hl
section
variable {n w a : Nat} {P : Nat → Nat → Rat} {L : Nat → Nat → Int}
/-- the texts that are refused as models -/
theorem mo_list (hP : Md 5 n w P) (hw : w ≤ 5) (S : Store) : ∃ x2 x3 x4 x5 x6 x10 : Str, sliD false (.str (mdT n w P)) .none (.int (-1)) S = .ok (.str x2) S ∧ binD false .add (.str (mdT n w P)) (.str (Str.ofString "\n")) S = .ok (.str x3) S ∧ binD false .add (.str (Str.ofString "\n")) (.str (mdT n w P)) S = .ok (.str x4) S ∧ binD false .add (.str (Str.ofString " ")) (.str (mdT n w P)) S = .ok (.str x5) S ∧ binD false .add (.str (mdT n w P)) (.str (mdT n w P)) S = .ok (.str x6) S ∧ replD (.str (mdT n w P)) (Str.ofString "/") (Str.ofString ":") S = .ok (.str x10) S ∧
    ∀ y ∈ [D.str (Str.ofString ""), .str x2, .str x3, .str x4, .str x5, .str x6, .none, .tup [], .int 5, .str x10], ∀ S, G_law_parse_model_or [y] S = .ok PE' S := by
  have ht := hP.tx hw
  have hl := hP.pm6.lns
  have hn := hP.n2
  obtain ⟨x10, r1, r2, r3⟩ := repl_ok ht S
  have t0 : (mdT n w P).cps.toList ≠ [] := fun e => no_emp hl hn e
  have nl := tx_lit (s := "\n") (k := 1)
  have sp := tx_lit (s := " ") (k := 1)
  refine ⟨_, _, _, _, _, x10, sli_m1 ht (by decide) t0 S, add_str (by have := ht.len; have := nl.len; omega), add_str (by have := ht.len; have := nl.len; omega), add_str (by have := ht.len; have := sp.len; omega), add_str (by have := ht.len; omega), r1, fun y hy => ?_⟩
  simp only [List.mem_cons, List.mem_nil_iff, or_false] at hy
  rcases hy with rfl | rfl | rfl | rfl | rfl | rfl | rfl | rfl | rfl | rfl
  · exact mo_str (by rw [emp_lit]; exact Tx.emp) (no_pm (by rw [emp_lit]; exact Nat.zero_le _) fun n' ls' h' h2 _ => no_emp h' h2 (by rw [emp_lit]; rfl))
  · exact mo_str ((tx_cut ht).mono (by decide)) (no_pm (by have := (tx_cut ht).len; omega) fun n' ls' h' h2 _ => no_cut hl hn rfl h')
  · have hx := (ht.app nl).mono (show 160 + 1 ≤ 900 by decide)
    exact mo_str hx (no_pm hx.len fun n' ls' h' h2 _ => no_nl hl (by rw [tl_app, lit1c.2.2.2.2.1]) h')
  · have hx := (nl.app ht).mono (show 1 + 160 ≤ 900 by decide)
    exact mo_str hx (no_pm hx.len fun n' ls' h' h2 _ => no_pre hl (by rw [tl_app, lit1c.2.2.2.2.1]; rfl) h')
  · have hx := (sp.app ht).mono (show 1 + 160 ≤ 900 by decide)
    exact mo_str hx (no_pm hx.len fun n' ls' h' h2 _ => no_sp (t := mdT n w P) (by rw [tl_app, lit1c.2.2.2.1]; rfl) h' h2)
  · have hx := (ht.app ht).mono (show 160 + 160 ≤ 900 by decide)
    exact mo_str hx (no_pm hx.len fun n' ls' h' h2 h3 => no_dbl hl hn (by rw [tl_app]) h' h3)
  · exact mo_non fun _ => rfl
  · exact mo_non fun _ => rfl
  · exact mo_non fun _ => rfl
  · exact mo_str r2 (no_pm r2.len fun n' ls' h' h2 _ => no_rep r3 h' h2)
theorem mo_fixed : ∀ y ∈ [D.str t1, .str t2, .str t3, .str t4, .str t5, .str t6, .str t7], ∀ S, G_law_parse_model_or [y] S = .ok PE' S := by
  intro y hy
  have : ∃ t, t ∈ [t1, t2, t3, t4, t5, t6, t7] ∧ y = .str t := by
    simp only [List.mem_cons, List.mem_nil_iff, or_false] at hy
    rcases hy with rfl | rfl | rfl | rfl | rfl | rfl | rfl
    · exact ⟨t1, by simp, rfl⟩
    · exact ⟨t2, by simp, rfl⟩
    · exact ⟨t3, by simp, rfl⟩
    · exact ⟨t4, by simp, rfl⟩
    · exact ⟨t5, by simp, rfl⟩
    · exact ⟨t6, by simp, rfl⟩
    · exact ⟨t7, by simp, rfl⟩
  obtain ⟨t, ht, rfl⟩ := this
  obtain ⟨h1, h2⟩ := fixed_no t ht
  exact mo_str h1 h2
/-! ### losses -/
theorem Md.req (hP : Md 5 n w P) (S : Store) : G_require_model [eM n w P] S = .ok .none S := by
  have := require_model_bd (hP.bdD (by decide)) S
  rwa [rqM_ok hP] at this
theorem lo_str (hP : Md 5 n w P) {t : Str} (ht : Tx 900 t) (h : ∀ a L, ¬ LoOk t n a L) (S : Store) : G_law_parse_losses_or [eM n w P, .str t] S = .ok PE' S :=
  parseL_or_exc (c := 17) (c' := 17) (parseL_no ht (show n ≤ 8 by have := hP.n3; omega) (ms := mp n fun s => .tup (fl w (P s))) (by simp) (fun e => by have q := congrArg List.length e; have := hP.n2; simp at q; omega) hP.req S h) rfl
theorem lo_ok (hP : Md 5 n w P) {t : Str} (ht : Tx 900 t) {a : Nat} {L : Nat → Nat → Int} (h : LoOk t n a L) (S : Store) : G_parse_losses [eM n w P, .str t] S = .ok (eL a n L) S :=
  parseL_ok ht (show n ≤ 8 by have := hP.n3; omega) (ms := mp n fun s => .tup (fl w (P s))) (by simp) (fun e => by have q := congrArg List.length e; have := hP.n2; simp at q; omega) hP.req S h
theorem lo_non (hP : Md 5 n w P) {d : D} (h : ∀ S, isi S d .str = some false) (S : Store) : G_law_parse_losses_or [eM n w P, d] S = .ok PE' S := parseL_or_exc (c := 17) (c' := 17) (parseL_non (hP.req S) (h S)) rfl
theorem lo_list (hP : Md 5 n w P) (hL : Ls a n L) (S : Store) : ∃ x2 x3 x4 x5 : Str, sliD false (.str (loT a n L)) .none (.int (-1)) S = .ok (.str x2) S ∧ binD false .add (.str (loT a n L)) (.str (Str.ofString "\n")) S = .ok (.str x3) S ∧ binD false .add (.str (Str.ofString " ")) (.str (loT a n L)) S = .ok (.str x4) S ∧ binD false .mul (.str (loT a n L)) (.int 4) S = .ok (.str x5) S ∧
    ∀ y ∈ [D.str (Str.ofString ""), .str x2, .str x3, .str x4, .str x5, .none, .int 5, .str u1, .str u2, .str u3, .str u4, .str u5, .str u6], ∀ S, G_law_parse_losses_or [eM n w P, y] S = .ok PE' S := by
  have ht := hL.tx160 hP.n3
  have hn := hP.n2
  have hn0 : 0 < n := by omega
  have hl := hL.lns hn0
  have ha := hL.a1
  have t0 : (loT a n L).cps.toList ≠ [] := fun e => ll_emp hl ha e
  have nl := tx_lit (s := "\n") (k := 1)
  have sp := tx_lit (s := " ") (k := 1)
  have hr4 : (repS (loT a n L) 4).cps.toList = (loT a n L).cps.toList ++ ((loT a n L).cps.toList ++ ((loT a n L).cps.toList ++ (loT a n L).cps.toList)) := by
    unfold repS rep
    simp [List.replicate]
  have hx4 : Tx 900 (repS (loT a n L) 4) := tx_mk (by
    have := ht.len
    rw [str_len] at this ⊢
    rw [hr4]
    simp only [List.length_append]
    omega) (fun x hx => by
    rw [hr4] at hx
    simp only [List.mem_append, or_self] at hx
    exact ht.cs x hx)
  have ux : ∀ t, t ∈ [u1, u2, u3, u4, u5, u6] → ∀ S, G_law_parse_losses_or [eM n w P, .str t] S = .ok PE' S := fun t h => by
    obtain ⟨h1, h2⟩ := ufix_no hn hP.n3 t h
    exact lo_str hP h1 h2
  refine ⟨_, _, _, _, sli_m1 ht (by decide) t0 S, add_str (by have := ht.len; have := nl.len; omega), add_str (by have := ht.len; have := sp.len; omega), mul_str (by have := ht.len; exact ⟨by decide, by decide, by omega⟩), fun y hy => ?_⟩
  simp only [List.mem_cons, List.mem_nil_iff, or_false] at hy
  rcases hy with rfl | rfl | rfl | rfl | rfl | rfl | rfl | rfl | rfl | rfl | rfl | rfl | rfl
  · exact lo_str hP (by rw [emp_lit]; exact Tx.emp) (no_lo hn0 fun n' ls' h' h2 _ => ll_emp h' h2 (by rw [emp_lit]; rfl))
  · exact lo_str hP ((tx_cut ht).mono (by decide)) (no_lo hn0 fun n' ls' h' h2 _ => ll_cut hl ha rfl h')
  · have hx := (ht.app nl).mono (show 160 + 1 ≤ 900 by decide)
    exact lo_str hP hx (no_lo hn0 fun n' ls' h' h2 _ => ll_nl hl (by rw [tl_app, lit1c.2.2.2.2.1]) h')
  · have hx := (sp.app ht).mono (show 1 + 160 ≤ 900 by decide)
    exact lo_str hP hx (no_lo hn0 fun n' ls' h' h2 _ => ll_sp (t := loT a n L) (by rw [tl_app, lit1c.2.2.2.1]; rfl) h' h2)
  · exact lo_str hP hx4 (no_lo hn0 fun n' ls' h' h2 h3 => ll_four hl ha hr4 h' h3)
  · exact lo_non hP fun _ => rfl
  · exact lo_non hP fun _ => rfl
  · exact ux _ (by simp)
  · exact ux _ (by simp)
  · exact ux _ (by simp)
  · exact ux _ (by simp)
  · exact ux _ (by simp)
  · exact ux _ (by simp)
end
end PV
end
section
set_option linter.all false
set_option maxRecDepth 100000
namespace PV
open PySem (Str)
section
variable {n w a : Nat} {P : Nat → Nat → Rat} {L : Nat → Nat → Int}
theorem refused_k26_ok (hP : Md 5 n w P) (hw : w ≤ 5) (hL : Ls a n L) (S : Store) : G_law_refused_k26 [eM n w P, .str (mdT n w P), .str (loT a n L)] S = .ok (.bool true) S := by
  obtain ⟨x2, x3, x4, x5, x6, x10, a2, a3, a4, a5, a6, a10, hmo⟩ := mo_list hP hw S
  obtain ⟨y2, y3, y4, y5, b2, b3, b4, b5, hlo⟩ := lo_list hP hL S
  have hfx := mo_fixed
  have hnl := fun S => ne_same (bd_lit "ParseError") S
  obtain ⟨t, ht⟩ : ∃ t, t = mdT n w P := ⟨_, rfl⟩
  obtain ⟨l, hl⟩ : ∃ l, l = loT a n L := ⟨_, rfl⟩
  have b0 : Bd (.tup []) := rfl
  have rm0 : ∀ S, G_require_model [.tup []] S = .exc 0 S := fun S => by
    have := require_model_bd b0 S
    rwa [show rqM (.tup []) = some 0 by simp [rqM, modM]] at this
  have rm1 : ∀ S, G_require_model [.int 1] S = .exc 0 S := fun S => by
    have := require_model_bd (bd_small (i := 1) (by decide)) S
    rwa [show rqM (.int 1) = some 0 by simp [rqM, modM]] at this
  have q1 : ∀ d S, G_law_parse_losses_or [.tup [], d] S = .ok (.str (Str.ofString "InvalidModel")) S := fun d S => parseL_or_exc (c := 0) (c' := 0) (parseL_mod (rm0 S)) rfl
  have q2 : ∀ d S, G_law_parse_losses_or [.int 1, d] S = .ok (.str (Str.ofString "InvalidModel")) S := fun d S => parseL_or_exc (c := 0) (c' := 0) (parseL_mod (rm1 S)) rfl
  have hqe : ∀ S, cmpD .eq (.str (Str.ofString "InvalidModel")) (.str (Str.ofString "InvalidModel")) S = some true := fun S => by
    have := eqv_strs (bd_lit "InvalidModel") (bd_lit "InvalidModel") S
    simpa using this
  rw [← ht] at a2 a3 a4 a5 a6 a10 ⊢
  rw [← hl] at b2 b3 b4 b5 ⊢
  clear ht hl
  refine run_pure rfl rfl fun T hT => ?_
  refine st_seq ?_
  simp [startE, f_law_refused_k26, a2, a3, a4, a5, a6, negD]
  refine kn_seq ?_
  simp [a10]
  obtain ⟨J, hJ⟩ : ∃ J : Env → Store → Prop, ∀ ρ S', J ρ S' ↔ S' = S ∧ ∃ z3 z4, ρ = [some (eM n w P), some (.str t), some (.str l), z3, z4] := ⟨_, fun _ _ => Iff.rfl⟩
  refine forR_each J ((hJ _ _).mpr ⟨rfl, _, _, rfl⟩) (fun y hy ρ S' h => ?_) (fun ρ S' h => ?_)
  · obtain ⟨rfl, z3, z4, rfl⟩ := (hJ _ _).mp h
    refine ⟨_, rfl, ?_⟩
    have q := hmo y hy S'
    unfold PE' at q
    refine st_seq ?_
    simp [L_law_refused_k26, q, hnl]
    exact kn_skip ((hJ _ _).mpr ⟨rfl, _, _, rfl⟩)
  obtain ⟨rfl, z3, z4, rfl⟩ := (hJ _ _).mp h
  clear h hmo
  refine kn_seq ?_
  simp
  refine kn_seq ?_
  simp
  refine forR_each J ((hJ _ _).mpr ⟨rfl, _, _, rfl⟩) (fun y hy ρ S2 h => ?_) (fun ρ S2 h => ?_)
  · obtain ⟨rfl, z3, z4, rfl⟩ := (hJ _ _).mp h
    refine ⟨_, rfl, ?_⟩
    have q := hfx y hy S2
    unfold PE' at q
    refine st_seq ?_
    simp [L_law_refused_k26, q, hnl]
    exact kn_skip ((hJ _ _).mpr ⟨rfl, _, _, rfl⟩)
  obtain ⟨rfl, z3, z4, rfl⟩ := (hJ _ _).mp h
  clear h
  refine kn_seq ?_
  simp [b2, b3, b4, b5, negD]
  refine kn_seq ?_
  simp
  refine forR_each J ((hJ _ _).mpr ⟨rfl, _, _, rfl⟩) (fun y hy ρ S3 h => ?_) (fun ρ S3 h => ?_)
  · obtain ⟨rfl, z3, z4, rfl⟩ := (hJ _ _).mp h
    refine ⟨_, rfl, ?_⟩
    have q := hlo y hy S3
    unfold PE' at q
    refine st_seq ?_
    simp [L_law_refused_k26, q, hnl]
    exact kn_skip ((hJ _ _).mpr ⟨rfl, _, _, rfl⟩)
  obtain ⟨rfl, z3, z4, rfl⟩ := (hJ _ _).mp h
  refine kn_seq ?_
  simp [L_law_refused_k26, q1, q2, hqe, iteO]
  simpa using hT []
end
end PV
end
section
set_option linter.all false
set_option maxRecDepth 100000
namespace PV
open PySem (Str)
def sg26 : List Str :=
  "0" :: "1" :: "2" :: "4" :: " " :: "\n" :: "/" :: "-" ::
  "1/2" :: "0/1" :: "01" :: "a" :: "9" :: "  " :: "/1" :: " 0" :: []
theorem sg26_ok : sg26 ≠ [] ∧ ∀ x ∈ sg26, Tx 3 x := by
  refine ⟨by simp [sg26], fun x hx => ?_⟩
  have h : sg26.all (fun t => decide (t.length ≤ 3) && t.cps.all fun c => decide (c < 1114112)) = true := by decide +kernel
  have := List.all_eq_true.mp h x hx
  simp only [Bool.and_eq_true, decide_eq_true_eq] at this
  exact ⟨this.1, this.2⟩
theorem turn_mo {wr : Str} (h : Tx 900 wr) : (∃ d, (∀ S, G_law_parse_model_or [.str wr] S = .ok d S) ∧ (∀ S, isi S d .tuple = some true) ∧ ∀ S, G_format_model [d] S = .ok (.str wr) S) ∨ ((∀ S, G_law_parse_model_or [.str wr] S = .ok PE' S) ∧ ∀ n w P, ¬ PmOk wr n w P) := by
  by_cases hp : ∃ n w P, PmOk wr n w P
  · obtain ⟨n, w, P, hp⟩ := hp
    have h6 := hp.pm h.len
    have hb := (mdO_bd h.len hp.1).1
    have hrq : ∀ S, G_require_model [eM n w P] S = .ok .none S := fun S => by
      have := require_model_bd hb S
      rwa [show rqM (eM n w P) = none by simp [rqM, hp.2.1]] at this
    have hf := format_model_ok hrq h6.lg h6.wd (by have := h6.n3; omega) (by have := h6.w6; omega) (by decide)
    rw [hp.2.2] at hf
    exact .inl ⟨eM n w P, fun S => parse_or_ok (parse_ok h S hp), fun _ => rfl, hf⟩
  · have hp : ∀ n w P, ¬ PmOk wr n w P := fun n w P z => hp ⟨n, w, P, z⟩
    exact .inr ⟨mo_str h hp, hp⟩
theorem turn_lo {n w : Nat} {P : Nat → Nat → Rat} (hP : Md 5 n w P) {wr : Str} (h : Tx 900 wr) : (∃ d, (∀ S, G_law_parse_losses_or [eM n w P, .str wr] S = .ok d S) ∧ (∀ S, isi S d .tuple = some true) ∧ ∀ S, G_format_losses [eM n w P, d] S = .ok (.str wr) S) ∨ ((∀ S, G_law_parse_losses_or [eM n w P, .str wr] S = .ok PE' S) ∧ ∀ a L, ¬ LoOk wr n a L) := by
  by_cases hp : ∃ a L, LoOk wr n a L
  · obtain ⟨a, L, hp⟩ := hp
    have hL := hp.ls
    have hn3 := hP.n3
    have hb := hL.bdD (show n ≤ 1000 by omega)
    have hrL : ∀ S, G_require_losses [eM n w P, eL a n L] S = .ok .none S := fun S => by
      have := require_losses_bd (hP.bdD (by decide)) S hb
      rwa [rqL_ok hP hL] at this
    have hf := format_losses_ok hL (show n ≤ 8 by omega) hrL
    rw [hp.2.2] at hf
    exact .inl ⟨eL a n L, fun S => parseL_or_ok (pure_of_bd hb) (lo_ok hP h hp S), fun _ => rfl, hf⟩
  · have hp : ∀ a L, ¬ LoOk wr n a L := fun a L z => hp ⟨a, L, z⟩
    exact .inr ⟨lo_str hP h hp, hp⟩
theorem eq_no {N M : Nat} {x y : Str} (hx : Tx N x) (hy : Tx M y) (h : x ≠ y) (S : Store) : cmpD .eq (.str x) (.str y) S = some false := by
  rw [hx.pl.eq hy.pl S]
  congr 1
  exact decide_eq_false fun e => h (by injection e)
theorem dep_eL (a n : Nat) (L : Nat → Nat → Int) : (eL a n L).dep ≤ 2 := by
  have h : ∀ (k : Nat) (f : Nat → D) (m : Nat), (∀ i, i < k → (f i).dep ≤ m) → D.depL (mp k f) ≤ m := fun k f m => by
    have key : ∀ l : List D, (∀ x ∈ l, x.dep ≤ m) → D.depL l ≤ m := fun l => by
      induction l with
      | nil => intro _; exact Nat.zero_le _
      | cons x l ih =>
        intro hx
        show max x.dep (D.depL l) ≤ m
        exact Nat.max_le.mpr ⟨hx x (by simp), ih fun y hy => hx y (by simp [hy])⟩
    intro hf
    refine key _ fun x hx => ?_
    obtain ⟨i, hi, rfl⟩ := mp_mem.mp hx
    exact hf i hi
  show D.depL _ + 1 ≤ 2
  have := h a (fun x => .tup (mp n fun s => .int (L x s))) 1 (fun x _ => by
    show D.depL _ + 1 ≤ 1
    have := h n (fun s => .int (L x s)) 0 (fun s _ => Nat.le_refl _)
    omega)
  omega
theorem tp_eL (a n : Nat) (L : Nat → Nat → Int) : (eL a n L).tp = true := tp_mp fun i _ => tp_mp fun _ _ => rfl
theorem law_true_k26 (ns : List Int) (h : ns.length ≤ 63) : G_law_k26 [.scr ns] [] = .ok (.bool true) [] := by
  have hns : ns.length ≤ 1000000 := by omega
  have hnl := fun S => ne_same (bd_lit "ParseError") S
  refine run_pure rfl rfl fun T hT => ?_
  refine st_seq ?_
  simp [startE, f_law_k26]
  refine kn_seq ?_
  simp
  refine kn_seq ?_
  simp
  have hsg : [D.str (Str.ofString "0"), .str (Str.ofString "1"), .str (Str.ofString "2"), .str (Str.ofString "4"), .str (Str.ofString " "), .str (Str.ofString "\n"), .str (Str.ofString "/"), .str (Str.ofString "-"), .str (Str.ofString "1/2"), .str (Str.ofString "0/1"), .str (Str.ofString "01"), .str (Str.ofString "a"), .str (Str.ofString "9"), .str (Str.ofString "  "), .str (Str.ofString "/1"), .str (Str.ofString " 0")] = sg26.map D.str := rfl
  rw [hsg]
  obtain ⟨sg, hsgd⟩ : ∃ sg, sg = sg26 := ⟨_, rfl⟩
  obtain ⟨sg0, sg3⟩ := sg26_ok
  rw [← hsgd] at sg0 sg3 ⊢
  clear hsgd hsg
  obtain ⟨I, hI⟩ : ∃ I : Nat → Env → Store → Prop, ∀ i ρ S', I i ρ S' ↔ Stt 0 (1000 * i) S' ∧ ∃ z3 z4 z5 z6 z7 z8 z9 z10 z11, ρ = [some (.scr ns), some (.loc 0), some (.lst (sg.map D.str)), z3, z4, z5, z6, z7, z8, z9, z10, z11] := ⟨_, fun _ _ _ => Iff.rfl⟩
  refine for_wp0 (walk_rng (by decide) (by decide)) I ((hI _ _ _).mpr ⟨⟨[], rfl, by simp⟩, _, _, _, _, _, _, _, _, _, rfl⟩) (fun i ρ S' hi h => ?_) (fun ρ S' h => ?_)
  · simp at hi
    obtain ⟨hS, z3, z4, z5, z6, z7, z8, z9, z10, z11, rfl⟩ := (hI _ _ _).mp h
    clear h
    refine ⟨_, rfl, ?_⟩
    refine st_seq ?_
    simp [L_law_k26]
    refine R.Wp.mono (model_wp2 hns (most := 5) rfl hS (by decide) (by decide) (by omega)) ?_
    rintro _ S1 ⟨hD1, n, w, P, rfl, hP, hw, hW⟩
    have hS1 := hD1.stt hS
    have hn2 := hP.n2
    have hn3 := hP.n3
    refine kn_seq ?_
    simp
    refine R.Wp.mono (losses_wp hns hn3 hS1 (by omega)) ?_
    rintro _ S3 ⟨hD3, a, L, rfl, ha1, ha3, hLb⟩
    have hS3 := hD3.stt hS1
    have hL : Ls a n L := ⟨ha1, ha3, fun x s hx hs => by have := hLb x s hx hs; omega⟩
    have hMb := hP.bdD (by decide)
    have hLD := hL.bdD (show n ≤ 1000 by omega)
    have hrM := hP.req
    have hrL : ∀ S, G_require_losses [eM n w P, eL a n L] S = .ok .none S := fun S => by
      have := require_losses_bd hMb S (hL.bdD (by omega))
      rwa [rqL_ok hP hL] at this
    have hfm := format_model_ok hrM hP.pm6.lg hP.pm6.wd (by omega) (by omega) (by decide)
    have hfl := format_losses_ok hL (show n ≤ 8 by omega) hrL
    have htm := hP.tx hw
    have htl := hL.tx160 hn3
    have hpm := fun S => parse_ok (htm.mono (show 160 ≤ 900 by decide)) S hP.pmOk
    have hpl := fun S => lo_ok hP (htl.mono (show 160 ≤ 900 by decide)) (hL.parse (by omega)) S
    have sm1 := fun S => same_true (n := 6) (d := eM n w P) (by have := dep_eM n w P; omega) hMb (tp_eM _ _ _) S
    have sm2 := fun S => same_true (n := 6) (d := eL a n L) (by have := dep_eL a n L; omega) hLD (tp_eL _ _ _) S
    have href := refused_k26_ok hP hw hL
    obtain ⟨t, ht⟩ : ∃ t, t = mdT n w P := ⟨_, rfl⟩
    obtain ⟨l, hl⟩ : ∃ l, l = loT a n L := ⟨_, rfl⟩
    refine kn_seq ?_
    simp [hfm, hfl]
    refine kn_seq ?_
    simp [hpm, hpl, sm1, sm2]
    refine kn_seq ?_
    simp
    obtain ⟨J, hJ⟩ : ∃ J : Nat → Env → Store → Prop, ∀ j ρ S', J j ρ S' ↔ Stt 0 (1000 * i + 200 + 100 * j) S' ∧ ∃ z8 z9 z10 z11, ρ = [some (.scr ns), some (.loc 0), some (.lst (sg.map D.str)), some (.int i), some (eM n w P), some (eL a n L), some (.str (mdT n w P)), some (.str (loT a n L)), z8, z9, z10, z11] := ⟨_, fun _ _ _ => Iff.rfl⟩
    refine for_wp0 (walk_rng (by decide) (by decide)) J ((hJ _ _ _).mpr ⟨hS3.mono (by omega), _, _, _, _, rfl⟩) (fun j ρ S4 hj h => ?_) (fun ρ S4 h => ?_)
    · simp at hj
      obtain ⟨hS4, z8, z9, z10, z11, rfl⟩ := (hJ _ _ _).mp h
      refine ⟨_, rfl, ?_⟩
      refine st_seq ?_
      simp [L_law_k26]
      refine R.Wp.mono (spoiled_wp hns htm sg0 sg3 hS4 (by omega)) ?_
      rintro _ S5 ⟨hD5, wr, rfl, hwr⟩
      have hS5 := hD5.stt hS4
      refine R.Wp.mono (spoiled_wp hns htl sg0 sg3 hS5 (by omega)) ?_
      rintro _ S6 ⟨hD6, ot, rfl, hot⟩
      have hS6 := hD6.stt hS5
      have hend : Stt 0 (1000 * i + 200 + 100 * (j + 1)) S6 := hS6.mono (by omega)
      have hS6' := hend
      have ne1 := hwr.ne_self S6
      have ne2 := hot.ne_self S6
      refine kn_seq ?_
      rcases turn_mo hwr with ⟨d, m1, m2, m3⟩ | ⟨m1, m2⟩
      · simp [m1]
        refine kn_seq ?_
        simp [m2, m3, ne1]
        refine kn_seq ?_
        rcases turn_lo hP hot with ⟨d', l1, l2, l3⟩ | ⟨l1, l2⟩
        · simp [l1]
          refine kn_seq ?_
          simp [l2, l3, ne2]
          exact kn_skip ((hJ _ _ _).mpr ⟨hend, _, _, _, _, rfl⟩)
        · have hne : ot ≠ loT a n L := fun e => l2 a L (by rw [e]; exact hL.parse (by omega))
          have ne3 := eq_no hot htl hne S6
          unfold PE' at l1
          simp [l1]
          refine kn_seq ?_
          simp [hnl, ne3, iteO]
          exact kn_skip ((hJ _ _ _).mpr ⟨hend, _, _, _, _, rfl⟩)
      · have hne : wr ≠ mdT n w P := fun e => m2 n w P (by rw [e]; exact hP.pmOk)
        have ne4 := eq_no hwr htm hne S6
        unfold PE' at m1
        simp [m1]
        refine kn_seq ?_
        simp [hnl, ne4, iteO]
        refine kn_seq ?_
        rcases turn_lo hP hot with ⟨d', l1, l2, l3⟩ | ⟨l1, l2⟩
        · simp [l1]
          refine kn_seq ?_
          simp [l2, l3, ne2]
          exact kn_skip ((hJ _ _ _).mpr ⟨hend, _, _, _, _, rfl⟩)
        · have hne : ot ≠ loT a n L := fun e => l2 a L (by rw [e]; exact hL.parse (by omega))
          have ne3 := eq_no hot htl hne S6
          unfold PE' at l1
          simp [l1]
          refine kn_seq ?_
          simp [hnl, ne3, iteO]
          exact kn_skip ((hJ _ _ _).mpr ⟨hend, _, _, _, _, rfl⟩)
    · obtain ⟨hS4, z8, z9, z10, z11, rfl⟩ := (hJ _ _ _).mp h
      refine kn_seq ?_
      simp [href]
      exact kn_skip ((hI _ _ _).mpr ⟨hS4.mono (by omega), _, _, _, _, _, _, _, _, _, rfl⟩)
  · obtain ⟨hS, z3, z4, z5, z6, z7, z8, z9, z10, z11, rfl⟩ := (hI _ _ _).mp h
    refine kn_seq ?_
    simp
    simpa using hT _
end PV
end
open PySem PySem.W PySem.Calls PyProof.Rows
set_option maxHeartbeats 0 in
theorem PySem.Challenge.cw_lossrules_k26_whole_there_and_back_holds : PySem.Challenge.rw_lossrules_k26_whole_there_and_back.Holds := by
  w_on; o_law
  refine HandSHeadRun.head_any (r := OpenLaw.row PySem.Challenge.rw_lossrules_k26_whole_there_and_back) (q := view (OpenLaw.row PySem.Challenge.rw_lossrules_k26_whole_there_and_back).prog [42]) (H := PV.hhk) (ob := PV.hob) (M := 40000) (loose := PV.hoth) (d := HandSHeadRun.topDef (OpenLaw.row PySem.Challenge.rw_lossrules_k26_whole_there_and_back).prog 42) (kwd := []) PV.hob_eq
    (by kernel_rfl) (fun s => by kernel_rfl) PV.hrun (by kernel_rfl) (by kernel_rfl) (by kernel_rfl) (by rfl) (by first | assumption | decide +kernel) (by decide +kernel) ⟨rfl, rfl, rfl, rfl, rfl, by decide +kernel⟩ ?hw ?hc
  case hw => w_witness2
  case hc =>
    refine PV.walk_W (l := PySem.Challenge.rw_lossrules_k26_whole_there_and_back) (n := 63) (k := 11) (x := "script") rfl (by decide) (by kernel_rfl) ⟨rfl, by decide, by decide⟩ ?F
    intro w mg fa h Y G hmg0
    obtain ⟨K, KX, c⟩ := Y
    have hmg : mg ("law" : PySem.Str) = some (.ref fa) := by
      have e : (HandSHeadRun.topDef (OpenLaw.row PySem.Challenge.rw_lossrules_k26_whole_there_and_back).prog 42).name = ("law" : PySem.Str) := by kernel_rfl
      rw [← e]
      exact hmg0
    obtain ⟨fd, hb, hF⟩ := PV.facts (P := (PySem.Challenge.rw_lossrules_k26_whole_there_and_back).prog) (w := w) KX G hmg c
    exact ⟨K, fd, PV.spOf K (PV.cv K) PV.G_law_k26, KX, hb, fun H a ns hl hO hS => PV.law_sp PV.law_true_k26 H a ns hl hO hS, hF⟩
